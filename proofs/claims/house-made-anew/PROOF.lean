import PyProof.Rows.All
import Wide.All
import OpenK.AllK
import Wide.FinOn
import HandS.ForMost
import HandS.Defaults
import KE.GoesZip
import KE.GoesMore
import KE.GoesEnumKw
import KE.KDictZip
import HandS.Zip
import HandS.SortKw
import KE.KExcInit
import PyProof.ExcBaseAll.LookupError
import PyProof.ExcBaseAll.RuntimeError
import HandS.Exc
import HandS.ExcInit
import KE.KTryMore
import HandS.ExcIs
import HandS.IsInst
import KE.KUnpackStar
import HandS.SetFor
import HandS.Sort
import KE.SortData
import KE.DataMinMax
import HandS.Finally
import HandS.ExcOwn
import HandS.TupAny
import PyProof.P3Eq
import HandS.Walk
import HandS.MakeKwOnly
import HandS.TryOnly
import HandS.Style
import HandS.WordsExc
import HandS.Strs
import HandS.Wide
import PySem.Challenge.RW_restedhorses_k72_whole_a_house_made_anew
set_option Elab.async false
section RhText_
set_option Elab.async false
set_option linter.all false
set_option maxRecDepth 100000
set_option maxHeartbeats 2000000
/-! The text by places: each def of the program, its names by slot. Printed by gen_text.py. -/
namespace Rh
open PySem PySem.Spec PyProof.Rows L2
def top (i : Nat) : Stmt := PySem.Challenge.pw_restedhorses_k72_whole_a_house_made_anew.main.body.getD i (.Pass ⟨0, 0, 0, 0⟩)
/-- a def as it stands behind the top -/
abbrev FnP (K : PySem.W.Frag) (x q : Str) (st : Stmt) (f : Addr) (fd : FuncData) : Prop := FunD K x q (defArgs st) (defBody st) (defScope st) [] [] f fd
abbrev s_wall : Stmt := top 0
theorem s_wall_sc : FnScope ["k"] ["k"] (defScope s_wall) := ⟨rfl, rfl, rfl, by decide +kernel, rfl, by decide +kernel, by decide +kernel⟩
abbrev s_NoRider_init : Stmt := inClass (top 2) 0
theorem s_NoRider_init_sc : FnScope ["self", "rider"] ["self", "rider"] (defScope s_NoRider_init) := ⟨rfl, rfl, rfl, by decide +kernel, rfl, by decide +kernel, by decide +kernel⟩
abbrev s_NoStation_init : Stmt := inClass (top 3) 0
theorem s_NoStation_init_sc : FnScope ["self", "station"] ["self", "station"] (defScope s_NoStation_init) := ⟨rfl, rfl, rfl, by decide +kernel, rfl, by decide +kernel, by decide +kernel⟩
abbrev s_NoDeed_init : Stmt := inClass (top 4) 0
theorem s_NoDeed_init_sc : FnScope ["self", "many"] ["self", "many"] (defScope s_NoDeed_init) := ⟨rfl, rfl, rfl, by decide +kernel, rfl, by decide +kernel, by decide +kernel⟩
abbrev s_BadDeed_init : Stmt := inClass (top 5) 0
theorem s_BadDeed_init_sc : FnScope ["self", "at"] ["self", "at"] (defScope s_BadDeed_init) := ⟨rfl, rfl, rfl, by decide +kernel, rfl, by decide +kernel, by decide +kernel⟩
abbrev s_Early_init : Stmt := inClass (top 6) 0
theorem s_Early_init_sc : FnScope ["self", "beat"] ["self", "beat"] (defScope s_Early_init) := ⟨rfl, rfl, rfl, by decide +kernel, rfl, by decide +kernel, by decide +kernel⟩
abbrev s_Late_init : Stmt := inClass (top 7) 0
theorem s_Late_init_sc : FnScope ["self", "beat"] ["self", "beat"] (defScope s_Late_init) := ⟨rfl, rfl, rfl, by decide +kernel, rfl, by decide +kernel, by decide +kernel⟩
abbrev s_bounds_of : Stmt := top 9
theorem s_bounds_of_sc : FnScope ["leg", "full", "least", "most"] ["leg"] (defScope s_bounds_of) := ⟨rfl, rfl, rfl, by decide +kernel, rfl, by decide +kernel, by decide +kernel⟩
abbrev s_held : Stmt := top 10
theorem s_held_sc : FnScope ["leg", "stand", "low", "high"] ["leg", "stand"] (defScope s_held) := ⟨rfl, rfl, rfl, by decide +kernel, rfl, by decide +kernel, by decide +kernel⟩
abbrev s_ride_of : Stmt := top 11
theorem s_ride_of_sc : FnScope ["leg", "stand"] ["leg", "stand"] (defScope s_ride_of) := ⟨rfl, rfl, rfl, by decide +kernel, rfl, by decide +kernel, by decide +kernel⟩
abbrev s_horses_at : Stmt := top 13
theorem s_horses_at_sc : FnScope ["first", "comes"] ["first", "comes"] (defScope s_horses_at) := ⟨rfl, rfl, rfl, by decide +kernel, rfl, by decide +kernel, by decide +kernel⟩
abbrev s_comes_next : Stmt := top 14
theorem s_comes_next_sc : FnScope ["leg", "first", "comes", "horses"] ["leg", "first", "comes"] (defScope s_comes_next) := ⟨rfl, rfl, rfl, by decide +kernel, rfl, by decide +kernel, by decide +kernel⟩
abbrev s_books_to : Stmt := top 15
theorem s_books_to_sc : FnScope ["road", "sets", "station", "legs", "firsts", "books", "leg", "first"] ["road", "sets", "station"] (defScope s_books_to) := ⟨rfl, rfl, rfl, by decide +kernel, rfl, by decide +kernel, by decide +kernel⟩
abbrev s_comings : Stmt := top 16
theorem s_comings_sc : FnScope ["road", "sets", "books"] ["road", "sets"] (defScope s_comings) := ⟨rfl, rfl, rfl, by decide +kernel, rfl, by decide +kernel, by decide +kernel⟩
abbrev s_events : Stmt := top 17
theorem s_events_sc : FnScope ["road", "sets", "beat", "found", "station", "book"] ["road", "sets", "beat"] (defScope s_events) := ⟨rfl, rfl, rfl, by decide +kernel, rfl, by decide +kernel, by decide +kernel⟩
abbrev s_is_deed : Stmt := top 20
theorem s_is_deed_sc : FnScope ["thing"] ["thing"] (defScope s_is_deed) := ⟨rfl, rfl, rfl, by decide +kernel, rfl, by decide +kernel, by decide +kernel⟩
abbrev s_with_one : Stmt := top 21
theorem s_with_one_sc : FnScope ["some", "at", "one"] ["some", "at", "one"] (defScope s_with_one) := ⟨rfl, rfl, rfl, by decide +kernel, rfl, by decide +kernel, by decide +kernel⟩
abbrev s_changed : Stmt := top 22
theorem s_changed_sc : FnScope ["ahead", "behind", "mine", "its", "told", "who"] ["ahead", "behind"] (defScope s_changed) := ⟨rfl, rfl, rfl, by decide +kernel, rfl, by decide +kernel, by decide +kernel⟩
abbrev s_House_init : Stmt := inClass (top 23) 0
theorem s_House_init_sc : FnScope ["self", "road"] ["self", "road"] (defScope s_House_init) := ⟨rfl, rfl, rfl, by decide +kernel, rfl, by decide +kernel, by decide +kernel⟩
abbrev s_House_road : Stmt := inClass (top 23) 1
theorem s_House_road_sc : FnScope ["self"] ["self"] (defScope s_House_road) := ⟨rfl, rfl, rfl, by decide +kernel, rfl, by decide +kernel, by decide +kernel⟩
abbrev s_House_sets : Stmt := inClass (top 23) 2
theorem s_House_sets_sc : FnScope ["self"] ["self"] (defScope s_House_sets) := ⟨rfl, rfl, rfl, by decide +kernel, rfl, by decide +kernel, by decide +kernel⟩
abbrev s_House_look_rider : Stmt := inClass (top 23) 3
theorem s_House_look_rider_sc : FnScope ["self", "rider"] ["self", "rider"] (defScope s_House_look_rider) := ⟨rfl, rfl, rfl, by decide +kernel, rfl, by decide +kernel, by decide +kernel⟩
abbrev s_House_look_station : Stmt := inClass (top 23) 4
theorem s_House_look_station_sc : FnScope ["self", "station", "most"] ["self", "station", "most"] (defScope s_House_look_station) := ⟨rfl, rfl, rfl, by decide +kernel, rfl, by decide +kernel, by decide +kernel⟩
abbrev s_House_look_early : Stmt := inClass (top 23) 5
theorem s_House_look_early_sc : FnScope ["self", "beat", "ahead"] ["self", "beat", "ahead"] (defScope s_House_look_early) := ⟨rfl, rfl, rfl, by decide +kernel, rfl, by decide +kernel, by decide +kernel⟩
abbrev s_House_done : Stmt := inClass (top 23) 6
theorem s_House_done_sc : FnScope ["self", "road", "sets", "persons", "page", "told"] ["self", "road", "sets", "persons"] (defScope s_House_done) := ⟨rfl, rfl, rfl, by decide +kernel, rfl, by decide +kernel, by decide +kernel⟩
abbrev s_House_send : Stmt := inClass (top 23) 7
theorem s_House_send_sc : FnScope ["self", "beat", "road", "sets", "persons"] ["self", "beat"] (defScope s_House_send) := ⟨rfl, rfl, rfl, by decide +kernel, rfl, by decide +kernel, by decide +kernel⟩
abbrev s_House_move : Stmt := inClass (top 23) 8
theorem s_House_move_sc : FnScope ["self", "rider", "to", "road", "sets", "persons"] ["self", "rider", "to"] (defScope s_House_move) := ⟨rfl, rfl, rfl, by decide +kernel, rfl, by decide +kernel, by decide +kernel⟩
abbrev s_House_strike : Stmt := inClass (top 23) 9
theorem s_House_strike_sc : FnScope ["self", "rider", "road", "sets", "persons"] ["self", "rider"] (defScope s_House_strike) := ⟨rfl, rfl, rfl, by decide +kernel, rfl, by decide +kernel, by decide +kernel⟩
abbrev s_House_first : Stmt := inClass (top 23) 10
theorem s_House_first_sc : FnScope ["self", "station", "beat", "legs", "firsts", "sets", "persons"] ["self", "station", "beat"] (defScope s_House_first) := ⟨rfl, rfl, rfl, by decide +kernel, rfl, by decide +kernel, by decide +kernel⟩
abbrev s_House_leg : Stmt := inClass (top 23) 11
theorem s_House_leg_sc : FnScope ["self", "station", "told", "legs", "firsts", "sets", "persons"] ["self", "station", "told"] (defScope s_House_leg) := ⟨rfl, rfl, rfl, by decide +kernel, rfl, by decide +kernel, by decide +kernel⟩
abbrev s_House_undo : Stmt := inClass (top 23) 12
theorem s_House_undo_sc : FnScope ["self"] ["self"] (defScope s_House_undo) := ⟨rfl, rfl, rfl, by decide +kernel, rfl, by decide +kernel, by decide +kernel⟩
abbrev s_House_coming : Stmt := inClass (top 23) 13
theorem s_House_coming_sc : FnScope ["self", "rider", "station"] ["self", "rider", "station"] (defScope s_House_coming) := ⟨rfl, rfl, rfl, by decide +kernel, rfl, by decide +kernel, by decide +kernel⟩
abbrev s_House_book : Stmt := inClass (top 23) 14
theorem s_House_book_sc : FnScope ["self", "station"] ["self", "station"] (defScope s_House_book) := ⟨rfl, rfl, rfl, by decide +kernel, rfl, by decide +kernel, by decide +kernel⟩
abbrev s_House_places : Stmt := inClass (top 23) 15
theorem s_House_places_sc : FnScope ["self", "beat"] ["self", "beat"] (defScope s_House_places) := ⟨rfl, rfl, rfl, by decide +kernel, rfl, by decide +kernel, by decide +kernel⟩
abbrev s_House_deeds : Stmt := inClass (top 23) 16
theorem s_House_deeds_sc : FnScope ["self"] ["self"] (defScope s_House_deeds) := ⟨rfl, rfl, rfl, by decide +kernel, rfl, by decide +kernel, by decide +kernel⟩
abbrev s_House_as_of : Stmt := inClass (top 23) 17
theorem s_House_as_of_sc : FnScope ["self", "many", "other"] ["self", "many"] (defScope s_House_as_of) := ⟨rfl, rfl, rfl, by decide +kernel, rfl, by decide +kernel, by decide +kernel⟩
abbrev s_House_twin : Stmt := inClass (top 23) 18
theorem s_House_twin_sc : FnScope ["self"] ["self"] (defScope s_House_twin) := ⟨rfl, rfl, rfl, by decide +kernel, rfl, by decide +kernel, by decide +kernel⟩
abbrev s_House_one_done : Stmt := inClass (top 23) 19
theorem s_House_one_done_sc : FnScope ["self", "deed", "word", "things"] ["self", "deed"] (defScope s_House_one_done) := ⟨rfl, rfl, rfl, by decide +kernel, rfl, by decide +kernel, by decide +kernel⟩
abbrev s_House_do : Stmt := inClass (top 23) 20
theorem s_House_do_sc : FnScope ["self", "deeds", "whole", "at", "deed", "told", "back"] ["self", "deeds", "whole"] (defScope s_House_do) := ⟨rfl, rfl, rfl, by decide +kernel, rfl, by decide +kernel, by decide +kernel⟩
abbrev s_House_eq : Stmt := inClass (top 23) 21
theorem s_House_eq_sc : FnScope ["self", "other"] ["self", "other"] (defScope s_House_eq) := ⟨rfl, rfl, rfl, by decide +kernel, rfl, by decide +kernel, by decide +kernel⟩
abbrev s_House_len : Stmt := inClass (top 23) 22
theorem s_House_len_sc : FnScope ["self"] ["self"] (defScope s_House_len) := ⟨rfl, rfl, rfl, by decide +kernel, rfl, by decide +kernel, by decide +kernel⟩
abbrev s_three_by : Stmt := top 32
theorem s_three_by_sc : FnScope ["road", "books", "rider", "station", "legs", "firsts", "full", "least", "most", "here", "horse"] ["road", "books", "rider", "station"] (defScope s_three_by) := ⟨rfl, rfl, rfl, by decide +kernel, rfl, by decide +kernel, by decide +kernel⟩
abbrev s_word_of : Stmt := top 33
theorem s_word_of_sc : FnScope ["beats", "beat"] ["beats", "beat"] (defScope s_word_of) := ⟨rfl, rfl, rfl, by decide +kernel, rfl, by decide +kernel, by decide +kernel⟩
abbrev s_behind_step : Stmt := top 34
theorem s_behind_step_sc : FnScope ["word", "rider", "station"] ["word", "rider", "station"] (defScope s_behind_step) := ⟨rfl, rfl, rfl, by decide +kernel, rfl, by decide +kernel, by decide +kernel⟩
abbrev s_end_step : Stmt := top 35
theorem s_end_step_sc : FnScope ["road", "sets", "rider", "station"] ["road", "sets", "rider", "station"] (defScope s_end_step) := ⟨rfl, rfl, rfl, by decide +kernel, rfl, by decide +kernel, by decide +kernel⟩
abbrev s_chain : Stmt := top 36
theorem s_chain_sc : FnScope ["road", "sets", "rider", "station", "books", "found", "beat", "word"] ["road", "sets", "rider", "station"] (defScope s_chain) := ⟨rfl, rfl, rfl, by decide +kernel, rfl, by decide +kernel, by decide +kernel⟩
abbrev s_is_step : Stmt := top 37
theorem s_is_step_sc : FnScope ["thing"] ["thing"] (defScope s_is_step) := ⟨rfl, rfl, rfl, by decide +kernel, rfl, by decide +kernel, by decide +kernel⟩
abbrev s_shows_chain : Stmt := top 38
theorem s_shows_chain_sc : FnScope ["road", "sets", "rider", "station", "thing", "step", "books", "at", "word", "beat"] ["road", "sets", "rider", "station", "thing"] (defScope s_shows_chain) := ⟨rfl, rfl, rfl, by decide +kernel, rfl, by decide +kernel, by decide +kernel⟩
abbrev s_root : Stmt := top 39
theorem s_root_sc : FnScope ["road", "sets", "rider", "station", "word", "who", "where", "beat"] ["road", "sets", "rider", "station"] (defScope s_root) := ⟨rfl, rfl, rfl, by decide +kernel, rfl, by decide +kernel, by decide +kernel⟩
abbrev s_law_tape : Stmt := top 41
theorem s_law_tape_sc : FnScope ["_law_script", "_law_k", "_law_cell"] ["_law_script", "_law_k"] (defScope s_law_tape) := ⟨rfl, rfl, rfl, by decide +kernel, rfl, by decide +kernel, by decide +kernel⟩
abbrev s_law_draw : Stmt := top 42
theorem s_law_draw_sc : FnScope ["_law_tape_here", "_law_many", "_law_found", "_law_once", "_law_twice", "_law_wide"] ["_law_tape_here", "_law_many"] (defScope s_law_draw) := ⟨rfl, rfl, rfl, by decide +kernel, rfl, by decide +kernel, by decide +kernel⟩
abbrev s_law_folded : Stmt := top 43
theorem s_law_folded_sc : FnScope ["_law_script", "_law_many", "_law_cells", "_law_k", "_law_cell"] ["_law_script", "_law_many"] (defScope s_law_folded) := ⟨rfl, rfl, rfl, by decide +kernel, rfl, by decide +kernel, by decide +kernel⟩
abbrev s_law_same : Stmt := top 44
theorem s_law_same_sc : FnScope ["_law_found", "_law_due"] ["_law_found", "_law_due"] (defScope s_law_same) := ⟨rfl, rfl, rfl, by decide +kernel, rfl, by decide +kernel, by decide +kernel⟩
abbrev s_law_leg : Stmt := top 45
theorem s_law_leg_sc : FnScope ["_law_tape_here", "_law_way", "_law_most", "_law_least", "_law_more"] ["_law_tape_here"] (defScope s_law_leg) := ⟨rfl, rfl, rfl, by decide +kernel, rfl, by decide +kernel, by decide +kernel⟩
abbrev s_law_road : Stmt := top 46
theorem s_law_road_sc : FnScope ["_law_tape_here", "_law_most", "_law_many", "_law_kinds", "_law_legs", "_law_base", "_law_wide"] ["_law_tape_here", "_law_most"] (defScope s_law_road) := ⟨rfl, rfl, rfl, by decide +kernel, rfl, by decide +kernel, by decide +kernel⟩
abbrev s_law_books : Stmt := top 47
theorem s_law_books_sc : FnScope ["_law_road_here", "_law_sets", "_law_books_here", "_law_leg_here", "_law_first", "_law_horse", "_law_found", "_law_beat"] ["_law_road_here", "_law_sets"] (defScope s_law_books) := ⟨rfl, rfl, rfl, by decide +kernel, rfl, by decide +kernel, by decide +kernel⟩
abbrev s_law_deed : Stmt := top 48
theorem s_law_deed_sc : FnScope ["_law_tape_here", "_law_page", "_law_legs", "_law_firsts", "_law_sets", "_law_persons", "_law_way", "_law_at", "_law_near", "_law_spot", "_law_more"] ["_law_tape_here", "_law_page"] (defScope s_law_deed) := ⟨rfl, rfl, rfl, by decide +kernel, rfl, by decide +kernel, by decide +kernel⟩
abbrev s_law_asked : Stmt := top 49
theorem s_law_asked_sc : FnScope ["_law_house", "_law_deed_here", "_law_caught", "_law_found", "_law_word", "error"] ["_law_house", "_law_deed_here"] (defScope s_law_asked) := ⟨rfl, rfl, rfl, by decide +kernel, rfl, by decide +kernel, by decide +kernel⟩
abbrev s_law_named : Stmt := top 50
theorem s_law_named_sc : FnScope ["_law_caught", "_law_kinds"] ["_law_caught"] (defScope s_law_named) := ⟨rfl, rfl, rfl, by decide +kernel, rfl, by decide +kernel, by decide +kernel⟩
abbrev s_law_all : Stmt := top 51
theorem s_law_all_sc : FnScope ["_law_house"] ["_law_house"] (defScope s_law_all) := ⟨rfl, rfl, rfl, by decide +kernel, rfl, by decide +kernel, by decide +kernel⟩
abbrev s_law_seen_right : Stmt := top 52
theorem s_law_seen_right_sc : FnScope ["_law_tape_here", "_law_house", "_law_road_here", "_law_sets", "_law_books_here", "_law_at", "_law_book", "_law_last", "_law_due", "_law_station", "_law_found", "_law_word", "_law_who"] ["_law_tape_here", "_law_house"] (defScope s_law_seen_right) := ⟨rfl, rfl, rfl, by decide +kernel, rfl, by decide +kernel, by decide +kernel⟩
abbrev s_law_struck_right : Stmt := top 53
theorem s_law_struck_right_sc : FnScope ["_law_tape_here", "_law_house", "_law_road_here", "_law_sets", "_law_at", "_law_twin", "_law_told", "_law_without", "_law_beat", "_law_k", "_law_a_to", "_law_told_so"] ["_law_tape_here", "_law_house"] (defScope s_law_struck_right) := ⟨rfl, rfl, rfl, by decide +kernel, rfl, by decide +kernel, by decide +kernel⟩
abbrev s_law_apart : Stmt := top 54
theorem s_law_apart_sc : FnScope ["_law_house", "_law_twin", "_law_at", "_law_many", "_law_station", "_law_mine"] ["_law_house", "_law_twin", "_law_at"] (defScope s_law_apart) := ⟨rfl, rfl, rfl, by decide +kernel, rfl, by decide +kernel, by decide +kernel⟩
abbrev s_law_right : Stmt := top 55
theorem s_law_right_sc : FnScope ["_law_tape_here", "_law_road_here", "_law_house", "_law_stood", "_law_lap", "_law_page", "_law_deed_here", "_law_way", "_law_told", "_law_anew"] ["_law_tape_here"] (defScope s_law_right) := ⟨rfl, rfl, rfl, by decide +kernel, rfl, by decide +kernel, by decide +kernel⟩
abbrev s_law_row : Stmt := top 56
theorem s_law_row_sc : FnScope ["_law_house", "_law_deeds", "_law_caught", "error"] ["_law_house", "_law_deeds"] (defScope s_law_row) := ⟨rfl, rfl, rfl, by decide +kernel, rfl, by decide +kernel, by decide +kernel⟩
abbrev s_law : Stmt := top 57
theorem s_law_sc : FnScope ["_law_script", "_law_cells", "_law_k"] ["_law_script"] (defScope s_law) := ⟨rfl, rfl, rfl, by decide +kernel, rfl, by decide +kernel, by decide +kernel⟩
end Rh
end RhText_
section RhZip_
set_option Elab.async false
set_option linter.all false
set_option maxRecDepth 100000
set_option maxHeartbeats 2000000
/-! zip(x, y, strict=True) over two sources of one length: its record, a turn, its end. -/
namespace RhZ
open PySem
open Sem (wp)
/-- a strict zip at z -/
abbrev Szip (h : Heap) (z TI TO : Addr) (f0 f1 : Value) : Prop :=
  h.get? z = some { cls := .type "zip", dict := none, data := .fields #[f0, f1, .bool true, .ref TI, .ref TO], slots := #[] }
section
variable {prog : Program} {w : World} {A : Around} {E : Value → Shared → Prop} {s : Shared} {z TI TO i1 i2 : Addr} {fp1 fp2 : List Addr} {n1 n2 i n : Nat} {P1 P2 : Nat → Value → Prop} {St1 St2 : Nat → Heap → Prop} {a1 a2 : Value}

theorem draw_some {it : Addr} {fp : List Addr} {P : Nat → Value → Prop} {St : Nat → Heap → Prop} (D : Draws prog w A it fp n P St) (hi : i < n) (st : St i s.heap) {Q : Option Value → Shared → Prop}
    (h : ∀ x h' tk, P i x → St (i + 1) h' → Heap.SameBut it s.heap h' → Q (some x) { s with heap := h', toks := tk }) : wpAny (model prog w) A (Builtin.SmallTypes.nextOrEnd (.ref it)) Q E s := by
  unfold Builtin.SmallTypes.nextOrEnd
  exact wpAny_bind (wpAny_attempt (D.item i s _ _ hi st fun x h' tk p st' sb => wpAny_pure (h x h' tk p st' sb)))
theorem draw_none {it : Addr} {fp : List Addr} {P : Nat → Value → Prop} {St : Nat → Heap → Prop} (D : Draws prog w A it fp n P St) (st : St n s.heap) {Q : Option Value → Shared → Prop}
    (h : ∀ h', Heap.ExtBut it s.heap h' → Q none { s with heap := h' }) : wpAny (model prog w) A (Builtin.SmallTypes.nextOrEnd (.ref it)) Q E s := by
  unfold Builtin.SmallTypes.nextOrEnd
  refine wpAny_bind (wpAny_attempt (D.done s _ _ st fun h' e hb he => ?_))
  obtain ⟨o, ho, hc⟩ := he
  refine wpAny_bind (wpAny_isInstance (T := "StopIteration") (b := true) ⟨o, ho, hc⟩ isSubtype_stop ?_)
  exact wpAny_pure (h h' hb)
/-- the raise at the end -/
theorem stop_iter {α : Type} {Q : α → Shared → Prop} (hh : A.handled = none)
    (hE : ∀ h' e, (∀ b o, s.heap.get? b = some o → h'.get? b = some o) → (∃ o, h'.get? e = some o ∧ o.cls = .type "StopIteration") → E (.ref e) { s with heap := h' }) :
    wpAny (model prog w) A (Builtin.SmallTypes.stopIteration : Sem α) Q E s := by
  unfold Builtin.SmallTypes.stopIteration
  refine wpAny_bind ?_
  simp only [newExc, newTuple]
  refine wpAny_bind (wpAny_newObj_type ?_ (by size_fits))
  refine wpAny_bind (m := firstArgMember _ _) (wpAny_of_eq (a := Value.none) (by first | rfl | (simp only [firstArgMember]; rfl)) ?_)
  refine wpAny_newObj_type ?_ (by size_fits)
  simp only [raiseNew]
  refine wpAny_bind (wpAny_handled ?_)
  first | rw [show A.in1.handled = none from hh] | rw [hh]
  refine wpAny_bind (wpAny_pure (wpAny_throw ?_))
  exact hE _ _ (fun b o e => Heap.get?_push_of_some _ (Heap.get?_push_of_some _ e)) ⟨_, Heap.get?_push_size _ rfl, rfl⟩

/-- a turn, its tuple free -/
theorem szip_item {Q : Value → Shared → Prop} (S : ZipSep2 z TI TO i1 i2 fp1 fp2) (D1 : Draws prog w A i1 fp1 n1 P1 St1) (D2 : Draws prog w A i2 fp2 n2 P2 St2)
    (hz : Szip s.heap z TI TO .none (.bool false)) (hTI : IsTupOf2 s.heap TI (.ref i1) (.ref i2)) (hTO : IsTupOf2 s.heap TO a1 a2) (st1 : St1 i s.heap) (st2 : St2 i s.heap) (hlt1 : i < n1) (hlt2 : i < n2)
    (hQ : ∀ x1 x2 h' tk, P1 i x1 → P2 i x2 → Szip h' z TI TO (rawInt s.heap.objs.size) (.bool false) → IsTupOf2 h' TO x1 x2 → St1 (i + 1) h' → St2 (i + 1) h' → IsTupOf2 h' s.heap.objs.size x1 x2 → h'.objs.size = s.heap.objs.size + 1 →
      (∀ c o, c ≠ z → c ≠ TO → c ≠ i1 → c ≠ i2 → s.heap.get? c = some o → h'.get? c = some o) → Q (.ref s.heap.objs.size) { s with heap := h', toks := tk }) :
    wpAny (model prog w) A (Builtin.«zip.__next__» ⟨[.ref z], []⟩) (fun fin s' => ∃ v, fin = .done (.ret v) ∧ Q v s') E s := by
  obtain ⟨hp, g, d, tk0, os⟩ := s
  show wpAny _ _ (field (.ref z) 2 >>= _) _ _ _
  refine wpAny_bind (wpAny_field hz rfl (x := .bool true) rfl ?_)
  show wpAny _ _ (field (.ref z) 3 >>= _) _ _ _
  refine wpAny_bind (wpAny_field hz rfl (x := .ref TI) rfl ?_)
  refine wpAny_bind (wpAny_seqItems hTI rfl ?_)
  show wpAny _ _ (Builtin.SmallTypes.ownedTupleIsFree (.ref z) >>= _) _ _ _
  refine wpAny_bind ?_
  unfold Builtin.SmallTypes.ownedTupleIsFree
  refine wpAny_bind (wpAny_field hz rfl (x := .none) rfl (wpAny_pure ?_))
  simp only [if_true]
  refine wpAny_bind (wpAny_rule ?_)
  refine wpAny_bind (wpAny_field hz rfl (x := .ref TO) rfl ?_)
  refine wpAny_bind (wpAny_setField_rec hz (by simp) fun g0 hz0 hs0 => ?_)
  replace hz0 : Szip g0 z TI TO .ellipsis (.bool false) := hz0
  replace hs0 : Heap.SameBut z hp g0 := hs0
  refine wpAny_bind ?_
  simp only [List.zipIdx_cons, List.zipIdx_nil, List.forIn_cons, List.forIn_nil]
  refine wpAny_bind (wpAny_bind (wpAny_onRaise ?_))
  show wpAny _ _ (Builtin.SmallTypes.nextOrEnd (.ref i1)) _ _ ⟨g0, g, d, tk0, os⟩
  refine draw_some D1 hlt1 (D1.over st1 hs0 S.zf1) fun x1 p1 tk1 hx1 sn1 hp1 => ?_
  replace hp1 : Heap.SameBut i1 g0 p1 := hp1
  have hU1 : IsTupOf2 p1 TO a1 a2 := hp1.extBut _ _ S.Ti1 (hs0.extBut _ _ S.TOz hTO)
  refine wpAny_bind (wpAny_seqItems (s := ⟨p1, g, d, tk1, os⟩) hU1 rfl ?_)
  refine wpAny_bind (updateSeq_IsTupOf2 (s := ⟨p1, g, d, tk1, os⟩) hU1 fun g1 hT1 hs1 => ?_)
  replace hT1 : IsTupOf2 g1 TO x1 a2 := hT1
  replace hs1 : Heap.SameBut TO p1 g1 := hs1
  refine wpAny_bind (wpAny_letGo (wpAny_pure ?_))
  refine wpAny_bind (wpAny_bind (wpAny_onRaise ?_))
  show wpAny _ _ (Builtin.SmallTypes.nextOrEnd (.ref i2)) _ _ ⟨g1, g, d, tk1, os⟩
  refine draw_some D2 hlt2 (D2.over (D2.over (D2.over st2 hs0 S.zf2) hp1 S.sep1_2) hs1 S.Tf2) fun x2 p2 tk2 hx2 sn2 hp2 => ?_
  replace hp2 : Heap.SameBut i2 g1 p2 := hp2
  have hU2 : IsTupOf2 p2 TO x1 a2 := hp2.extBut _ _ S.Ti2 hT1
  refine wpAny_bind (wpAny_seqItems (s := ⟨p2, g, d, tk2, os⟩) hU2 rfl ?_)
  refine wpAny_bind (updateSeq_IsTupOf2 (s := ⟨p2, g, d, tk2, os⟩) hU2 fun g2 hT2 hs2 => ?_)
  replace hT2 : IsTupOf2 g2 TO x1 x2 := hT2
  replace hs2 : Heap.SameBut TO p2 g2 := hs2
  refine wpAny_bind (wpAny_letGo (wpAny_pure (wpAny_pure ?_)))
  refine wpAny_bind (wpAny_seqItems (s := ⟨g2, g, d, tk2, os⟩) hT2 rfl ?_)
  refine wpAny_bind (wpAny_newTuple ?_)
  have hsz : g2.objs.size = hp.objs.size := by rw [hs2.1, hp2.1, hs1.1, hp1.1, hs0.1]
  have hzz : Szip g2 z TI TO .ellipsis (.bool false) := (hs2.extBut _ _ S.TOz.symm (hp2.extBut _ _ S.zi2 (hs1.extBut _ _ S.TOz.symm (hp1.extBut _ _ S.zi1 hz0))))
  have hkk : ∀ c o, c ≠ z → c ≠ TO → c ≠ i1 → c ≠ i2 → hp.get? c = some o → g2.get? c = some o := fun c o cz cT c1 c2 e =>
    (hs2.extBut _ _ cT (hp2.extBut _ _ c2 (hs1.extBut _ _ cT (hp1.extBut _ _ c1 (hs0.extBut _ _ cz e)))))
  have hj1 : St1 (i + 1) g2 := (D1.over (D1.over (D1.over sn1 hs1 S.Tf1) hp2 S.sep2_1) hs2 S.Tf1)
  have hj2 : St2 (i + 1) g2 := (D2.over sn2 hs2 S.Tf2)
  have hzlt : z < g2.objs.size := Heap.lt_size hzz
  show wpAny _ _ (Builtin.SmallTypes.ownedTupleHandOut (.ref z) (.ref g2.objs.size) >>= _) _ _ ⟨g2.push { cls := .type "tuple", data := .seq #[x1, x2] }, g, d, tk2, os⟩
  refine wpAny_bind ?_
  unfold Builtin.SmallTypes.ownedTupleHandOut
  have hz6 : Szip (g2.push { cls := .type "tuple", data := .seq #[x1, x2] }) z TI TO .ellipsis (.bool false) := Heap.get?_push_of_some _ hzz
  refine wpAny_bind (wpAny_setField_rec hz6 (by simp) fun h7 hz7 hs7 => ?_)
  replace hz7 : Szip h7 z TI TO (rawInt g2.objs.size) (.bool false) := hz7
  refine wpAny_setField_rec hz7 (by simp) fun h8 hz8 hs8 => ?_
  replace hz8 : Szip h8 z TI TO (rawInt g2.objs.size) (.bool false) := hz8
  replace hs7 : Heap.SameBut z (g2.push { cls := .type "tuple", data := .seq #[x1, x2] }) h7 := hs7
  replace hs8 : Heap.SameBut z h7 h8 := hs8
  have up : ∀ c o, c ≠ z → g2.get? c = some o → h8.get? c = some o := fun c o c1 e => hs8.extBut _ _ c1 (hs7.extBut _ _ c1 (Heap.get?_push_of_some _ e))
  have hT8 : IsTupOf2 h8 g2.objs.size x1 x2 := hs8.extBut _ _ (Nat.ne_of_gt hzlt) (hs7.extBut _ _ (Nat.ne_of_gt hzlt) (Heap.get?_push_size _ rfl))
  have hz9 : h8.objs.size = g2.objs.size + 1 := by rw [hs8.1, hs7.1, Heap.size_push]
  rw [hsz] at hz8 hT8 hz9
  refine wpAny_pure ⟨_, rfl, ?_⟩
  show Q (.ref g2.objs.size) ⟨h8, g, d, tk2, os⟩
  rw [hsz]
  exact hQ x1 x2 h8 tk2 hx1 hx2 hz8 (up _ _ S.TOz hT2) (D1.frame _ _ _ hj1 fun b hb o e => up b o (fun q => S.zf1 (q ▸ hb)) e) (D2.frame _ _ _ hj2 fun b hb o e => up b o (fun q => S.zf2 (q ▸ hb)) e) hT8 hz9 fun c o cz cT c1 c2 e => up c o cz (hkk c o cz cT c1 c2 e)

/-- the end: both are at theirs -/
theorem szip_end {Q : Fin → Shared → Prop} (hh : A.handled = none) (S : ZipSep2 z TI TO i1 i2 fp1 fp2) (D1 : Draws prog w A i1 fp1 n P1 St1) (D2 : Draws prog w A i2 fp2 n P2 St2)
    (hz : Szip s.heap z TI TO .none (.bool false)) (hTI : IsTupOf2 s.heap TI (.ref i1) (.ref i2)) (hTO : IsTupOf2 s.heap TO a1 a2) (st1 : St1 n s.heap) (st2 : St2 n s.heap)
    (hE : ∀ h' e, (∀ c o, c ≠ z → c ≠ TO → c ≠ i1 → c ≠ i2 → s.heap.get? c = some o → h'.get? c = some o) → (∃ o, h'.get? e = some o ∧ o.cls = .type "StopIteration") → E (.ref e) { s with heap := h' }) :
    wpAny (model prog w) A (Builtin.«zip.__next__» ⟨[.ref z], []⟩) Q E s := by
  obtain ⟨hp, g, d, tk0, os⟩ := s
  show wpAny _ _ (field (.ref z) 2 >>= _) _ _ _
  refine wpAny_bind (wpAny_field hz rfl (x := .bool true) rfl ?_)
  show wpAny _ _ (field (.ref z) 3 >>= _) _ _ _
  refine wpAny_bind (wpAny_field hz rfl (x := .ref TI) rfl ?_)
  refine wpAny_bind (wpAny_seqItems hTI rfl ?_)
  show wpAny _ _ (Builtin.SmallTypes.ownedTupleIsFree (.ref z) >>= _) _ _ _
  refine wpAny_bind ?_
  unfold Builtin.SmallTypes.ownedTupleIsFree
  refine wpAny_bind (wpAny_field hz rfl (x := .none) rfl (wpAny_pure ?_))
  simp only [if_true]
  refine wpAny_bind (wpAny_rule ?_)
  refine wpAny_bind (wpAny_field hz rfl (x := .ref TO) rfl ?_)
  refine wpAny_bind (wpAny_setField_rec hz (by simp) fun g0 hz0 hs0 => ?_)
  replace hz0 : Szip g0 z TI TO .ellipsis (.bool false) := hz0
  replace hs0 : Heap.SameBut z hp g0 := hs0
  refine wpAny_bind ?_
  simp only [List.zipIdx_cons, List.zipIdx_nil, List.forIn_cons, List.forIn_nil]
  refine wpAny_bind (wpAny_bind (wpAny_onRaise ?_))
  show wpAny _ _ (Builtin.SmallTypes.nextOrEnd (.ref i1)) _ _ ⟨g0, g, d, tk0, os⟩
  refine draw_none D1 (D1.over st1 hs0 S.zf1) fun q1 hq1 => ?_
  replace hq1 : Heap.ExtBut i1 g0 q1 := hq1
  have hzq : Szip q1 z TI TO .ellipsis (.bool false) := hq1 _ _ S.zi1 hz0
  refine wpAny_bind (wpAny_setField_rec (s := ⟨q1, g, d, tk0, os⟩) hzq (by simp) fun q2 hz2 hq2 => ?_)
  replace hq2 : Heap.SameBut z q1 q2 := hq2
  have st2' : St2 n q2 := D2.over (D2.frame _ _ _ (D2.over st2 hs0 S.zf2) fun b hb o e => hq1 b o (fun q => S.sep1_2 (q ▸ hb)) e) hq2 S.zf2
  have hzq2 : Szip q2 z TI TO .none (.bool false) := hz2
  refine wpAny_bind ?_
  refine wpAny_bind (m := forIn (m := Sem) ((([Value.ref i1, Value.ref i2] : List Value).drop 1).zipIdx 1) PUnit.unit _) ?_
  simp only [List.drop_succ_cons, List.drop_zero, List.zipIdx_cons, List.zipIdx_nil, List.forIn_cons, List.forIn_nil]
  refine wpAny_bind (wpAny_bind (draw_none D2 st2' fun q3 hq3 => ?_))
  replace hq3 : Heap.ExtBut i2 q2 q3 := hq3
  simp only [Option.isSome_none, Bool.false_eq_true, if_false]
  refine wpAny_pure (wpAny_pure (wpAny_bind (wpAny_rule (stop_iter hh fun h' e k he => ?_))))
  exact hE h' e (fun c o cz cT c1 c2 x => k c o (hq3 c o c2 (hq2.extBut _ _ cz (hq1 c o c1 (hs0.extBut _ _ cz x))))) he

/-- the tuple that was given out before is still there -/
theorem szip_held {T : Addr} {f : Bool} {oT : Obj} {Q : Bool → Shared → Prop} (hz : Szip s.heap z TI TO (rawInt T) (.bool f)) (hT : s.heap.get? T = some oT)
    (h : ∀ h', Szip h' z TI TO (rawInt T) (.bool true) → Heap.SameBut z s.heap h' → Q false { s with heap := h' }) : wpAny (model prog w) A (Builtin.SmallTypes.ownedTupleIsFree (.ref z)) Q E s := by
  unfold Builtin.SmallTypes.ownedTupleIsFree
  refine wpAny_bind (wpAny_field hz rfl (x := rawInt T) rfl ?_)
  show wpAny _ _ (loadIfAlive ((T : Int).toNat) >>= _) _ _ _
  rw [Int.toNat_natCast]
  refine wpAny_bind (PySem.W.kdx_alive hT ?_)
  simp only [Option.isNone_some, Bool.false_eq_true, if_false]
  refine wpAny_bind (wpAny_field hz rfl (x := .bool f) rfl ?_)
  cases f with
  | true =>
    rw [if_neg (show ¬ ((Value.bool true != Value.bool true) = true) from Bool.false_ne_true)]
    exact wpAny_pure (h s.heap hz (Heap.SameBut.refl _ _))
  | false =>
    rw [if_pos (show (Value.bool false != Value.bool true) = true from rfl)]
    exact wpAny_bind (wpAny_setField_rec hz (by simp) fun h1 hz1 hs1 => wpAny_pure (h h1 hz1 hs1))
/-- a turn while it is -/
theorem szip_item_held {T : Addr} {f : Bool} {oT : Obj} {Q : Value → Shared → Prop} (S : ZipSep2 z TI TO i1 i2 fp1 fp2) (D1 : Draws prog w A i1 fp1 n1 P1 St1) (D2 : Draws prog w A i2 fp2 n2 P2 St2)
    (hz : Szip s.heap z TI TO (rawInt T) (.bool f)) (hT : s.heap.get? T = some oT) (hTI : IsTupOf2 s.heap TI (.ref i1) (.ref i2)) (st1 : St1 i s.heap) (st2 : St2 i s.heap) (hlt1 : i < n1) (hlt2 : i < n2)
    (hQ : ∀ x1 x2 h' tk, P1 i x1 → P2 i x2 → Szip h' z TI TO (rawInt T) (.bool true) → St1 (i + 1) h' → St2 (i + 1) h' → IsTupOf2 h' s.heap.objs.size x1 x2 → h'.objs.size = s.heap.objs.size + 1 →
      (∀ c o, c ≠ z → c ≠ i1 → c ≠ i2 → s.heap.get? c = some o → h'.get? c = some o) → Q (.ref s.heap.objs.size) { s with heap := h', toks := tk }) :
    wpAny (model prog w) A (Builtin.«zip.__next__» ⟨[.ref z], []⟩) (fun fin s' => ∃ v, fin = .done (.ret v) ∧ Q v s') E s := by
  obtain ⟨hp, g, d, tk0, os⟩ := s
  show wpAny _ _ (field (.ref z) 2 >>= _) _ _ _
  refine wpAny_bind (wpAny_field hz rfl (x := .bool true) rfl ?_)
  show wpAny _ _ (field (.ref z) 3 >>= _) _ _ _
  refine wpAny_bind (wpAny_field hz rfl (x := .ref TI) rfl ?_)
  refine wpAny_bind (wpAny_seqItems hTI rfl ?_)
  show wpAny _ _ (Builtin.SmallTypes.ownedTupleIsFree (.ref z) >>= _) _ _ _
  refine wpAny_bind (szip_held hz hT fun g0 hz0 hs0 => ?_)
  replace hs0 : Heap.SameBut z hp g0 := hs0
  simp only [Bool.false_eq_true, if_false]
  refine wpAny_bind ?_
  rw [← Array.forIn_toList]
  simp only [List.forIn_cons, List.forIn_nil]
  refine wpAny_bind (wpAny_bind (wpAny_holding ?_))
  show wpAny _ _ (Builtin.SmallTypes.nextOrEnd (.ref i1)) _ _ ⟨g0, g, d, tk0, os⟩
  refine draw_some D1 hlt1 (D1.over st1 hs0 S.zf1) fun x1 p1 tk1 hx1 sn1 hp1 => ?_
  replace hp1 : Heap.SameBut i1 g0 p1 := hp1
  refine wpAny_pure ?_
  refine wpAny_bind (wpAny_bind (wpAny_holding ?_))
  show wpAny _ _ (Builtin.SmallTypes.nextOrEnd (.ref i2)) _ _ ⟨p1, g, d, tk1, os⟩
  refine draw_some D2 hlt2 (D2.over (D2.over st2 hs0 S.zf2) hp1 S.sep1_2) fun x2 p2 tk2 hx2 sn2 hp2 => ?_
  replace hp2 : Heap.SameBut i2 p1 p2 := hp2
  refine wpAny_pure (wpAny_pure ?_)
  show wpAny _ _ (newTuple [x1, x2] >>= _) _ _ _
  refine wpAny_bind (wpAny_newTuple ?_)
  have hsz : p2.objs.size = hp.objs.size := by rw [hp2.1, hp1.1, hs0.1]
  have hz3 : Szip p2 z TI TO (rawInt T) (.bool true) := hp2.extBut _ _ S.zi2 (hp1.extBut _ _ S.zi1 hz0)
  have hk : ∀ c o, c ≠ z → c ≠ i1 → c ≠ i2 → hp.get? c = some o → p2.get? c = some o := fun c o c1 c2 c3 e => hp2.extBut _ _ c3 (hp1.extBut _ _ c2 (hs0.extBut _ _ c1 e))
  have hj1 : St1 (i + 1) p2 := D1.over sn1 hp2 S.sep2_1
  refine wpAny_pure ⟨_, rfl, ?_⟩
  show Q (.ref p2.objs.size) _
  have hpr : IsTupOf2 (p2.push { cls := .type "tuple", data := .seq #[x1, x2] }) p2.objs.size x1 x2 := Heap.get?_push_size _ rfl
  have hz4 : (p2.push { cls := .type "tuple", data := .seq #[x1, x2] }).objs.size = p2.objs.size + 1 := Heap.size_push ..
  have f1 : St1 (i + 1) (p2.push { cls := .type "tuple", data := .seq #[x1, x2] }) := D1.frame _ _ _ hj1 fun b _ o e => Heap.get?_push_of_some _ e
  have f2 : St2 (i + 1) (p2.push { cls := .type "tuple", data := .seq #[x1, x2] }) := D2.frame _ _ _ sn2 fun b _ o e => Heap.get?_push_of_some _ e
  rw [hsz] at hpr hz4 ⊢
  exact hQ x1 x2 _ tk2 hx1 hx2 (Heap.get?_push_of_some _ hz3) f1 f2 hpr hz4 fun c o c1 c2 c3 e => Heap.get?_push_of_some _ (hk c o c1 c2 c3 e)
theorem szip_end_held {T : Addr} {f : Bool} {oT : Obj} {Q : Fin → Shared → Prop} (hh : A.handled = none) (S : ZipSep2 z TI TO i1 i2 fp1 fp2) (D1 : Draws prog w A i1 fp1 n P1 St1) (D2 : Draws prog w A i2 fp2 n P2 St2)
    (hz : Szip s.heap z TI TO (rawInt T) (.bool f)) (hT : s.heap.get? T = some oT) (hTI : IsTupOf2 s.heap TI (.ref i1) (.ref i2)) (st1 : St1 n s.heap) (st2 : St2 n s.heap)
    (hE : ∀ h' e, (∀ c o, c ≠ z → c ≠ i1 → c ≠ i2 → s.heap.get? c = some o → h'.get? c = some o) → (∃ o, h'.get? e = some o ∧ o.cls = .type "StopIteration") → E (.ref e) { s with heap := h' }) :
    wpAny (model prog w) A (Builtin.«zip.__next__» ⟨[.ref z], []⟩) Q E s := by
  obtain ⟨hp, g, d, tk0, os⟩ := s
  show wpAny _ _ (field (.ref z) 2 >>= _) _ _ _
  refine wpAny_bind (wpAny_field hz rfl (x := .bool true) rfl ?_)
  show wpAny _ _ (field (.ref z) 3 >>= _) _ _ _
  refine wpAny_bind (wpAny_field hz rfl (x := .ref TI) rfl ?_)
  refine wpAny_bind (wpAny_seqItems hTI rfl ?_)
  show wpAny _ _ (Builtin.SmallTypes.ownedTupleIsFree (.ref z) >>= _) _ _ _
  refine wpAny_bind (szip_held hz hT fun g0 hz0 hs0 => ?_)
  replace hs0 : Heap.SameBut z hp g0 := hs0
  simp only [Bool.false_eq_true, if_false]
  refine wpAny_bind ?_
  rw [← Array.forIn_toList]
  simp only [List.forIn_cons, List.forIn_nil]
  refine wpAny_bind (wpAny_bind (wpAny_holding ?_))
  show wpAny _ _ (Builtin.SmallTypes.nextOrEnd (.ref i1)) _ _ ⟨g0, g, d, tk0, os⟩
  refine draw_none D1 (D1.over st1 hs0 S.zf1) fun q1 hq1 => ?_
  replace hq1 : Heap.ExtBut i1 g0 q1 := hq1
  have st2' : St2 n q1 := D2.frame _ _ _ (D2.over st2 hs0 S.zf2) fun b hb o e => hq1 b o (fun q => S.sep1_2 (q ▸ hb)) e
  refine wpAny_bind ?_
  refine wpAny_bind (m := forIn (m := Sem) ((([Value.ref i1, Value.ref i2] : List Value).drop 1).zipIdx 1) PUnit.unit _) ?_
  simp only [List.drop_succ_cons, List.drop_zero, List.zipIdx_cons, List.zipIdx_nil, List.forIn_cons, List.forIn_nil]
  refine wpAny_bind (wpAny_bind (draw_none D2 st2' fun q3 hq3 => ?_))
  replace hq3 : Heap.ExtBut i2 q1 q3 := hq3
  simp only [Option.isSome_none, Bool.false_eq_true, if_false]
  refine wpAny_pure (wpAny_pure (wpAny_bind (wpAny_rule (stop_iter hh fun h' e k he => ?_))))
  exact hE h' e (fun c o cz c1 c2 x => k c o (hq3 c o c2 (hq1 c o c1 (hs0.extBut _ _ cz x)))) he

/-! ### next -/
theorem next_item {Q : Option Value → Shared → Prop} (S : ZipSep2 z TI TO i1 i2 fp1 fp2) (D1 : Draws prog w A.in1 i1 fp1 n1 P1 St1) (D2 : Draws prog w A.in1 i2 fp2 n2 P2 St2)
    (hz : Szip s.heap z TI TO .none (.bool false)) (hTI : IsTupOf2 s.heap TI (.ref i1) (.ref i2)) (hTO : IsTupOf2 s.heap TO a1 a2) (st1 : St1 i s.heap) (st2 : St2 i s.heap) (hlt1 : i < n1) (hlt2 : i < n2)
    (hQ : ∀ x1 x2 h' tk, P1 i x1 → P2 i x2 → Szip h' z TI TO (rawInt s.heap.objs.size) (.bool false) → IsTupOf2 h' TO x1 x2 → St1 (i + 1) h' → St2 (i + 1) h' → IsTupOf2 h' s.heap.objs.size x1 x2 → h'.objs.size = s.heap.objs.size + 1 →
      (∀ c o, c ≠ z → c ≠ TO → c ≠ i1 → c ≠ i2 → s.heap.get? c = some o → h'.get? c = some o) → Q (some (.ref s.heap.objs.size)) { s with heap := h', toks := tk }) :
    wpAny (model prog w) A (pyNext (.ref z)) Q E s := by
  have hT : s.TypeIs (.ref z) "zip" := ⟨_, hz, rfl⟩
  unfold pyNext
  exact wpAny_bind (wpAny_attempt (wpAny_callSpecial?_slot (name := Str.ofString "__next__") hT F.slot_zip_next
    (wpAny_call_entry F.slot_zip_next hT F.entry_zip_next
      (szip_item S D1 D2 hz hTI hTO st1 st2 hlt1 hlt2 fun x1 x2 h' tk y1 y2 b1 b2 d1 d2 b5 b6 b7 => wpAny_pure (hQ x1 x2 h' tk y1 y2 b1 b2 d1 d2 b5 b6 b7)) (F.args_zip_next_1 _))))
theorem next_end {Q : Option Value → Shared → Prop} (hh : A.handled = none) (S : ZipSep2 z TI TO i1 i2 fp1 fp2) (D1 : Draws prog w A.in1 i1 fp1 n P1 St1) (D2 : Draws prog w A.in1 i2 fp2 n P2 St2)
    (hz : Szip s.heap z TI TO .none (.bool false)) (hTI : IsTupOf2 s.heap TI (.ref i1) (.ref i2)) (hTO : IsTupOf2 s.heap TO a1 a2) (st1 : St1 n s.heap) (st2 : St2 n s.heap)
    (hQ : ∀ h', (∀ c o, c ≠ z → c ≠ TO → c ≠ i1 → c ≠ i2 → s.heap.get? c = some o → h'.get? c = some o) → Q none { s with heap := h' }) : wpAny (model prog w) A (pyNext (.ref z)) Q E s := by
  have hT : s.TypeIs (.ref z) "zip" := ⟨_, hz, rfl⟩
  unfold pyNext
  refine wpAny_bind (wpAny_attempt (wpAny_callSpecial?_slot (name := Str.ofString "__next__") hT F.slot_zip_next
    (wpAny_call_entry F.slot_zip_next hT F.entry_zip_next (szip_end (A := A.in1) hh S D1 D2 hz hTI hTO st1 st2 fun h' e hk he => ?_) (F.args_zip_next_1 _))))
  obtain ⟨o, ho, hc⟩ := he
  refine wpAny_bind (wpAny_isInstance (T := "StopIteration") (b := true) ⟨o, ho, hc⟩ isSubtype_stop ?_)
  exact wpAny_pure (hQ _ hk)
theorem next_item_held {T : Addr} {f : Bool} {oT : Obj} {Q : Option Value → Shared → Prop} (S : ZipSep2 z TI TO i1 i2 fp1 fp2) (D1 : Draws prog w A.in1 i1 fp1 n1 P1 St1) (D2 : Draws prog w A.in1 i2 fp2 n2 P2 St2)
    (hz : Szip s.heap z TI TO (rawInt T) (.bool f)) (hT : s.heap.get? T = some oT) (hTI : IsTupOf2 s.heap TI (.ref i1) (.ref i2)) (st1 : St1 i s.heap) (st2 : St2 i s.heap) (hlt1 : i < n1) (hlt2 : i < n2)
    (hQ : ∀ x1 x2 h' tk, P1 i x1 → P2 i x2 → Szip h' z TI TO (rawInt T) (.bool true) → St1 (i + 1) h' → St2 (i + 1) h' → IsTupOf2 h' s.heap.objs.size x1 x2 → h'.objs.size = s.heap.objs.size + 1 →
      (∀ c o, c ≠ z → c ≠ i1 → c ≠ i2 → s.heap.get? c = some o → h'.get? c = some o) → Q (some (.ref s.heap.objs.size)) { s with heap := h', toks := tk }) :
    wpAny (model prog w) A (pyNext (.ref z)) Q E s := by
  have hTy : s.TypeIs (.ref z) "zip" := ⟨_, hz, rfl⟩
  unfold pyNext
  exact wpAny_bind (wpAny_attempt (wpAny_callSpecial?_slot (name := Str.ofString "__next__") hTy F.slot_zip_next
    (wpAny_call_entry F.slot_zip_next hTy F.entry_zip_next
      (szip_item_held S D1 D2 hz hT hTI st1 st2 hlt1 hlt2 fun x1 x2 h' tk y1 y2 b1 d1 d2 b5 b6 b7 => wpAny_pure (hQ x1 x2 h' tk y1 y2 b1 d1 d2 b5 b6 b7)) (F.args_zip_next_1 _))))
theorem next_end_held {T : Addr} {f : Bool} {oT : Obj} {Q : Option Value → Shared → Prop} (hh : A.handled = none) (S : ZipSep2 z TI TO i1 i2 fp1 fp2) (D1 : Draws prog w A.in1 i1 fp1 n P1 St1) (D2 : Draws prog w A.in1 i2 fp2 n P2 St2)
    (hz : Szip s.heap z TI TO (rawInt T) (.bool f)) (hT : s.heap.get? T = some oT) (hTI : IsTupOf2 s.heap TI (.ref i1) (.ref i2)) (st1 : St1 n s.heap) (st2 : St2 n s.heap)
    (hQ : ∀ h', (∀ c o, c ≠ z → c ≠ i1 → c ≠ i2 → s.heap.get? c = some o → h'.get? c = some o) → Q none { s with heap := h' }) : wpAny (model prog w) A (pyNext (.ref z)) Q E s := by
  have hTy : s.TypeIs (.ref z) "zip" := ⟨_, hz, rfl⟩
  unfold pyNext
  refine wpAny_bind (wpAny_attempt (wpAny_callSpecial?_slot (name := Str.ofString "__next__") hTy F.slot_zip_next
    (wpAny_call_entry F.slot_zip_next hTy F.entry_zip_next (szip_end_held (A := A.in1) hh S D1 D2 hz hT hTI st1 st2 fun h' e hk he => ?_) (F.args_zip_next_1 _))))
  obtain ⟨o, ho, hc⟩ := he
  refine wpAny_bind (wpAny_isInstance (T := "StopIteration") (b := true) ⟨o, ho, hc⟩ isSubtype_stop ?_)
  exact wpAny_pure (hQ _ hk)
theorem let_go {elts : List Expr} {k1} {pos : Pos} {T : Addr} {Q : Unit → Shared → Prop} (hz : Szip s.heap z TI TO (rawInt T) (.bool false))
    (hQ : ∀ h', Szip h' z TI TO .none (.bool false) → Heap.SameBut z s.heap h' → Q () { s with heap := h' }) :
    wpAny (model prog w) A (letOwnedTupleGo (.Tuple elts k1 pos) (.ref z) (.ref T)) Q E s := by
  unfold letOwnedTupleGo
  refine wpAny_bind (wpAny_load hz ?_)
  show wpAny _ _ (if (["enumerate", "zip", "dict_itemiterator", "dict_reverseitemiterator", "odict_iterator", "itertools.zip_longest", "itertools.pairwise"].contains "zip" &&
      (#[rawInt T, .bool false, .bool true, .ref TI, .ref TO] : Array Value)[0]? == some (rawInt T)) = true then _ else _) Q E s
  rw [if_pos (by simp)]
  refine wpAny_bind (wpAny_rule ?_)
  show wpAny _ _ (setField (.ref z) 0 .none) Q E s
  exact wpAny_setField_rec hz (by simp) fun h' hz' hs' => hQ h' hz' hs'
theorem self_iter {f0 f1 : Value} {Q : Value → Shared → Prop} (hz : Szip s.heap z TI TO f0 f1) (h : Q (.ref z) s) : wpAny (model prog w) A (pyIter (.ref z)) Q E s := by
  have hT : s.TypeIs (.ref z) "zip" := ⟨_, hz, rfl⟩
  refine wpAny_pyIter_slot hT F.slot_zip_iter (wpAny_call_entry F.slot_zip_iter hT F.entry_zip_iter ?_ (F.args_zip_iter_1 _))
  show wpAny _ _ (ret (.ref z)) _ _ s
  exact wpAny_pure ⟨_, rfl, "zip", _, hT, F.slot_zip_next.lookup, h⟩
end

/-! ### it is made -/
theorem typeCall_zs (a b : Value) : checkTypeCall "zip" ⟨[a, b], [(Str.ofString "strict", .bool true)]⟩ = pure () := by kernel_rfl
theorem newCall_zs (a b : Value) : checkBuiltinCall "zip.__new__" ⟨[.type "zip", a, b], [(Str.ofString "strict", .bool true)]⟩ = pure () := by kernel_rfl
theorem args_init_zs (obj a b : Value) : argsOk "object.__init__" ⟨[obj, a, b], [(Str.ofString "strict", .bool true)]⟩ := by unfold argsOk; kernel_rfl
abbrev zsZ (h : Heap) (o1 o2 : Obj) : Heap := (gzO2 h o1 o2).push { cls := .type "zip", data := .fields #[.none, .bool false, .bool true, .ref ((h.push o1).push o2).objs.size, .ref (gzT2 h o1 o2).objs.size] }
set_option maxHeartbeats 4000000 in
theorem meets_zs {v1 v2 : Value} {o1 o2 : Obj} {H1 H2 : Heap → Prop} (B1 : Begins v1 o1 H1) (B2 : Begins v2 o2 H2) :
    Meets (Builtin.«zip.__new__» ⟨[.type "zip", v1, v2], [(Str.ofString "strict", .bool true)]⟩) (fun _ R s => (H1 s.heap ∧ H2 s.heap) ∧
      R (.ok (.ret (.ref (gzO2 s.heap o1 o2).objs.size))) { s with heap := zsZ s.heap o1 o2 }) :=
  .of_wp fun prog w A R s h => by
    obtain ⟨hp, g, d, tk, os⟩ := s; obtain ⟨⟨h1, h2⟩, h⟩ := h
    have hsub := sub_zip
    have e1 : (Str.ofString "strict" != ("strict" : Str)) = false := by decide +kernel
    have q1 : ∀ {A' : Around} {E : Value → Shared → Prop} {Q : Value → Shared → Prop}, Q (.ref hp.objs.size) ⟨(hp.push o1), g, d, tk, os⟩ → wpAny (model prog w) A' (pyIter v1) Q E ⟨hp, g, d, tk, os⟩ :=
      fun q => B1.iter prog w _ _ ⟨hp, g, d, tk, os⟩ _ (B1.keeps _ _ h1 fun b o' e => e) q
    have q2 : ∀ {A' : Around} {E : Value → Shared → Prop} {Q : Value → Shared → Prop}, Q (.ref (hp.push o1).objs.size) ⟨((hp.push o1).push o2), g, d, tk, os⟩ → wpAny (model prog w) A' (pyIter v2) Q E ⟨(hp.push o1), g, d, tk, os⟩ :=
      fun q => B2.iter prog w _ _ ⟨(hp.push o1), g, d, tk, os⟩ _ (B2.keeps _ _ h2 fun b o' e => (Heap.get?_push_of_some _ e)) q
    wp_walk using q1, q2
    exact ⟨_, rfl, h⟩
end RhZ
end RhZip_
section RhZip2_
set_option Elab.async false
set_option linter.all false
set_option maxRecDepth 100000
set_option maxHeartbeats 2000000
/-! zip(x, y, strict=True) in a for or a comprehension, x and y lists or tuples; dict(zip(x, y, strict=True)). -/
namespace RhZ
open PySem PySem.Spec PyProof.Rows L2
def SqB (b : Bool) (K : PySem.W.Frag) (H : Hp) (a : Addr) (xs : List V) : Prop := match b with
  | true => SqL K H a xs
  | false => SqT K H a xs
def SeB (b : Bool) (h : Heap) (a : Addr) (its : Array Value) : Prop := match b with
  | true => h.IsList a its
  | false => h.IsTuple a its
def ItB (b : Bool) (h : Heap) (it a : Addr) (i : Nat) : Prop := match b with
  | true => h.IsListIter it a i
  | false => h.IsTupleIter it a i
def itO (b : Bool) (a : Addr) : Obj := match b with
  | true => { cls := .type "list_iterator", data := .fields #[.ref a, .int 0 0] }
  | false => { cls := .type "tuple_iterator", data := .fields #[.ref a, .int 0 0] }
theorem SeB.at {b : Bool} {h h' : Heap} {a : Addr} {its : Array Value} (x : SeB b h a its) (k : ∀ o, h.get? a = some o → h'.get? a = some o) : SeB b h' a its := by
  cases b with
  | true => exact Heap.IsList.at x k
  | false => exact Heap.IsTuple.at x k
theorem ItB.at {b : Bool} {h h' : Heap} {it a : Addr} {i : Nat} (x : ItB b h it a i) (k : ∀ o, h.get? it = some o → h'.get? it = some o) : ItB b h' it a i := by
  cases b with
  | true => exact Heap.IsListIter.at x k
  | false => exact Heap.IsTupleIter.at x k
theorem ItB.rec_ {b : Bool} {h : Heap} {it a : Addr} {i : Nat} (x : ItB b h it a i) : ∃ o, h.get? it = some o ∧ ∀ v, o.data ≠ .cell v := by
  cases b with
  | true =>
    obtain ⟨o, e, _, d⟩ := x
    exact ⟨o, e, fun v q => by rw [d] at q; cases q⟩
  | false =>
    obtain ⟨o, e, _, d⟩ := x
    exact ⟨o, e, fun v q => by rw [d] at q; cases q⟩
theorem ItB.made {b : Bool} {h : Heap} {it a : Addr} (e : h.get? it = some (itO b a)) : ItB b h it a 0 := by
  cases b with
  | true => exact ⟨_, e, rfl, rfl⟩
  | false => exact ⟨_, e, rfl, rfl⟩
theorem SeB.there {b : Bool} {h : Heap} {a : Addr} {its : Array Value} (x : SeB b h a its) : a < h.objs.size := by
  cases b with
  | true =>
    obtain ⟨o, e, _⟩ := x
    exact Heap.lt_size e
  | false =>
    obtain ⟨o, e, _⟩ := x
    exact Heap.lt_size e
theorem drawsB (b : Bool) {prog : Program} {w : World} {A : Around} (hh : A.handled = none) (it a : Addr) (hne : a ≠ it) (its : Array Value) :
    Draws prog w A it [it, a] its.size (fun i v => its[i]? = some v) (fun i h => ItB b h it a i ∧ SeB b h a its) := by
  cases b with
  | true => exact Draws.list hh it a hne its
  | false => exact Draws.tuple hh it a hne its
theorem begB (b : Bool) (a : Addr) (its : Array Value) : Begins (.ref a) (itO b a) fun h => SeB b h a its := by
  cases b with
  | true => exact begins_list a its
  | false => exact begins_tuple a its
theorem seq_of {X : Cx} {pins : List (Addr × Obj)} {σ : L2.St} {H : Hp} {s : Shared} {b : Bool} {a : Addr} {xs : List V} (I : Inv X pins σ H s) (h : SqB b X.K H a xs) : ∃ its : List Value, Vals xs its ∧ SeB b s.heap a its.toArray ∧ xs.length ≤ sizeLine := by
  cases b with
  | true =>
    obtain ⟨its, rv, p, z⟩ := I.list h
    exact ⟨its, rv, p.isList, z⟩
  | false =>
    obtain ⟨its, rv, p, z⟩ := I.tuple h
    exact ⟨its, rv, p, z⟩
theorem seq_inj {X : Cx} {pins : List (Addr × Obj)} {σ : L2.St} {H : Hp} {s : Shared} {b : Bool} {a : Addr} {xs ys : List V} (I : Inv X pins σ H s) (h : SqB b X.K H a xs) (h' : SqB b X.K H a ys) : xs = ys := by
  cases b with
  | true => exact I.list_inj h h'
  | false => exact I.tuple_inj h h'
/-- the sources as they stand at each turn -/
def ItzS (K : PySem.W.Frag) (b1 b2 : Bool) (a b : Addr) : It :=
  ⟨fun i H => ∃ (xs ys : List V) (x y : V), SqB b1 K H a xs ∧ SqB b2 K H b ys ∧ xs[i]? = some x ∧ ys[i]? = some y,
    fun i H v H' => ∃ T x y, v = .ref T ∧ H T = none ∧ H' = upd H T (.tup [x, y]) ∧ (∀ xs, SqB b1 K H a xs → xs[i]? = some x) ∧ ∀ ys, SqB b2 K H b ys → ys[i]? = some y,
    fun i H => ∃ xs ys : List V, SqB b1 K H a xs ∧ SqB b2 K H b ys ∧ xs.length = i ∧ ys.length = i⟩
theorem turn_zs {P : Program} {w : World} {K : PySem.W.Frag} {elts : List Expr} {kk : Nat} {tpos : Pos} {b1 b2 : Bool} {a b z TI TO i1 i2 : Addr} (S : ZipSep2 z TI TO i1 i2 [i1, a] [i2, b]) (n1 : a ≠ i1) (n2 : b ≠ i2) :
    Turn P w K (.Tuple elts kk tpos) (ItzS K b1 b2 a b) [z, TI, TO, i1, i2] z (fun i h => Szip h z TI TO .none (.bool false) ∧ IsTupOf2 h TI (.ref i1) (.ref i2) ∧ (∃ x y, IsTupOf2 h TO x y) ∧ ItB b1 h i1 a i ∧ ItB b2 h i2 b i) where
  mem := by simp
  obj := fun i h st c hc => by
    obtain ⟨hz, hTI, ⟨x, y, hTO⟩, h1, h2⟩ := st
    have e' : c = z ∨ c = TI ∨ c = TO ∨ c = i1 ∨ c = i2 := by simpa using hc
    rcases e' with q | q | q | q | q
    · rw [q]; exact ⟨_, hz, fun v q => nomatch q⟩
    · rw [q]; exact ⟨_, hTI, fun v q => nomatch q⟩
    · rw [q]; exact ⟨_, hTO, fun v q => nomatch q⟩
    · rw [q]; exact h1.rec_
    · rw [q]; exact h2.rec_
  keep := fun i h h' st k => by
    obtain ⟨hz, hTI, ⟨x, y, hTO⟩, h1, h2⟩ := st
    exact ⟨k z (by simp) _ hz, k TI (by simp) _ hTI, ⟨x, y, k TO (by simp) _ hTO⟩, h1.at fun o q => k i1 (by simp) o q, h2.at fun o q => k i2 (by simp) o q⟩
  item := by
    intro X hP hw hK hc i pins s σ H E I hf st hg
    subst hP hw hK
    obtain ⟨hz, hTI, ⟨x0, y0, hTO⟩, h1, h2⟩ := st
    obtain ⟨xs, ys, x, y, hqx, hqy, hx, hy⟩ := hg
    obtain ⟨its, rv, p, _⟩ := seq_of I hqx
    obtain ⟨its2, rv2, p2, _⟩ := seq_of I hqy
    obtain ⟨u, hu, ru⟩ := rv.get hx
    obtain ⟨u2, hu2, ru2⟩ := rv2.get hy
    have hzl : z < s.heap.objs.size := Heap.lt_size hz
    have l1 : i < its.toArray.size := by simpa using (List.getElem?_eq_some_iff.mp hu).1
    have l2 : i < its2.toArray.size := by simpa using (List.getElem?_eq_some_iff.mp hu2).1
    refine next_item S (drawsB b1 (A := X.A.in1) (I.ok.hd hc) i1 a n1 its.toArray) (drawsB b2 (A := X.A.in1) (I.ok.hd hc) i2 b n2 its2.toArray) hz hTI hTO ⟨h1, p⟩ ⟨h2, p2⟩ l1 l2 fun x1 x2 h' tk y1 y2 z' TO' st1 st2 hT hsz hk => ?_
    have e1 : u = x1 := by
      have q : its[i]? = some x1 := by simpa using y1
      rw [hu] at q
      exact Option.some.inj q
    have e2 : u2 = x2 := by
      have q : its2[i]? = some x2 := by simpa using y2
      rw [hu2] at q
      exact Option.some.inj q
    subst e1 e2
    refine ⟨_, rfl, let_go (s := { s with heap := h', toks := tk }) z' fun h'' z'' sb => ?_⟩
    have hT2 : h''.get? s.heap.objs.size = some { cls := .type "tuple", data := .seq #[u, u2] } := (sb.2 _ (Nat.ne_of_gt hzl)).trans hT
    have new : ObjOk X.prog X.w (upd H s.heap.objs.size (.tup [x, y])) h'' s.heap.objs.size (.tup [x, y]) :=
      ⟨by show 2 ≤ sizeLine; decide, [u, u2], .cons ru (.cons ru2 .nil), ⟨_, hT2, rfl, _, rfl⟩⟩
    have I1 : Inv X pins σ (upd H s.heap.objs.size (.tup [x, y])) { s with heap := h'', toks := tk } :=
      I.turnedNew (t' := tk) (ch := [z, TI, TO, i1, i2]) (fun c o hb q => (sb.2 c (fun q' => hb (by simp [q']))).trans (hk c o (fun q' => hb (by simp [q'])) (fun q' => hb (by simp [q'])) (fun q' => hb (by simp [q'])) (fun q' => hb (by simp [q'])) q)) hf (Nat.le_refl _) new
    refine ⟨.ref s.heap.objs.size, _, I1, rfl, ⟨_, x, y, rfl, I.hok.fresh (Nat.le_refl _), rfl, fun l hl => by rw [seq_inj I hl hqx]; exact hx, fun l hl => by rw [seq_inj I hl hqy]; exact hy⟩, ⟨z'', ?_, ⟨u, u2, ?_⟩, ?_, ?_⟩, fun c hcm => ?_⟩
    · exact (sb.2 _ S.TIz).trans (hk _ _ S.TIz S.TITO S.TIi1 S.TIi2 hTI)
    · exact (sb.2 _ S.TOz).trans TO'
    · exact st1.1.at fun o q => (sb.2 _ S.zi1.symm).trans q
    · exact st2.1.at fun o q => (sb.2 _ S.zi2.symm).trans q
    · have hlt : c < s.heap.objs.size := by
        have e' : c = z ∨ c = TI ∨ c = TO ∨ c = i1 ∨ c = i2 := by simpa using hcm
        rcases e' with q | q | q | q | q
        · rw [q]; exact hzl
        · rw [q]; exact Heap.lt_size hTI
        · rw [q]; exact Heap.lt_size hTO
        · rw [q]; obtain ⟨_, e1, _⟩ := h1.rec_; exact Heap.lt_size e1
        · rw [q]; obtain ⟨_, e2, _⟩ := h2.rec_; exact Heap.lt_size e2
      rw [upd_ne (Nat.ne_of_lt hlt)]
      exact (hf c hcm).1
  done := by
    intro X hP hw hK hc i pins s σ H E I hf st hg
    subst hP hw hK
    obtain ⟨hz, hTI, ⟨x0, y0, hTO⟩, h1, h2⟩ := st
    obtain ⟨xs, ys, hqx, hqy, e1, e2⟩ := hg
    obtain ⟨its, rv, p, _⟩ := seq_of I hqx
    obtain ⟨its2, rv2, p2, _⟩ := seq_of I hqy
    have l1 : its.toArray.size = i := by rw [List.size_toArray, ← rv.length, e1]
    have l2 : its2.toArray.size = i := by rw [List.size_toArray, ← rv2.length, e2]
    have d1 := drawsB b1 (prog := X.prog) (w := X.w) (A := X.A.in1) (I.ok.hd hc) i1 a n1 its.toArray
    have d2 := drawsB b2 (prog := X.prog) (w := X.w) (A := X.A.in1) (I.ok.hd hc) i2 b n2 its2.toArray
    rw [l1] at d1
    rw [l2] at d2
    exact next_end (I.ok.hd hc) S d1 d2 hz hTI hTO ⟨h1, p⟩ ⟨h2, p2⟩ fun h' hk => ⟨rfl, I.turnedL (t' := s.toks) (ch := [z, TI, TO, i1, i2]) (fun c o hb q =>
      hk c o (fun q' => hb (by simp [q'])) (fun q' => hb (by simp [q'])) (fun q' => hb (by simp [q'])) (fun q' => hb (by simp [q'])) q) hf⟩
  self := fun A i s Q E st h => self_iter st.1 h

section
variable {prog : Program} {w : World} {A : Around} {E : Value → Shared → Prop} {s : Shared}
theorem zs_begins {v1 v2 : Value} {o1 o2 : Obj} {H1 H2 : Heap → Prop} {Q : Value → Shared → Prop} (B1 : Begins v1 o1 H1) (B2 : Begins v2 o2 H2) (h1 : H1 s.heap) (h2 : H2 s.heap)
    (h : ∀ h', Szip h' (s.heap.objs.size + 4) (s.heap.objs.size + 2) (s.heap.objs.size + 3) .none (.bool false) → IsTupOf2 h' (s.heap.objs.size + 2) (.ref s.heap.objs.size) (.ref (s.heap.objs.size + 1)) →
      IsTupOf2 h' (s.heap.objs.size + 3) .none .none → h'.get? s.heap.objs.size = some o1 → h'.get? (s.heap.objs.size + 1) = some o2 → h'.objs.size = s.heap.objs.size + 5 →
      (∀ c o, s.heap.get? c = some o → h'.get? c = some o) → Q (.ref (s.heap.objs.size + 4)) { s with heap := h' }) :
    wpAny (model prog w) A (call (.type "zip") [v1, v2] [(Str.ofString "strict", .bool true)]) Q E s := by
  refine callType_newKw F.called_zip (by decide) (typeCall_zs _ _) (newCall_zs _ _) (fun obj => args_init_zs obj _ _) F.entry_zip_new (meets_zs B1 B2) ⟨⟨h1, h2⟩, ?_⟩
  have z1 : (s.heap.push o1).objs.size = s.heap.objs.size + 1 := by rw [Heap.size_push]
  have z2 : ((s.heap.push o1).push o2).objs.size = s.heap.objs.size + 2 := by rw [Heap.size_push, z1]
  have zT : (gzT2 s.heap o1 o2).objs.size = s.heap.objs.size + 3 := by rw [Heap.size_push, z2]
  have zO : (gzO2 s.heap o1 o2).objs.size = s.heap.objs.size + 4 := by rw [Heap.size_push, zT]
  have zZ : (zsZ s.heap o1 o2).objs.size = s.heap.objs.size + 5 := by rw [Heap.size_push, zO]
  have gZ : (zsZ s.heap o1 o2).get? (gzO2 s.heap o1 o2).objs.size = some { cls := .type "zip", data := .fields #[.none, .bool false, .bool true, .ref ((s.heap.push o1).push o2).objs.size, .ref (gzT2 s.heap o1 o2).objs.size] } := Heap.get?_push_size _ rfl
  have gO : (zsZ s.heap o1 o2).get? (gzT2 s.heap o1 o2).objs.size = some { cls := .type "tuple", data := .seq #[.none, .none] } := Heap.get?_push_of_some _ (Heap.get?_push_size _ rfl)
  have gT : (zsZ s.heap o1 o2).get? ((s.heap.push o1).push o2).objs.size = some { cls := .type "tuple", data := .seq #[.ref s.heap.objs.size, .ref (s.heap.push o1).objs.size] } := Heap.get?_push_of_some _ (Heap.get?_push_of_some _ (Heap.get?_push_size _ rfl))
  have g1 : (zsZ s.heap o1 o2).get? s.heap.objs.size = some o1 := Heap.get?_push_of_some _ (Heap.get?_push_of_some _ (Heap.get?_push_of_some _ (Heap.get?_push_of_some _ (Heap.get?_push_size _ B1.free))))
  have g2 : (zsZ s.heap o1 o2).get? (s.heap.push o1).objs.size = some o2 := Heap.get?_push_of_some _ (Heap.get?_push_of_some _ (Heap.get?_push_of_some _ (Heap.get?_push_size _ B2.free)))
  rw [zO, zT, z2] at gZ
  rw [zT] at gO
  rw [z2, z1] at gT
  rw [z1] at g2
  show _ ∧ _
  rw [zO]
  exact ⟨⟨_, gZ, rfl⟩, h _ gZ gT gO g1 g2 zZ fun c o e => Heap.get?_push_of_some _ (Heap.get?_push_of_some _ (Heap.get?_push_of_some _ (Heap.get?_push_of_some _ (Heap.get?_push_of_some _ e))))⟩
theorem ne_add {a n : Nat} (k : Nat) (h : a < n) : a ≠ n + k := by omega
theorem no4 {c n : Nat} (lt : c < n) : c ∉ [n + 4, n + 3, n, n + 1] := fun z => by
  simp at z
  omega
theorem notin2 {x a b : Nat} (h1 : x ≠ a) (h2 : x ≠ b) : x ∉ [a, b] := fun z => by
  rcases List.mem_cons.mp z with z | z
  · exact h1 z
  · exact h2 (List.mem_singleton.mp z)
theorem sep_new {n a b : Nat} (ha : a < n) (hb : b < n) : ZipSep2 (n + 4) (n + 2) (n + 3) n (n + 1) [n, a] [n + 1, b] where
  TIz := fun z => by have z' : n + 2 = n + 4 := z; omega
  TOz := fun z => by have z' : n + 3 = n + 4 := z; omega
  TITO := fun z => by have z' : n + 2 = n + 3 := z; omega
  TIi1 := fun z => by have z' : n + 2 = n := z; omega
  mem1 := List.mem_cons_self
  zf1 := notin2 (by omega) (by omega)
  Tf1 := notin2 (by omega) (by omega)
  TIi2 := fun z => by have z' : n + 2 = n + 1 := z; omega
  mem2 := List.mem_cons_self
  zf2 := notin2 (by omega) (by omega)
  Tf2 := notin2 (by omega) (by omega)
  sep1_2 := notin2 (by omega) (by omega)
  sep2_1 := notin2 (by omega) (by omega)
/-- a built-in class called with keywords -/
theorem callWith_typeKw {env : Env} {pos : Pos} {T : String} {e : Expr} {rest : List Expr} {kws : List Keyword} {Q : Value → Shared → Prop}
    (h : wpAny (model prog w) A (spliced (backTo pos (starEach (e :: rest) env))) (fun vs s1 => wpAny (model prog w) A (evalAll ((backToKw pos (keywordEach kws env)).map (·.2)))
      (fun kvs s2 => wpAny (model prog w) A (call (.type T) vs (((backToKw pos (keywordEach kws env)).filterMap (·.1)).zip kvs)) Q E s2) E s1) E s)
    (he : backTo pos (starEach (e :: rest) env) = (false, eval e env) :: backTo pos (starEach rest env) := by rfl)
    (hplain : (backTo pos (starEach (e :: rest) env)).any (·.1) = false := by rfl)
    (hall : (backToKw pos (keywordEach kws env)).all (·.1.isSome) = true := by rfl)
    (hkw : (backToKw pos (keywordEach kws env)).any (·.1.isNone) = false := by rfl) :
    wpAny (model prog w) A (callWith pos (.type T) [] (backTo pos (starEach (e :: rest) env)) (backToKw pos (keywordEach kws env))) Q E s := by
  have h2 : wpAny (model prog w) A (evalArgs (.type T) true (backTo pos (starEach (e :: rest) env)) (backToKw pos (keywordEach kws env))) (fun a s1 => wpAny (model prog w) A (call (.type T) ([] ++ a.pos) a.kw) Q E s1) E s := by
    rw [he] at h ⊢
    unfold evalArgs
    show wpAny (model prog w) A (spliced ((false, eval e env) :: backTo pos (starEach rest env)) >>= _) _ E s
    refine wpAny_bind (wpAny_mono h (fun vs s' h' => ?_) fun _ _ x => x)
    refine wpAny_holding ?_
    rw [if_pos hall]
    refine wpAny_bind (wpAny_mono h' (fun kvs s2 h2 => ?_) fun _ _ x => x)
    exact wpAny_bind (wpAny_pure (wpAny_pure h2))
  unfold callWith
  refine wpAny_bind (wpAny_holding (wpAny_mono h2 (fun a s1 h1 => wpAny_bind (wpAny_standAt ?_)) fun _ _ x => x))
  simp only [hplain, hkw, Bool.or_false]
  refine wpAny_bind (wpAny_pure ?_)
  exact wpAny_bind (wpAny_mono h1 (fun r s2 hr => wpAny_bind (wpAny_holding (wpAny_point (wpAny_pure hr)))) fun _ _ x => x)
end

def iZs (K : PySem.W.Frag) (ta tk : TA) : TI := fun σ H R => ta σ H fun vs H1 => tk σ H1 fun zs H2 => ∃ b1 b2 a b xs ys, vs = [.ref a, .ref b] ∧ zs = [.bl true] ∧ SqB b1 K H2 a xs ∧ SqB b2 K H2 b ys ∧ R (ItzS K b1 b2 a b) H2
theorem pi_zs {X : Cx} {e e2 : Expr} {ta tk : TA} {kws : List Keyword} {p pos tpos : Pos} {elts : List Expr} {kk : Nat} (hg : Gl X "zip") (hm : X.mg "zip" = none) (ha : PA X [e, e2] ta) (hk : PK X kws tk)
    (hks : (backToKw pos (keywordEach kws X.env)).filterMap (·.1) = [Str.ofString "strict"] := by rfl)
    (he : backTo pos (starEach [e, e2] X.env) = (false, eval e X.env) :: backTo pos (starEach [e2] X.env) := by rfl)
    (hplain : (backTo pos (starEach [e, e2] X.env)).any (·.1) = false := by rfl)
    (hall : (backToKw pos (keywordEach kws X.env)).all (·.1.isSome) = true := by rfl)
    (hkw : (backToKw pos (keywordEach kws X.env)).any (·.1.isNone) = false := by rfl) :
    PI X (.Tuple elts kk tpos) (.Call (.Name "zip" p) [e, e2] kws pos) (iZs X.K ta tk) := by
  refine ⟨fun pins s σ H R I h => ?_⟩
  refine wpAny_Call_Name_kw (ld_blt I hg hm PyProof.Rows.boot_zip ?_)
  refine callWith_typeKw (thn (ha.run pos pins s σ H _ I h) fun us s1 ⟨vs, H1, I1, r1, q1⟩ => thn (hk.run pos pins s1 σ H1 _ I1 q1) fun ws s2 ⟨zs, H2, I2, r2, q2⟩ => ?_) he hplain hall hkw
  obtain ⟨b1, b2, a, b, xs, ys, ex, ez, hqx, hqy, q⟩ := q2
  subst ex ez
  rw [hks]
  cases r1 with
  | cons r rr =>
    cases rr with
    | cons r' rr =>
      cases rr
      cases r
      cases r'
      cases r2 with
      | cons rz rn =>
        cases rn
        cases rz
        obtain ⟨its, rv, p1, _⟩ := seq_of I2 hqx
        obtain ⟨its2, rv2, p2, _⟩ := seq_of I2 hqy
        refine zs_begins (begB b1 a its.toArray) (begB b2 b its2.toArray) p1 p2 fun h' hz hTI hTO h1 h2 hsz hk => self_iter hz ?_
        have I3 : Inv X pins σ H2 { s2 with heap := h' } := I2.kept (t' := s2.toks) hk
        refine ⟨s2.heap.objs.size + 4, [s2.heap.objs.size + 4, s2.heap.objs.size + 2, s2.heap.objs.size + 3, s2.heap.objs.size, s2.heap.objs.size + 1], _, _, H2, rfl, I3, turn_zs (b1 := b1) (b2 := b2) (sep_new p1.there p2.there) (Nat.ne_of_lt p1.there) (Nat.ne_of_lt (Nat.lt_succ_of_lt p2.there)), ⟨hz, hTI, ⟨_, _, hTO⟩, ItB.made h1, ItB.made h2⟩, fun c hcm => ?_, q⟩
        have e' : c = s2.heap.objs.size + 4 ∨ c = s2.heap.objs.size + 2 ∨ c = s2.heap.objs.size + 3 ∨ c = s2.heap.objs.size ∨ c = s2.heap.objs.size + 1 := by simpa using hcm
        have hle : s2.heap.objs.size ≤ c := by
          rcases e' with z | z | z | z | z
          · rw [z]; exact Nat.le_add_right _ _
          · rw [z]; exact Nat.le_add_right _ _
          · rw [z]; exact Nat.le_add_right _ _
          · rw [z]; exact Nat.le_refl _
          · rw [z]; exact Nat.le_add_right _ _
        exact I2.fpOk hle (I2.hok.fresh hle)

/-! ### dict(zip(x, y, strict=True)) -/
theorem pa_zs {prog : Program} {w : World} (b1 b2 : Bool) (z TI TO i1 i2 l1 l2 : Addr) (S : ZipSep2 z TI TO i1 i2 [i1, l1] [i2, l2]) (n1 : l1 ≠ i1) (n2 : l2 ≠ i2) (zl1 : l1 ≠ z) (zl2 : l2 ≠ z) (Tl1 : l1 ≠ TO) (Tl2 : l2 ≠ TO) (xs ys : Array Value) (hl : xs.size = ys.size) :
    PairArg prog w "zip" z [z, TI, TO, i1, i2, l1, l2] [z, TO, i1, i2] xs.size (fun i k v => xs[i]? = some k ∧ ys[i]? = some v)
      (fun h => Szip h z TI TO .none (.bool false) ∧ IsTupOf2 h TI (.ref i1) (.ref i2) ∧ (∃ a b, IsTupOf2 h TO a b) ∧ ItB b1 h i1 l1 0 ∧ ItB b2 h i2 l2 0 ∧ SeB b1 h l1 xs ∧ SeB b2 h l2 ys) where
  type := fun s ok => ⟨_, ok.1, rfl⟩
  notDict := by decide
  keep := fun h h' ok hk => by
    obtain ⟨hz, hTI, ⟨a, b, hTO⟩, h1, h2, hl1, hl2⟩ := ok
    exact ⟨hk _ _ hz, hk _ _ hTI, ⟨a, b, hk _ _ hTO⟩, h1.at fun o e => hk _ o e, h2.at fun o e => hk _ o e, hl1.at fun o e => hk _ o e, hl2.at fun o e => hk _ o e⟩
  there := fun h ok b hb => by
    obtain ⟨hz, hTI, ⟨a, c, hTO⟩, h1, h2, hl1, hl2⟩ := ok
    have sq : ∀ {b : Bool} {a : Addr} {its : Array Value}, SeB b h a its → ∃ o, h.get? a = some o := fun {b a its} x => by
      cases b with
      | true =>
        obtain ⟨o, e, _⟩ := x
        exact ⟨o, e⟩
      | false =>
        obtain ⟨o, e, _⟩ := x
        exact ⟨o, e⟩
    simp only [List.mem_cons, List.not_mem_nil, or_false] at hb
    rcases hb with rfl | rfl | rfl | rfl | rfl | rfl | rfl
    · exact ⟨_, hz⟩
    · exact ⟨_, hTI⟩
    · exact ⟨_, hTO⟩
    · obtain ⟨o, e, _⟩ := h1.rec_
      exact ⟨o, e⟩
    · obtain ⟨o, e, _⟩ := h2.rec_
      exact ⟨o, e⟩
    · exact sq hl1
    · exact sq hl2
  sub := fun b hb => by simp at hb ⊢; rcases hb with rfl | rfl | rfl | rfl <;> simp
  noKeys := fun A s Q E hA ok h => getAttrOr_miss_zip ok.1 rfl rfl rfl zip_no_keys (by decide +kernel) hA h
  iter := fun A s d Q E hA ok hd hdf h => by
    obtain ⟨hz, hTI, ⟨a, b, hTO⟩, h1, h2, hl1, hl2⟩ := ok
    simp only [List.mem_cons, List.not_mem_nil, or_false, not_or] at hdf
    obtain ⟨dz, dTI, dTO, di1, di2, dl1, dl2⟩ := hdf
    refine self_iter hz (h z [z, TO, i1, i2] (fun i h => IsTupOf2 h TI (.ref i1) (.ref i2) ∧ ItB b1 h i1 l1 i ∧ ItB b2 h i2 l2 i ∧ SeB b1 h l1 xs ∧ SeB b2 h l2 ys ∧
      ((Szip h z TI TO .none (.bool false) ∧ ∃ a b, IsTupOf2 h TO a b) ∨ ∃ (T : Addr) (f : Bool) (oT : Obj), Szip h z TI TO (rawInt T) (.bool f) ∧ h.get? T = some oT ∧ T ≠ z ∧ T ≠ i1 ∧ T ≠ i2 ∧ T ≠ d)) s.heap s.toks ?_
      ⟨hTI, h1, h2, hl1, hl2, .inl ⟨hz, a, b, hTO⟩⟩ (fun _ _ e => e) fun b hb => .inl hb)
    have D1 := drawsB b1 (prog := prog) (w := w) (A := A.in1) hA i1 l1 n1 xs
    have D2 := drawsB b2 (prog := prog) (w := w) (A := A.in1) hA i2 l2 n2 ys
    exact {
      off := fun hm => by
        simp only [List.mem_cons, List.not_mem_nil, or_false] at hm
        rcases hm with e | e | e | e
        · exact dz e
        · exact dTO e
        · exact di1 e
        · exact di2 e
      frame := fun i h1 h2 st hk => by
        obtain ⟨hTI, h1, h2, hl1, hl2, hz⟩ := st
        refine ⟨hk _ _ (Ne.symm dTI) hTI, h1.at fun o e => hk _ o (Ne.symm di1) e, h2.at fun o e => hk _ o (Ne.symm di2) e, hl1.at fun o e => hk _ o (Ne.symm dl1) e, hl2.at fun o e => hk _ o (Ne.symm dl2) e, ?_⟩
        rcases hz with ⟨hz, a, b, hTO⟩ | ⟨T, f, oT, hz, hT, r1, r2, r3, r4⟩
        · exact .inl ⟨hk _ _ (Ne.symm dz) hz, a, b, hk _ _ (Ne.symm dTO) hTO⟩
        · exact .inr ⟨T, f, oT, hk _ _ (Ne.symm dz) hz, hk _ _ r4 hT, r1, r2, r3, r4⟩
      item := fun i s1 Q1 E1 hi st hds hQ => by
        obtain ⟨hTI, h1, h2, hl1, hl2, hz⟩ := st
        have hiy : i < ys.size := hl ▸ hi
        have lt : ∀ {c o}, s1.heap.get? c = some o → s1.heap.objs.size ≠ c := fun e => Nat.ne_of_gt (Heap.lt_size e)
        have m1 : s1.heap.objs.size ≠ i1 := by
          obtain ⟨_, e, _⟩ := h1.rec_
          exact lt e
        have m2 : s1.heap.objs.size ≠ i2 := by
          obtain ⟨_, e, _⟩ := h2.rec_
          exact lt e
        rcases hz with ⟨hz, a, b, hTO⟩ | ⟨T, f, oT, hz, hT, r1, r2, r3, r4⟩
        · refine next_item S D1 D2 hz hTI hTO ⟨h1, hl1⟩ ⟨h2, hl2⟩ hi hiy fun x1 x2 h' tk ex ey a1 a2 a3 a4 a5 a6 hk => ?_
          exact hQ s1.heap.objs.size _ _ h' tk ⟨ex, ey⟩ (.inl ⟨_, a5, rfl, _, rfl⟩)
            ⟨hk _ _ S.TIz S.TITO S.TIi1 S.TIi2 hTI, a3.1, a4.1, a3.2, a4.2, .inr ⟨s1.heap.objs.size, false, _, a1, a5, lt hz, m1, m2, Nat.ne_of_gt hds⟩⟩
            fun c o hc e => hk c o (fun x => hc (by simp [x])) (fun x => hc (by simp [x])) (fun x => hc (by simp [x])) (fun x => hc (by simp [x])) e
        · refine next_item_held S D1 D2 hz hT hTI ⟨h1, hl1⟩ ⟨h2, hl2⟩ hi hiy fun x1 x2 h' tk ex ey a1 a3 a4 a5 a6 hk => ?_
          exact hQ s1.heap.objs.size _ _ h' tk ⟨ex, ey⟩ (.inl ⟨_, a5, rfl, _, rfl⟩)
            ⟨hk _ _ S.TIz S.TIi1 S.TIi2 hTI, a3.1, a4.1, a3.2, a4.2, .inr ⟨T, true, oT, a1, hk _ _ r1 r2 r3 hT, r1, r2, r3, r4⟩⟩
            fun c o hc e => hk c o (fun x => hc (by simp [x])) (fun x => hc (by simp [x])) (fun x => hc (by simp [x])) e
      done := fun s1 Q1 E1 st hQ => by
        obtain ⟨hTI, h1, h2, hl1, hl2, hz⟩ := st
        have D2' := D2
        rw [← hl] at D2'
        rcases hz with ⟨hz, a, b, hTO⟩ | ⟨T, f, oT, hz, hT, r1, r2, r3, r4⟩
        · exact next_end hA S D1 D2' hz hTI hTO ⟨h1, hl1⟩ ⟨h2, hl2⟩ fun h' hk => hQ h' s1.toks fun c o hc e => hk c o (fun x => hc (by simp [x])) (fun x => hc (by simp [x])) (fun x => hc (by simp [x])) (fun x => hc (by simp [x])) e
        · exact next_end_held hA S D1 D2' hz hT hTI ⟨h1, hl1⟩ ⟨h2, hl2⟩ fun h' hk => hQ h' s1.toks fun c o hc e => hk c o (fun x => hc (by simp [x])) (fun x => hc (by simp [x])) (fun x => hc (by simp [x])) e }
theorem keys_at : ∀ {ks : List Int} {us : List Value}, Vals (ks.map V.int) us → ∀ {i : Nat} {u : Value}, us[i]? = some u → ∃ k, ks[i]? = some k ∧ keyIs (.inl k) u = true
  | [], us, r, i, u, e => by
    cases r
    simp at e
  | k :: ks, us, r, i, u, e => by
    cases r with
    | cons h t =>
      obtain ⟨tk, rfl⟩ := h
      cases i with
      | zero =>
        have e' := Option.some.inj e
        subst e'
        exact ⟨k, rfl, keyIs_int k tk⟩
      | succ i => exact keys_at t (by simpa using e)
theorem kv_zip : ∀ {ks : List Int} {ys : List V} {us : List Value}, Vals ys us → KV ((ks.map Sum.inl).zip ys) ((ks.map (Sum.inl : Int → Key)).zip us)
  | [], _, _, _ => .nil
  | k :: ks, _, _, .nil => .nil
  | k :: ks, _, _, .cons h t => .cons ⟨rfl, h⟩ (kv_zip t)
def tDzs (K : PySem.W.Frag) (ta tk : TA) : TE := fun σ H Q => ta σ H fun vs H1 => tk σ H1 fun zs H2 => ∃ (b1 b2 : Bool) (a b : Addr) (ks : List Int) (ys : List V), vs = [.ref a, .ref b] ∧ zs = [.bl true] ∧ SqB b1 K H2 a (ks.map V.int) ∧ SqB b2 K H2 b ys ∧ ks.length = ys.length ∧
  ∀ p, H2 p = none → Q (.ref p) (upd H2 p (.dK (mergeK [] ((ks.map Sum.inl).zip ys))))
theorem pe_dzs {X : Cx} {e e2 : Expr} {ta tk : TA} {kws : List Keyword} {p pos p2 pos2 : Pos} (hcalm : X.calm = true) (hgd : Gl X "dict") (hmd : X.mg "dict" = none) (hg : Gl X "zip") (hm : X.mg "zip" = none) (ha : PA X [e, e2] ta) (hk : PK X kws tk)
    (hks : (backToKw pos2 (keywordEach kws X.env)).filterMap (·.1) = [Str.ofString "strict"] := by rfl)
    (he : backTo pos2 (starEach [e, e2] X.env) = (false, eval e X.env) :: backTo pos2 (starEach [e2] X.env) := by rfl)
    (hplain : (backTo pos2 (starEach [e, e2] X.env)).any (·.1) = false := by rfl)
    (hall : (backToKw pos2 (keywordEach kws X.env)).all (·.1.isSome) = true := by rfl)
    (hkw : (backToKw pos2 (keywordEach kws X.env)).any (·.1.isNone) = false := by rfl)
    (hs : starEach [(Expr.Call (.Name "zip" p2) [e, e2] kws pos2)] X.env = [(false, eval (Expr.Call (.Name "zip" p2) [e, e2] kws pos2) X.env)] := by rfl) :
    PE X (.Call (.Name "dict" p) [.Call (.Name "zip" p2) [e, e2] kws pos2] [] pos) (tDzs X.K ta tk) := by
  refine ⟨fun pins s σ H Q I h => ?_⟩
  refine Call_ (ld_blt (u := .type "dict") I hgd hmd (by decide +kernel) (PyProof.Rows.callWith_type1 ?_ hs rfl))
  rw [hs]
  show wpAny _ _ (spliced ((false, eval (Expr.Call (.Name "zip" p2) [e, e2] kws pos2) X.env) :: backTo pos (starEach [] X.env))) _ _ s
  refine Calls.spliced_cons (wpAny_Call_Name_kw (ld_blt I hg hm PyProof.Rows.boot_zip ?_))
  refine callWith_typeKw (thn (ha.run pos2 pins s σ H _ I h) fun us s1 ⟨vs, H1, I1, r1, q1⟩ => thn (hk.run pos2 pins s1 σ H1 _ I1 q1) fun ws s2 ⟨zs, H2, I2, r2, q2⟩ => ?_) he hplain hall hkw
  obtain ⟨b1, b2, a, b, ks, ys, ex, ez, hqx, hqy, hlen, q⟩ := q2
  subst ex ez
  rw [hks]
  cases r1 with
  | cons r rr =>
    cases rr with
    | cons r' rr =>
      cases rr
      cases r
      cases r'
      cases r2 with
      | cons rz rn =>
        cases rn
        cases rz
        obtain ⟨its, rv, p1, hz1⟩ := seq_of I2 hqx
        obtain ⟨its2, rv2, p2', hz2⟩ := seq_of I2 hqy
        have l1 : its.length = ks.length := by rw [← rv.length, List.length_map]
        have l2 : its2.length = ys.length := by rw [← rv2.length]
        refine zs_begins (begB b1 a its.toArray) (begB b2 b its2.toArray) p1 p2' fun h' hz hTI hTO h1 h2 hsz hk => Calls.spliced_nil ?_
        have la := p1.there
        have lb := p2'.there
        have P := pa_zs (prog := X.prog) (w := X.w) b1 b2 (s2.heap.objs.size + 4) (s2.heap.objs.size + 2) (s2.heap.objs.size + 3) s2.heap.objs.size (s2.heap.objs.size + 1) a b (sep_new la lb) (Nat.ne_of_lt la) (Nat.ne_of_lt (Nat.lt_succ_of_lt lb))
          (ne_add 4 la) (ne_add 4 lb) (ne_add 3 la) (ne_add 3 lb) its.toArray its2.toArray (by rw [List.size_toArray, List.size_toArray, l1, l2, hlen])
        refine call_dict_pairs (s := { s2 with heap := h' }) (knd := mixKind X.prog X.w) (kvs := (ks.map (Sum.inl : Int → Key)).zip its2) P (I2.ok.hd hcalm) ⟨hz, hTI, ⟨_, _, hTO⟩, ItB.made h1, ItB.made h2, p1.at fun o e => hk _ o e, p2'.at fun o e => hk _ o e⟩ ⟨?_, fun i k v z => ?_⟩ ?_ fun h2' tk2 hd' hk2 => ?_
        · rw [List.length_zip, List.length_map, l2, ← hlen, Nat.min_self, List.size_toArray, l1]
        · obtain ⟨z1, z2⟩ := z
          obtain ⟨k', e1, e3⟩ := keys_at rv (i := i) (u := k) (by simpa using z1)
          refine ⟨.inl k', ?_, e3⟩
          rw [List.getElem?_zip_eq_some]
          exact ⟨by rw [List.getElem?_map, e1] <;> rfl, by simpa using z2⟩
        · rw [List.size_toArray, l1, hlen]
          exact hz2
        · have kk : ∀ c o, s2.heap.get? c = some o → h2'.get? c = some o := fun c o e2 => hk2 c o (no4 (Heap.lt_size e2)) (hk c o e2)
          have hd0 : H2 h'.objs.size = none := I2.hok.fresh (by rw [hsz]; omega)
          have hm' : (h'.objs.size == sysModules) = false := beq_eq_false_iff_ne.mpr (Nat.ne_of_gt (Nat.lt_of_lt_of_le I2.big (by rw [hsz]; omega)))
          have hl2 : (mergeK [] ((ks.map Sum.inl).zip ys)).length ≤ sizeLine := by
            refine Nat.le_trans (length_mergeK _ []) ?_
            rw [List.length_nil, Nat.zero_add, List.length_zip, List.length_map, hlen, Nat.min_self]
            exact hz2
          exact ⟨.ref h'.objs.size, upd H2 h'.objs.size (.dK (mergeK [] ((ks.map Sum.inl).zip ys))), I2.laid (t' := tk2) kk (by rw [hsz]; omega) (show ObjOk X.prog X.w _ _ _ (.dK (mergeK [] ((ks.map Sum.inl).zip ys))) from ⟨hl2, hm', _, KV.merge (kv_zip rv2) .nil, hd'⟩), rfl, q _ hd0⟩
end RhZ
end RhZip2_
section RhExc_
set_option Elab.async false
set_option linter.all false
set_option maxRecDepth 100000
set_option maxHeartbeats 4000000
/-! Own exceptions over LookupError, RuntimeError: B.__init__(self) called by its name, one field stored; made, raised. -/
namespace RhX
open PySem PySem.W PySem.Calls PyProof.Rows PySem.HandSPX
open Builtin Builtin.ObjectAttr
/-- what the base says -/
structure Bas (B newId initId : String) (bm : List Value) : Prop where
  base : ExcBaseFacts B newId initId bm
  pass : ∀ self : Value, refuseLoop self "__setattr__" bm = pure ()
  obj : bm.contains (.type "object") = true
  ty : typeOf (.type B) = pure (.type "type")
  stub : Manifest.isStub B = false
theorem ty_L : typeOf (.type "LookupError") = pure (.type "type") := by kernel_rfl
theorem ty_R : typeOf (.type "RuntimeError") = pure (.type "type") := by kernel_rfl
abbrev bmL : List Value := [.type "LookupError", .type "Exception", .type "BaseException", .type "object"]
abbrev bmR : List Value := [.type "RuntimeError", .type "Exception", .type "BaseException", .type "object"]
theorem basL : Bas "LookupError" "LookupError.__new__" "LookupError.__init__" bmL := ⟨F.excBase_LookupError, F.store_LookupError.passes, by decide +kernel, ty_L, by decide +kernel⟩
theorem basR : Bas "RuntimeError" "RuntimeError.__new__" "RuntimeError.__init__" bmR := ⟨F.excBase_RuntimeError, F.store_RuntimeError.passes, by decide +kernel, ty_R, by decide +kernel⟩
section
variable {prog : Program} {w : World} {A : Around} {E : Value → Shared → Prop} {R : Result → Shared → Prop} {hp : Heap} {g : Array GenState} {d : Drawn} {t : Nat} {os : OsState}
/-- the first field of an exception of an own class over such a base -/
theorem first_field {K : W.Frag} {name : Str} {tk : Tok} {v : Value} {x C : Addr} {fv : Array Value} {cd : ClassData} {B newId initId : String} {bm : List Value} (BB : Bas B newId initId bm)
    (X : K.In hp) (hx : hp.get? x = some { cls := .ref C, data := .fields fv }) (hcd : W.clsIn K C = some cd) (hm : cd.mro = .ref C :: bm) (hh : cd.hasDict = true) (ha : W.findIn K (.ref C) name = some none)
    (hq : ∀ h' tk' dx, (∀ b o, b ≠ x → hp.get? b = some o → h'.get? b = some o) → hp.objs.size ≤ dx → dx ≠ x → h'.get? x = some { cls := .ref C, dict := some dx, data := .fields fv } →
      h'.Ns1 dx (fun y => if y = name then some v else none) → R (.ok (.ret .none)) ⟨h', g, d, tk', os⟩) :
    codeAny (model prog w) A (.call (.builtin "object.__setattr__") ⟨[.ref x, .str name tk, v], []⟩) R ⟨hp, g, d, t, os⟩ := by
  have I : W.InstAt hp x { cls := .ref C, data := .fields fv } C none := ⟨hx, rfl, rfl, trivial⟩
  have SF := F.store_object
  have ne : cd.mro.isEmpty = false := by rw [hm]; rfl
  have hob : cd.mro.contains (.type "object") = true := by rw [hm, List.contains_cons, BB.obj, Bool.or_true]
  have hps : refuseLoop (.ref x) "__setattr__" cd.mro = pure () := by rw [hm, refuseLoop_ref]; exact BB.pass _
  have hxs : x ≠ hp.objs.size := Nat.ne_of_lt (Heap.lt_size hx)
  have sub : W.Looks (model prog w) hp (isInstance (.ref x) (.type "object")) true := I.type.andThen (W.looks_mroIn X (by unfold W.mroIn; rw [hcd, Option.bind_some, if_neg (by rw [ne]; decide), hob]))
  refine codeAny_call_builtin SF.slot.plain SF.entry (@W.check_slot (model prog w) _ _ ⟨hp, g, d, t, os⟩ "object.__setattr__" "object" "__setattr__" (.ref x) [.str name tk, v] [] _ SF.kind SF.split sub (SF.args (.ref x) (.str name tk) v) ?_)
  have hmr : W.Looks (model prog w) hp (mroOf (.ref C)) cd.mro := (W.looks_clsIn X hcd).andThen .now
  have L3 : W.Looks (model prog w) hp (storeTaker? none) none := .now
  have hcls : W.Looks (model prog w) hp (classData C) cd := W.looks_clsIn X hcd
  rw [W.osa_eq, refuse_eq]
  refine wpAny_bind (wpAny_bind (I.type.at (wpAny_bind (hmr.at ?_))))
  rw [hps]
  refine wpAny_pure (wpAny_bind (I.type.at (wpAny_bind ((W.looks_findIn X ha).at (wpAny_bind (L3.at ?_))))))
  show wpAny _ _ (storeInOwnDict (.ref x) (.ref C) (.str name tk) name v false) _ _ _
  obtain ⟨nm, bs, mro, ns, qn, hd, sn, sb, ab, col, del⟩ := cd
  dsimp only at hh
  subst hh
  unfold storeInOwnDict ownDictForStores
  repeat (first | with_reducible refine store_in_new ?_ ?_ | with_reducible refine wpAny_loadPart_at hx ?_ | with_reducible refine hcls.at ?_ | wp_step)
  · exact ⟨_, #[], _, (Heap.get?_update_ne _ _ _ _ hxs.symm).trans (Heap.get?_push_at rfl rfl), rfl, fun e he => absurd he (by simp), fun _ => rfl⟩
  · intro h' tk' hn' hs
    have hx1 : (hp.push { cls := .type "dict", data := .dict #[] }).get? x = some { cls := .ref C, data := .fields fv } := Heap.get?_push_of_some _ hx
    refine hq h' tk' hp.objs.size (fun b o hb ho => ?_) (Nat.le_refl _) hxs.symm ?_ hn'
    · exact (hs.2 b (Nat.ne_of_lt (Heap.lt_size ho))).trans ((Heap.get?_update_ne _ _ _ _ hb).trans (Heap.get?_push_of_some _ ho))
    · exact (hs.2 x hxs).trans (Heap.get?_update_self _ hx1 rfl)
end
end RhX

namespace RhX
open PySem PySem.Spec PyProof.Rows L2
/-- what the written part says of the class at C -/
structure Cx1 (K : PySem.W.Frag) (newId : String) (bm : List Value) (C : Addr) : Prop where
  cls : ∃ nm q N bs sn sub ab col dd k0 k1 k2 k3 k5, K.lookup C = some (excClassObj nm q C N bs bm true sn sub ab col dd k0 k1 k2 k3 k5 newId)
  sa : PySem.W.findIn K (.ref C) "__setattr__" = some (some (.builtin "object.__setattr__"))
  exC : PySem.W.subIn K (.ref C) (.type "BaseException") = some true
  tyC : PySem.W.typeIn K (.ref C) = some (.type "type")
  kC : PySem.W.keepIn K (.ref C) = true
section
variable {X : Cx} {pins : List (Addr × Obj)} {σ : L2.St} {H : Hp} {s : Shared} {a C dx : Addr} {f : Str} {y : V} {u : Value} {E : Value → Shared → Prop} {A : Around} {B newId initId : String} {bm : List Value}
theorem store1 {Q : Unit → Shared → Prop} (BB : Bas B newId initId bm) (T : Cx1 X.K newId bm C) (I : Inv X pins σ H s) (e : H a = some (exo a C none)) (hno : PySem.W.findIn X.K (.ref C) f = some none) (ry : RelV y u)
    (h : ∀ dx s', H dx = none → dx ≠ a → Inv X pins σ (upd (upd H dx (exd dx [(f, y)])) a (exo a C (some dx))) s' → Q () s') : wpAny (model X.prog X.w) A (setAttr (.ref a) f u) Q E s := by
  obtain ⟨nm, q, N, bs, sn, sub, ab, col, dd, k0, k1, k2, k3, k5, hC⟩ := T.cls
  have hcl : PySem.W.clsIn X.K C = some { name := nm, bases := bs, mro := .ref C :: bm, ns := N, qualname := q, hasDict := true, slotNames := sn, subclasses := sub, abstract := ab, collection := col, hasDel := false } := by unfold PySem.W.clsIn; rw [hC] <;> rfl
  obtain ⟨t1, ho⟩ := exo_at I.hok e
  obtain ⟨hp, g, d, t, os⟩ := s
  refine PySem.W.set_plain I.kIn (ox := { cls := .ref C, dict := none, data := .fields #[.ref t1, .none, .none, .none, .bool false, .none] }) (od := none) ⟨ho, rfl, rfl, trivial⟩ T.sa ?_
  refine first_field BB I.kIn ho hcl rfl rfl hno (fun h' tk' dx k dn dne hx hn => ?_)
  have hnd : H dx = none := I.hok.fresh dn
  have nd : ∀ {b : Addr} {o : Obj}, hp.get? b = some o → b ≠ dx := fun {b o} q => Nat.ne_of_lt (Nat.lt_of_lt_of_le (Heap.lt_size q) dn)
  have na : ∀ {b : Addr}, H b = none → b ≠ a := fun {b} n z => by
    rw [z, e] at n
    cases n
  have Un1 : Un X.fs [] H (upd (upd H dx (exd dx [(f, y)])) a (exo a C (some dx))) hp h' := {
    keep := fun b o q n _ _ => k b o (na n) q
    slot := fun b o q n _ _ => ⟨o.slots, k b o (na n) q⟩
    free := fun b o q n _ => by rw [upd_ne (na n), upd_ne (nd q)]; exact n
    there := fun b o q _ => by
      by_cases hb : b = a
      · exact ⟨_, by rw [hb]; exact hx⟩
      · exact ⟨o, k b o hb q⟩
    tups := fun b xs q => by rw [upd_ne (at_ne e q exo_tup), upd_ne (ne_of_none q hnd)]; exact q
    frzs := fun b o v q => by rw [upd_ne (at_ne e q exo_frz), upd_ne (ne_of_none q hnd)]; exact q
    tbls := fun b ps q => ⟨#[], by rw [upd_ne (at_ne e q exo_tbl), upd_ne (ne_of_none q hnd), q]; simp⟩ }
  refine h dx _ hnd dne (I.un (t' := tk') Un1 fun b o q => ?_)
  by_cases hb : b = a
  · subst hb
    rw [upd_same] at q
    cases q
    exact exo_ok hx
  · rw [upd_ne hb] at q
    by_cases hd : b = dx
    · subst hd
      rw [upd_same] at q
      cases q
      exact exd_ok hn (relO_put (fs := []) ry fun g => True.intro)
    · rw [upd_ne hd] at q
      exact (I.hok b o q).stay (fun c v hc z => k c v (by
          rcases hc with hc | hc
          · rw [hc]
            exact hb
          · exact at_ne e hc exo_own) z)
        (fun c hc => by rw [upd_ne (at_ne e hc exo_own), upd_ne (ne_of_none hc hnd)]; exact hc) (fun c xs hc => by rw [upd_ne (at_ne e hc exo_tup), upd_ne (ne_of_none hc hnd)]; exact hc)
theorem base_init {us : List Value} {Q : Value → Shared → Prop} (BB : Bas B newId initId bm) (T : Cx1 X.K newId bm C) (I : Inv X pins σ H s) (e : H a = some (exo a C none)) (hl : us.length ≤ sizeLine) (h : ∀ s', Inv X pins σ H s' → Q .none s') :
    wpAny (model X.prog X.w) A (call (.builtin initId) (.ref a :: us)) Q E s := by
  obtain ⟨nm, q, N, bs, sn, sub, ab, col, dd, k0, k1, k2, k3, k5, hC⟩ := T.cls
  obtain ⟨t1, ho⟩ := exo_at I.hok e
  obtain ⟨hp, g, d, t, os⟩ := s
  refine wpAny_call (PySem.HandSPX.init_base BB.base (fun Y => rfl) (I.kIn _ _ hC) ho hl fun h' t2 k hx => ?_)
  have J := I.write (t' := t) (x := a) (e := a) (o := exo a C none) (by rw [e]; exact True.intro) (.inl rfl) k ⟨_, hx⟩ (exo_ok hx)
  have eu : upd H a (exo a C none) = H := by
    funext b
    by_cases hb : b = a
    · rw [hb, upd_same, e]
    · rw [upd_ne hb]
  rw [eu] at J
  exact h _ J
end
/-- B.__init__(self) -/
def tBinit (K : PySem.W.Frag) (newId : String) (bm : List Value) (ta : TA) : TE := fun σ H Q => ta σ H fun vs H1 => ∃ (a C : Addr), vs = [.ref a] ∧ Cx1 K newId bm C ∧ H1 a = some (exo a C none) ∧ Q .non H1
/-- self.f = e, the first one -/
def tSt1 (K : PySem.W.Frag) (newId : String) (bm : List Value) (f : Str) (to te : TE) : TS := fun D σ H => te σ H fun y H1 => to σ H1 fun x H2 => ∃ a C : Addr, x = .ref a ∧ Cx1 K newId bm C ∧ PySem.W.findIn K (.ref C) f = some none ∧
  H2 a = some (exo a C none) ∧ ∀ dx, H2 dx = none → dx ≠ a → D.nx σ (upd (upd H2 dx (exd dx [(f, y)])) a (exo a C (some dx)))
section
variable {X : Cx} {o e : Expr} {es : List Expr} {to te : TE} {ta : TA} {f : Str} {p p' p1 p2 pos : Pos} {B newId initId : String} {bm : List Value} {xB : Str}
theorem pe_binit {pl : Sem Bool} (BB : Bas B newId initId bm) (hg : Gl X xB) (hm : X.mg xB = none) (hv : bootBuiltins xB = some (.type B)) (vV : PySem.W.findCls X.K (.type B) (.type "type") "__init__" = some (.val (.builtin initId))) (hh : PySem.W.handedIn (.builtin initId) = true) (ha : PA X [e] ta)
    (hn : xB ≠ "__name__" := by decide) (hd : (xB == ("__debug__" : Str)) = false := by decide)
    (hc : eval (.Call (.Attribute (.Name xB p1) "__init__" p2) [e] [] pos) X.env = (do
      let ov ← eval (.Name xB p1) X.env
      standAt p2.atName
      let (f, first) ← holding [ov] (getMethod ov "__init__" pl)
      callWith pos f first (backTo pos (starEach [e] X.env)) (backToKw pos (keywordEach [] X.env))) := by rfl)
    (he : starEach [e] X.env = (false, eval e X.env) :: starEach [] X.env := by rfl) (hpl : (backTo pos (starEach [] X.env)).any (·.1) = false := by rfl) :
    PE X (.Call (.Attribute (.Name xB p1) "__init__" p2) [e] [] pos) (tBinit X.K newId bm ta) := by
  refine ⟨fun pins s σ H Q I h => ?_⟩
  refine PySem.W.methodCall_KW (ld_blt I hg hm hv ?_ hn hd) hc
  obtain ⟨m, fr⟩ := I.fr
  refine PySem.W.method_type fr I.ok.mod.kin BB.ty BB.stub vV hh ?_
  show wpAny _ _ (callWith pos (Value.builtin initId) [] (backTo pos (starEach [e] X.env)) []) _ _ _
  refine PyProof.Rows.callWith_method1 (thn (ha.run pos pins _ σ H _ (I.tok _) h) fun us s1 ⟨vs, H1, I1, r1, a, C, ev, T, ea, q⟩ => ?_) he hpl
  subst ev
  cases r1 with
  | @cons _ u0 _ ur ra rw' =>
    obtain rfl : u0 = Value.ref a := ra
    cases rw'
    exact base_init BB T I1 ea (Nat.zero_le _) fun s' J => ⟨.non, H1, J, rfl, q⟩
theorem ps_st1 (BB : Bas B newId initId bm) (ho : PE X o to) (he : PE X e te) (hs : swapsWith e (some (.Attribute o f p')) pos.line X.env = pure false := by rfl) : PS X (.Assign [.Attribute o f p'] e pos) (tSt1 X.K newId bm f to te) := by
  refine ⟨fun pins s σ H D I h => ?_⟩
  refine plainObj_wpAny_Assign_Attribute (thn (he.run pins s σ H _ I h) fun v s1 ⟨y, H1, I1, r1, q1⟩ => thn (ho.run pins s1 σ H1 _ I1 q1) fun u s2 ⟨x, H2, I2, r2, a, C, ex, T, hno, ea, q⟩ => ?_) hs
  subst ex
  obtain rfl : u = Value.ref a := r2
  exact store1 BB T I2 ea hno r1 fun dx s' n ne J => ⟨σ, _, J, q dx n ne⟩
theorem pmk_b {CX : CXT} {x : Str} {C fI : Addr} {k : Nat} {fd : FuncData} {ps : List Str} {sp : Sp} {ds : List Value} {dvs : List V} (BB : Bas B newId initId bm) (T : Cx1 X.K newId bm C) (iC : PySem.W.findIn X.K (.ref C) "__init__" = some (some (.ref fI))) (tI : PySem.W.typeIn X.K (.ref fI) = some (.type "function"))
    (F1 : FnOk X.prog X.w X.K X.mg X.base CX k fI fd ps sp) (hr : Room (k + 1) X.A) (hb : Binds X.K fd ps ds) (hd : Vals dvs ds) (hx : Passes CX X (fun _ _ _ => False)) (hg : Gl X x) (hm : X.mg x = some (.ref C)) (ha : PA X (e :: es) ta)
    (hdb : (x == ("__debug__" : Str)) = false := by decide) (he : starEach (e :: es) X.env = (false, eval e X.env) :: starEach es X.env := by rfl) (hpl : (backTo pos (starEach es X.env)).any (·.1) = false := by rfl) :
    PMk X (.Call (.Name x p) (e :: es) [] pos) (tMkO C sp dvs ta) := by
  intro pins s σ H Q I h
  obtain ⟨nm, q, N, bs, sn, sub, ab, col, dd, k0, k1, k2, k3, k5, hC⟩ := T.cls
  refine wpAny_Call_Name_kw (ld_glob I hg hm ?_ hdb)
  refine PySem.W.callWith_K (h₀ := X.base) I.ok.mod.kin T.kC (thn (ha.run pos pins s σ H _ I h) fun us s1 ⟨vs, H1, I1, r1, hz, q1⟩ => ⟨I1.kIn, ?_⟩) he hpl
  show wpAny _ _ (call (.ref C) us) _ _ _
  obtain ⟨hp, g, dr, tk, os⟩ := s1
  have hsz : hp.objs.size ≤ hp.objs.size + 1 := Nat.le_succ _
  have hn : H1 (hp.objs.size + 1) = none := I1.hok.fresh hsz
  have hq := q1 (hp.objs.size + 1) hn
  have kk : ∀ b o, hp.get? b = some o → ((hp.push (PySem.W.kdv_tup us)).push (PySem.HandSPX.excO C hp.objs.size)).get? b = some o := fun b o e => Heap.get?_push_of_some _ (Heap.get?_push_of_some _ e)
  have hget : ((hp.push (PySem.W.kdv_tup us)).push (PySem.HandSPX.excO C hp.objs.size)).get? (hp.objs.size + 1) = some (PySem.HandSPX.excO C hp.objs.size) := by heap_get
  have I2 : Inv X pins σ (upd H1 (hp.objs.size + 1) (exo (hp.objs.size + 1) C none)) ⟨(hp.push (PySem.W.kdv_tup us)).push (PySem.HandSPX.excO C hp.objs.size), g, dr, tk, os⟩ :=
    I1.laid (t' := tk) (a := hp.objs.size + 1) (o := exo (hp.objs.size + 1) C none) (h' := (hp.push (PySem.W.kdv_tup us)).push (PySem.HandSPX.excO C hp.objs.size)) kk hsz (exo_ok hget)
  have r2 : Vals (V.ref (hp.objs.size + 1) :: (vs ++ dvs)) (Value.ref (hp.objs.size + 1) :: (us ++ ds)) := .cons rfl (r1.append hd)
  have hl : (Value.ref (hp.objs.size + 1) :: us ++ ds).length = ps.length := by
    have e := r2.length
    rw [F1.len _ _ _ _ hq] at e
    exact e.symm
  have hus : us.length ≤ sizeLine := by
    rw [← Paired.length r1, sizeLine_eq]
    omega
  refine wpAny_call (PySem.HandSPX.call_own BB.base (fun Y => rfl) (I1.kIn _ _ hC) (PySem.W.looks_findIn I1.kIn iC) (fun self => PySem.W.bind_fn I1.kIn self tI) hus
    (codeAny_mono (F1.run _ X.stack _ _ ⟨Value.ref (hp.objs.size + 1) :: us, []⟩ (Value.ref (hp.objs.size + 1) :: (us ++ ds)) _ _ (fun _ _ _ => False) (hr.make C us []) (I2.env0.make C us []) (hb _ (Value.ref (hp.objs.size + 1) :: us) I2.kIn hl) r2 hq) fun r s' hq' => ?_))
  cases r with
  | error er => exact hx pins σ _ _ er s' I2 hq'
  | ok fl =>
    cases fl with
    | ret u =>
      obtain ⟨v, H2, os2, bare2, un2, hok2, rv, ev, d, fs, ea, ed, hd1, q2⟩ := hq'
      subst ev
      obtain ⟨h2, g2, d2, t2, os'⟩ := s'
      exact ⟨rv, mk_end (raises_own T.exC T.tyC) I1 hsz kk un2 hok2 os2 bare2 ea ed hd1 q2⟩
    | next => exact False.elim hq'
    | brk => exact False.elim hq'
    | cont => exact False.elim hq'
end
end RhX
end RhExc_
section RhTry_
set_option Elab.async false
set_option linter.all false
set_option maxRecDepth 100000
set_option maxHeartbeats 4000000
/-! try: body, except (A, B, C, D) as n: y = n, every exception of the body one of the four; behind it y holds the exception, tracked. -/
namespace RhX
open PySem PySem.Spec PyProof.Rows L2
/-- an exception that is kept by a name: its class, its own dict -/
def exk (a : Addr) (cls : Value) (d : Option Addr) : HO := .ext fun h => ∃ (oe : Obj) (vs : Array Value), h.get? a = some oe ∧ oe.cls = cls ∧ oe.dict = d ∧ oe.data = .fields vs
theorem exk_ok {P : Program} {w : World} {H : Hp} {h : Heap} {a : Addr} {oe : Obj} {vs : Array Value} (e : h.get? a = some oe) (hd : oe.data = .fields vs) : ObjOk P w H h a (exk a oe.cls oe.dict) :=
  ⟨⟨oe, vs, e, rfl, rfl, hd⟩, ⟨_, e⟩, fun h1 h2 z k => by
    obtain ⟨o, v, q, r⟩ := z
    exact ⟨o, v, k _ q, r⟩⟩
theorem exk_at {P : Program} {w : World} {H : Hp} {h : Heap} {a : Addr} {cls : Value} {d : Option Addr} (hok : HOk P w H h) (e : H a = some (exk a cls d)) : ∃ (oe : Obj) (vs : Array Value), h.get? a = some oe ∧ oe.cls = cls ∧ oe.dict = d ∧ oe.data = .fields vs := by
  have x : ObjOk P w H h a (.ext fun h => ∃ (oe : Obj) (vs : Array Value), h.get? a = some oe ∧ oe.cls = cls ∧ oe.dict = d ∧ oe.data = .fields vs) := hok a _ e
  exact x.1
section
variable {X : Cx} {pins : List (Addr × Obj)} {σ : L2.St} {H : Hp} {s : Shared} {a : Addr} {oe : Obj} {vs : Array Value}
/-- from here on it is tracked -/
theorem adopt (I : Inv X pins σ H s) (ha : s.heap.get? a = some oe) (hd : oe.data = .fields vs) (na : H a = none) (nL : a ≠ X.env.locals) (n0 : X.s_0.heap.get? a = none) (np : ∀ p ∈ X.pn ++ pins, p.1 ≠ a) :
    Inv X pins σ (upd H a (exk a oe.cls oe.dict)) s := by
  have nb : ∀ b u, H b = some u → b ≠ a := fun b u e => ne_of_none e na
  refine ⟨I.ok, I.os, I.bare, ⟨I.base.keep, I.base.slot, fun b o e n hx => ?_, I.base.there, fun b xs e => ?_, fun b o u e => ?_, fun b ps e => ?_⟩, I.loc, I.cell, ?_, fun x c e => ?_, fun p hp => ?_, fun b u e => ?_, I.len⟩
  · rw [upd_ne (fun z => by rw [z, n0] at e; cases e)]
    exact I.base.free b o e n hx
  · have q := I.base.tups b xs e
    rw [upd_ne (nb _ _ q)]
    exact q
  · have q := I.base.frzs b o u e
    rw [upd_ne (nb _ _ q)]
    exact q
  · obtain ⟨more, q⟩ := I.base.tbls b ps e
    exact ⟨more, by rw [upd_ne (nb _ _ q)]; exact q⟩
  · rw [upd_ne (Ne.symm nL)]
    exact I.free
  · obtain ⟨v, o, q, z⟩ := I.cell x c e
    rw [upd_ne (fun y => by rw [y, ha] at q; cases q; rw [hd] at z; cases z)]
    exact I.freeC x c e
  · obtain ⟨h1, h2, h3, h4, h5⟩ := I.pin p hp
    exact ⟨h1, by rw [upd_ne (np p hp)]; exact h2, h3, h4, h5⟩
  · by_cases hb : b = a
    · subst hb
      rw [upd_same] at e
      cases e
      exact exk_ok ha hd
    · rw [upd_ne hb] at e
      exact (I.hok b u e).stay (fun _ _ _ q => q) (fun c q => by rw [upd_ne (nb _ _ q)]; exact q) fun c xs q => by rw [upd_ne (nb _ _ q)]; exact q
theorem fly_keeps {B h h' : Heap} {l : List Env} {Z : Obj → Prop} (k : ∀ b o, h.get? b = some o → h'.get? b = some o) (x : HandSPX.FlyingZ B l a Z h) : HandSPX.FlyingZ B l a Z h' := by
  obtain ⟨k1, k2, k3, o, v, T, oT, ts, e1, e2, e3, e4, e5, e6, e7, e8, e9⟩ := x
  exact ⟨fun b o e => k b o (k1 b o e), k2, Heap.FunFrames.of_keeps (fun b o e _ => ⟨o, k b o e, rfl⟩) k3, o, v, T, oT, ts, k _ _ e1, e2, e3, e4, e5, e6, k _ _ e7, e8, e9⟩
end
/-- what the clause wishes of an exception of the body -/
def wKp (K : PySem.W.Frag) (cs : List Value) (i j : Nat) (D : Ends) : WX := fun cls d σ H => PySem.W.exmAny K cls cs = some true ∧
  ∀ a, H a = none → D.nx (((σ.set i (some (.ref a))).set j (some (.ref a))).set i none) (upd H a (exk a cls d))
section
variable {X : Cx} {x1 x2 x3 x4 n : Str} {c1 c2 c3 c4 : Value} {i j : Nat} {body suite : List Stmt} {b0 : Stmt} {q1 q2 q3 q4 np pos pos' : Pos} {kt : Nat} {tb : WX → TS}
theorem ps_try_keep (hs : X.stack = X.env :: X.outer) (hf : X.env.frame = some X.env.locals) (hex : X.ex = []) (hN : X.N.Nodup) (hi : X.N[i]? = some n) (hln : X.env.kindOf n = some .local) (hc1 : Names X x1 c1) (hc2 : Names X x2 c2) (hc3 : Names X x3 c3) (hc4 : Names X x4 c4)
    (hb : ∀ (W : WX) (pn : List (Addr × Obj)) (xe : Value → Shared → Prop), Takes (X.tr pn xe) W → PassesOwn (model X.prog X.w) X.A X.env xe → PSs (X.tr pn xe) body (tb W))
    (hsu : ∀ (a : Addr) (oe : Obj) (pn : List (Addr × Obj)), PSs (X.suite a ((a, oe) :: pn)) (b0 :: suite) (tAsg (tVar i) (gName j)))
    (hst : starEach [(.Name x1 q1 : Expr), .Name x2 q2, .Name x3 q3, .Name x4 q4] X.env = [(false, eval (.Name x1 q1) X.env), (false, eval (.Name x2 q2) X.env), (false, eval (.Name x3 q3) X.env), (false, eval (.Name x4 q4) X.env)] := by rfl) :
    PS X (.Try body [.ExceptHandler (some (.Tuple [.Name x1 q1, .Name x2 q2, .Name x3 q3, .Name x4 q4] kt np)) (some n) (b0 :: suite) pos'] [] [] pos) (fun D σ H => tb (wKp X.K [c1, c2, c3, c4] i j D) D σ H) := by
  refine ⟨fun pins s σ H D I h => ?_⟩
  have ok := I.ok
  have hfr : X.A.frames = some (X.env :: X.outer) := by rw [ok.frames, hs]
  have hloc : Loc X.env.scope n := .inl hln
  refine wpAny_Try_except ?_
  refine wpAny_mono ((hb (wKp X.K [c1, c2, c3, c4] i j D) (X.pn ++ pins) (fun e s1 => wpAny (model X.prog X.w) X.A (noteFrame e X.env) (fun _ s2 => wpAny (model X.prog X.w) X.A (setFlight e none) (fun _ s3 =>
    wpAny (model X.prog X.w) X.A (handleBy e X.env [.ExceptHandler (some (.Tuple [.Name x1 q1, .Name x2 q2, .Name x3 q3, .Name x4 q4] kt np)) (some n) (b0 :: suite) pos']) (SP X pins D) X.xe s3) X.xe s2) X.xe s1) (fun u s' xx => ?_) PassesOwn.looking).run [] s σ H D (I.toTry _) h) (fun f s1 hsp => ?_) (fun e s1 he => he)
  · obtain ⟨a, B, sI, pins', σ', H', cls, d, rfl, J', nb, up, sky, na, os, ag, hb1, hyes⟩ := xx
    have J : Inv X pins σ' H' sI := J'.ofTry ok
    have sky' : Sky B (X.env :: X.outer) a (Zc cls d) X.env.locals s'.heap := by rw [← hs]; exact sky
    show wpAny (model X.prog X.w) X.A (noteFrame (.ref a) X.env) _ _ _
    refine Sky.land Zc.steady hfr hf sky' fun h3 fl3 up3 => ?_
    have J3 : Inv X pins σ' H' { s' with heap := h3 } := J.landed nb fl3.1 (up.trans up3) os ag
    obtain ⟨oe3, vs3, he3, hz3, hd3⟩ := fl3.there
    have notFr : ∀ {h : Heap} {o : Obj} {vs : Array Value}, h.FunFrames B (X.env :: X.outer) → h.get? a = some o → o.data = .fields vs → a ∉ frs (X.env :: X.outer) := fun {h o vs} ff e dd hm => by
      obtain ⟨_, o', e', hnf⟩ := ff.mem hm
      rw [e] at e'; cases e'
      exact hnf _ dd
    have nfr := notFr fl3.2.2.1 he3 hd3
    have nL : a ≠ X.env.locals := fun z => nfr (List.mem_filterMap.mpr ⟨X.env, List.mem_cons_self, by rw [hf, z]⟩)
    have nF : a ∉ X.fs := fun hm => by
      obtain ⟨e, he, q⟩ := List.mem_filterMap.mp hm
      exact nfr (List.mem_filterMap.mpr ⟨e, List.mem_cons_of_mem _ he, q⟩)
    have nI : sI.heap.get? a = none := by
      cases q : sI.heap.get? a with
      | none => rfl
      | some o =>
        have z := nb a o q (by rw [hs]; exact nfr)
        rw [fl3.2.1] at z
        cases z
    have n0 : X.s_0.heap.get? a = none := by
      cases q : X.s_0.heap.get? a with
      | none => rfl
      | some o =>
        obtain ⟨o', z⟩ := J.base.there a o q (by rw [hex]; simp)
        rw [nI] at z
        cases z
    have nP : ∀ p ∈ X.pn ++ pins, p.1 ≠ a := fun p hp z => by
      have q := (J.pin p hp).1
      rw [z, nI] at q
      cases q
    have S3 := J3.suite he3 hd3 na nL nF
    refine wpAny_handleBy_cons (codeAny_handlers_test ?_) (by intro q; cases q)
    have one : ∀ {x : Str} {c : Value} {p : Pos} {Q : Value → Shared → Prop} {E : Value → Shared → Prop}, Names X x c → Q c { s' with heap := h3 } → wpAny (model X.prog X.w) (X.A.mark (some (.ref a))) (eval (.Name x p) X.env) Q E { s' with heap := h3 } := fun {x c p Q E} hc q => by
      obtain ⟨hg, hdbg, hm | ⟨hm, hv, hnn⟩⟩ := hc
      · exact ld_glob (X := X.suite a ((a, oe3) :: (X.pn ++ pins))) S3 hg hm q hdbg
      · exact ld_blt (X := X.suite a ((a, oe3) :: (X.pn ++ pins))) S3 hg hm hv q hnn hdbg
    refine wpAny_Tuple_spliced ?_
    rw [hst]
    refine Calls.spliced_cons (one hc1 (Calls.spliced_cons (one hc2 (Calls.spliced_cons (one hc3 (Calls.spliced_cons (one hc4 (Calls.spliced_nil ⟨?_, ?_⟩))))))))
    · show 4 ≤ sizeLine
      decide
    · have k5 : ∀ b o, h3.get? b = some o → (h3.push { cls := .type "tuple", data := .seq [c1, c2, c3, c4].toArray }).get? b = some o := fun b o e => Heap.get?_push_of_some _ e
      have fl5 := fly_keeps k5 fl3
      have he5 := k5 _ _ he3
      have J5 : Inv X pins σ' H' { s' with heap := h3.push { cls := .type "tuple", data := .seq [c1, c2, c3, c4].toArray } } := J3.kept (t' := s'.toks) k5
      have LT : PySem.W.Looks (model X.prog X.w) (h3.push { cls := .type "tuple", data := .seq [c1, c2, c3, c4].toArray }) (typeOf (.ref a)) cls := fun A Q E s k q => wpAny_typeOf_ref (k _ _ he5) (by rw [hz3.1]; exact q)
      have LM := PySem.W.exm_tup4 (M := model X.prog X.w) J5.kIn LT (Heap.get?_push_size h3 (o := { cls := .type "tuple", data := .seq [c1, c2, c3, c4].toArray }) rfl) hb1
      refine LM.here ?_
      refine codeAny_handlers_suite_as ?_
      refine HandSPX.lands_againZ fl5 fun h4 fl4 up4 => ?_
      have up5 : h3.UpToSlots (h3.push { cls := .type "tuple", data := .seq [c1, c2, c3, c4].toArray }) := fun b o e _ => ⟨o.slots, k5 b o e⟩
      have J4 : Inv X pins σ' H' { s' with heap := h4 } := J.landed nb fl4.1 (((up.trans up3).trans up5).trans up4) os ag
      obtain ⟨oe4, vs4, he4, hz4, hd4⟩ := fl4.there
      have S4 := J4.suite he4 hd4 na nL nF
      refine store_ok (X := X.suite a ((a, oe4) :: (X.pn ++ pins))) (v := .ref a) S4 hN hi hloc rfl (fun s5 S5 => ?_) (.inr hln)
      have hlt : i < σ'.length := by rw [J4.len]; exact (List.getElem?_eq_some_iff.mp hi).1
      refine wpAny_mono ((hsu a oe4 (X.pn ++ pins)).run [] s5 _ H' { nx := fun σ2 H2 => σ2 = (σ'.set i (some (.ref a))).set j (some (.ref a)) ∧ H2 = H', rt := fun _ _ => False } S5 ⟨.ref a, List.getElem?_set_self hlt, rfl, rfl⟩) (fun f s6 hsp => ?_) (fun _ _ z => False.elim z)
      cases f with
      | next =>
        obtain ⟨σ6, H6, S6, e6, e7⟩ := hsp
        subst e6 e7
        obtain ⟨g1, g2, _⟩ := S6.pin (a, oe4) (List.mem_append_left _ List.mem_cons_self)
        have J6 := adopt (S6.unsuite ok) g1 hd4 g2 nL n0 nP
        rw [hz4.1, hz4.2] at J6
        refine gone_ok J6 hN hi hln fun s7 J7 => ⟨_, _, J7, hyes a na⟩
      | brk =>
        obtain ⟨σ6, H6, S6, q6⟩ := hsp
        exact q6.elim
      | cont =>
        obtain ⟨σ6, H6, S6, q6⟩ := hsp
        exact q6.elim
      | ret u =>
        obtain ⟨v6, σ6, H6, S6, r6, q6⟩ := hsp
        exact q6.elim
  · cases f with
    | next =>
      obtain ⟨σ', H', J', q⟩ := hsp
      exact wpAny_execs_nil ⟨σ', H', J'.ofTry ok, q⟩
    | brk =>
      obtain ⟨σ', H', J', q⟩ := hsp
      exact ⟨σ', H', J'.ofTry ok, q⟩
    | cont =>
      obtain ⟨σ', H', J', q⟩ := hsp
      exact ⟨σ', H', J'.ofTry ok, q⟩
    | ret u =>
      obtain ⟨v, σ', H', J', r, q⟩ := hsp
      exact ⟨v, σ', H', J'.ofTry ok, r, q⟩
end
end RhX
end RhTry_
section RhIs_
set_option Elab.async false
set_option linter.all false
set_option maxRecDepth 100000
set_option maxHeartbeats 4000000
/-! isinstance of a kept exception; a field of it. -/
namespace RhX
section
open PySem PySem.Spec PySem.W PySem.Calls PyProof.Rows
variable {prog : Program} {w : World} {A : Around} {E : Value → Shared → Prop} {s : Shared} {K : Frag} {x D : Addr} {ox : Obj} {od : Option Obj}
theorem find_cls {C : Addr} {name : Str} {a g : Value} (hc : (clsIn K C).isSome = true) (ha : findIn K (.ref C) name = some (some a)) (hg : specialIn K a "__get__" = some (some g)) (ht : takesIn K a = some true) : findObj K C od name = some (.bind g a) := by
  obtain ⟨cd, hc⟩ := Option.isSome_iff_exists.mp hc
  unfold findObj
  rw [hc, Option.bind_some, ha, Option.bind_some]
  simp [hg, ht]
theorem class_of {Q : Option Value → Shared → Prop} (C : L2.ExcC K D) (X : K.In s.heap) (I : InstAt s.heap x ox D od) (h : Q (some (.ref D)) { s with toks := s.toks + 1 }) : wpAny (model prog w) A (getAttr? (.ref x) "__class__") Q E s := by
  have hf : findObj K D od "__class__" = some (.bind (.builtin "getset_descriptor.__get__") (.builtin "object.__class__")) := find_cls (by obtain ⟨cd, hc, _⟩ := any_some C.hd; rw [hc]; rfl) C.ha C.hn C.ht
  obtain ⟨hp, g, d, t, os⟩ := s
  have L0 := I.type (M := model prog w)
  have L1 := looks_findIn (M := model prog w) X C.hg
  have L2 := looks_findIn (M := model prog w) X C.hk
  have L3 := looks_find (M := model prog w) X I hf
  have sub : Looks (model prog w) hp (isInstance (.ref x) (.type "BaseException")) true := L0.andThen (looks_subIn X C.hs)
  have hx0 : (false && onTheHeap (Value.builtin "BaseException.__getattribute__")) = false := rfl
  have hx2 : (Value.builtin "BaseException.__getattribute__" == Value.builtin "object.__getattribute__") = false := by decide +kernel
  have hx1 : (onTheHeap (Value.ref D) && Value.builtin "BaseException.__getattribute__" == Value.builtin "object.__getattribute__") = false := by rw [hx2]; rfl
  unfold getAttr? getAttrBy? getAttrBy
  refine wpAny_bind (wpAny_mkText (wpAny_bind (wpAny_attempt (wpAny_holding (wpAny_bind (L0.at (wpAny_bind (L1.at ?_))))))))
  show wpAny _ _ (if (onTheHeap (Value.ref D) && Value.builtin "BaseException.__getattribute__" == Value.builtin "object.__getattribute__") = true then _ else _) _ _ _
  rw [hx1, if_neg Bool.false_ne_true]
  unfold getAttrByItsOwn hookBefore
  refine wpAny_bind ?_
  rw [if_pos (show onTheHeap (Value.ref D) = true from rfl)]
  refine L2.at ?_
  refine wpAny_bind (wpAny_attempt (wpAny_holding ?_))
  unfold callGetattribute
  rw [hx0, if_neg Bool.false_ne_true]
  unfold boundAndCalled
  rw [PySem.F.excAttr_ValueError.ga.bind (.ref x)]
  refine wpAny_bind (wpAny_pure ?_)
  show wpAny _ _ (call (.builtin "BaseException.__getattribute__") [.ref x, .str "__class__" t]) _ _ _
  refine wpAny_call (codeAny_call_builtin PySem.F.excAttr_ValueError.ga.plain PySem.F.entry_bexc_ga ?_)
  refine @check_slot (model prog w) _ _ ⟨hp, g, d, t + 1, os⟩ "BaseException.__getattribute__" "BaseException" "__getattribute__" (.ref x) [.str "__class__" t] [] _ (by decide +kernel) (by decide +kernel) sub (PySem.F.args_bexc_ga (.ref x) (.str "__class__" t)) ?_
  unfold Builtin.«object.__getattribute__»
  refine wpAny_bind (wpAny_of_eq (a := ((Value.ref x : Value), [Value.str "__class__" t])) (by first | rfl | (simp only [slotArgs]; rfl)) ?_)
  refine wpAny_bind (wpAny_pure (wpAny_bind (L0.at (wpAny_bind (L3.at ?_)))))
  show wpAny _ _ (holding [Value.builtin "object.__class__"] (call (.builtin "getset_descriptor.__get__") [.builtin "object.__class__", .ref x, .ref D]) >>= ret) _ _ _
  refine wpAny_bind (wpAny_holding (wpAny_call (class_get (s := ⟨hp, g, d, t + 1, os⟩) (ox := ox) (od := od) X I C.hm ?_)))
  refine wpAny_pure ?_
  show wpAny _ _ (handedOut (.ref D)) _ _ _
  rw [handedOut_of (v := .ref D) rfl]
  first
    | exact wpAny_pure (wpAny_pure h)
    | exact wpAny_pure h
    | exact wpAny_pure (wpAny_bind (wpAny_pure (wpAny_pure h)))
theorem kit_exk (C : L2.ExcC K D) : KitX K (.ref x) (.ref D) (fun h => InstAt h x ox D od) where
  ty := fun _ _ _ I => I.type
  it := fun _ _ X _ => by
    obtain ⟨cdD, hcD, _⟩ := any_some C.hd
    unfold clsIn at hcD
    split at hcD
    · rename_i c' d' cd' sl' ho
      intro A' Q' E' s' k q
      unfold isType loadHead
      exact wpAny_bind (wpAny_loadPart (k _ _ (X _ _ ho)) (wpAny_pure q))
    · cases hcD
  ne := fun h tp dd its n sl X htp => by
    obtain ⟨cdD, hcD, _⟩ := any_some C.hd
    refine Bool.eq_false_iff.mpr fun q => ?_
    have e : D = tp := Value.ref.inj (beq_iff_eq.mp q)
    subst e
    unfold clsIn at hcD
    split at hcD
    · rename_i c' d' cd' sl' ho
      have z := (X _ _ ho).symm.trans htp
      cases z
    · cases hcD
  ca := fun X I k => class_of C X I k
end
end RhX
namespace RhX
open PySem PySem.Spec PyProof.Rows L2
/-- isinstance(e, c), e kept -/
def rIsX (K : PySem.W.Frag) : List V → Hp → VK → Prop := fun xs H Q => ∃ (a D dd : Addr) (fs : List (Str × V)) (c : V) (cv : Value) (b : Bool), xs = [.ref a, c] ∧ ClsV c cv ∧ ExcC K D ∧ H a = some (exk a (.ref D) (some dd)) ∧ H dd = some (.xd fs) ∧ PySem.W.kitOne K (.ref D) cv = some b ∧ Q (.bl b) H
section
variable {X : Cx}
theorem exk_inst {pins : List (Addr × Obj)} {σ : L2.St} {H : Hp} {s : Shared} {a D dd : Addr} {fs : List (Str × V)} (I : Inv X pins σ H s) (e1 : H a = some (exk a (.ref D) (some dd))) (e2 : H dd = some (.xd fs)) :
    ∃ (oe od : Obj) (mA : Str → Option Value), PySem.W.InstAt s.heap a oe D (some od) ∧ s.heap.get? dd = some od ∧ s.heap.Ns1 dd mA ∧ ∀ f, RelO (fs.lookup f) (mA f) := by
  obtain ⟨oe, vs, g, hc, hd, hv⟩ := exk_at I.hok e1
  obtain ⟨mA, hns, hr⟩ := (show ObjOk X.prog X.w H s.heap dd (.xd fs) from I.hok dd _ e2)
  obtain ⟨od, es, ep, ho, r⟩ := id hns
  exact ⟨oe, od, mA, ⟨g, hc, by unfold PySem.W.notCls; rw [hv] <;> rfl, by rw [hd]; exact ho⟩, ho, hns, hr⟩
theorem call_isX : CallR X (.builtin "isinstance") (rIsX X.K) := by
  intro pins s σ H xs us Q I r h
  obtain ⟨a, D, dd, fs, c, cv, b, rfl, k, C, e1, e2, e, q⟩ := h
  obtain ⟨u1, u2, rfl, r1, r2⟩ := vals2 r
  cases (show u1 = Value.ref a from r1)
  have e3 := k.eq r2
  subst e3
  obtain ⟨oe, od, mA, J, _⟩ := exk_inst I e1 e2
  exact PySem.W.kia_one (kit_exk C) I.kIn J e (fun z => nomatch z) fun tk => ⟨.bl b, H, I.kept (t' := tk) fun _ _ z => z, rfl, q⟩
end
/-- e.f, e kept -/
def tFldX (K : PySem.W.Frag) (te : TE) (f : Str) : TE := fun σ H Q => te σ H fun x H1 => ∃ (a D dd : Addr) (fs : List (Str × V)) (v : V), x = .ref a ∧ ExcC K D ∧ PySem.W.findIn K (.ref D) f = some none ∧ H1 a = some (exk a (.ref D) (some dd)) ∧ H1 dd = some (.xd fs) ∧ fs.lookup f = some v ∧ Q v H1
theorem pe_fldX {X : Cx} {e : Expr} {te : TE} {pos : Pos} {f : Str} (he : PE X e te) (hb : attributeBase e f X.env (eval e X.env) = eval e X.env := by rfl) : PE X (.Attribute e f pos) (tFldX X.K te f) := by
  refine ⟨fun pins s σ H Q I h => ?_⟩
  refine attr_of hb (thn (he.run pins s σ H _ I h) fun u s1 hh => ?_)
  obtain ⟨x, H1, I1, rx, a, D, dd, fs, v, ex, C, noN, e1, e2, l, q⟩ := hh
  subst ex
  obtain rfl : u = Value.ref a := rx
  obtain ⟨oe, od, mA, J, ho, hns, hr⟩ := exk_inst I1 e1 e2
  obtain ⟨od', ho', hl⟩ := lookIn_ns hns
  rw [ho] at ho'
  cases ho'
  obtain ⟨u, hu, ru⟩ := RelO.some_of (v := v) (o := mA f) (by rw [← l]; exact hr f)
  exact HandSPX.exc_get I1.kIn J C.hg C.hk C.hs (PySem.W.findObj_own C.hd noN rfl (by rw [hl, hu])) (handed_of ru) ⟨v, H1, I1.tok _, ru, q⟩
end RhX
end RhIs_
section RhRules_
set_option Elab.async false
set_option linter.all false
set_option maxRecDepth 100000
set_option maxHeartbeats 4000000
/-! Further rules: a, *b = t; get of a written dict; list.count of flat things; own ==, !=, len; methods with keywords; max of a tuple. -/
namespace RhR
open PySem PySem.Spec PyProof.Rows L2
/-! ### a, *b = a tuple -/
section
variable {prog : Program} {w : World} {A : Around} {E : Value → Shared → Prop} {s : Shared}
theorem star_items {l : Addr} {items : Array Value} {Q : List Value → Shared → Prop} (hl : IsTup s.heap l items) (hh : A.handled = none) (h1 : 1 ≤ items.size) (hz : items.size ≤ 16384)
    (h : ∀ h' tk D, (∀ b o, s.heap.get? b = some o → h'.get? b = some o) → s.heap.get? D = none → h'.get? D = some { cls := .type "list", data := .seq (items.toList.drop 1).toArray } → Q (items.toList.take 1 ++ [.ref D]) { s with heap := h', toks := tk }) :
    wpAny (model prog w) A (unpackItems (.ref l) 2 (some 1)) Q E s := by
  have hlt : l ≠ s.heap.objs.size := by obtain ⟨o, ho, _⟩ := hl; exact Nat.ne_of_lt (Heap.lt_size ho)
  unfold unpackItems
  refine wpAny_bind ?_
  unfold notIterableAtAll
  refine wpAny_bind (wpAny_specialOf hl.typeIs slot_tuple_iter.lookup ?_)
  refine wpAny_pure ?_
  simp only [Bool.false_eq_true, if_false]
  refine wpAny_bind (wpAny_holding (iter_tuple hl ?_))
  refine wpAny_bind (wpAny_holding (draw_tuple hlt 1 0 _ _ ⟨_, Heap.get?_push_size _ rfl, rfl, rfl⟩ (hl.push _) (by omega) fun g1 hit1 hs1 => ?_))
  have hl1 : IsTup g1 l items := (hl.push _).extBut hs1.extBut hlt
  rw [Nat.zero_add] at hit1
  obtain ⟨oi, hoi, _⟩ := id hit1
  obtain ⟨ol, hol, _⟩ := id hl1
  rw [List.drop_zero]
  have hfl : (items.toList.take 1).length = 1 := by rw [List.length_take, Array.length_toList]; omega
  rw [if_neg (show ¬ ((items.toList.take 1).length < 1) by rw [hfl]; omega)]
  refine wpAny_bind (wpAny_holding (PySem.W.kun_collect (s := { s with heap := g1 }) (T := "tuple_iterator") (.inr (.inr (.inr rfl))) (Walks.tuple (A := A.in1) hh s.heap.objs.size l hlt items) (fun j u st => st.1.typeIs) (k := 1) (by omega) ⟨hit1, hl1⟩ (Heap.lt_size hoi) (Heap.lt_size hol) (fun g2 tk hk => ?_) (by rw [sizeLine_eq]; omega)))
  have hrl : (items.toList.drop 1).length = items.size - 1 := by rw [List.length_drop, Array.length_toList]
  show wpAny _ _ (if (items.toList.drop 1).length < 2 - 1 - 1 then _ else _) _ _ _
  rw [if_neg (by omega)]
  show wpAny _ _ (newList ((items.toList.drop 1).take ((items.toList.drop 1).length - (2 - 1 - 1))) >>= fun d => pure (items.toList.take 1 ++ [d] ++ (items.toList.drop 1).drop ((items.toList.drop 1).length - (2 - 1 - 1)))) _ _ _
  have e1 : (items.toList.drop 1).take ((items.toList.drop 1).length - (2 - 1 - 1)) = items.toList.drop 1 := List.take_of_length_le (by omega)
  have e2 : (items.toList.drop 1).drop ((items.toList.drop 1).length - (2 - 1 - 1)) = [] := List.drop_of_length_le (by omega)
  rw [e1, e2]
  have keep : ∀ b o, s.heap.get? b = some o → g2.get? b = some o := fun b o e => hk b o (Nat.ne_of_lt (Heap.lt_size e)) (hs1.extBut b o (Nat.ne_of_lt (Heap.lt_size e)) (Heap.get?_push_of_some _ e))
  refine wpAny_bind (wpAny_newList (wpAny_pure ?_) (by rw [hrl, sizeLine_eq]; omega))
  rw [List.append_nil]
  refine h _ tk g2.objs.size (fun b o e => Heap.get?_push_of_some _ (keep b o e)) ?_ (Heap.get?_push_size _ rfl)
  cases e : s.heap.get? g2.objs.size with
  | none => rfl
  | some o => exact absurd (Heap.lt_size (keep _ _ e)) (Nat.lt_irrefl _)
end
section
variable {X : Cx} {pins : List (Addr × Obj)} {σ : L2.St} {H : Hp} {s : Shared} {h' : Heap}
theorem gone_of {P : Program} {w : World} {h : Heap} {a : Addr} (x : HOk P w H h) (e : h.get? a = none) : H a = none := by
  cases q : H a with
  | none => rfl
  | some u =>
    have y := x a u q
    have z : ∃ o, h.get? a = some o := by
      cases u with
      | lst xs => obtain ⟨_, _, _, _, e⟩ := y; exact ⟨_, e⟩
      | tup xs => obtain ⟨_, _, _, o, e, _⟩ := y; exact ⟨_, e⟩
      | dK kvs => obtain ⟨_, _, _, _, o, _, _, e, _⟩ := y; exact ⟨_, e⟩
      | dT kvs => obtain ⟨_, _, _, _, o, _, _, e, _⟩ := y; exact ⟨_, e⟩
      | set S n => obtain ⟨o, _, _, _, e, _⟩ := y; exact ⟨_, e⟩
      | ins C dx fs => obtain ⟨_, _, _, e, _⟩ := y; exact ⟨_, e⟩
      | own y' => exact y
      | xd fs => obtain ⟨_, ⟨_, _, _, e, _⟩, _⟩ := y; exact ⟨_, e⟩
      | rng lo hi => obtain ⟨_, _, _, e⟩ := y; exact ⟨_, e⟩
      | frz ob u => obtain ⟨e, _⟩ := y; exact ⟨_, e⟩
      | tbl ps => exact ⟨_, (show h.get? a = some _ from y)⟩
      | met f y' => exact ⟨_, (show h.get? a = some _ from y)⟩
      | ext φ => obtain ⟨_, e, _⟩ := y; exact e
    obtain ⟨o, z⟩ := z
    rw [e] at z
    cases z
/-- a new object, laid where nothing stood -/
theorem laid2 {a : Addr} {o : HO} {t' : Nat} (I : Inv X pins σ H s) (k : ∀ b u, s.heap.get? b = some u → h'.get? b = some u) (na : s.heap.get? a = none) (new : ObjOk X.prog X.w (upd H a o) h' a o) : Inv X pins σ (upd H a o) { s with heap := h', toks := t' } := by
  have hn : H a = none := gone_of I.hok na
  have ne : ∀ {b : Addr} {u : Obj}, s.heap.get? b = some u → b ≠ a := fun {b u} e z => by rw [z, na] at e; cases e
  refine I.un (t' := t') ⟨fun b u q _ _ _ => k b u q, fun b u q _ _ _ => ⟨u.slots, k b u q⟩, fun b u q n _ => by rw [upd_ne (ne q)]; exact n, fun b u q _ => ⟨u, k b u q⟩, fun b xs q => by rw [upd_ne (ne_of_none q hn)]; exact q, fun b u xs q => by rw [upd_ne (ne_of_none q hn)]; exact q, fun b ps q => ⟨#[], by rw [upd_ne (ne_of_none q hn), q]; simp⟩⟩ fun b u e => ?_
  by_cases hb : b = a
  · subst hb
    rw [upd_same] at e
    cases e
    exact new
  · rw [upd_ne hb] at e
    exact (I.hok b u e).stay (fun c v _ q => k c v q) (fun c q => by rw [upd_ne (ne_of_none q hn)]; exact q) fun c xs q => by rw [upd_ne (ne_of_none q hn)]; exact q
/-- x, *ys = v: v a tuple of one at least -/
def gStar (K : PySem.W.Frag) (i j : Nat) : TG := fun v σ H Q => ∃ a x xs, v = .ref a ∧ SqT K H a (x :: xs) ∧ xs.length ≤ 1000 ∧ ∀ p, H p = none → Q ((σ.set i (some x)).set j (some (.ref p))) (upd H p (.lst xs))
theorem pg_star {x y : Str} {i j : Nat} {k : Nat} {px py ps pos : Pos} (hc : X.calm = true) (hN : X.N.Nodup) (hi : X.N[i]? = some x) (hj : X.N[j]? = some y) (hx : X.env.scope.names.lookup x = some .local) (hy : X.env.scope.names.lookup y = some .local)
    (ha : assignEach [.Name x px, .Starred (.Name y py) ps] X.env = [(false, assign (.Name x px) X.env), (true, assign (.Name y py) X.env)] := by rfl) : PG X (.Tuple [.Name x px, .Starred (.Name y py) ps] k pos) (gStar X.K i j) := by
  refine ⟨fun pins s σ H v u Q I r hw => ?_⟩
  obtain ⟨a, x0, xs, e1, hq, hl, hw⟩ := hw
  subst e1
  cases r
  obtain ⟨its, rv, ht, hz⟩ := I.tuple hq
  have hlen := rv.length
  rw [PyProof.Rows.assign_Tuple]
  refine wpAny_bind (wpAny_standAt ?_)
  unfold unpack
  rw [ha]
  show wpAny _ _ (holding [Value.ref a] (unpackItems (.ref a) 2 (some 1)) >>= fun r => assignInOrder [assign (.Name x px) X.env, assign (.Name y py) X.env] r) _ _ _
  refine wpAny_bind (wpAny_holding (star_items ht (I.ok.hd hc) (by simp at hlen; simp; omega) (by simp at hlen; simp; omega) fun h' tk D kk nD hD => ?_))
  cases rv with
  | @cons _ u0 _ us r0 rs =>
    have I1 : Inv X pins σ (upd H D (.lst xs)) { s with heap := h', toks := tk } := laid2 (t' := tk) I kk nD ⟨Nat.le_trans hl (by rw [sizeLine_eq]; omega), us, 0, rs, by simpa using hD⟩
    show wpAny _ _ (assignInOrder _ [u0, .ref D]) _ _ _
    refine assignInOrder_cons (wpAny_assign_Name (store_ok I1 hN hi (.inl hx) r0 (fun s2 I2 => ?_) (.inr hx)))
    refine assignInOrder_cons (wpAny_assign_Name (store_ok (v := .ref D) I2 hN hj (.inl hy) rfl (fun s3 I3 => ?_) (.inr hy)))
    exact assignInOrder_nil ⟨_, _, I3, hw D (gone_of I.hok nD)⟩
end

/-! ### d.get(k), d a written dict with text keys -/
def tKget (K : PySem.W.Frag) (d : Addr) (to te : TE) : TE := fun σ H Q => to σ H fun x H1 => x = .ref d ∧ te σ H1 fun y H2 => ∃ (z : Str) (r : Option Value) (v : V), y = .str z ∧ PySem.W.nsIn K d z = some r ∧ RelV v (r.getD .none) ∧ Q v H2
theorem pe_kget {X : Cx} {d : Addr} {es : Array DictEntry} {n : Nat} {o e : Expr} {to te : TE} {apos cpos : Pos} (D : KDict X.K X.w d es n) (ho : PE X o to) (he : PE X e te) (m : M1 X o "get" apos e cpos) : PE X (.Call (.Attribute o "get" apos) [e] [] cpos) (tKget X.K d to te) := by
  refine ⟨fun pins s σ H Q I h => ?_⟩
  refine wpAny_Call_method m.base m.few m.line PySem.F.plainAttrs_dict PySem.F.slot_dict_get PySem.F.type_dict_get (thn (ho.run pins s σ H _ I h) fun u s1 ⟨x, H1, I1, rx, ex, q1⟩ => ?_)
  subst ex
  obtain rfl : u = Value.ref d := rx
  refine ⟨kd_type D I1, fun a e => by cases e; exact ⟨_, I1.kIn _ _ D.at_, rfl⟩, ?_⟩
  rw [m.trees]
  refine Calls.callWith_builtin rfl (Calls.evalArgs_plain (Calls.spliced_cons (thn (he.run pins s1 σ H1 _ I1 q1) fun iv s2 ⟨y, H2, I2, ry, z, r, v, ey, e, rv, q2⟩ => Calls.spliced_nil ?_)))
  subst ey
  obtain ⟨t, rfl⟩ := ry
  refine call_meetsIn PySem.F.slot_dict_get (kd_type D I2) PySem.F.entry_dict_get (PySem.F.args_dict_get_2 _ _) (meets_dict_get (strKind X.prog X.w) d (strKind_is X.prog X.w z t) D.low) ⟨_, PySem.W.mapOf_K (prog := X.prog) I2.kIn D.at_ D.lit, ?_⟩
  rw [PySem.W.find_K D.at_ e]
  exact ⟨v, H2, I2.tok _, rv, q2⟩

/-! ### xs.count(y), flat things -/
def rCntF (K : PySem.W.Frag) : V → List V → Hp → VK → Prop := fun x xs H Q => ∃ (p : Addr) (ys : List V) (y : V), x = .ref p ∧ xs = [y] ∧ SqL K H p ys ∧ flatV y = true ∧ ys.all flatV = true ∧ Q (.int (ys.countP fun z => eqV z y : Nat)) H
theorem countP_eqU {y : V} : ∀ {ys : List V} {its : List Value}, Vals ys its → ys.all flatV = true → its.countP (eqU y) = ys.countP fun z => eqV z y
  | _, _, .nil, _ => rfl
  | z :: zs, u :: us, .cons r t, f => by
    rw [List.all_cons, Bool.and_eq_true] at f
    rw [List.countP_cons, List.countP_cons, countP_eqU t f.2, eqU_of r f.1]
theorem mt_countF {X : Cx} : MtR X "list.count" (rCntF X.K) := by
  intro pins s σ H x xs v us Q I rx rxs h
  obtain ⟨p, ys, y, rfl, rfl, hs, fy, fys, q⟩ := h
  cases rx
  obtain ⟨uy, rfl, ry⟩ := rxs.one
  obtain ⟨its, rv, ⟨⟨cls, dd, data, sl⟩, n, ho, hc, hdn, hd⟩, hlen⟩ := I.list hs
  simp only at hc hd
  subst hc hd
  refine call_meets PySem.F.slot_list_count ⟨_, ho, rfl⟩ PySem.F.entry_list_count (PySem.F.args_list_count_2 _ _)
    (SeqAt.list_countAt p its.toArray n dd sl uy (eqU y)) ⟨ho, fun u' hu' => mem_eqAt ry fy rv fys u' (by simpa using hu'), ?_⟩
  have ec : its.toArray.toList.countP (eqU y) = ys.countP fun z => eqV z y := countP_eqU rv fys
  refine ⟨.int (ys.countP fun z => eqV z y : Nat), H, I.tok _, ⟨s.toks, ?_⟩, q⟩
  show Value.int ((its.toArray.toList.countP (eqU y) : Nat) : Int) s.toks = _
  rw [ec]
end RhR
end RhRules_
section RhMeth_
set_option Elab.async false
set_option linter.all false
set_option maxRecDepth 100000
set_option maxHeartbeats 4000000
/-! Methods that may raise, with keywords; own ==, !=, len; max of a tuple; sorted rows; tuple slices and sums in one word. -/
namespace RhR
open PySem PySem.Spec PyProof.Rows L2
section
variable {X : Cx} {CX : CXT} {k n : Nat} {f C : Addr} {fd : FuncData} {ps ks : List Str} {sp : Sp} {E : L2.St → XK} {m : Str} {pos apos : Pos} {e o : Expr} {es : List Expr} {kws : List Keyword} {ta : TE} {t tk : TA} {pl : Sem Bool}
  {g : List Value → List Value → List Value} {gV : List V → List V → List V}
/-- o.m(e, ..): what it raises is wished for at the slots as they stand -/
def tMethS (C : Addr) (m : Str) (sp : Sp) (E : L2.St → XK) (ta : TE) (t : TA) : TE := fun σ H Q => ta σ H fun x H1 => ∃ a dx fs, x = .ref a ∧ H1 a = some (.ins C dx fs) ∧ fs.lookup m = none ∧ t σ H1 fun vs H2 => sp (x :: vs) H2 Q (E σ)
theorem pe_methS (he : PE X o ta) (c : Cls X.K C) (hm : Meth X.K C m f)
    (F : FnOk X.prog X.w X.K X.mg X.base CX k f fd ps sp) (hr : Room k X.A) (hb : Binds X.K fd ps []) (hx : ∀ σ, PassesAt CX X σ (E σ)) (ha : PA X (e :: es) t)
    (hst : starEach (e :: es) X.env = (false, eval e X.env) :: starEach es X.env := by rfl) (hpl : (backTo pos (starEach es X.env)).any (·.1) = false := by rfl)
    (ht : eval (.Call (.Attribute o m apos) (e :: es) [] pos) X.env = (do
      let ov ← eval o X.env
      standAt apos.atName
      let (f, first) ← holding [ov] (getMethod ov m pl)
      callWith pos f first (backTo pos (starEach (e :: es) X.env)) (backToKw pos (keywordEach [] X.env))) := by rfl) :
    PE X (.Call (.Attribute o m apos) (e :: es) [] pos) (tMethS C m sp E ta t) := by
  refine ⟨fun pins s σ H Q I h => ?_⟩
  refine PySem.W.methodCall_KW (pl := pl) (thn (he.run pins s σ H _ I h) fun u s1 ⟨x, H1, I1, rx, a, dx, fs, ex, ea, l, q⟩ => ?_) ht
  subst ex
  obtain rfl : u = Value.ref a := rx
  refine getmeth_ok I1 ea c hm l ?_
  refine PySem.W.callWith_K (first := [.ref a]) (h₀ := X.base) I.ok.mod.kin hm.kp (thn (ha.run pos pins s1 σ H1 _ I1 q) fun us s2 ⟨vs, H2, I2, r, q2⟩ => ⟨I2.kIn, ?_⟩) hst hpl
  exact run_fnS (us := .ref a :: us) (vs := .ref a :: vs) F hr hb (hx σ) I2 (.cons rfl r) q2
/-- o.m() -/
theorem pe_methS0 (he : PE X o ta) (c : Cls X.K C) (hm : Meth X.K C m f)
    (F : FnOk X.prog X.w X.K X.mg X.base CX k f fd ps sp) (hr : Room k X.A) (hb : Binds X.K fd ps []) (hx : ∀ σ, PassesAt CX X σ (E σ))
    (ht : eval (.Call (.Attribute o m apos) [] [] pos) X.env = (do
      let ov ← eval o X.env
      standAt apos.atName
      let (f, first) ← holding [ov] (getMethod ov m pl)
      callWith pos f first (backTo pos (starEach [] X.env)) (backToKw pos (keywordEach [] X.env))) := by rfl) :
    PE X (.Call (.Attribute o m apos) [] [] pos) (tMethS C m sp E ta tNil) := by
  refine ⟨fun pins s σ H Q I h => ?_⟩
  refine PySem.W.methodCall_KW (pl := pl) (thn (he.run pins s σ H _ I h) fun u s1 ⟨x, H1, I1, rx, a, dx, fs, ex, ea, l, q⟩ => ?_) ht
  subst ex
  obtain rfl : u = Value.ref a := rx
  refine getmeth_ok I1 ea c hm l ?_
  exact PySem.W.callWith_K0 (first := [.ref a]) I1.kIn hm.kp (run_fnS (us := [.ref a]) (vs := [.ref a]) F hr hb (hx σ) I1 (.cons rfl .nil) q)
theorem run_fnNS {pins : List (Addr × Obj)} {σ : L2.St} {H : Hp} {s : Shared} {Q : VK} {us ws : List Value} {vs zs : List V} (F : FnOk X.prog X.w X.K X.mg X.base CX k f fd ps sp) (hr : Room k X.A) (hb : KBn X.K fd ps n ks g gV) (hx : PassesAt CX X σ (E σ))
    (I : Inv X pins σ H s) (r : Vals vs us) (rz : Vals zs ws) (l1 : vs.length = n) (l2 : zs.length = ks.length) (h : sp (gV vs zs) H Q (E σ)) : wpAny (model X.prog X.w) X.A (call (.ref f) us (ks.zip ws)) (EP X pins σ Q) X.xe s := by
  have r2 := hb.rel r rz
  refine wpAny_call (codeAny_mono (F.run X.A X.stack s H ⟨us, ks.zip ws⟩ (g us ws) (gV vs zs) Q (E σ) hr I.env0 (hb.to s us ws I.kIn (r.length.symm.trans l1) (rz.length.symm.trans l2)) r2 h) fun r s' hq => ?_)
  cases r with
  | error e => exact hx pins H s e s' I hq
  | ok fl =>
    cases fl with
    | ret u => exact I.after hq
    | next => exact False.elim hq
    | brk => exact False.elim hq
    | cont => exact False.elim hq
/-- o.m(e, .., k = v, ..) -/
def tMethK (C : Addr) (m : Str) (n j : Nat) (sp : Sp) (gV : List V → List V → List V) (E : L2.St → XK) (ta : TE) (t tk : TA) : TE := fun σ H Q => ta σ H fun x H1 => ∃ a dx fs, x = .ref a ∧ H1 a = some (.ins C dx fs) ∧ fs.lookup m = none ∧
  t σ H1 fun vs H2 => tk σ H2 fun zs H3 => (x :: vs).length = n ∧ zs.length = j ∧ sp (gV (x :: vs) zs) H3 Q (E σ)
theorem pe_methK (he : PE X o ta) (c : Cls X.K C) (hm : Meth X.K C m f)
    (F : FnOk X.prog X.w X.K X.mg X.base CX k f fd ps sp) (hr : Room k X.A) (hb : KBn X.K fd ps n ks g gV) (hx : ∀ σ, PassesAt CX X σ (E σ)) (ha : PA X (e :: es) t) (hkw : PK X kws tk)
    (hall : (backToKw pos (keywordEach kws X.env)).all (·.1.isSome) = true := by rfl) (hks : (backToKw pos (keywordEach kws X.env)).filterMap (·.1) = ks := by rfl)
    (hst : starEach (e :: es) X.env = (false, eval e X.env) :: starEach es X.env := by rfl)
    (hpl : ((backTo pos (starEach (e :: es) X.env)).any (·.1) || (backToKw pos (keywordEach kws X.env)).any (·.1.isNone)) = false := by rfl)
    (ht : eval (.Call (.Attribute o m apos) (e :: es) kws pos) X.env = (do
      let ov ← eval o X.env
      standAt apos.atName
      let (f, first) ← holding [ov] (getMethod ov m pl)
      callWith pos f first (backTo pos (starEach (e :: es) X.env)) (backToKw pos (keywordEach kws X.env))) := by rfl) :
    PE X (.Call (.Attribute o m apos) (e :: es) kws pos) (tMethK C m n ks.length sp gV E ta t tk) := by
  refine ⟨fun pins s σ H Q I h => ?_⟩
  refine PySem.W.methodCall_KW (pl := pl) (thn (he.run pins s σ H _ I h) fun u s1 ⟨x, H1, I1, rx, a, dx, fs, ex, ea, l, q⟩ => ?_) ht
  subst ex
  obtain rfl : u = Value.ref a := rx
  refine getmeth_ok I1 ea c hm l ?_
  refine PySem.W.callWith_KW (first := [.ref a]) (h₀ := X.base) I.ok.mod.kin hm.kp hall (thn (ha.run pos pins s1 σ H1 _ I1 q) fun us s2 ⟨vs, H2, I2, r, q2⟩ => ?_) hpl hst
  refine thn (hkw.run pos pins s2 σ H2 _ I2 q2) fun ws s3 ⟨zs, H3, I3, rz, l1, l2, q3⟩ => ⟨I3.kIn, ?_⟩
  rw [hks]
  exact run_fnNS (us := .ref a :: us) (vs := .ref a :: vs) F hr hb (hx σ) I3 (.cons rfl r) rz l1 l2 q3
end
end RhR
namespace RhR
section
open PySem PySem.Spec PySem.W PySem.Calls PyProof.Rows
variable {prog : Program} {w : World} {A : Around} {E : Value → Shared → Prop} {s : Shared} {K : Frag} {x y C f : Addr} {ox : Obj} {od : Option Obj}
theorem ifBound_B {M : Model} {id : String} {B : String} {name : Str} {args : List Value} {Q : Option Value → Shared → Prop} (X : K.In s.heap) (I : InstAt s.heap x ox C od) (hs : findIn K (.ref C) name = some (some (.builtin id))) (S : Slot B name id)
    (h : wpAny M A (call (.builtin id) (.ref x :: args)) (fun v => Q (some v)) E s) : wpAny M A (callSpecialIfBound? (.ref x) name args) Q E s := by
  simp only [callSpecialIfBound?, bindSpecialIfBound?]
  refine wpAny_holding (wpAny_bind (wpAny_bind (wpAny_bind (I.type.here ((looks_findIn X hs).here ?_)))))
  simp only [S.bind]
  refine wpAny_bind (wpAny_askSetting (wpAny_ite ?_))
  have fin : wpAny M A (call (.builtin id) ([.ref x] ++ args) >>= fun v => pure (some v)) Q E s := wpAny_bind (wpAny_mono h (fun v s' h' => wpAny_pure h') fun _ _ h' => h')
  split
  · exact wpAny_bind (wpAny_pure (wpAny_pure fin))
  · exact wpAny_tryCatch (wpAny_bind (wpAny_pure (wpAny_pure fin)))
theorem objNe_K (X : K.In s.heap) (I : InstAt s.heap x ox C od) (hs : findIn K (.ref C) "__eq__" = some (some (.ref f))) (hf : isFn K (.ref f) = true) (hu : A.units < cLine) {Q : Fin → Shared → Prop}
    (hcall : wpAny (model prog w) A (call (.ref f) [.ref x, .ref y]) (fun v s' => ∃ b, v = .bool b ∧ Q (.done (.ret (.bool (!b)))) s') E s) :
    wpAny (model prog w) A (Builtin.«object.__ne__» ⟨[.ref x, .ref y], []⟩) Q E s := by
  unfold Builtin.«object.__ne__»
  repeat (first
    | with_reducible refine wpAny_cRoomFor hu ?_
    | (refine wpAny_bind (m := callSpecialIfBound? (.ref x) (Str.ofString "__eq__") [.ref y])
        (ifBound_K (name := Str.ofString "__eq__") X I hs hf (wpAny_mono hcall (fun r s' hr => by
          obtain ⟨b, rfl, hq⟩ := hr
          repeat (first | exact hq | exact wpAny_pure hq | exact wpAny_truthy_bool hq | (refine wpAny_bind (m := truthy (.bool _)) (wpAny_truthy_bool ?_)) | wp_step)) fun _ _ e => e)))
    | wp_step)
theorem ne_K {Q : Value → Shared → Prop} {oy : Obj} (X : K.In s.heap) (I : InstAt s.heap x ox C od) (hy : s.heap.get? y = some oy) (hyc : oy.cls = .ref C) (hs : findIn K (.ref C) "__eq__" = some (some (.ref f))) (hf : isFn K (.ref f) = true)
    (hn : findIn K (.ref C) "__ne__" = some (some (.builtin "object.__ne__"))) (hob : subIn K (.ref C) (.type "object") = some true) (hu : A.units + 1 < cLine)
    (hcall : wpAny (model prog w) A.in1 (call (.ref f) [.ref x, .ref y]) (fun v s' => ∃ b, v = .bool b ∧ Q (.bool (!b)) s') E s) :
    wpAny (model prog w) A (richCompare .NotEq (.ref x) (.ref y)) Q E s := by
  have sub : Looks (model prog w) s.heap (isInstance (.ref x) (.type "object")) true := I.type.andThen (looks_subIn X hob)
  have one : wpAny (model prog w) A (tryCompare (.ref x) "__ne__" (.ref y)) (fun r s' => ∃ v, r = some v ∧ Q v s') E s := by
    unfold tryCompare
    refine wpAny_bind (ifBound_B (B := "object") X I hn F.cmp_object.ne (wpAny_call (codeAny_call_builtin F.cmp_object.ne.plain F.cmpEntry_ne (check_slot F.cmpKind_ne F.cmpSplit_ne sub (F.cmpArgs_ne _ _)
      (objNe_K (A := A.in1) X I hs hf hu (wpAny_mono hcall (fun v s' hv => ?_) fun _ _ e => e))))))
    obtain ⟨b, rfl, hq⟩ := hv
    first
      | exact ⟨b, rfl, wpAny_pure ⟨_, rfl, hq⟩⟩
      | exact ⟨b, rfl, by simp only; exact wpAny_pure ⟨_, rfl, hq⟩⟩
  unfold richCompare
  simp only [oneThing_ref]
  refine wpAny_holding ?_
  refine wpAny_bind (wpAny_cRoomFor (Nat.lt_of_succ_lt hu) ?_)
  rw [cmpInfo_NotEq]
  dsimp only
  refine wpAny_bind (I.type.here ?_)
  refine wpAny_bind (wpAny_typeOf_ref hy ?_)
  rw [hyc]
  rw [show (Value.ref C != Value.ref C) = false from by simp]
  simp only [Bool.false_eq_true, if_false]
  refine wpAny_bind (wpAny_pure ?_)
  simp only [Bool.false_eq_true, if_false]
  refine wpAny_bind (wpAny_mono one (fun r s' z => ?_) fun _ _ e => e)
  obtain ⟨v, rfl, hq⟩ := z
  exact wpAny_pure hq
end
end RhR
namespace RhR
open PySem PySem.Spec PyProof.Rows L2
section
variable {X : Cx} {CX : CXT} {k : Nat} {f C : Addr} {fd : FuncData} {ps : List Str} {sp : Sp} {E : XK}
theorem run_in {pins : List (Addr × Obj)} {σ : L2.St} {H : Hp} {s : Shared} {A : Around} {Q : VK} {us : List Value} {vs : List V} (F : FnOk X.prog X.w X.K X.mg X.base CX k f fd ps sp) (hr : Room k A) (e0 : Env0 X.prog X.w X.K X.mg X.base A X.stack s H) (hb : Binds X.K fd ps []) (hx : Passes CX X E)
    (I : Inv X pins σ H s) (r : Vals vs us) (h : sp vs H Q E) : wpAny (model X.prog X.w) A (call (.ref f) us) (EP X pins σ Q) X.xe s := by
  have hl : us.length = ps.length := by rw [← r.length]; exact F.len _ _ _ _ h
  have b := hb s us I.kIn (by rw [List.append_nil]; exact hl)
  rw [List.append_nil] at b
  refine wpAny_call (codeAny_mono (F.run A X.stack s H ⟨us, []⟩ us vs Q E hr e0 b r h) fun r s' hq => ?_)
  cases r with
  | error e => exact hx pins σ H s e s' I hq
  | ok fl =>
    cases fl with
    | ret u => exact I.after hq
    | next => exact False.elim hq
    | brk => exact False.elim hq
    | cont => exact False.elim hq
/-- what == and != ask of the class -/
structure EqC (K : PySem.W.Frag) (C f : Addr) : Prop where
  eq : PySem.W.findIn K (.ref C) "__eq__" = some (some (.ref f))
  ne : PySem.W.findIn K (.ref C) "__ne__" = some (some (.builtin "object.__ne__"))
  fn : PySem.W.isFn K (.ref f) = true
  ob : PySem.W.subIn K (.ref C) (.type "object") = some true
/-- a == b, a != b: two of the class, its own == answers True or False -/
def rCmpO (neg : Bool) (C : Addr) (sp : Sp) (E : XK) : R2 := fun x y H Q => ∃ a b dx dy fs gs, x = .ref a ∧ y = .ref b ∧ H a = some (.ins C dx fs) ∧ H b = some (.ins C dy gs) ∧ sp [x, y] H (fun z H' => ∃ t : Bool, z = .bl t ∧ Q (.bl (neg != t)) H') E
theorem op_eqO (T : EqC X.K C f) (F : FnOk X.prog X.w X.K X.mg X.base CX k f fd ps sp) (hr : Room k X.A) (hb : Binds X.K fd ps []) (hx : Passes CX X E) : OpR X (compareOp .Eq) (rCmpO false C sp E) := by
  intro pins s σ H x y v u Q I rx ry h
  obtain ⟨a, b, dx, dy, fs, gs, rfl, rfl, ha, hb', q⟩ := h
  cases (show v = Value.ref a from rx)
  cases (show u = Value.ref b from ry)
  obtain ⟨mA, J, _⟩ := ins_get I.hok ha
  obtain ⟨mB, J', _⟩ := ins_get I.hok hb'
  obtain ⟨od, J, _⟩ := J.look
  obtain ⟨od', J', _⟩ := J'.look
  obtain ⟨m, hF⟩ := I.fr
  refine PySem.W.cmp_K (op := .Eq) (tb := .ref C) hr.units0 hF I.ok.mod.kin J J'.type (by simp [PySem.W.notFirst]) T.eq T.fn ?_
  refine wpAny_mono (run_in (us := [.ref a, .ref b]) (vs := [.ref a, .ref b]) F hr I.env0 hb hx I (.cons rfl (.cons rfl .nil)) q) (fun w s' z => ?_) fun _ _ x => x
  obtain ⟨z', H', I', rz, t, et, qz⟩ := z
  subst et
  cases (show w = Value.bool t from rz)
  exact ⟨.bl t, H', I', rfl, by simpa using qz⟩
theorem op_neO (T : EqC X.K C f) (F : FnOk X.prog X.w X.K X.mg X.base CX k f fd ps sp) (hr : Room (k + 1) X.A) (hb : Binds X.K fd ps []) (hx : Passes CX X E) : OpR X (compareOp .NotEq) (rCmpO true C sp E) := by
  intro pins s σ H x y v u Q I rx ry h
  obtain ⟨a, b, dx, dy, fs, gs, rfl, rfl, ha, hb', q⟩ := h
  cases (show v = Value.ref a from rx)
  cases (show u = Value.ref b from ry)
  obtain ⟨mA, J, _⟩ := ins_get I.hok ha
  obtain ⟨mB, J', _⟩ := ins_get I.hok hb'
  obtain ⟨od, J, _⟩ := J.look
  obtain ⟨od', J', _⟩ := J'.look
  refine ne_K I.kIn J J'.at_ J'.cls T.eq T.fn T.ne T.ob (hu_of hr) ?_
  refine wpAny_mono (run_in (us := [.ref a, .ref b]) (vs := [.ref a, .ref b]) F hr.in1 I.env0.in1 hb hx I (.cons rfl (.cons rfl .nil)) q) (fun w s' z => ?_) fun _ _ x => x
  obtain ⟨z', H', I', rz, t, et, qz⟩ := z
  subst et
  cases (show w = Value.bool t from rz)
  exact ⟨t, rfl, .bl (!t), H', I', rfl, by simpa using qz⟩
/-- len(x), x of a class with its own len -/
def rLenO (C : Addr) (sp : Sp) (E : XK) : List V → Hp → VK → Prop := fun xs H Q => ∃ a dx fs, xs = [.ref a] ∧ H a = some (.ins C dx fs) ∧ sp [.ref a] H (fun z H' => ∃ n : Nat, z = .int n ∧ n < 2 ^ 62 ∧ Q (.int n) H') E
theorem call_lenO (hs : PySem.W.findIn X.K (.ref C) "__len__" = some (some (.ref f))) (hf : PySem.W.isFn X.K (.ref f) = true) (F : FnOk X.prog X.w X.K X.mg X.base CX k f fd ps sp) (hr : Room (k + 1) X.A) (hb : Binds X.K fd ps []) (hx : Passes CX X E) : CallR X (.builtin "len") (rLenO C sp E) := by
  intro pins s σ H xs us Q I r h
  obtain ⟨a, dx, fs, rfl, ha, q⟩ := h
  obtain ⟨u, rfl, ru⟩ := r.one
  cases (show u = Value.ref a from ru)
  obtain ⟨mA, J, _⟩ := ins_get I.hok ha
  obtain ⟨od, J, _⟩ := J.look
  obtain ⟨m, hF⟩ := I.fr
  refine PySem.W.len_K hF I.ok.mod.kin J hs hf ?_
  refine wpAny_mono (run_in (us := [.ref a]) (vs := [.ref a]) F hr.in1 I.env0.in1 hb hx I (.cons rfl .nil) q) (fun w s' z => ?_) fun _ _ x => x
  obtain ⟨z', H', I', rz, n, en, hn, qz⟩ := z
  subst en
  obtain ⟨t, e⟩ := (show ∃ t, w = Value.int n t from rz)
  subst e
  have h1 : (n : Int) < 2 ^ 62 := by exact_mod_cast hn
  exact ⟨⟨by omega, by omega⟩, .int n, H', I'.tok _, ⟨_, rfl⟩, qz⟩
end
end RhR
namespace RhR
open PySem PySem.Spec PyProof.Rows L2
section
variable {X : Cx}
/-! ### tuple slices and sums in one word -/
theorem Same.tup {K : PySem.W.Frag} {H H' : Hp} {a : Addr} {xs : List V} (e : Same H H') (h : SqT K H a xs) : SqT K H' a xs := by
  rcases h with (h | ⟨o, h⟩) | h
  · exact .inl (.inl (e _ _ h))
  · exact .inl (.inr ⟨o, e _ _ h⟩)
  · exact .inr h
theorem Same.upd {H : Hp} {p : Addr} {o : HO} (n : H p = none) : Same H (upd H p o) := fun b u e => by rw [upd_ne (ne_of_none e n)]; exact e
def rSlW (K : PySem.W.Frag) : V → Option Int → Option Int → Hp → VK → Prop := fun x lo hi H Q => ∃ a xs, x = .ref a ∧ SqT K H a xs ∧ ∀ p H', Same H H' → SqT K H' p (cutV xs lo hi) → Q (.ref p) H'
theorem cutV_whole {xs : List V} {lo hi : Option Int} (h1 : HT.sIx xs.length 0 lo = 0) (h2 : HT.sIx xs.length xs.length hi = xs.length) : cutV xs lo hi = xs := by
  unfold cutV
  rw [h1, h2, List.drop_zero, Nat.sub_zero, List.take_length]
theorem sl_tupW : SlR X (rSlW X.K) := by
  intro pins s σ H x v vl vu lo hi sl Q I rx hs pl pu h
  obtain ⟨a, xs, rfl, hx, q⟩ := h
  exact sl_tupA pins s σ H _ v vl vu lo hi sl Q I rx hs pl pu ⟨a, xs, rfl, hx, fun w => q a H (Same.refl H) (by rw [cutV_whole w.1 w.2]; exact hx), fun _ p np => q p _ (Same.upd np) (SqT.of upd_same)⟩
def rCatW (K : PySem.W.Frag) : R2 := fun x y H Q => ∃ a b xs ys, x = .ref a ∧ y = .ref b ∧ SqT K H a xs ∧ SqT K H b ys ∧ xs.length + ys.length ≤ 1000000 ∧ ∀ p H', Same H H' → SqT K H' p (xs ++ ys) → Q (.ref p) H'
theorem op_catW : OpR X (binaryOp .Add) (rCatW X.K) := by
  intro pins s σ H x y v u Q I rx ry h
  obtain ⟨a, b, xs, ys, rfl, rfl, ha, hb, hz, q⟩ := h
  refine op_catA pins s σ H _ _ v u Q I rx ry ⟨a, b, xs, ys, rfl, rfl, ha, hb, by rw [sizeLine_eq]; omega, fun e => ?_, fun _ e => ?_, fun _ _ p np => ?_⟩
  · subst e
    exact q b H (Same.refl H) (by simpa using hb)
  · subst e
    exact q a H (Same.refl H) (by simpa using ha)
  · exact q p _ (Same.upd np) (SqT.of upd_same)
theorem cutV_take {xs : List V} {n : Nat} : cutV xs none (some (n : Int)) = xs.take n := by
  unfold cutV
  rw [HT.sIx_none, HT.sIx_nat, List.drop_zero, Nat.sub_zero, ← List.take_eq_take_min]
theorem cutV_drop {xs : List V} {n : Nat} : cutV xs (some (n : Int)) none = xs.drop n := by
  unfold cutV
  rw [HT.sIx_none, HT.sIx_nat]
  by_cases h : n ≤ xs.length
  · rw [Nat.min_eq_left h]
    exact List.take_of_length_le (by rw [List.length_drop]; exact Nat.le_refl _)
  · rw [Nat.min_eq_right (by omega), Nat.sub_self, List.take_zero, List.drop_of_length_le (by omega)]
theorem cutV_range {xs : List V} {m n : Nat} : cutV xs (some (m : Int)) (some (n : Int)) = (xs.take n).drop m := by
  unfold cutV
  rw [HT.sIx_nat, HT.sIx_nat]
  apply List.ext_getElem?
  intro i
  simp only [List.getElem?_take, List.getElem?_drop]
  by_cases h : xs.length ≤ min m xs.length + i
  · have e1 : xs[min m xs.length + i]? = none := List.getElem?_eq_none h
    rw [e1]
    split
    · split
      · exact (List.getElem?_eq_none (by omega)).symm
      · rfl
    · split
      · exact (List.getElem?_eq_none (by omega)).symm
      · rfl
  · have e2 : min m xs.length = m := by omega
    rw [e2] at h ⊢
    by_cases h3 : m + i < n
    · rw [if_pos (by omega), if_pos h3]
    · rw [if_neg (by omega), if_neg h3]
theorem sIx_neg {n k : Nat} (d : Nat) (h : 1 ≤ k) : HT.sIx n d (some (-(k : Int))) = n - k := by
  have e := HT.clip_eq (-(k : Int)) n d
  rw [if_pos (by omega)] at e
  omega
theorem cutV_init {xs : List V} : cutV xs none (some (-1)) = xs.dropLast := by
  unfold cutV
  rw [HT.sIx_none, show (-1 : Int) = -((1 : Nat) : Int) from rfl, sIx_neg _ (Nat.le_refl 1), List.drop_zero, Nat.sub_zero, List.dropLast_eq_take]
theorem cutV_last {xs : List V} : cutV xs (some (-1)) none = xs.drop (xs.length - 1) := by
  unfold cutV
  rw [HT.sIx_none, show (-1 : Int) = -((1 : Nat) : Int) from rfl, sIx_neg _ (Nat.le_refl 1)]
  exact List.take_of_length_le (by rw [List.length_drop]; exact Nat.le_refl _)
/-! ### max of a tuple of ints -/
def rMaxT (K : PySem.W.Frag) : List V → Hp → VK → Prop := fun vs H Q => ∃ (a : Addr) (ns : List Int), vs = [V.ref a] ∧ SqT K H a (ns.map V.int) ∧ ns ≠ [] ∧ ∀ m, m ∈ ns → (∀ y, y ∈ ns → y ≤ m) → Q (.int m) H
theorem reads_ints {h : Heap} : ∀ {ns : List Int} {us : List Value}, Vals (ns.map V.int) us → ∃ as, ReadsAll h us (ns.map PyData.int) as
  | [], _, r => by
    cases r
    exact ⟨_, .nil⟩
  | n :: ns, _, r => by
    cases r with
    | cons r t =>
      obtain ⟨k, rfl⟩ := r
      obtain ⟨as, q⟩ := reads_ints (h := h) t
      exact ⟨_, .cons (Reads.int n k) q⟩
theorem maxD_ints : ∀ (ns : List Int) (x : Int), ∃ m, PySem.W.maxD (.int x) (ns.map PyData.int) = .int m ∧ m ∈ x :: ns ∧ ∀ y ∈ x :: ns, y ≤ m
  | [], x => ⟨x, rfl, by simp, by simp⟩
  | n :: ns, x => by
    have e : PySem.W.maxD (.int x) ((n :: ns).map PyData.int) = PySem.W.maxD (if PySem.W.dataLt (.int x) (.int n) = true then .int n else .int x) (ns.map PyData.int) := rfl
    rw [PySem.W.dataLt_int] at e
    by_cases h : x < n
    · rw [decide_eq_true h, if_pos rfl] at e
      obtain ⟨m, e1, e2, e3⟩ := maxD_ints ns n
      refine ⟨m, e.trans e1, List.mem_cons_of_mem _ e2, fun y hy => ?_⟩
      rcases List.mem_cons.mp hy with rfl | hy
      · have := e3 n List.mem_cons_self
        omega
      · exact e3 y hy
    · rw [decide_eq_false h, if_neg Bool.false_ne_true] at e
      obtain ⟨m, e1, e2, e3⟩ := maxD_ints ns x
      refine ⟨m, e.trans e1, ?_, fun y hy => ?_⟩
      · rcases List.mem_cons.mp e2 with z | z
        · rw [z]; exact List.mem_cons_self
        · exact List.mem_cons_of_mem _ (List.mem_cons_of_mem _ z)
      · rcases List.mem_cons.mp hy with rfl | hy
        · exact e3 _ List.mem_cons_self
        · rcases List.mem_cons.mp hy with rfl | hy
          · have := e3 x List.mem_cons_self
            omega
          · exact e3 y (List.mem_cons_of_mem _ hy)
theorem alikeAll_ints (ns : List Int) : PySem.W.AlikeAll (ns.map PyData.int) := ⟨fun d hd d' hd' => by
  obtain ⟨b, _, rfl⟩ := List.mem_map.mp hd
  obtain ⟨b', _, rfl⟩ := List.mem_map.mp hd'
  simp [PySem.W.alike], fun d hd e => by
  obtain ⟨b, _, rfl⟩ := List.mem_map.mp hd
  cases e⟩
theorem cr_maxT (hc : X.calm = true) (hu : X.A.units + 1 < cLine) : CallR X (.builtin "max") (rMaxT X.K) := by
  intro pins s σ H vs us Q I r h
  obtain ⟨a, ns, rfl, hs, hne, q⟩ := h
  obtain ⟨its, rv, hl, _⟩ := I.tuple hs
  rw [Vals.ref1 r]
  cases ns with
  | nil => exact absurd rfl hne
  | cons n ns =>
    obtain ⟨as, hr⟩ := reads_ints (h := s.heap) rv
    refine PySem.W.max_tuple_data (I.ok.hd hc) (show s.heap.IsTuple a its.toArray from hl) (x := .int n) (xs := ns.map PyData.int) (by simpa using hr) (alikeAll_ints (n :: ns)) (by rw [show PyData.depthAll (PyData.int n :: ns.map PyData.int) = 0 from PySem.W.depth_ints (n :: ns)]; exact hu) fun i v h' tk bs hi hv hk => ?_
    obtain ⟨m, e1, e2, e3⟩ := maxD_ints ns n
    rw [e1] at hv
    cases hv with
    | int _ t => exact ⟨.int m, H, I.kept hk, ⟨_, rfl⟩, q m e2 e3⟩
/-! ### sorted of a list of int triples -/
def triD (b : Int × Int × Int) : PyData := .tuple [.int b.1, .int b.2.1, .int b.2.2]
def rSrtD (K : PySem.W.Frag) : List V → Hp → VK → Prop := fun vs H Q => ∃ (a : Addr) (xs : List V) (bs : List (Int × Int × Int)), vs = [V.ref a] ∧ SqL K H a xs ∧ DpAll K H xs (bs.map triD) ∧ bs.length ≤ 100000 ∧
  ∀ (p : Addr) (ys : List V), H p = none → DpAll K H ys ((bs.mergeSort (PySem.W.dataLe false triD)).map triD) → Q (.ref p) (upd H p (.lst ys))
theorem each_of {K : PySem.W.Frag} {H : Hp} : ∀ {bs : List (Int × Int × Int)} {xs : List V} {us : List Value}, DpAll K H xs (bs.map triD) → Vals xs us → PySem.W.EachIs (fun u b => ∃ y, RelV y u ∧ Dp K H y (triD b)) us bs
  | [], _, _, d, r => by
    cases d
    cases r
    exact .nil
  | b :: bs, _, _, d, r => by
    cases d with
    | cons d ds =>
      cases r with
      | cons r rs => exact .cons ⟨_, r, d⟩ (each_of ds rs)
theorem of_each {K : PySem.W.Frag} {H : Hp} : ∀ {bs : List (Int × Int × Int)} {us : List Value}, PySem.W.EachIs (fun u b => ∃ y, RelV y u ∧ Dp K H y (triD b)) us bs → ∃ ys, Vals ys us ∧ DpAll K H ys (bs.map triD)
  | _, _, .nil => ⟨[], .nil, .nil⟩
  | _, _, .cons ⟨y, r, d⟩ t => by
    obtain ⟨ys, rs, ds⟩ := of_each t
    exact ⟨y :: ys, .cons r rs, .cons d ds⟩
theorem each_mono {α β : Type} {R S : α → β → Prop} (h : ∀ a b, R a b → S a b) : ∀ {as : List α} {bs : List β}, PySem.W.EachIs R as bs → PySem.W.EachIs S as bs
  | _, _, .nil => .nil
  | _, _, .cons r t => .cons (h _ _ r) (each_mono h t)
theorem cr_sortedD (hu : X.A.units + 64 < cLine) : CallR X (.builtin "sorted") (rSrtD X.K) := by
  intro pins s σ H vs us Q I r h
  obtain ⟨a, xs, bs, rfl, hs, hd, hl, q⟩ := h
  obtain ⟨its, rv, hL, _⟩ := I.list hs
  rw [Vals.ref1 r]
  have e := each_of hd rv
  have er : PySem.W.EachIs (fun v b => ∃ as, Reads s.heap v (triD b) as) its bs := each_mono (fun u b ⟨y, ry, dy⟩ => Dp.reads I _ _ _ dy ry) e
  refine PySem.W.sorted_data hL.isList e er (PySem.W.AllAlike.of fun b b' => by simp [triD, PySem.W.alike, PySem.W.alikeAll]) (PySem.W.Sortable.tuples fun b => ⟨_, _, rfl⟩) (by rw [sizeLine_eq]; omega) (fun b _ => ?_) fun out ho eo => ?_
  · have : (triD b).depth ≤ 1 := by simp [triD, PyData.depth, PyData.depthAll]
    omega
  · obtain ⟨ys, ry, dy⟩ := of_each eo
    obtain ⟨ep, he'⟩ := PyProof.Rows.sortedAll_at s.heap its out.toArray
    have hlen : ys.length ≤ sizeLine := by rw [ry.length, ho, sizeLine_eq]; omega
    exact ⟨.ref _, upd H (s.heap.objs.size + 1) (.lst ys), I.laid (t' := s.toks) (fun _ _ => PyProof.Rows.sortedAll_old) (Nat.le_succ _) ⟨hlen, out, ep, ry, he'⟩, rfl, q _ ys (I.hok.fresh (Nat.le_succ _)) dy⟩
end
/-! ### try: body finally: suite -/
def tFin (tb : WX → TS) (tf tfs : TS) (Wout : WX) : TS := fun D σ H => tb (wFin tfs Wout) { nx := fun σ1 H1 => tf D σ1 H1, rt := fun _ _ => False } σ H
section
variable {X : Cx} {body : List Stmt} {f₀ : Stmt} {fs : List Stmt} {pos : Pos} {tb : WX → TS} {tf tfs : TS} {Wout : WX}
theorem ps_fin (hs : X.stack = X.env :: X.outer) (hf : X.env.frame = some X.env.locals) (hex : X.ex = []) (tk : Takes X Wout)
    (hb : ∀ (W : WX) (pn : List (Addr × Obj)) (xe : Value → Shared → Prop), Takes (X.tr pn xe) W → PassesOwn (model X.prog X.w) X.A X.env xe → PSs (X.tr pn xe) body (tb W))
    (hfin : PSs X.nox (f₀ :: fs) tf) (hsu : ∀ (a : Addr) (pn : List (Addr × Obj)), PSs (X.suite a pn) (f₀ :: fs) tfs) : PS X (.Try body [] [] (f₀ :: fs) pos) (tFin tb tf tfs Wout) := by
  refine ⟨fun pins s σ H D I h => ?_⟩
  have ok := I.ok
  refine wpAny_Try_finally ?_
  refine wpAny_mono ((hb (wFin tfs Wout) (X.pn ++ pins) (fun x s₁ => wpAny (model X.prog X.w) X.A (noteFrame x X.env) (fun _ s₂ => FinallyRaised X.prog X.w X.A X.xe X.env (f₀ :: fs) (SP X pins D) x s₂) (FinallyRaised X.prog X.w X.A X.xe X.env (f₀ :: fs) (SP X pins D)) s₁)
    (fun u s' xx => ?_) PassesOwn.looking).run [] s σ H { nx := fun σ1 H1 => tf D σ1 H1, rt := fun _ _ => False } (I.toTry _) h) (fun g s1 z => ?_) (fun x s1 hx => hx)
  · exact fin_exc hs hf hex ok tk hsu xx
  · cases g with
    | ret u =>
      obtain ⟨_, _, _, _, _, q⟩ := z
      exact False.elim q
    | brk =>
      obtain ⟨_, _, _, q⟩ := z
      exact False.elim q
    | cont =>
      obtain ⟨_, _, _, q⟩ := z
      exact False.elim q
    | next =>
      obtain ⟨σ1, H1, J1, q1⟩ := z
      refine wpAny_execs_nil ?_
      refine wpAny_mono (hfin.run pins s1 σ1 H1 D ((J1.ofTry ok).wish _) q1) (fun g2 s2 q2 => ?_) fun _ _ e => False.elim e
      have q3 : SP X pins D g2 s2 := q2.unwish
      cases g2 <;> exact q3
end
end RhR
end RhMeth_
section RhMeth2_
set_option Elab.async false
set_option linter.all false
set_option maxRecDepth 100000
set_option maxHeartbeats 4000000
/-! o.m(k = v, ..): by keywords alone -/
namespace RhR
open PySem PySem.Spec PySem.W PySem.Calls PyProof.Rows L2
section
variable {X : Cx} {CX : CXT} {k n : Nat} {f C : Addr} {fd : FuncData} {ps ks : List Str} {sp : Sp} {E : L2.St → XK} {m : Str} {pos apos : Pos} {pl : Sem Bool} {o e : Expr} {es : List Expr} {kws : List Keyword} {t tk : TA} {ta : TE} {g : List Value → List Value → List Value} {gV : List V → List V → List V}
theorem pe_methK0 (he : PE X o ta) (c : Cls X.K C) (hm : Meth X.K C m f)
    (F : FnOk X.prog X.w X.K X.mg X.base CX k f fd ps sp) (hr : Room k X.A) (hb : KBn X.K fd ps 1 ks g gV) (hx : ∀ σ, PassesAt CX X σ (E σ)) (hkw : PK X kws tk)
    (hall : (backToKw pos (keywordEach kws X.env)).all (·.1.isSome) = true := by rfl) (hks : (backToKw pos (keywordEach kws X.env)).filterMap (·.1) = ks := by rfl)
    (hpl : ((backTo pos (starEach [] X.env)).any (·.1) || (backToKw pos (keywordEach kws X.env)).any (·.1.isNone)) = false := by rfl)
    (ht : eval (.Call (.Attribute o m apos) [] kws pos) X.env = (do
      let ov ← eval o X.env
      standAt apos.atName
      let (f, first) ← holding [ov] (getMethod ov m pl)
      callWith pos f first (backTo pos (starEach [] X.env)) (backToKw pos (keywordEach kws X.env))) := by rfl) :
    PE X (.Call (.Attribute o m apos) [] kws pos) (tMethK C m 1 ks.length sp gV E ta tNil tk) := by
  refine ⟨fun pins s σ H Q I h => ?_⟩
  refine PySem.W.methodCall_KW (pl := pl) (thn (he.run pins s σ H _ I h) fun u s1 ⟨x, H1, I1, rx, a, dx, fs, ex, ea, l, q⟩ => ?_) ht
  subst ex
  obtain rfl : u = Value.ref a := rx
  refine getmeth_ok I1 ea c hm l ?_
  refine PySem.W.callWith_KW0 (first := [.ref a]) (h₀ := X.base) I1.ok.mod.kin hm.kp hall (thn (hkw.run pos pins s1 σ H1 _ I1 q) fun ws s3 ⟨zs, H3, I3, rz, l1, l2, q3⟩ => ⟨I3.kIn, ?_⟩) hpl
  rw [hks]
  exact run_fnNS (us := [.ref a]) (vs := [.ref a]) F hr hb (hx σ) I3 (.cons rfl .nil) rz l1 l2 q3
end
end RhR
end RhMeth2_
section RhDef_
set_option Elab.async false
set_option linter.all false
/-! What the program computes, in plain Lean. -/
namespace Rh
open PySem
abbrev Leg := Int × Int × Int
abbrev Road := List Leg × List Int
def heldM (g : Leg) (s : Int) : Int := max (g.1 - g.2.2) (min (g.1 - g.2.1) s)
def rideM (g : Leg) (s : Int) : Int := g.1 - heldM g s
/-- the comings at the next station; f: when the horse came that waits for the first of them -/
def nextM (g : Leg) : Int → List Int → List Int
  | _, [] => []
  | f, c :: cs => (c + rideM g (c - f)) :: nextM g c cs
/-- the comings at each station -/
def booksM : List Leg → List Int → List Int → List (List Int)
  | g :: gs, f :: fs, b => b :: booksM gs fs (nextM g f b)
  | _, _, b => [b]
/-- of rider r the comings -/
def colM (bs : List (List Int)) (r : Nat) : List Int := bs.map fun b => b.getD r 0
def comM (rd : Road) (sets : List Int) : List (List Int) := (List.range sets.length).map (colM (booksM rd.1 rd.2 sets))
def legD (g : Leg) : PyData := .tuple [.int g.1, .int g.2.1, .int g.2.2]
def roadD (rd : Road) : PyData := .tuple [.tuple (rd.1.map legD), .tuple (rd.2.map .int)]
def setsD (s : List Int) : PyData := .tuple (s.map .int)
def rowD (s : List Int) : PyData := .list (s.map .int)
def rowsD (s : List (List Int)) : PyData := .list (s.map rowD)
theorem len_next (g : Leg) : ∀ (f : Int) (cs : List Int), (nextM g f cs).length = cs.length
  | _, [] => rfl
  | f, c :: cs => by rw [nextM, List.length_cons, List.length_cons, len_next g c cs]
theorem next_at (g : Leg) : ∀ (f : Int) (cs : List Int) (i : Nat) (c h : Int), cs[i]? = some c → ((f :: cs).dropLast)[i]? = some h → (nextM g f cs)[i]? = some (c + rideM g (c - h))
  | _, [], i, c, h, e, _ => by simp at e
  | f, c :: cs, 0, c', h, e, e' => by
    have e1 := Option.some.inj e
    subst e1
    have : h = f := by
      cases cs with
      | nil => simpa using e'.symm
      | cons d ds => simpa using e'.symm
    rw [this]
    rfl
  | f, c :: cs, i + 1, c', h, e, e' => by
    rw [nextM, List.getElem?_cons_succ]
    refine next_at g c cs i c' h (by simpa using e) ?_
    have : (f :: c :: cs).dropLast = f :: (c :: cs).dropLast := rfl
    rw [this, List.getElem?_cons_succ] at e'
    exact e'
theorem len_books : ∀ (gs : List Leg) (fs : List Int) (b : List Int), gs.length = fs.length → (booksM gs fs b).length = gs.length + 1
  | [], fs, b, _ => by cases fs <;> rfl
  | g :: gs, [], b, h => by simp at h
  | g :: gs, f :: fs, b, h => by
    rw [booksM, List.length_cons, len_books gs fs _ (by simpa using h), List.length_cons]
theorem books_rows : ∀ (gs : List Leg) (fs : List Int) (b : List Int), ∀ x ∈ booksM gs fs b, x.length = b.length
  | [], fs, b, x, hx => by
    have : booksM [] fs b = [b] := by cases fs <;> rfl
    rw [this] at hx
    rw [List.mem_singleton.mp hx]
  | g :: gs, [], b, x, hx => by
    rw [show booksM (g :: gs) [] b = [b] from rfl] at hx
    rw [List.mem_singleton.mp hx]
  | g :: gs, f :: fs, b, x, hx => by
    rw [booksM] at hx
    rcases List.mem_cons.mp hx with z | z
    · rw [z]
    · rw [books_rows gs fs _ x z, len_next]
theorem books_nil (fs b : List Int) : booksM [] fs b = [b] := by cases fs <;> rfl
/-- one station more -/
theorem books_snoc : ∀ (gs : List Leg) (fs : List Int) (b : List Int) (g : Leg) (f : Int), gs.length = fs.length → ∃ l, (booksM gs fs b).getLast? = some l ∧ booksM (gs ++ [g]) (fs ++ [f]) b = booksM gs fs b ++ [nextM g f l]
  | [], [], b, g, f, _ => ⟨b, rfl, rfl⟩
  | [], _ :: _, b, g, f, h => by simp at h
  | g' :: gs, [], b, g, f, h => by simp at h
  | g' :: gs, f' :: fs, b, g, f, h => by
    obtain ⟨l, e1, e2⟩ := books_snoc gs fs (nextM g' f' b) g f (by simpa using h)
    refine ⟨l, ?_, ?_⟩
    · rw [booksM]
      rw [List.getLast?_cons, e1]
      rfl
    · show booksM (g' :: (gs ++ [g])) (f' :: (fs ++ [f])) b = _
      rw [booksM, e2, booksM]
      rfl
/-- up to a station -/
theorem books_take : ∀ (gs : List Leg) (fs : List Int) (b : List Int) (n : Nat), gs.length = fs.length → booksM (gs.take n) (fs.take n) b = (booksM gs fs b).take (n + 1)
  | [], fs, b, n, _ => by rw [List.take_nil, books_nil, books_nil]; simp
  | g :: gs, [], b, n, h => by simp at h
  | g :: gs, f :: fs, b, 0, h => by rw [List.take_zero, List.take_zero, booksM]; rfl
  | g :: gs, f :: fs, b, n + 1, h => by
    rw [List.take_succ_cons, List.take_succ_cons, booksM, booksM, List.take_succ_cons, books_take gs fs _ n (by simpa using h)]
/-! ### pages, deeds -/
/-- a road, who set out when, who they are -/
abbrev Page := Road × List Int × List Int
def pageD (p : Page) : PyData := .tuple [roadD p.1, setsD p.2.1, setsD p.2.2]
def diffs (xs ys : List Int) : Int := (((xs.zip ys).filter fun p => decide (p.1 ≠ p.2)).length : Nat)
def gainM (q : Page) (kr : Int × List Int) : Int := match (q.2.2.zip (comM q.1 q.2.1)).lookup kr.1 with
  | some r => diffs kr.2 r
  | none => 0
/-- how many comings of those who are in both pages are at other beats -/
def chg (p q : Page) : Int := ((p.2.2.zip (comM p.1 p.2.1)).map (gainM q)).sum
structure PgOk (n : Nat) (p : Page) : Prop where
  legs : p.1.1.length = n
  firsts : p.1.2.length = n
  few : n ≤ 100
  sets : p.2.1.length ≤ 1000
  persons : p.2.2.length = p.2.1.length
  nd : p.2.2.Nodup
inductive Deed where
  | send (b : Int)
  | move (r b : Int)
  | strike (r : Int)
  | first (s b : Int)
  | leg (s : Int) (g : Leg)
def Deed.word : Deed → Str
  | .send _ => "send"
  | .move _ _ => "move"
  | .strike _ => "strike"
  | .first _ _ => "first"
  | .leg _ _ => "leg"
def Deed.args : Deed → List PyData
  | .send b => [.int b]
  | .move r b => [.int r, .int b]
  | .strike r => [.int r]
  | .first s b => [.int s, .int b]
  | .leg s g => [.int s, legD g]
def deedD (d : Deed) : PyData := .tuple (.str d.word :: d.args)
/-! ### comings to a beat -/
def evB (b : List Int) (s : Nat) (beat : Int) : List (Int × Int × Int) := (List.range b.length).filterMap fun (r : Nat) => (b[r]?).bind fun c => if c ≤ beat then some (c, Int.ofNat s, Int.ofNat r) else none
def evM (bs : List (List Int)) (beat : Int) (n : Nat) : List (Int × Int × Int) := (List.range n).flatMap fun s => evB (bs.getD s []) s beat
theorem evM_succ (bs : List (List Int)) (beat : Int) (n : Nat) : evM bs beat (n + 1) = evM bs beat n ++ evB (bs.getD n []) n beat := by
  unfold evM
  rw [List.range_succ, List.flatMap_append]
  simp
/-! ### deeds on a page -/
inductive Ex where
  | rider
  | station
  | early
  | late
def Ex.fld : Ex → Str
  | .rider => "rider"
  | .station => "station"
  | .early => "beat"
  | .late => "beat"
def lastOf (s : List Int) : List Int := s.drop (s.length - 1)
open Classical in
/-- by what a deed is refused -/
noncomputable def refus (rd : Road) (sets : List Int) : Deed → Option (Ex × Int)
  | .send b => if ∀ x ∈ lastOf sets ++ rd.2, x ≤ b then none else some (.early, b)
  | .move r b => if ¬ (0 ≤ r ∧ r < (sets.length : Nat)) then some (.rider, r) else if ¬ ∀ x ∈ lastOf (sets.take r.toNat) ++ rd.2, x ≤ b then some (.early, b) else if ¬ ∀ x ∈ sets.drop (r.toNat + 1), b ≤ x then some (.late, b) else none
  | .strike r => if ¬ (0 ≤ r ∧ r < (sets.length : Nat)) then some (.rider, r) else none
  | .first s b => if ¬ (0 ≤ s ∧ s ≤ (rd.1.length : Nat) - 1) then some (.station, s) else if ¬ ∀ x ∈ sets, b ≤ x then some (.late, b) else none
  | .leg s _ => if ¬ (0 ≤ s ∧ s ≤ (rd.1.length : Nat) - 1) then some (.station, s) else none
/-- what it makes of the road and the setting-outs -/
def applyS (rd : Road) (sets : List Int) : Deed → Road × List Int
  | .send b => (rd, sets ++ [b])
  | .move r b => (rd, sets.set r.toNat b)
  | .strike r => (rd, sets.eraseIdx r.toNat)
  | .first s b => ((rd.1, rd.2.set s.toNat b), sets)
  | .leg s g => ((rd.1.set s.toNat g, rd.2), sets)
/-- of the riders -/
def applyR (ps : List Int) (n : Int) : Deed → List Int
  | .send _ => ps ++ [n + 1]
  | .strike r => ps.eraseIdx r.toNat
  | _ => ps
def applyN (n : Int) : Deed → Int
  | .send _ => n + 1
  | _ => n
def applyP (p : Page) (n : Int) (d : Deed) : Page := ((applyS p.1 p.2.1 d).1, (applyS p.1 p.2.1 d).2, applyR p.2.2 n d)
structure HOk (m : Nat) (p : Page) (n : Int) : Prop where
  pg : PgOk m p
  le : ∀ x ∈ p.2.2, x ≤ n
  few : p.2.1.length ≤ 900
theorem HOk.next {m : Nat} {p : Page} {n : Int} {d : Deed} (h : HOk m p n) : PgOk m (applyP p n d) := by
  obtain ⟨⟨h1, h2, h3, h4, h5, h6⟩, h7, h8⟩ := h
  cases d with
  | send b =>
    refine ⟨h1, h2, h3, ?_, ?_, ?_⟩
    · show (p.2.1 ++ [b]).length ≤ 1000
      rw [List.length_append, List.length_singleton]
      omega
    · show (p.2.2 ++ [n + 1]).length = (p.2.1 ++ [b]).length
      rw [List.length_append, List.length_append, h5]
      rfl
    · show (p.2.2 ++ [n + 1]).Nodup
      rw [List.nodup_append]
      refine ⟨h6, by simp, fun a ha b hb => ?_⟩
      rw [List.mem_singleton.mp hb]
      have := h7 a ha
      omega
  | move r b => exact ⟨h1, h2, h3, by show (p.2.1.set _ _).length ≤ _; rw [List.length_set]; exact h4, by show p.2.2.length = (p.2.1.set _ _).length; rw [List.length_set]; exact h5, h6⟩
  | strike r =>
    refine ⟨h1, h2, h3, ?_, ?_, ?_⟩
    · show (p.2.1.eraseIdx _).length ≤ 1000
      exact Nat.le_trans (List.length_eraseIdx_le _ _) h4
    · show (p.2.2.eraseIdx _).length = (p.2.1.eraseIdx _).length
      rw [List.length_eraseIdx, List.length_eraseIdx, h5]
    · exact h6.sublist (List.eraseIdx_sublist _ _)
  | first s b => exact ⟨h1, by show (p.1.2.set _ _).length = _; rw [List.length_set]; exact h2, h3, h4, h5, h6⟩
  | leg s g => exact ⟨by show (p.1.1.set _ _).length = _; rw [List.length_set]; exact h1, h2, h3, h4, h5, h6⟩
/-! ### rows of deeds -/
/-- what a house is: its pages, how many were sent -/
abbrev HSt := List Page × Int
noncomputable def runD : HSt → List Deed → Option HSt
  | S, [] => some S
  | S, d :: ds => match S.1.getLast? with
    | none => none
    | some p => match refus p.1 p.2.1 d with
      | none => runD (S.1 ++ [applyP p S.2 d], applyN S.2 d) ds
      | some _ => none
structure HInv (m : Nat) (S : HSt) (B : Nat) : Prop where
  ne : S.1 ≠ []
  ok : ∀ p ∈ S.1, PgOk m p ∧ (∀ x ∈ p.2.2, x ≤ S.2) ∧ p.2.1.length ≤ B
  le : B ≤ 900
  len : S.1.length ≤ B + 1000
theorem HInv.hok {m B : Nat} {S : HSt} {p : Page} (h : HInv m S B) (e : S.1.getLast? = some p) : HOk m p S.2 := by
  obtain ⟨h1, h2, h3⟩ := h.ok p (List.mem_of_getLast? e)
  exact ⟨h1, h2, Nat.le_trans h3 h.le⟩
theorem applyN_le (n : Int) (d : Deed) : n ≤ applyN n d := by
  cases d <;> simp only [applyN] <;> omega
theorem HInv.next {m B : Nat} {S : HSt} {p : Page} {d : Deed} (h : HInv m S B) (e : S.1.getLast? = some p) (hB : B + 1 ≤ 900) : HInv m (S.1 ++ [applyP p S.2 d], applyN S.2 d) (B + 1) := by
  have hp := h.hok e
  obtain ⟨g1, g2, g3⟩ := h.ok p (List.mem_of_getLast? e)
  refine ⟨by simp, fun q hq => ?_, hB, ?_⟩
  · rcases List.mem_append.mp hq with hq | hq
    · obtain ⟨h1, h2, h3⟩ := h.ok q hq
      exact ⟨h1, fun x hx => Int.le_trans (h2 x hx) (applyN_le _ _), by omega⟩
    · rw [List.mem_singleton.mp hq]
      refine ⟨hp.next, fun x hx => ?_, ?_⟩
      · have hx' : x ∈ applyR p.2.2 S.2 d := hx
        cases d with
        | send b =>
          rcases List.mem_append.mp hx' with z | z
          · have := g2 x z
            show x ≤ S.2 + 1
            omega
          · rw [List.mem_singleton.mp z]
            exact Int.le_refl _
        | move r b => exact g2 x hx'
        | strike r => exact g2 x (List.mem_of_mem_eraseIdx hx')
        | first s b => exact g2 x hx'
        | leg s g => exact g2 x hx'
      · show ((applyS p.1 p.2.1 d).2).length ≤ B + 1
        cases d with
        | send b => show (p.2.1 ++ [b]).length ≤ _; rw [List.length_append, List.length_singleton]; omega
        | move r b => show (p.2.1.set _ _).length ≤ _; rw [List.length_set]; omega
        | strike r => exact Nat.le_trans (List.length_eraseIdx_le _ _) (by omega)
        | first s b => show p.2.1.length ≤ _; omega
        | leg s g => show p.2.1.length ≤ _; omega
  · show (S.1 ++ [_]).length ≤ _
    rw [List.length_append, List.length_singleton]
    have := h.len
    omega
/-! ### chains -/
def cAt (bs : List (List Int)) (s r : Nat) : Int := (bs.getD s []).getD r 0
/-- when the horse came to station s that rider r takes -/
def hAt (fs : List Int) (bs : List (List Int)) (s r : Nat) : Int := if r = 0 then fs.getD s 0 else cAt bs s (r - 1)
/-- by which of three the coming of rider r to station s + 1 is -/
def wordAt (rd : Road) (bs : List (List Int)) (s r : Nat) : Str := if hAt rd.2 bs s r + (rd.1.getD s (0, 0, 0)).1 = cAt bs (s + 1) r then "horse" else if cAt bs s r + (rd.1.getD s (0, 0, 0)).2.1 = cAt bs (s + 1) r then "least" else "most"
def nextR (w : Str) (r : Nat) : Option Nat := if w = "horse" then (if 0 < r then some (r - 1) else none) else some r
def endD (rd : Road) (sets : List Int) : Option Nat → Nat → PyData
  | none, s => .tuple [.str "first", .none, .int (s : Nat), .int (rd.2.getD s 0)]
  | some r, _ => .tuple [.str "set", .int (r : Nat), .int 0, .int (sets.getD r 0)]
def stepD (w : Str) (r s : Nat) (b : Int) : PyData := .tuple [.str w, .int (r : Nat), .int (s : Nat), .int b]
def chainM (rd : Road) (sets : List Int) (bs : List (List Int)) : Nat → Option Nat → List PyData
  | s, none => [endD rd sets none s]
  | 0, some r => [endD rd sets (some r) 0]
  | s + 1, some r => stepD (wordAt rd bs s r) r (s + 1) (cAt bs (s + 1) r) :: chainM rd sets bs s (nextR (wordAt rd bs s r) r)
theorem next_three (g : Leg) (c h : Int) : c + rideM g (c - h) = c + g.2.1 ∨ c + rideM g (c - h) = h + g.1 ∨ c + rideM g (c - h) = c + g.2.2 := by
  unfold rideM heldM
  omega
/-- a coming to a station is the middle of three -/
theorem books_step : ∀ (gs : List Leg) (fs : List Int) (b : List Int) (s r : Nat), gs.length = fs.length → s < gs.length → r < b.length → cAt (booksM gs fs b) (s + 1) r = cAt (booksM gs fs b) s r + rideM (gs.getD s (0, 0, 0)) (cAt (booksM gs fs b) s r - hAt fs (booksM gs fs b) s r)
  | [], fs, b, s, r, _, hs, _ => by simp at hs
  | g :: gs, [], b, s, r, h, _, _ => by simp at h
  | g :: gs, f :: fs, b, 0, r, h, hs, hr => by
    have e1 : cAt (booksM (g :: gs) (f :: fs) b) 0 r = b.getD r 0 := rfl
    have e2 : cAt (booksM (g :: gs) (f :: fs) b) 1 r = (nextM g f b).getD r 0 := by
      unfold cAt
      rw [booksM, List.getD_cons_succ]
      cases gs with
      | nil => cases fs <;> rfl
      | cons g' gs =>
        cases fs with
        | nil => simp at h
        | cons f' fs => rfl
    have e3 : hAt (f :: fs) (booksM (g :: gs) (f :: fs) b) 0 r = ((f :: b).dropLast).getD r 0 := by
      unfold hAt
      have hd : ((f :: b).dropLast).getD r 0 = (f :: b).getD r 0 := by
        rw [List.getD_eq_getElem?_getD, List.getD_eq_getElem?_getD, List.getElem?_dropLast, if_pos (by simpa using hr)]
      rw [hd]
      cases r with
      | zero => rfl
      | succ r => rfl
    have hb : b[r]? = some (b.getD r 0) := by rw [List.getD_eq_getElem?_getD, List.getElem?_eq_getElem hr]; rfl
    have hl : r < ((f :: b).dropLast).length := by simpa using hr
    have hh : ((f :: b).dropLast)[r]? = some (((f :: b).dropLast).getD r 0) := by rw [List.getD_eq_getElem?_getD, List.getElem?_eq_getElem hl]; rfl
    rw [e1, e2, e3, List.getD_eq_getElem?_getD, next_at g f b r _ _ hb hh]
    rfl
  | g :: gs, f :: fs, b, s + 1, r, h, hs, hr => by
    have ih := books_step gs fs (nextM g f b) s r (by simpa using h) (by simpa using hs) (by rw [len_next]; exact hr)
    have e : ∀ k, cAt (booksM (g :: gs) (f :: fs) b) (k + 1) r = cAt (booksM gs fs (nextM g f b)) k r := fun k => by unfold cAt; rw [booksM, List.getD_cons_succ]
    have e2 : hAt (f :: fs) (booksM (g :: gs) (f :: fs) b) (s + 1) r = hAt fs (booksM gs fs (nextM g f b)) s r := by
      unfold hAt
      split
      · rfl
      · unfold cAt; rw [booksM, List.getD_cons_succ]
    rw [e, e, e2, List.getD_cons_succ]
    exact ih
theorem word_three (rd : Road) (sets : List Int) (s r : Nat) (h : rd.1.length = rd.2.length) (hs : s < rd.1.length) (hr : r < sets.length) :
    (wordAt rd (booksM rd.1 rd.2 sets) s r = "least" ∧ cAt (booksM rd.1 rd.2 sets) s r + (rd.1.getD s (0, 0, 0)).2.1 = cAt (booksM rd.1 rd.2 sets) (s + 1) r) ∨ (wordAt rd (booksM rd.1 rd.2 sets) s r = "horse" ∧ hAt rd.2 (booksM rd.1 rd.2 sets) s r + (rd.1.getD s (0, 0, 0)).1 = cAt (booksM rd.1 rd.2 sets) (s + 1) r) ∨
      (wordAt rd (booksM rd.1 rd.2 sets) s r = "most" ∧ cAt (booksM rd.1 rd.2 sets) s r + (rd.1.getD s (0, 0, 0)).2.2 = cAt (booksM rd.1 rd.2 sets) (s + 1) r) := by
  have e := books_step rd.1 rd.2 sets s r h hs hr
  have t := next_three (rd.1.getD s (0, 0, 0)) (cAt (booksM rd.1 rd.2 sets) s r) (hAt rd.2 (booksM rd.1 rd.2 sets) s r)
  rw [← e] at t
  unfold wordAt
  by_cases c1 : hAt rd.2 (booksM rd.1 rd.2 sets) s r + (rd.1.getD s (0, 0, 0)).1 = cAt (booksM rd.1 rd.2 sets) (s + 1) r
  · rw [if_pos c1]
    exact .inr (.inl ⟨rfl, c1⟩)
  · rw [if_neg c1]
    by_cases c2 : cAt (booksM rd.1 rd.2 sets) s r + (rd.1.getD s (0, 0, 0)).2.1 = cAt (booksM rd.1 rd.2 sets) (s + 1) r
    · rw [if_pos c2]
      exact .inl ⟨rfl, c2⟩
    · rw [if_neg c2]
      refine .inr (.inr ⟨rfl, ?_⟩)
      rcases t with t | t | t
      · exact absurd t.symm c2
      · exact absurd t.symm c1
      · exact t.symm
end Rh
end RhDef_
section RhBase_
set_option Elab.async false
set_option linter.all false
set_option maxRecDepth 100000
set_option maxHeartbeats 4000000
/-! Frames, data, callables: the words all walks share. -/
namespace Rh
open PySem PySem.Spec PyProof.Rows L2
/-! ### frames -/
structure Fr (S : List Addr) (H H' : Hp) : Prop where
  keep : ∀ b o, H b = some o → b ∉ S → H' b = some o
  tk : ∀ b xs, Rd H b (.tup xs) → Rd H' b (.tup xs)
theorem Same.rd {H H' : Hp} (e : Same H H') {b : Addr} {u : HO} (h : Rd H b u) : Rd H' b u := by
  rcases h with h | ⟨o, h⟩
  · exact .inl (e _ _ h)
  · exact .inr ⟨o, e _ _ h⟩
theorem Fr.of {S : List Addr} {H H' : Hp} (e : Same H H') : Fr S H H' := ⟨fun b o h _ => e b o h, fun b xs h => Same.rd e h⟩
theorem Fr.refl {S : List Addr} {H : Hp} : Fr S H H := .of (Same.refl H)
theorem Fr.trans {S : List Addr} {H H1 H2 : Hp} (a : Fr S H H1) (b : Fr S H1 H2) : Fr S H H2 := ⟨fun c o h n => b.keep c o (a.keep c o h n) n, fun c xs h => b.tk c xs (a.tk c xs h)⟩
theorem Fr.mono {S S' : List Addr} {H H' : Hp} (a : Fr S H H') (h : ∀ x ∈ S, x ∈ S') : Fr S' H H' := ⟨fun c o e n => a.keep c o e fun z => n (h c z), a.tk⟩
/-- behind, at addresses that were not there before -/
theorem Fr.past {S S2 : List Addr} {H H1 H2 : Hp} (a : Fr S H H1) (b : Fr S2 H1 H2) (h : ∀ x ∈ S2, x ∈ S ∨ H x = none) : Fr S H H2 := ⟨fun c o e n => b.keep c o (a.keep c o e n) (fun z => (h c z).elim n fun z => by rw [z] at e; cases e), fun c xs h => b.tk c xs (a.tk c xs h)⟩
theorem Fr.beside {S : List Addr} {H H1 H2 : Hp} (a : Same H H1) (b : Fr S H1 H2) (h : ∀ x ∈ S, H x = none) : Same H H2 := fun c o e => b.keep c o (a c o e) fun z => by rw [h c z] at e; cases e
theorem Fr.same {H' : Hp} (a : Fr [] H H') : Same H H' := fun b o e => a.keep b o e (by simp)
theorem Fr.put {S : List Addr} {H : Hp} {a : Addr} {o u : HO} (e : H a = some o) (hn : ∀ xs, ¬ Rd H a (.tup xs)) (ha : a ∈ S) : Fr S H (upd H a u) := ⟨fun b v h n => by rw [upd_ne (fun z => n (by rw [z]; exact ha))]; exact h, fun b xs h => by
  have : b ≠ a := fun z => hn xs (z ▸ h)
  unfold Rd at h ⊢
  rw [upd_ne this]
  exact h⟩
theorem notup_lst {H : Hp} {a : Addr} {xs : List V} (e : H a = some (.lst xs)) (ys : List V) : ¬ Rd H a (.tup ys) := fun h => by
  rcases h with h | ⟨o, h⟩ <;> rw [e] at h <;> cases h
theorem notup_ins {H : Hp} {a C dx : Addr} {fs : List (Str × V)} (e : H a = some (.ins C dx fs)) (ys : List V) : ¬ Rd H a (.tup ys) := fun h => by
  rcases h with h | ⟨o, h⟩ <;> rw [e] at h <;> cases h
theorem Fr.lst {S : List Addr} {H : Hp} {a : Addr} {xs : List V} {u : HO} (e : H a = some (.lst xs)) (ha : a ∈ S) : Fr S H (upd H a u) := .put e (notup_lst e) ha
theorem Fr.ins {S : List Addr} {H : Hp} {a C dx : Addr} {fs : List (Str × V)} {u : HO} (e : H a = some (.ins C dx fs)) (ha : a ∈ S) : Fr S H (upd H a u) := .put e (notup_ins e) ha
theorem Fr.new {S : List Addr} {H : Hp} {a : Addr} {u : HO} (e : H a = none) : Fr S H (upd H a u) := .of (RhR.Same.upd e)
theorem Fr.tup {S : List Addr} {K : PySem.W.Frag} {H H' : Hp} {a : Addr} {xs : List V} (e : Fr S H H') (h : SqT K H a xs) : SqT K H' a xs := by
  rcases h with h | h
  · exact .inl (e.tk _ _ h)
  · exact .inr h
theorem Same.tup {K : PySem.W.Frag} {H H' : Hp} {a : Addr} {xs : List V} (e : Same H H') (h : SqT K H a xs) : SqT K H' a xs := RhR.Same.tup e h
theorem Same.upd {H : Hp} {p : Addr} {o : HO} (n : H p = none) : Same H (upd H p o) := RhR.Same.upd n
/-! ### data -/
section
variable {K : PySem.W.Frag} {H H' : Hp}
mutual
/-- tuples of tuples .. of plain things -/
def noL : PyData → Bool
  | .tuple ds => noLs ds
  | .list _ => false
  | .dict _ => false
  | _ => true
def noLs : List PyData → Bool
  | [] => true
  | d :: ds => noL d && noLs ds
end
mutual
theorem Dp.same (e : Same H H') : ∀ {d : PyData} {v : V}, Dp K H v d → Dp K H' v d
  | .none, _, h => by cases h; exact .non
  | .bool b, _, h => by cases h; exact .bl b
  | .int i, _, h => by cases h; exact .int i
  | .str x, _, h => by cases h; exact .str x
  | .list ds, _, h => by
    cases h with
    | lst hs ha => exact .lst (e.seq hs) (DpAll.same e ha)
  | .tuple ds, _, h => by
    cases h with
    | tup hs ha => exact .tup (Same.tup e hs) (DpAll.same e ha)
  | .dict _, _, h => by cases h
theorem DpAll.same (e : Same H H') : ∀ {ds : List PyData} {vs : List V}, DpAll K H vs ds → DpAll K H' vs ds
  | [], _, h => by cases h; exact .nil
  | d :: ds, _, h => by
    cases h with
    | cons h1 h2 => exact .cons (Dp.same e h1) (DpAll.same e h2)
end
mutual
theorem Dp.fr {S : List Addr} (e : Fr S H H') : ∀ {d : PyData} {v : V}, noL d = true → Dp K H v d → Dp K H' v d
  | .none, _, _, h => by cases h; exact .non
  | .bool b, _, _, h => by cases h; exact .bl b
  | .int i, _, _, h => by cases h; exact .int i
  | .str x, _, _, h => by cases h; exact .str x
  | .list ds, _, n, _ => by simp [noL] at n
  | .tuple ds, _, n, h => by
    cases h with
    | tup hs ha => exact .tup (e.tup hs) (DpAll.fr e (by simpa [noL] using n) ha)
  | .dict _, _, _, h => by cases h
theorem DpAll.fr {S : List Addr} (e : Fr S H H') : ∀ {ds : List PyData} {vs : List V}, noLs ds = true → DpAll K H vs ds → DpAll K H' vs ds
  | [], _, _, h => by cases h; exact .nil
  | d :: ds, _, n, h => by
    rw [noLs, Bool.and_eq_true] at n
    cases h with
    | cons h1 h2 => exact .cons (Dp.fr e n.1 h1) (DpAll.fr e n.2 h2)
end
theorem Dp.tupI {v : V} {ds : List PyData} (h : Dp K H v (.tuple ds)) : ∃ a xs, v = .ref a ∧ SqT K H a xs ∧ DpAll K H xs ds := by
  cases h with
  | tup h1 h2 => exact ⟨_, _, rfl, h1, h2⟩
theorem Dp.lstI {v : V} {ds : List PyData} (h : Dp K H v (.list ds)) : ∃ a xs, v = .ref a ∧ SqL K H a xs ∧ DpAll K H xs ds := by
  cases h with
  | lst h1 h2 => exact ⟨_, _, rfl, h1, h2⟩
theorem Dp.intI {v : V} {i : Int} (h : Dp K H v (.int i)) : v = .int i := by
  cases h
  rfl
theorem DpAll.intsI : ∀ {ns : List Int} {vs : List V}, DpAll K H vs (ns.map PyData.int) → vs = ns.map V.int
  | [], _, h => by cases h; rfl
  | n :: ns, _, h => by
    cases h with
    | cons h1 h2 => rw [Dp.intI h1, DpAll.intsI h2]; rfl
theorem DpAll.ints : ∀ {ns : List Int}, DpAll K H (ns.map V.int) (ns.map PyData.int)
  | [] => .nil
  | n :: ns => .cons (.int n) DpAll.ints
theorem DpAll.length : ∀ {vs : List V} {ds : List PyData}, DpAll K H vs ds → vs.length = ds.length
  | [], _, h => by cases h; rfl
  | _ :: _, _, h => by
    cases h with
    | cons h1 h2 => rw [List.length_cons, List.length_cons, DpAll.length h2]
theorem DpAll.app : ∀ {vs ws : List V} {ds es : List PyData}, DpAll K H vs ds → DpAll K H ws es → DpAll K H (vs ++ ws) (ds ++ es)
  | [], _, _, _, h, h' => by cases h; exact h'
  | _ :: _, _, _, _, h, h' => by
    cases h with
    | cons h1 h2 => exact .cons h1 (DpAll.app h2 h')
theorem DpAll.take : ∀ {vs : List V} {ds : List PyData} (n : Nat), DpAll K H vs ds → DpAll K H (vs.take n) (ds.take n)
  | _, _, 0, _ => .nil
  | _, _, n + 1, h => by
    cases h with
    | nil => exact .nil
    | cons h1 h2 => exact .cons h1 (DpAll.take n h2)
theorem DpAll.drop : ∀ {vs : List V} {ds : List PyData} (n : Nat), DpAll K H vs ds → DpAll K H (vs.drop n) (ds.drop n)
  | _, _, 0, h => h
  | _, _, n + 1, h => by
    cases h with
    | nil => exact .nil
    | cons h1 h2 => exact DpAll.drop n h2
theorem DpAll.at : ∀ {vs : List V} {ds : List PyData} {i : Nat} {d : PyData}, DpAll K H vs ds → ds[i]? = some d → ∃ v, vs[i]? = some v ∧ Dp K H v d
  | _, _, _, _, .nil, e => by simp at e
  | _, _, 0, _, .cons h1 h2, e => by
    rw [← Option.some.inj e]
    exact ⟨_, rfl, h1⟩
  | _, _, i + 1, _, .cons h1 h2, e => DpAll.at h2 (i := i) (by simpa using e)
theorem DpAll.at' : ∀ {vs : List V} {ds : List PyData} {i : Nat} {v : V}, DpAll K H vs ds → vs[i]? = some v → ∃ d, ds[i]? = some d ∧ Dp K H v d
  | _, _, _, _, .nil, e => by simp at e
  | _, _, 0, _, .cons h1 h2, e => by
    rw [← Option.some.inj e]
    exact ⟨_, rfl, h1⟩
  | _, _, i + 1, _, .cons h1 h2, e => DpAll.at' h2 (i := i) (by simpa using e)
theorem Dp.ofInts {a : Addr} {ns : List Int} (h : SqL K H a (ns.map V.int)) : Dp K H (.ref a) (.list (ns.map PyData.int)) := .lst h DpAll.ints
theorem Dp.ofTints {a : Addr} {ns : List Int} (h : SqT K H a (ns.map V.int)) : Dp K H (.ref a) (.tuple (ns.map PyData.int)) := .tup h DpAll.ints
end
/-! ### a def that stands at its name -/
/-- the def st stands at the module's name x, its parameters ps all written -/
def Dfn (K : PySem.W.Frag) (mg : Str → Option Value) (x : Str) (st : Stmt) (ps : List Str) : Prop := ∃ (f : Addr) (fd : FuncData), FunD K x x (defArgs st) (defBody st) (defScope st) [] [] f fd ∧ mg x = some (.ref f) ∧ L2.Binds K fd ps []
/-- what stands at the module's name x keeps the promise sp -/
def Cal (P : Program) (w : World) (K : PySem.W.Frag) (mg : Str → Option Value) (base : Heap) (CX : CXT) (x : Str) (k : Nat) (ps : List Str) (sp : Sp) : Prop :=
  ∃ (f : Addr) (fd : FuncData), FnOk P w K mg base CX k f fd ps sp ∧ mg x = some (.ref f) ∧ PySem.W.keepIn K (.ref f) = true ∧ L2.Binds K fd ps []
theorem Dfn.cal {P : Program} {w : World} {K : PySem.W.Frag} {mg : Str → Option Value} {base : Heap} {CX : CXT} {x : Str} {st : Stmt} {k : Nat} {ps N : List Str} {sp : Sp} (D : Dfn K mg x st ps) (S : FnScope N ps (defScope st)) (len : ∀ vs H Q E, sp vs H Q E → vs.length = ps.length)
    (hb : ∀ (f : Addr) (cdv : Value) (A : Around) (outer : List Env) (s : Shared) (H : Hp) (vs : List V) (Q : VK) (E : XK), Room k (A.deeper (envOfC x (defScope st) s.heap.objs.size f cdv)) → sp vs H Q E →
      ∃ t, PSs (cxOf CX P w K mg base N x (defScope st) f cdv A outer s H E) (defBody st) t ∧ t { nx := fun _ H' => Q .non H', rt := Q } (start N vs) H) : Cal P w K mg base CX x (k + 1) ps sp := by
  obtain ⟨f, fd, F, g, b⟩ := D
  exact ⟨f, fd, F.ok S len (hb f), g, F.kp, b⟩
/-- the def st of the class at C -/
def Mfn (K : PySem.W.Frag) (C : Addr) (x q : Str) (st : Stmt) (ps : List Str) : Prop := ∃ (f : Addr) (fd : FuncData), FunD K x q (defArgs st) (defBody st) (defScope st) [] [] f fd ∧ Meth K C x f ∧ L2.Binds K fd ps []
def MCal (P : Program) (w : World) (K : PySem.W.Frag) (mg : Str → Option Value) (base : Heap) (C : Addr) (CX : CXT) (x : Str) (k : Nat) (ps : List Str) (sp : Sp) : Prop :=
  ∃ (f : Addr) (fd : FuncData), FnOk P w K mg base CX k f fd ps sp ∧ Meth K C x f ∧ L2.Binds K fd ps []
theorem Mfn.cal {P : Program} {w : World} {K : PySem.W.Frag} {mg : Str → Option Value} {base : Heap} {C : Addr} {CX : CXT} {x q : Str} {st : Stmt} {k : Nat} {ps N : List Str} {sp : Sp} (D : Mfn K C x q st ps) (S : FnScope N ps (defScope st)) (len : ∀ vs H Q E, sp vs H Q E → vs.length = ps.length)
    (hb : ∀ (f : Addr) (cdv : Value) (A : Around) (outer : List Env) (s : Shared) (H : Hp) (vs : List V) (Q : VK) (E : XK), Room k (A.deeper (envOfC q (defScope st) s.heap.objs.size f cdv)) → sp vs H Q E →
      ∃ t, PSs (cxOf CX P w K mg base N q (defScope st) f cdv A outer s H E) (defBody st) t ∧ t { nx := fun _ H' => Q .non H', rt := Q } (start N vs) H) : MCal P w K mg base C CX x (k + 1) ps sp := by
  obtain ⟨f, fd, F, g, b⟩ := D
  exact ⟨f, fd, F.ok S len (hb f), g, b⟩
/-- the built-in names that the module leaves as they are -/
structure Bn (mg : Str → Option Value) : Prop where
  zip : mg "zip" = none
  len : mg "len" = none
  list : mg "list" = none
  range : mg "range" = none
  max : mg "max" = none
  min : mg "min" = none
  dict : mg "dict" = none
  any : mg "any" = none
  all : mg "all" = none
  sorted : mg "sorted" = none
  enum : mg "enumerate" = none
  isi : mg "isinstance" = none
  tuple : mg "tuple" = none
  str : mg "str" = none
  bool : mg "bool" = none
  int : mg "int" = none
  abs : mg "abs" = none
  lookupE : mg "LookupError" = none
  runtimeE : mg "RuntimeError" = none
  valueE : mg "ValueError" = none
/-! ### walks -/
section
variable {K : PySem.W.Frag} {a b : Addr} {xs ys : List V}
theorem walk_zs {b1 b2 : Bool} (hl : xs.length = ys.length) : Walk (RhZ.ItzS K b1 b2 a b) xs.length (fun H => RhZ.SqB b1 K H a xs ∧ RhZ.SqB b2 K H b ys) (YPair (fun i => xs[i]?) (fun i => ys[i]?)) := by
  refine ⟨fun i _ hi q => ?_, fun _ q => ⟨xs, ys, q.1, q.2, rfl, hl.symm⟩, fun i H v H' _ q y => ?_⟩
  · exact ⟨xs, ys, xs[i], ys[i]'(by omega), q.1, q.2, by simp [hi], by simp [show i < ys.length by omega]⟩
  · obtain ⟨T, x, z, h1, h2, h3, h4, h5⟩ := y
    exact ⟨T, x, z, h1, h2, h3, h4 xs q.1, h5 ys q.2⟩
theorem walk_zT {n : Nat} (hn : n = min xs.length ys.length) : Walk (RZ.ItzT K a b) n (fun H => SqT K H a xs ∧ SqT K H b ys) (YPair (fun i => xs[i]?) (fun i => ys[i]?)) := by
  subst hn
  refine ⟨fun i _ hi q => ?_, fun _ q => ⟨xs, ys, q.1, q.2, by omega⟩, fun i H v H' _ q y => ?_⟩
  · have h1 : i < xs.length := by omega
    have h2 : i < ys.length := by omega
    exact ⟨xs, ys, xs[i], ys[i], q.1, q.2, by simp [h1], by simp [h2]⟩
  · obtain ⟨T, x, z, h1, h2, h3, h4, h5⟩ := y
    exact ⟨T, x, z, h1, h2, h3, h4 xs q.1, h5 ys q.2⟩
end
/-! ### comprehensions whose items are told outright -/
theorem range_fm {α : Type} (fs : Nat → Option α) (i : Nat) : (List.range (i + 1)).filterMap fs = (List.range i).filterMap fs ++ (fs i).toList := by
  rw [List.range_succ, List.filterMap_append]
  cases h : fs i <;> simp [h]
/-- what was there stays as it was; the i-th turn gives fs i, or nothing -/
theorem lc_fm {J : It} {n : Nat} {G : Hp → Prop} {Y : Nat → Hp → V → Hp → Prop} (w : Walk J n G Y) (fs : Nat → Option V) {g : TG} {tt : TT} {te : TE} {vs : List Nat} {σ : L2.St} {H1 : Hp} {D : Addr} {Qd : Hp → Prop} (hD : H1 D = none) (hz : n ≤ 100000)
    (hG : ∀ H, Same H1 H → G H)
    (hs : ∀ i x H H' (Qy : V → Hp → Prop) (Qn : Hp → Prop), i < n → Same H1 H → Y i H x H' → (∀ y H4, fs i = some y → Same H H4 → Qy y H4) → (∀ H3, fs i = none → Same H H3 → Qn H3) →
      g x (wipe σ vs) H' fun σ2 H2 => wipe σ2 vs = wipe σ vs ∧ tt σ2 H2 fun b H3 => if b = true then te σ2 H3 Qy else Qn H3)
    (hd : ∀ H, Same H1 H → H D = some (.lst ((List.range n).filterMap fs)) → Qd H) :
    ∃ W : Nat → Nat → Hp → Prop, (∃ m, W 0 m (upd H1 D (.lst []))) ∧ ∀ i m H, W i m H →
      (J.stop i H ∧ Qd H) ∨ (J.go i H ∧ ∃ Nx : Hp → Prop, (∀ H', Nx H' → ∃ m', m' < m ∧ W (i + 1) m' H') ∧ ∀ x H', J.yld i H x H' → g x (wipe σ vs) H' fun σ2 H2 => wipe σ2 vs = wipe σ vs ∧ tt σ2 H2 fun b H3 =>
        if b = true then te σ2 H3 fun y H4 => ∃ acc, H4 D = some (.lst acc) ∧ acc.length < sizeLine ∧ Nx (upd H4 D (.lst (acc ++ [y]))) else Nx H3) := by
  refine lc_it w (fun i H => Same H1 H ∧ H D = some (.lst ((List.range i).filterMap fs))) ⟨Same.upd hD, upd_same⟩ (fun i H _ p => hG H p.1) (fun i x H H' hi p y => ?_) (fun H p => hd H p.1 p.2)
  have hlen : ((List.range i).filterMap fs).length ≤ i := by
    have := List.length_filterMap_le fs (List.range i)
    rwa [List.length_range] at this
  refine hs i x H H' _ _ hi p.1 y (fun y H4 e q => ?_) (fun H3 e q => ?_)
  · refine ⟨_, q _ _ p.2, by rw [sizeLine_eq]; omega, fun b o e => ?_, ?_⟩
    · have hb : b ≠ D := ne_of_none e hD
      rw [upd_ne hb]
      exact q _ _ (p.1 _ _ e)
    · rw [upd_same, range_fm, e]
      rfl
  · refine ⟨p.1.trans q, ?_⟩
    rw [q _ _ p.2, range_fm, e]
    simp
/-- a heap without what is at D -/
def hide (D : Addr) (H : Hp) : Hp := fun b => if b = D then none else H b
theorem hide_ne {D b : Addr} {H : Hp} (h : b ≠ D) : hide D H b = H b := if_neg h
theorem hide_same {D : Addr} {H : Hp} : Same (hide D H) H := fun b o e => by
  unfold hide at e
  split at e
  · cases e
  · exact e
theorem hide_mono {D : Addr} {H H' : Hp} (s : Same H H') : Same (hide D H) (hide D H') := fun b o e => by
  unfold hide at e ⊢
  split at e
  · cases e
  · rename_i h
    rw [if_neg h]
    exact s b o e
theorem hide_upd {D : Addr} {H : Hp} {o : HO} : hide D (upd H D o) = hide D H := by
  funext b
  unfold hide
  by_cases h : b = D
  · rw [if_pos h, if_pos h]
  · rw [if_neg h, if_neg h, upd_ne h]
/-- the i-th turn gives a y with R i y of the heap beside the list that is being made -/
theorem lc_rel {J : It} {n : Nat} {G : Hp → Prop} {Y : Nat → Hp → V → Hp → Prop} (w : Walk J n G Y) (R : Nat → V → Hp → Prop) (hR : ∀ i y H H', Same H H' → R i y H → R i y H') {g : TG} {tt : TT} {te : TE} {vs : List Nat} {σ : L2.St} {H1 : Hp} {D : Addr} {Qd : Hp → Prop} (hD : H1 D = none) (hz : n ≤ 100000)
    (hG : ∀ H, Same H1 H → G H)
    (hs : ∀ i x H H' (Qy : V → Hp → Prop) (Qn : Hp → Prop) acc, i < n → Same H1 H → H D = some (.lst acc) → Y i H x H' → (∀ y H4, R i y (hide D H4) → Same H H4 → Qy y H4) →
      g x (wipe σ vs) H' fun σ2 H2 => wipe σ2 vs = wipe σ vs ∧ tt σ2 H2 fun b H3 => if b = true then te σ2 H3 Qy else Qn H3)
    (hd : ∀ H ys, Same H1 H → H D = some (.lst ys) → ys.length = n → (∀ i y, ys[i]? = some y → R i y (hide D H)) → Qd H) :
    ∃ W : Nat → Nat → Hp → Prop, (∃ m, W 0 m (upd H1 D (.lst []))) ∧ ∀ i m H, W i m H →
      (J.stop i H ∧ Qd H) ∨ (J.go i H ∧ ∃ Nx : Hp → Prop, (∀ H', Nx H' → ∃ m', m' < m ∧ W (i + 1) m' H') ∧ ∀ x H', J.yld i H x H' → g x (wipe σ vs) H' fun σ2 H2 => wipe σ2 vs = wipe σ vs ∧ tt σ2 H2 fun b H3 =>
        if b = true then te σ2 H3 fun y H4 => ∃ acc, H4 D = some (.lst acc) ∧ acc.length < sizeLine ∧ Nx (upd H4 D (.lst (acc ++ [y]))) else Nx H3) := by
  refine lc_it w (fun i H => Same H1 H ∧ ∃ ys : List V, H D = some (.lst ys) ∧ ys.length = i ∧ ∀ j y, ys[j]? = some y → R j y (hide D H)) ⟨Same.upd hD, [], upd_same, rfl, fun j y e => by simp at e⟩ (fun i H _ p => hG H p.1) (fun i x H H' hi p y => ?_) (fun H p => ?_)
  · obtain ⟨p1, ys, p2, p3, p4⟩ := p
    refine hs i x H H' _ _ ys hi p1 p2 y (fun y H4 r q => ?_)
    refine ⟨_, q _ _ p2, by rw [sizeLine_eq]; omega, fun b o e => ?_, _, upd_same, by rw [List.length_append, p3]; rfl, fun j z e => ?_⟩
    · have hb : b ≠ D := ne_of_none e hD
      rw [upd_ne hb]
      exact q _ _ (p1 _ _ e)
    · rw [hide_upd]
      by_cases hj : j < ys.length
      · rw [List.getElem?_append_left hj] at e
        exact hR _ _ _ _ (hide_mono q) (p4 j z e)
      · rw [List.getElem?_append_right (by omega)] at e
        have hj2 : j - ys.length = 0 := by
          have := (List.getElem?_eq_some_iff.mp e).1
          simp at this
          omega
        rw [hj2] at e
        have : j = i := by omega
        subst this
        rw [← Option.some.inj e]
        exact r
  · obtain ⟨p1, ys, p2, p3, p4⟩ := p
    exact hd H ys p1 p2 p3 p4
theorem ofRel {K : PySem.W.Frag} {H : Hp} {d : Nat → PyData} {n : Nat} {ys : List V} (hl : ys.length = n) (h : ∀ i y, ys[i]? = some y → Dp K H y (d i)) : DpAll K H ys ((List.range n).map d) := by
  subst hl
  induction ys generalizing d with
  | nil => exact .nil
  | cons y ys ih =>
    rw [List.length_cons, List.range_succ_eq_map, List.map_cons, List.map_map]
    exact .cons (h 0 y rfl) (ih (d := d ∘ Nat.succ) fun i z e => h (i + 1) z (by simpa using e))
theorem fm_take {α : Type} (l : List α) : ∀ n : Nat, (List.range n).filterMap (fun i => l[i]?) = l.take n
  | 0 => rfl
  | n + 1 => by rw [range_fm, fm_take l n, List.take_succ]
theorem fm_get {α : Type} {l : List α} {n : Nat} (h : n = l.length) : (List.range n).filterMap (fun i => l[i]?) = l := by rw [fm_take, h, List.take_length]
theorem atI_m1 {α : Type} {xs : List α} {v : α} (h : xs.getLast? = some v) : atI xs (-1) = some v := by
  have e : xs = xs.dropLast ++ [v] := by
    have hn : xs ≠ [] := fun z => by rw [z] at h; cases h
    rw [List.getLast?_eq_some_getLast hn] at h
    rw [← Option.some.inj h]
    exact (List.dropLast_concat_getLast hn).symm
  rw [e]
  exact atI_last _ _
/-! ### lists of lists of ints -/
/-- a list of ints at a -/
abbrev IL (H : Hp) (a : Addr) (cs : List Int) : Prop := H a = some (.lst (cs.map V.int))
/-- the values vs are lists, at addresses of which N holds, of the rows bs -/
def RowsV (N : Addr → Prop) (H : Hp) (vs : List V) (bs : List (List Int)) : Prop := vs.length = bs.length ∧ ∀ (i : Nat) (b : List Int), bs[i]? = some b → ∃ q : Addr, vs[i]? = some (V.ref q) ∧ N q ∧ IL H q b
def Rows (N : Addr → Prop) (H : Hp) (p : Addr) (bs : List (List Int)) : Prop := ∃ vs, H p = some (.lst vs) ∧ N p ∧ RowsV (fun q => N q ∧ q ≠ p) H vs bs
theorem RowsV.mono {N N' : Addr → Prop} {H H' : Hp} {vs : List V} {bs : List (List Int)} (r : RowsV N H vs bs) (h : ∀ q b, N q → IL H q b → N' q ∧ IL H' q b) : RowsV N' H' vs bs := ⟨r.1, fun i b e => by
  obtain ⟨q, e1, e2, e3⟩ := r.2 i b e
  exact ⟨q, e1, h q b e2 e3⟩⟩
theorem RowsV.nil {N : Addr → Prop} {H : Hp} : RowsV N H [] [] := ⟨rfl, fun i b e => by simp at e⟩
theorem RowsV.snoc {N : Addr → Prop} {H : Hp} {vs : List V} {bs : List (List Int)} {q : Addr} {b : List Int} (r : RowsV N H vs bs) (n : N q) (h : IL H q b) : RowsV N H (vs ++ [.ref q]) (bs ++ [b]) := by
  refine ⟨by rw [List.length_append, List.length_append, r.1]; rfl, fun i c e => ?_⟩
  by_cases hi : i < bs.length
  · rw [List.getElem?_append_left hi] at e
    rw [List.getElem?_append_left (by rw [r.1]; exact hi)]
    exact r.2 i c e
  · rw [List.getElem?_append_right (by omega)] at e
    have hj := (List.getElem?_eq_some_iff.mp e).1
    have hz : i - bs.length = 0 := by simp at hj; omega
    rw [hz] at e
    have ec : c = b := (Option.some.inj e).symm
    rw [List.getElem?_append_right (by rw [r.1]; omega), r.1, hz, ec]
    exact ⟨q, rfl, n, h⟩
theorem RowsV.last {N : Addr → Prop} {H : Hp} {vs : List V} {bs : List (List Int)} {l : List Int} (r : RowsV N H vs bs) (h : bs.getLast? = some l) : ∃ q, vs.getLast? = some (.ref q) ∧ N q ∧ IL H q l := by
  rw [List.getLast?_eq_getElem?] at h
  obtain ⟨q, e1, e2, e3⟩ := r.2 _ _ h
  refine ⟨q, ?_, e2, e3⟩
  rw [List.getLast?_eq_getElem?, r.1]
  exact e1
theorem Rows.same {N : Addr → Prop} {H H' : Hp} {p : Addr} {bs : List (List Int)} (s : Same H H') (r : Rows N H p bs) : Rows N H' p bs := by
  obtain ⟨vs, h1, h2, h3⟩ := r
  exact ⟨vs, s _ _ h1, h2, h3.mono fun q b n e => ⟨n, s _ _ e⟩⟩
theorem Rows.mono {N N' : Addr → Prop} {H : Hp} {p : Addr} {bs : List (List Int)} (r : Rows N H p bs) (h : ∀ q, N q → N' q) : Rows N' H p bs := by
  obtain ⟨vs, h1, h2, h3⟩ := r
  exact ⟨vs, h1, h _ h2, h3.mono fun q b n e => ⟨⟨h _ n.1, n.2⟩, e⟩⟩
theorem Rows.fr {N : Addr → Prop} {S : List Addr} {H H' : Hp} {p : Addr} {bs : List (List Int)} (s : Fr S H H') (hN : ∀ q, N q → q ∉ S) (r : Rows N H p bs) : Rows N H' p bs := by
  obtain ⟨vs, h1, h2, h3⟩ := r
  exact ⟨vs, s.keep _ _ h1 (hN _ h2), h2, h3.mono fun q b n e => ⟨n, s.keep _ _ e (hN _ n.1)⟩⟩
theorem Rows.dp {K : PySem.W.Frag} {N : Addr → Prop} {H : Hp} {p : Addr} {bs : List (List Int)} (r : Rows N H p bs) : Dp K H (.ref p) (rowsD bs) := by
  obtain ⟨vs, h1, h2, h3, h4⟩ := r
  refine .lst (SqL.of h1) ?_
  clear h1
  induction bs generalizing vs with
  | nil =>
    cases vs with
    | nil => exact .nil
    | cons _ _ => simp at h3
  | cons b bs ih =>
    cases vs with
    | nil => simp at h3
    | cons v vs =>
      obtain ⟨q, e1, e2, e3⟩ := h4 0 b rfl
      rw [Option.some.inj e1]
      exact .cons (Dp.ofInts (SqL.of e3)) (ih vs (by simpa using h3) fun i c e => h4 (i + 1) c (by simpa using e))
theorem fm_bind {α β : Type} (g : α → Option β) (l : List α) (n : Nat) (h : n = l.length) : (List.range n).filterMap (fun i => (l[i]?).bind g) = l.filterMap g := by
  have : ∀ m, (List.range m).filterMap (fun i => (l[i]?).bind g) = (l.take m).filterMap g := fun m => by
    induction m with
    | zero => rfl
    | succ m ih =>
      rw [range_fm, ih, List.take_succ, List.filterMap_append]
      congr 1
      cases l[m]? with
      | none => rfl
      | some x => simp only [Option.bind_some, Option.toList_some, List.filterMap_cons, List.filterMap_nil]; cases g x <;> rfl
  rw [this, h, List.take_length]
theorem mergeK_nd : ∀ (more kvs : List (L2.Key × V)), ((kvs ++ more).map (·.1)).Nodup → mergeK kvs more = kvs ++ more
  | [], kvs, _ => by rw [List.append_nil]; rfl
  | (k, v) :: more, kvs, h => by
    have hk : (kvs.any fun kv => decide (kv.1 = k)) = false := by
      rw [List.any_eq_false]
      intro x hx e
      rw [List.map_append, List.nodup_append] at h
      exact h.2.2 x.1 (List.mem_map_of_mem hx) k (by simp) (of_decide_eq_true e)
    have e1 : putK kvs k v = kvs ++ [(k, v)] := by
      unfold putK
      rw [hk]
      rfl
    show mergeK (putK kvs k v) more = _
    rw [e1, mergeK_nd more _ (by rw [List.append_assoc]; exact h), List.append_assoc]
    rfl
theorem valV_zip : ∀ {ks : List Int} {ys : List V} {i : Nat} {k : Int} {y : V}, ks.Nodup → ks[i]? = some k → ys[i]? = some y → valV ((ks.map (Sum.inl : Int → L2.Key)).zip ys) (Sum.inl k) = some y
  | [], ys, i, k, y, _, h, _ => by simp at h
  | k' :: ks, [], i, k, y, _, _, h => by simp at h
  | k' :: ks, y' :: ys, 0, k, y, _, h, h' => by
    rw [Option.some.inj h, Option.some.inj h']
    simp [valV]
  | k' :: ks, y' :: ys, i + 1, k, y, nd, h, h' => by
    rw [List.nodup_cons] at nd
    have hk : ks[i]? = some k := by simpa using h
    have hne : k' ≠ k := fun z => nd.1 (z ▸ List.mem_of_getElem? hk)
    have := valV_zip (ks := ks) (ys := ys) (i := i) nd.2 hk (by simpa using h')
    unfold valV at this ⊢
    rw [List.map_cons, List.zip_cons_cons, List.find?_cons, decide_eq_false (by simpa using hne)]
    exact this
theorem valV_none {ks : List Int} {ys : List V} {k : Int} (h : k ∉ ks) : valV ((ks.map (Sum.inl : Int → L2.Key)).zip ys) (Sum.inl k) = none := by
  unfold valV
  rw [Option.map_eq_none_iff, List.find?_eq_none]
  intro x hx e
  have h1 := (List.of_mem_zip (show (x.1, x.2) ∈ _ from hx)).1
  obtain ⟨z, hz, ez⟩ := List.mem_map.mp h1
  have e' : x.1 = Sum.inl k := of_decide_eq_true e
  rw [← ez] at e'
  exact h (Sum.inl.inj e' ▸ hz)
/-! ### types for isinstance -/
theorem TyX.ofT {K : PySem.W.Frag} {H : Hp} {a : Addr} {xs : List V} (h : SqT K H a xs) : TyX K H (.ref a) (.type "tuple") := by
  rcases h with (h | ⟨o, h⟩) | ⟨o, its, n, h, c, _⟩
  · exact .base (.tup h)
  · exact .fTuple h
  · exact .kTuple h c
theorem TyX.ofL {K : PySem.W.Frag} {H : Hp} {a : Addr} {xs : List V} (h : SqL K H a xs) : TyX K H (.ref a) (.type "list") := by
  rcases h with (h | ⟨o, h⟩) | ⟨o, its, n, h, c, _⟩
  · exact .base (.lst h)
  · exact .base (.frz h)
  · exact .kList h c
/-- the type of data -/
def tyD : PyData → Value
  | .none => .type "NoneType"
  | .bool _ => .type "bool"
  | .int _ => .type "int"
  | .str _ => .type "str"
  | .list _ => .type "list"
  | .tuple _ => .type "tuple"
  | .dict _ => .type "dict"
theorem Dp.ty {K : PySem.W.Frag} {H : Hp} : ∀ {d : PyData} {v : V}, Dp K H v d → TyX K H v (tyD d)
  | .none, _, h => by cases h; exact .base .non
  | .bool b, _, h => by cases h; exact .base (.bl b)
  | .int i, _, h => by cases h; exact .base (.int i)
  | .str x, _, h => by cases h; exact .base (.str x)
  | .list ds, _, h => by cases h with | lst h1 _ => exact TyX.ofL h1
  | .tuple ds, _, h => by cases h with | tup h1 _ => exact TyX.ofT h1
  | .dict _, _, h => by cases h
theorem ifT {b : Bool} {A B : Prop} (h : b = true) (x : A) : if b = true then A else B := by rw [if_pos h]; exact x
theorem ifF {b : Bool} {A B : Prop} (h : b = false) (x : B) : if b = true then A else B := by rw [h, if_neg Bool.false_ne_true]; exact x
theorem ne_int {i j : Int} (h : i ≠ j) : decide (V.int i = V.int j) = false := decide_eq_false fun z => h (V.int.inj z)
theorem eq_int {i j : Int} (h : i = j) : decide (V.int i = V.int j) = true := decide_eq_true (by rw [h])
theorem lookup_zip {β : Type} : ∀ {ks : List Int} {ys : List β} {i : Nat} {k : Int} {y : β}, ks.Nodup → ks[i]? = some k → ys[i]? = some y → (ks.zip ys).lookup k = some y
  | [], ys, i, k, y, _, h, _ => by simp at h
  | k' :: ks, [], i, k, y, _, _, h => by simp at h
  | k' :: ks, y' :: ys, 0, k, y, _, h, h' => by
    rw [Option.some.inj h, Option.some.inj h']
    simp [List.lookup]
  | k' :: ks, y' :: ys, i + 1, k, y, nd, h, h' => by
    rw [List.nodup_cons] at nd
    have hk : ks[i]? = some k := by simpa using h
    have hne : (k == k') = false := by
      rw [beq_eq_false_iff_ne]
      exact fun z => nd.1 (z ▸ List.mem_of_getElem? hk)
    rw [List.zip_cons_cons, List.lookup_cons, hne]
    exact lookup_zip (i := i) nd.2 hk (by simpa using h')
theorem lookup_zip_none {β : Type} : ∀ {ks : List Int} {ys : List β} {k : Int}, k ∉ ks → (ks.zip ys).lookup k = none
  | [], ys, k, _ => rfl
  | k' :: ks, [], k, _ => rfl
  | k' :: ks, y' :: ys, k, h => by
    have hne : (k == k') = false := by
      rw [beq_eq_false_iff_ne]
      exact fun z => h (by rw [z]; exact List.mem_cons_self)
    rw [List.zip_cons_cons, List.lookup_cons, hne]
    exact lookup_zip_none fun z => h (List.mem_cons_of_mem _ z)
/-- the i-th turn gives a y that is the data fs i, or nothing -/
theorem lc_dp {K : PySem.W.Frag} {J : It} {n : Nat} {G : Hp → Prop} {Y : Nat → Hp → V → Hp → Prop} (w : Walk J n G Y) (fs : Nat → Option PyData) {g : TG} {tt : TT} {te : TE} {vs : List Nat} {σ : L2.St} {H1 : Hp} {D : Addr} {Qd : Hp → Prop} (hD : H1 D = none) (hz : n ≤ 100000)
    (hG : ∀ H, Same H1 H → G H)
    (hs : ∀ i x H H' (Qy : V → Hp → Prop) (Qn : Hp → Prop) acc, i < n → Same H1 H → H D = some (.lst acc) → Y i H x H' → (∀ y H4 d, fs i = some d → Dp K (hide D H4) y d → Same H H4 → Qy y H4) → (∀ H3, fs i = none → Same H H3 → Qn H3) →
      g x (wipe σ vs) H' fun σ2 H2 => wipe σ2 vs = wipe σ vs ∧ tt σ2 H2 fun b H3 => if b = true then te σ2 H3 Qy else Qn H3)
    (hd : ∀ H ys, Same H1 H → H D = some (.lst ys) → DpAll K (hide D H) ys ((List.range n).filterMap fs) → Qd H) :
    ∃ W : Nat → Nat → Hp → Prop, (∃ m, W 0 m (upd H1 D (.lst []))) ∧ ∀ i m H, W i m H →
      (J.stop i H ∧ Qd H) ∨ (J.go i H ∧ ∃ Nx : Hp → Prop, (∀ H', Nx H' → ∃ m', m' < m ∧ W (i + 1) m' H') ∧ ∀ x H', J.yld i H x H' → g x (wipe σ vs) H' fun σ2 H2 => wipe σ2 vs = wipe σ vs ∧ tt σ2 H2 fun b H3 =>
        if b = true then te σ2 H3 fun y H4 => ∃ acc, H4 D = some (.lst acc) ∧ acc.length < sizeLine ∧ Nx (upd H4 D (.lst (acc ++ [y]))) else Nx H3) := by
  refine lc_it w (fun i H => Same H1 H ∧ ∃ ys : List V, H D = some (.lst ys) ∧ DpAll K (hide D H) ys ((List.range i).filterMap fs)) ⟨Same.upd hD, [], upd_same, .nil⟩ (fun i H _ p => hG H p.1) (fun i x H H' hi p y => ?_) (fun H p => ?_)
  · obtain ⟨p1, ys, p2, p3⟩ := p
    have hlen : ys.length ≤ i := by
      rw [DpAll.length p3]
      have := List.length_filterMap_le fs (List.range i)
      rwa [List.length_range] at this
    refine hs i x H H' _ _ ys hi p1 p2 y (fun y H4 d e r q => ?_) (fun H3 e q => ?_)
    · refine ⟨_, q _ _ p2, by rw [sizeLine_eq]; omega, fun b o e => ?_, _, upd_same, ?_⟩
      · have hb : b ≠ D := ne_of_none e hD
        rw [upd_ne hb]
        exact q _ _ (p1 _ _ e)
      · rw [hide_upd, range_fm, e]
        exact DpAll.app (DpAll.same (hide_mono q) p3) (.cons r .nil)
    · refine ⟨p1.trans q, ys, q _ _ p2, ?_⟩
      rw [range_fm, e]
      simpa using DpAll.same (hide_mono q) p3
  · obtain ⟨p1, ys, p2, p3⟩ := p
    exact hd H ys p1 p2 p3
end Rh
end RhBase_
section RhW1_
set_option Elab.async false
set_option linter.all false
set_option maxRecDepth 100000
set_option maxHeartbeats 4000000
/-! bounds_of, held, ride_of, horses_at, comes_next, books_to, comings -/
namespace Rh
open PySem PySem.Spec PyProof.Rows L2
section
variable {P : Program} {w : World} {K : PySem.W.Frag} {mg : Str → Option Value} {base : Heap}
def legV (g : Leg) : List V := [.int g.1, .int g.2.1, .int g.2.2]
theorem Dp.legI {H : Hp} {v : V} {g : Leg} (h : Dp K H v (legD g)) : ∃ a, v = .ref a ∧ SqT K H a (legV g) := by
  obtain ⟨a, xs, e, h1, h2⟩ := Dp.tupI h
  refine ⟨a, e, ?_⟩
  have e2 := DpAll.intsI (ns := [g.1, g.2.1, g.2.2]) h2
  rw [e2] at h1
  exact h1
theorem Dp.roadI {H : Hp} {v : V} {rd : Road} (h : Dp K H v (roadD rd)) : ∃ a b c ls, v = .ref a ∧ SqT K H a [.ref b, .ref c] ∧ SqT K H b ls ∧ DpAll K H ls (rd.1.map legD) ∧ SqT K H c (rd.2.map V.int) := by
  obtain ⟨a, xs, e, h1, h2⟩ := Dp.tupI h
  cases h2 with
  | cons d1 d2 =>
    cases d2 with
    | cons d2 d3 =>
      cases d3
      obtain ⟨b, ls, rfl, h3, h4⟩ := Dp.tupI d1
      obtain ⟨c, fs, rfl, h5, h6⟩ := Dp.tupI d2
      rw [DpAll.intsI h6] at h5
      exact ⟨a, b, c, ls, e, h1, h3, h4, h5⟩
theorem Dp.setsI {H : Hp} {v : V} {s : List Int} (h : Dp K H v (setsD s)) : ∃ a, v = .ref a ∧ SqT K H a (s.map V.int) := by
  obtain ⟨a, xs, e, h1, h2⟩ := Dp.tupI h
  rw [DpAll.intsI h2] at h1
  exact ⟨a, e, h1⟩
theorem Dp.rowI {H : Hp} {v : V} {s : List Int} (h : Dp K H v (rowD s)) : ∃ a, v = .ref a ∧ SqL K H a (s.map V.int) := by
  obtain ⟨a, xs, e, h1, h2⟩ := Dp.lstI h
  rw [DpAll.intsI h2] at h1
  exact ⟨a, e, h1⟩
theorem map_at {α β : Type} {f : α → β} {l : List α} {i : Nat} {y : β} (h : (l.map f)[i]? = some y) : ∃ x, l[i]? = some x ∧ y = f x := by
  rw [List.getElem?_map] at h
  cases e : l[i]? with
  | none =>
    rw [e] at h
    cases h
  | some x =>
    rw [e] at h
    exact ⟨x, rfl, (Option.some.inj h).symm⟩
theorem at_map {α β : Type} {f : α → β} {l : List α} {i : Nat} {x : α} (h : l[i]? = some x) : (l.map f)[i]? = some (f x) := by
  rw [List.getElem?_map, h]
  rfl
/-! ### bounds_of(leg) -/
def spBounds (K : PySem.W.Frag) : Sp := fun vs H Q _ => ∃ (v : V) (g : Leg), vs = [v] ∧ Dp K H v (legD g) ∧ ∀ p, H p = none → Q (.ref p) (upd H p (.tup [.int (g.1 - g.2.2), .int (g.1 - g.2.1)]))
theorem ok_bounds (D : Dfn K mg "bounds_of" s_bounds_of ["leg"]) : Cal P w K mg base CX0 "bounds_of" 1 ["leg"] (spBounds K) := by
  have nd := s_bounds_of_sc.nd
  refine D.cal s_bounds_of_sc (fun vs H Q E ⟨v, g, e, _⟩ => by rw [e]; rfl) (fun f cdv A outer s H vs Q E hr h => ?_)
  obtain ⟨v, g, rfl, hv, k⟩ := h
  obtain ⟨a, rfl, ha⟩ := Dp.legI hv
  refine ⟨_, PSs.nox (pss_cons (ps_asg (pv 0) (pg_tup rfl (pgs_cons (pg_name (i := 1) nd rfl (.inl rfl)) (pgs_cons (pg_name (i := 2) nd rfl (.inl rfl)) (pgs_cons (pg_name (i := 3) nd rfl (.inl rfl)) pgs_nil)))))
      (pss_one (ps_ret (pe_tup (pa_cons (pe_op op_sub (pv 1) (pv 3)) (pa_cons (pe_op op_sub (pv 1) (pv 2)) pa_nil)))))), ?_⟩
  refine ⟨_, rfl, a, _, rfl, ha, rfl, _, _, rfl, _, _, rfl, _, _, rfl, rfl, ?_⟩
  exact ⟨_, rfl, _, rfl, _, _, rfl, rfl, _, rfl, _, rfl, _, _, rfl, rfl, (by show 2 ≤ sizeLine; decide), fun p np => k p np⟩
/-! ### held(leg, stand) -/
def spHeld (K : PySem.W.Frag) : Sp := fun vs H Q _ => ∃ (v : V) (g : Leg) (s : Int), vs = [v, .int s] ∧ Dp K H v (legD g) ∧ ∀ H', Same H H' → Q (.int (heldM g s)) H'
theorem ok_held (B : Bn mg) (D : Dfn K mg "held" s_held ["leg", "stand"]) (hB : Cal P w K mg base CX0 "bounds_of" 1 ["leg"] (spBounds K)) : Cal P w K mg base CX0 "held" 2 ["leg", "stand"] (spHeld K) := by
  have nd := s_held_sc.nd
  obtain ⟨f1, fd1, G1, g1, k1, b1⟩ := hB
  refine D.cal s_held_sc (fun vs H Q E ⟨v, g, s, e, _⟩ => by rw [e]; rfl) (fun f cdv A outer s H vs Q E hr h => ?_)
  obtain ⟨v, g, st, rfl, hv, k⟩ := h
  refine ⟨_, PSs.nox (pss_cons (ps_asg (pe_call G1 (hr.mono (by decide)) (by rfl) g1 k1 b1 .nil pass0 (pa_cons (pv 0) pa_nil)) (pg_tup rfl (pgs_cons (pg_name (i := 2) nd rfl (.inl rfl)) (pgs_cons (pg_name (i := 3) nd rfl (.inl rfl)) pgs_nil))))
      (pss_one (ps_ret (pe_callB (call_max2 rfl) (by rfl) B.max (by decide +kernel) (pa_cons (pv 2) (pa_cons (pe_callB (call_min2 rfl) (by rfl) B.min (by decide +kernel) (pa_cons (pv 3) (pa_cons (pv 1) pa_nil))) pa_nil)))))), ?_⟩
  refine ⟨_, rfl, v, g, rfl, hv, fun p np => ?_⟩
  refine ⟨p, _, rfl, SqT.of upd_same, rfl, _, _, rfl, _, _, rfl, rfl, ?_⟩
  refine ⟨_, rfl, _, rfl, _, rfl, _, _, rfl, _, _, rfl, ?_⟩
  have e : (if (if st < g.1 - g.2.1 then st else g.1 - g.2.1) > g.1 - g.2.2 then (if st < g.1 - g.2.1 then st else g.1 - g.2.1) else g.1 - g.2.2) = heldM g st := by
    unfold heldM
    split <;> split at * <;> omega
  show Q (.int (if (if st < g.1 - g.2.1 then st else g.1 - g.2.1) > g.1 - g.2.2 then (if st < g.1 - g.2.1 then st else g.1 - g.2.1) else g.1 - g.2.2)) _
  rw [e]
  exact k _ (Same.upd np)
/-! ### ride_of(leg, stand) -/
def spRide (K : PySem.W.Frag) : Sp := fun vs H Q _ => ∃ (v : V) (g : Leg) (s : Int), vs = [v, .int s] ∧ Dp K H v (legD g) ∧ ∀ H', Same H H' → Q (.int (rideM g s)) H'
theorem ok_ride (D : Dfn K mg "ride_of" s_ride_of ["leg", "stand"]) (hB : Cal P w K mg base CX0 "held" 2 ["leg", "stand"] (spHeld K)) : Cal P w K mg base CX0 "ride_of" 3 ["leg", "stand"] (spRide K) := by
  have nd := s_ride_of_sc.nd
  obtain ⟨f1, fd1, G1, g1, k1, b1⟩ := hB
  refine D.cal s_ride_of_sc (fun vs H Q E ⟨v, g, s, e, _⟩ => by rw [e]; rfl) (fun f cdv A outer s H vs Q E hr h => ?_)
  obtain ⟨v, g, st, rfl, hv, k⟩ := h
  obtain ⟨a, rfl, ha⟩ := Dp.legI hv
  refine ⟨_, PSs.nox (pss_one (ps_ret (pe_op op_sub (pe_ix ix_tup (pv 0) pe_int (fun _ _ => rfl)) (pe_call G1 (hr.mono (by decide)) (by rfl) g1 k1 b1 .nil pass0 (pa_cons (pv 0) (pa_cons (pv 1) pa_nil)))))), ?_⟩
  refine ⟨_, rfl, a, _, 0, _, rfl, rfl, ha, rfl, ?_⟩
  refine ⟨_, rfl, _, rfl, _, g, st, rfl, hv, fun H' s' => ?_⟩
  exact ⟨_, _, rfl, rfl, k H' s'⟩
/-! ### horses_at(first, comes) -/
def spHorses (K : PySem.W.Frag) : Sp := fun vs H Q _ => ∃ (f : Int) (a : Addr) (cs : List Int), vs = [.int f, .ref a] ∧ IL H a cs ∧ cs.length ≤ 1000 ∧ ∀ p H', Same H H' → H p = none → H' p = some (.lst (((f :: cs).dropLast).map V.int)) → Q (.ref p) H'
theorem ok_horses (D : Dfn K mg "horses_at" s_horses_at ["first", "comes"]) : Cal P w K mg base CX0 "horses_at" 1 ["first", "comes"] (spHorses K) := by
  have nd := s_horses_at_sc.nd
  refine D.cal s_horses_at_sc (fun vs H Q E ⟨f, a, cs, e, _⟩ => by rw [e]; rfl) (fun f cdv A outer s H vs Q E hr h => ?_)
  obtain ⟨f, a, cs, rfl, ha, hl, k⟩ := h
  refine ⟨_, PSs.nox (pss_one (ps_ret (pe_slice sl_list (pe_op op_cat (pe_lst (pa_cons (pv 0) pa_nil)) (pv 1)) po_none (po_some (pe_un un_neg pe_int))))), ?_⟩
  refine ⟨_, rfl, (by show 1 ≤ sizeLine; decide), fun l nl => ?_⟩
  refine ⟨_, rfl, _, _, _, _, rfl, rfl, upd_same, Same.upd nl _ _ ha, ?_, fun p np => ?_⟩
  · rw [sizeLine_eq]; simp; omega
  · refine ⟨_, rfl, _, rfl, _, _, rfl, SqL.of upd_same, fun q nq => ?_⟩
    have nq' : H q = none := Same.free ((Same.upd nl).trans (Same.upd np)) nq
    refine k q _ (((Same.upd nl).trans (Same.upd np)).trans (Same.upd nq)) nq' ?_
    rw [upd_same, RhR.cutV_init]
    show some (HO.lst ((V.int f :: cs.map V.int).dropLast)) = _
    rw [show (V.int f :: cs.map V.int) = (f :: cs).map V.int from rfl, ← List.map_dropLast]
/-! ### comes_next(leg, first, comes) -/
def spNext (K : PySem.W.Frag) : Sp := fun vs H Q _ => ∃ (v : V) (g : Leg) (f : Int) (a : Addr) (cs : List Int), vs = [v, .int f, .ref a] ∧ Dp K H v (legD g) ∧ IL H a cs ∧ cs.length ≤ 1000 ∧
  ∀ p H', Same H H' → H p = none → IL H' p (nextM g f cs) → Q (.ref p) H'
abbrev nNext : List Str := ["leg", "first", "comes", "horses", "come", "horse"]
theorem sc_next : FnScope nNext ["leg", "first", "comes"] (defScope s_comes_next) := ⟨rfl, rfl, rfl, by decide +kernel, rfl, by decide +kernel, by decide +kernel⟩
theorem ok_next (B : Bn mg) (D : Dfn K mg "comes_next" s_comes_next ["leg", "first", "comes"]) (h1 : Cal P w K mg base CX0 "horses_at" 1 ["first", "comes"] (spHorses K)) (h2 : Cal P w K mg base CX0 "ride_of" 3 ["leg", "stand"] (spRide K)) :
    Cal P w K mg base CX0 "comes_next" 4 ["leg", "first", "comes"] (spNext K) := by
  have nd := sc_next.nd
  obtain ⟨f1, fd1, G1, g1, k1, b1⟩ := h1
  obtain ⟨f2, fd2, G2, g2, k2, b2⟩ := h2
  refine D.cal sc_next (fun vs H Q E ⟨v, g, f, a, cs, e, _⟩ => by rw [e]; rfl) (fun f cdv A outer s H vs Q E hr h => ?_)
  obtain ⟨v, g, f, a, cs, rfl, hv, ha, hl, k⟩ := h
  refine ⟨_, PSs.nox (pss_cons (ps_set (i := 3) nd rfl (.inl rfl) (pe_call G1 (hr.mono (by decide)) (by rfl) g1 k1 b1 .nil pass0 (pa_cons (pv 1) (pa_cons (pv 2) pa_nil))))
      (pss_one (ps_ret (pe_lc (own := [("come", 4), ("horse", 5)]) (g := gTup K 2 (gCons (gName 4) (gCons (gName 5) gNil))) rfl nd (RhZ.pi_zs (by rfl) B.zip (pa_cons (pv 2) (pa_cons (pv 3) pa_nil)) (pk_cons pe_bl pk_nil)) (blkOk_by (N := nNext) (sc := defScope s_comes_next) (by decide +kernel))
      (fun _ _ _ _ _ => (pg_tup rfl (pgs_cons (pg_name (i := 4) nd rfl (.inl rfl)) (pgs_cons (pg_name (i := 5) nd rfl (.inl rfl)) pgs_nil)))) (fun _ _ _ _ _ => pts_nil) (fun _ _ _ _ _ => (pe_op op_add (pv 4) (pe_call G2 (hr.mono (by decide)) (by rfl) g2 k2 b2 .nil pass0 (pa_cons (pv 0) (pa_cons (pe_op op_sub (pv 4) (pv 5)) pa_nil))))))))), ?_⟩
  refine ⟨_, rfl, _, rfl, f, a, cs, rfl, ha, hl, fun p H1 s1 np hp => ?_⟩
  have lp : ((f :: cs).dropLast).length = cs.length := by simp
  refine ⟨_, rfl, _, rfl, true, true, a, p, _, _, rfl, rfl, SqL.of (s1 _ _ ha), SqL.of hp, ?_⟩
  intro D hD
  have hD0 : H D = none := Same.free s1 hD
  refine lc_fm (walk_zs (by rw [List.length_map, List.length_map, lp])) (fun i => ((nextM g f cs).map V.int)[i]?) hD (by rw [List.length_map]; omega) (fun H' s' => ⟨SqL.of (s' _ _ (s1 _ _ ha)), SqL.of (s' _ _ hp)⟩) (fun i x H2 H3 Qy Qn hi s2 y qy qn => ?_) (fun H2 s2 h2 => ?_)
  · obtain ⟨T, x, z, rfl, nT, rfl, e1, e2⟩ := y
    obtain ⟨c, hc, rfl⟩ := map_at e1
    obtain ⟨d, hd, rfl⟩ := map_at e2
    have s3 := Same.upd (o := .tup [V.int c, V.int d]) nT
    refine ⟨T, _, rfl, SqT.of upd_same, rfl, _, _, rfl, _, _, rfl, rfl, rfl, ?_⟩
    refine ⟨_, rfl, _, rfl, _, rfl, _, rfl, _, _, rfl, rfl, v, g, c - d, rfl, Dp.same (s1.trans (s2.trans s3)) hv, fun H4 s4 => ?_⟩
    refine ⟨_, _, rfl, rfl, qy _ _ ?_ (s3.trans s4)⟩
    exact at_map (next_at g f cs i c d hc hd)
  · refine k D _ (s1.trans s2) hD0 ?_
    exact h2.trans (by rw [fm_get (by rw [List.length_map, List.length_map, len_next])])
/-! ### books_to(road, sets, station) -/
def spBooks (K : PySem.W.Frag) : Sp := fun vs H Q _ => ∃ (v u : V) (rd : Road) (sets : List Int) (st : Nat), vs = [v, u, .int st] ∧ Dp K H v (roadD rd) ∧ Dp K H u (setsD sets) ∧ rd.1.length = rd.2.length ∧ rd.1.length ≤ 100 ∧ st ≤ rd.1.length ∧ sets.length ≤ 1000 ∧
  ∀ p H', Same H H' → Rows (fun q => H q = none) H' p (booksM (rd.1.take st) (rd.2.take st) sets) → Q (.ref p) H'
theorem ok_books (B : Bn mg) (D : Dfn K mg "books_to" s_books_to ["road", "sets", "station"]) (h1 : Cal P w K mg base CX0 "comes_next" 4 ["leg", "first", "comes"] (spNext K)) : Cal P w K mg base CX0 "books_to" 5 ["road", "sets", "station"] (spBooks K) := by
  have nd := s_books_to_sc.nd
  obtain ⟨f1, fd1, G1, g1, k1, b1⟩ := h1
  refine D.cal s_books_to_sc (fun vs H Q E ⟨v, u, rd, sets, st, e, _⟩ => by rw [e]; rfl) (fun f cdv A outer s H vs Q E hr h => ?_)
  obtain ⟨v, u, rd, sets, st, rfl, hv, hu, hl, hl2, hst, hs, k⟩ := h
  obtain ⟨a, b, c, ls, rfl, ha, hb, hbd, hc⟩ := Dp.roadI hv
  obtain ⟨d, rfl, hd⟩ := Dp.setsI hu
  refine ⟨_, PSs.nox (pss_cons (ps_asg (pv 0) (pg_tup rfl (pgs_cons (pg_name (i := 3) nd rfl (.inl rfl)) (pgs_cons (pg_name (i := 4) nd rfl (.inl rfl)) pgs_nil))))
      (pss_cons (ps_set (i := 5) nd rfl (.inl rfl) (pe_lst (pa_cons (pe_callTy call_list_of (by rfl) B.list (by decide +kernel) (pa_cons (pv 1) pa_nil)) pa_nil)))
      (pss_cons (ps_for PassesOwn.never rfl (RhZ.pi_zs (by rfl) B.zip (pa_cons (pe_slice RhR.sl_tupW (pv 3) po_none (po_some (pv 2))) (pa_cons (pe_slice RhR.sl_tupW (pv 4) po_none (po_some (pv 2))) pa_nil)) (pk_cons pe_bl pk_nil)) (pg_tup rfl (pgs_cons (pg_name (i := 6) nd rfl (.inl rfl)) (pgs_cons (pg_name (i := 7) nd rfl (.inl rfl)) pgs_nil))) (pss_one (ps_expr (pe_bm PySem.F.plainAttrs_list PySem.F.slot_list_append PySem.F.type_list_append mt_append (pv 5) (pa_cons (pe_call G1 (hr.mono (by decide)) (by rfl) g1 k1 b1 .nil pass0 (pa_cons (pv 6) (pa_cons (pv 7) (pa_cons (pe_ix ix_list (pv 5) (pe_un un_neg pe_int) (fun _ _ => rfl)) pa_nil)))) pa_nil)))))
      (pss_one (ps_ret (pv 5)))))), ?_⟩
  refine ⟨_, rfl, a, _, rfl, ha, rfl, _, _, rfl, _, _, rfl, rfl, ?_⟩
  refine ⟨_, rfl, d, _, rfl, .inr hd, fun l nl => ?_⟩
  refine ⟨(by show 1 ≤ sizeLine; decide), fun B0 nB => ?_⟩
  have s1 : Same H (upd H l (.lst (sets.map V.int))) := Same.upd nl
  have s2 := s1.trans (Same.upd (o := .lst [V.ref l]) nB)
  refine ⟨_, rfl, _, rfl, _, rfl, b, ls, rfl, Same.tup s2 hb, fun p H2 s3 hp => ?_⟩
  refine ⟨_, rfl, _, rfl, _, rfl, c, _, rfl, Same.tup s3 (Same.tup s2 hc), fun p' H3 s4 hp' => ?_⟩
  refine ⟨false, false, p, p', _, _, rfl, rfl, Same.tup s4 hp, hp', ?_⟩
  have hn : (cutV ls none (some (st : Int))).length = st := by rw [RhR.cutV_take, List.length_take, DpAll.length hbd, List.length_map]; omega
  have hn2 : (cutV (rd.2.map V.int) none (some (st : Int))).length = st := by rw [RhR.cutV_take, List.length_take, List.length_map]; omega
  have s34 : Same H H3 := s2.trans (s3.trans s4)
  have nB0 : H B0 = none := Same.free s1 nB
  have e0 : H3 B0 = some (.lst [V.ref l]) := s4 _ _ (s3 _ _ upd_same)
  have el : IL H3 l sets := s4 _ _ (s3 _ _ (Same.upd nB _ _ upd_same))
  have nlB : l ≠ B0 := ne_of_none (show upd H l (.lst (sets.map V.int)) l = _ from upd_same) nB
  refine for_it (walk_zs (by rw [hn, hn2])) (fun i σ H' => (∃ x y, σ = [some (.ref a), some (.ref d), some (.int st), some (.ref b), some (.ref c), some (.ref B0), x, y]) ∧ Fr [B0] H3 H' ∧
      ∃ vs, H' B0 = some (.lst vs) ∧ RowsV (fun q => H q = none ∧ q ≠ B0) H' vs (booksM (rd.1.take i) (rd.2.take i) sets)) ⟨⟨none, none, rfl⟩, Fr.refl, _, e0, ?_⟩ (fun i σ H' _ q => ⟨q.2.1.tup (Same.tup s4 hp), q.2.1.tup hp'⟩) (fun i x σ H4 H5 hi q y => ?_) (fun σ H4 q => ?_)
  · rw [List.take_zero, books_nil]
    exact RowsV.snoc (vs := []) (bs := []) RowsV.nil ⟨nl, nlB⟩ el
  · obtain ⟨⟨x1, y1, rfl⟩, fr, vs, eB, rw1⟩ := q
    obtain ⟨T, x, z, rfl, nT, rfl, e1, e2⟩ := y
    rw [hn] at hi
    dsimp only at e1 e2
    rw [RhR.cutV_take, List.getElem?_take, if_pos hi] at e1 e2
    obtain ⟨y, hy, rfl⟩ := map_at e2
    obtain ⟨dg, hdg, hx⟩ := DpAll.at' hbd e1
    obtain ⟨g, hg, rfl⟩ := map_at hdg
    have s5 : Same H4 (upd H4 T (.tup [x, V.int y])) := Same.upd nT
    have s45 : Same H H4 := Fr.beside s34 fr (fun z hz => by rw [List.mem_singleton.mp hz]; exact nB0)
    obtain ⟨lst, hlst, hbk⟩ := books_snoc (rd.1.take i) (rd.2.take i) sets g y (by rw [List.length_take, List.length_take, hl])
    obtain ⟨q, hq, nq, hql⟩ := rw1.last hlst
    have hlen : lst.length = sets.length := books_rows _ _ _ _ (List.mem_of_getLast? hlst)
    refine ⟨T, _, rfl, SqT.of upd_same, rfl, _, _, rfl, _, _, rfl, rfl, ?_⟩
    refine ⟨_, rfl, .inl ⟨rfl, _, SqL.of (s5 _ _ eB)⟩, ?_⟩
    refine ⟨_, rfl, _, rfl, _, rfl, _, rfl, _, _, _, _, rfl, rfl, SqL.of (s5 _ _ eB), atI_m1 hq, ?_⟩
    refine ⟨x, g, y, q, lst, rfl, Dp.same (s45.trans s5) hx, s5 _ _ hql, by omega, fun r H6 s6 nr hr => ?_⟩
    have eB6 := s6 _ _ (s5 _ _ eB)
    refine ⟨B0, vs, _, rfl, rfl, eB6, by rw [sizeLine_eq, rw1.1, len_books _ _ _ (by rw [List.length_take, List.length_take, hl]), List.length_take]; omega, ⟨_, _, rfl⟩, ?_, _, upd_same, ?_⟩
    · exact fr.trans ((Fr.of (s5.trans s6)).trans (Fr.lst eB6 (by simp)))
    · rw [← List.take_append_getElem (by omega : i < rd.1.length), ← List.take_append_getElem (by omega : i < rd.2.length)]
      have eg : rd.1[i]'(by omega) = g := by
        rw [List.getElem?_eq_getElem (by omega)] at hg
        exact Option.some.inj hg
      have ey : rd.2[i]'(by omega) = y := by
        rw [List.getElem?_eq_getElem (by omega)] at hy
        exact Option.some.inj hy
      rw [eg, ey, hbk]
      have nrB : r ≠ B0 := fun z => by rw [z, s5 _ _ eB] at nr; cases nr
      refine RowsV.snoc (rw1.mono fun q' b' n' e' => ⟨n', ?_⟩) ⟨Same.free (s45.trans s5) nr, nrB⟩ ?_
      · show upd H6 B0 _ q' = _
        rw [upd_ne n'.2]
        exact s6 _ _ (s5 _ _ e')
      · show upd H6 B0 _ r = _
        rw [upd_ne nrB]
        exact hr
  · obtain ⟨⟨x1, y1, rfl⟩, fr, vs, eB, rw1⟩ := q
    rw [hn] at rw1
    exact ⟨_, rfl, k B0 _ (Fr.beside s34 fr (fun z hz => by rw [List.mem_singleton.mp hz]; exact nB0)) ⟨vs, eB, nB0, rw1⟩⟩
theorem RowsV.at {N : Addr → Prop} {H : Hp} {vs : List V} {bs : List (List Int)} {i : Nat} {x : V} (r : RowsV N H vs bs) (h : vs[i]? = some x) : ∃ q b, x = .ref q ∧ bs[i]? = some b ∧ N q ∧ IL H q b := by
  have hi := (List.getElem?_eq_some_iff.mp h).1
  have hb : bs[i]? = some (bs[i]'(by rw [← r.1]; exact hi)) := List.getElem?_eq_getElem _
  obtain ⟨q, e1, e2, e3⟩ := r.2 _ _ hb
  exact ⟨q, _, Option.some.inj (h.symm.trans e1), hb, e2, e3⟩
/-- from a list's items to its rows -/
theorem rows_of {N : Addr → Prop} {H : Hp} {D : Addr} {n : Nat} {r : Nat → List Int} {ys : List V} (hD : H D = some (.lst ys)) (nD : N D) (hl : ys.length = n) (h : ∀ i y, ys[i]? = some y → ∃ q, y = .ref q ∧ N q ∧ IL (hide D H) q (r i)) : Rows N H D ((List.range n).map r) := by
  refine ⟨ys, hD, nD, by rw [List.length_map, List.length_range, hl], fun i b e => ?_⟩
  obtain ⟨j, ej, rfl⟩ := map_at e
  have hi : i < n := by
    have := (List.getElem?_eq_some_iff.mp ej).1
    simpa using this
  have ei : j = i := by
    rw [List.getElem?_range hi] at ej
    exact (Option.some.inj ej).symm
  subst ei
  have hy : ys[j]? = some (ys[j]'(by omega)) := List.getElem?_eq_getElem _
  obtain ⟨q, e1, e2, e3⟩ := h _ _ hy
  refine ⟨q, by rw [hy, e1], ⟨e2, fun z => ?_⟩, hide_same _ _ e3⟩
  unfold IL hide at e3
  rw [if_pos z] at e3
  cases e3
/-! ### comings(road, sets) -/
abbrev mkSc (ns : List (Str × NameKind)) : Scope := { kind := .function, names := ns, isGenerator := false, isCoroutine := false, more := [] }
def spComings (K : PySem.W.Frag) : Sp := fun vs H Q _ => ∃ (v u : V) (rd : Road) (sets : List Int), vs = [v, u] ∧ Dp K H v (roadD rd) ∧ Dp K H u (setsD sets) ∧ rd.1.length = rd.2.length ∧ rd.1.length ≤ 100 ∧ sets.length ≤ 1000 ∧
  ∀ p H', Same H H' → Rows (fun q => H q = none) H' p (comM rd sets) → Q (.ref p) H'
abbrev nComings : List Str := ["road", "sets", "books", "rider", "book"]
theorem sc_comings : FnScope nComings ["road", "sets"] (defScope s_comings) := ⟨rfl, rfl, rfl, by decide +kernel, rfl, by decide +kernel, by decide +kernel⟩
theorem ok_comings (B : Bn mg) (D : Dfn K mg "comings" s_comings ["road", "sets"]) (h1 : Cal P w K mg base CX0 "books_to" 5 ["road", "sets", "station"] (spBooks K)) : Cal P w K mg base CX0 "comings" 6 ["road", "sets"] (spComings K) := by
  have nd := sc_comings.nd
  obtain ⟨f1, fd1, G1, g1, k1, b1⟩ := h1
  refine D.cal sc_comings (fun vs H Q E ⟨v, u, rd, sets, e, _⟩ => by rw [e]; rfl) (fun f cdv A outer s H vs Q E hr h => ?_)
  obtain ⟨v, u, rd, sets, rfl, hv, hu, hl, hl2, hs, k⟩ := h
  obtain ⟨a, b, c, ls, rfl, ha, hb, hbd, hc⟩ := Dp.roadI hv
  obtain ⟨d, rfl, hd⟩ := Dp.setsI hu
  refine ⟨_, PSs.nox (pss_cons (ps_set (i := 2) nd rfl (.inr rfl) (pe_call G1 (hr.mono (by decide)) (by rfl) g1 k1 b1 .nil pass0 (pa_cons (pv 0) (pa_cons (pv 1) (pa_cons (pe_callB call_len_seq (by rfl) B.len PySem.boot_len (pa_cons (pe_ix ix_tup (pv 0) pe_int (fun _ _ => rfl)) pa_nil)) pa_nil)))))
      (pss_one (ps_ret (pe_lc (own := [("rider", 3)]) (g := gName 3) (te := tLc (iList K (tVar 2)) (gName 4) tYes (tOp (rIxL K) (tVar 4) (tVar 3)) [4]) rfl nd (pi_range1 (by rfl) B.range (pa_cons (pe_callB call_len_seq (by rfl) B.len PySem.boot_len (pa_cons (pv 1) pa_nil)) pa_nil)) (blkOk_by (N := nComings) (sc := defScope s_comings) (by decide +kernel)) (fun _ _ _ _ _ => (pg_name (i := 3) nd rfl (.inr rfl))) (fun _ _ _ _ _ => pts_nil)
      (fun _ _ _ _ _ => pe_lc (own := [("book", 4)]) (g := gName 4) (te := tOp (rIxL K) (tVar 4) (tVar 3)) rfl nd (pi_list (pv 2)) (blkOk_by (N := nComings) (sc := mkSc [(".0", .local), ("rider", .cell), ("books", .cell)]) (by decide +kernel)) (fun _ _ _ _ _ => (pg_name (i := 4) nd rfl (.inl rfl))) (fun _ _ _ _ _ => pts_nil)
        (fun _ _ _ _ _ => (pe_ix ix_list (pv 4) (pv 3) (fun _ _ => rfl)))))))), ?_⟩
  have lls : ls.length = rd.1.length := by rw [DpAll.length hbd, List.length_map]
  refine ⟨_, rfl, _, rfl, _, rfl, a, _, 0, _, rfl, rfl, ha, rfl, b, ls, rfl, .inr hb, ?_⟩
  rw [lls]
  refine ⟨_, _, rd, sets, rd.1.length, rfl, hv, hu, hl, hl2, Nat.le_refl _, hs, fun p H1 s1 hp => ?_⟩
  rw [List.take_length, hl, List.take_length] at hp
  obtain ⟨vs, ep, np, rw1⟩ := hp
  refine ⟨_, rfl, d, _, rfl, .inr (Same.tup s1 hd), ?_⟩
  rw [List.length_map]
  refine ⟨_, rfl, by omega, by omega, ?_⟩
  intro D hD
  have hD0 : H D = none := Same.free s1 hD
  have e0 : ((0 : Int) ≤ 0) := Int.le_refl 0
  refine lc_rel (n := sets.length) (walk_range (lo := 0) (n := sets.length)) (fun i y H' => ∃ q, y = .ref q ∧ H q = none ∧ IL H' q (colM (booksM rd.1 rd.2 sets) i)) (fun i y H' H'' s' ⟨q, e1, e2, e3⟩ => ⟨q, e1, e2, s' _ _ e3⟩) hD (by omega) (fun _ _ => trivial) (fun i x H2 H3 Qy Qn acc hi s2 eD y qy => ?_) (fun H2 ys s2 h2 hlen hR => ?_)
  · obtain ⟨rfl, rfl⟩ := y
    refine ⟨rfl, ?_⟩
    refine ⟨_, rfl, p, rfl, ⟨vs, SqL.of (s2 _ _ ep)⟩, fun D2 nD2 => ?_⟩
    have hDD : D2 ≠ D := fun z => by rw [z, eD] at nD2; cases nD2
    have hbl : (booksM rd.1 rd.2 sets).length = rd.1.length + 1 := len_books _ _ _ hl
    refine lc_fm (walk_list (xs := vs)) (fun j => ((colM (booksM rd.1 rd.2 sets) i).map V.int)[j]?) nD2 (by rw [rw1.1, hbl]; omega) (fun H' s' => SqL.of (s' _ _ (s2 _ _ ep))) (fun j x H4 H5 Qy2 Qn2 hj s4 y qy2 qn2 => ?_) (fun H4 s4 h4 => ?_)
    · obtain ⟨rfl, ex⟩ := y
      obtain ⟨q, bk, rfl, hbk, nq, hq⟩ := rw1.at ex
      have hlen : bk.length = sets.length := books_rows _ _ _ _ (List.mem_of_getElem? hbk)
      refine ⟨rfl, _, rfl, _, rfl, q, _, _, .int (bk.getD i 0), rfl, rfl, SqL.of (s4 _ _ (s2 _ _ hq)), ?_, ?_⟩
      · rw [Int.zero_add]
        refine atI_nat ?_
        rw [List.getElem?_map, List.getElem?_eq_getElem (by omega), List.getD_eq_getElem?_getD, List.getElem?_eq_getElem (by omega)]
        rfl
      · refine qy2 _ _ ?_ (Same.refl _)
        rw [List.getElem?_map]
        show Option.map _ ((List.map _ _)[j]?) = _
        rw [List.getElem?_map, hbk]
        rfl
    · refine qy _ _ ⟨D2, rfl, Same.free s1 (Same.free s2 nD2), ?_⟩ s4
      show hide D H4 D2 = _
      rw [hide_ne hDD, h4, fm_get (by rw [List.length_map]; show _ = (List.map _ _).length; rw [List.length_map, rw1.1])]
  · exact k D H2 (s1.trans s2) (rows_of h2 hD0 hlen hR)
end
end Rh
end RhW1_
section RhW2_
set_option Elab.async false
set_option linter.all false
set_option maxRecDepth 100000
set_option maxHeartbeats 4000000
/-! with_one, is_deed, changed, events -/
namespace Rh
open PySem PySem.Spec PyProof.Rows L2
section
variable {P : Program} {w : World} {K : PySem.W.Frag} {mg : Str → Option Value} {base : Heap}
/-! ### with_one(some, at, one) -/
def spWith (K : PySem.W.Frag) : Sp := fun vs H Q _ => ∃ (a : Addr) (xs : List V) (i : Nat) (x : V), vs = [.ref a, .int i, x] ∧ SqT K H a xs ∧ xs.length ≤ 100000 ∧ i < xs.length ∧ ∀ p H', Same H H' → SqT K H' p (xs.set i x) → Q (.ref p) H'
theorem ok_with (D : Dfn K mg "with_one" s_with_one ["some", "at", "one"]) : Cal P w K mg base CX0 "with_one" 1 ["some", "at", "one"] (spWith K) := by
  have nd := s_with_one_sc.nd
  refine D.cal s_with_one_sc (fun vs H Q E ⟨a, xs, i, x, e, _⟩ => by rw [e]; rfl) (fun f cdv A outer s H vs Q E hr h => ?_)
  obtain ⟨a, xs, i, x, rfl, ha, hl, hi, k⟩ := h
  refine ⟨_, PSs.nox (pss_one (ps_ret (pe_op RhR.op_catW (pe_op RhR.op_catW (pe_slice RhR.sl_tupW (pv 0) po_none (po_some (pv 1))) (pe_tup (pa_cons (pv 2) pa_nil))) (pe_slice RhR.sl_tupW (pv 0) (po_some (pe_op op_add (pv 1) pe_int)) po_none)))), ?_⟩
  refine ⟨_, rfl, _, rfl, _, rfl, a, xs, rfl, ha, fun p H1 s1 h1 => ?_⟩
  rw [RhR.cutV_take] at h1
  refine ⟨_, rfl, (by show 1 ≤ sizeLine; decide), fun t nt => ?_⟩
  have s2 := Same.upd (o := .tup [x]) nt
  refine ⟨p, t, _, _, rfl, rfl, Same.tup s2 h1, SqT.of upd_same, by rw [List.length_take]; simp; omega, fun p2 H2 s3 h2 => ?_⟩
  refine ⟨_, rfl, _, rfl, _, _, rfl, rfl, _, rfl, a, xs, rfl, Same.tup (s1.trans (s2.trans s3)) ha, fun p3 H3 s4 h3 => ?_⟩
  rw [show ((i : Int) + 1) = ((i + 1 : Nat) : Int) from rfl, RhR.cutV_drop] at h3
  refine ⟨p2, p3, _, _, rfl, rfl, Same.tup s4 h2, h3, by rw [List.length_append, List.length_take, List.length_drop]; simp; omega, fun p4 H4 s5 h4 => ?_⟩
  refine k p4 H4 (((s1.trans (s2.trans s3)).trans s4).trans s5) ?_
  rw [List.set_eq_take_append_cons_drop, if_pos hi]
  rw [List.append_assoc] at h4
  exact h4
/-! ### is_deed(thing) -/
/-- the dict of the deeds' sizes -/
def Sizes (w : World) (K : PySem.W.Frag) (mg : Str → Option Value) : Prop := ∃ (d : Addr) (es : Array DictEntry) (n : Nat), mg "SIZES" = some (.ref d) ∧ KDict K w d es n ∧ ∀ e : Deed, ∃ t, PySem.W.nsIn K d e.word = some (some (.int (e.args.length + 1 : Nat) t))
def spIsDeed (K : PySem.W.Frag) : Sp := fun vs H Q _ => ∃ (v : V) (d : Deed), vs = [v] ∧ Dp K H v (deedD d) ∧ ∀ H', Same H H' → Q (.bl true) H'
theorem ok_isdeed (B : Bn mg) (Z : Sizes w K mg) (D : Dfn K mg "is_deed" s_is_deed ["thing"]) : Cal P w K mg base CX0 "is_deed" 1 ["thing"] (spIsDeed K) := by
  have nd := s_is_deed_sc.nd
  refine D.cal s_is_deed_sc (fun vs H Q E ⟨v, d, e, _⟩ => by rw [e]; rfl) (fun f cdv A outer s H vs Q E hr h => ?_)
  obtain ⟨v, d, rfl, hv, k⟩ := h
  obtain ⟨a, xs, rfl, ha, hd⟩ := Dp.tupI hv
  obtain ⟨z, es, n, gz, kd, hz⟩ := Z
  refine ⟨_, PSs.nox (pss_cons (ps_if (PW.pt (pw_or (pt_not (pt_val (pe_callB call_isi (by rfl) B.isi (by decide +kernel) (pa_cons (pv 0) (pa_cons (pe_bltn (v := .ty "tuple") (by rfl) B.tuple (by decide +kernel) rfl) pa_nil))))) (pw_or (pt_cmpR op_eq (pe_callB call_len_seq (by rfl) B.len PySem.boot_len (pa_cons (pv 0) pa_nil)) pe_int (nomark _)) (pw_or1 (pt_not (pt_val (pe_callB call_isi (by rfl) B.isi (by decide +kernel) (pa_cons (pe_ix ix_tup (pv 0) pe_int (fun _ _ => rfl)) (pa_cons (pe_bltn (v := .ty "str") (by rfl) B.str (by decide +kernel) rfl) pa_nil))))))))) (pss_one (ps_ret pe_bl)) pss_nil)
      (pss_one (ps_ret (pe_cmpR op_eq (RhR.pe_kget kd (pe_glob (v := .ref z) rfl gz rfl) (pe_ix ix_tup (pv 0) pe_int (fun _ _ => rfl)) ⟨rfl, rfl, rfl, rfl⟩) (pe_callB call_len_seq (by rfl) B.len PySem.boot_len (pa_cons (pv 0) pa_nil)) (nomark _))))), ?_⟩
  have hl : xs.length = d.args.length + 1 := by rw [DpAll.length hd]; rfl
  obtain ⟨x, hx, dx⟩ := DpAll.at hd (i := 0) (d := .str d.word) rfl
  have hx' : x = .str d.word := by cases dx; rfl
  subst hx'
  refine ⟨_, rfl, _, _, _, _, true, rfl, .ty "tuple", TyX.ofT ha, by kernel_rfl, _, rfl, ?_⟩
  refine iteF ?_
  refine ⟨_, rfl, a, _, rfl, .inr ha, rfl, _, rfl, ?_⟩
  refine ifF (ne_int (by rw [hl]; omega)) ?_
  refine ⟨_, rfl, a, _, 0, _, rfl, rfl, ha, atI_nat (j := 0) hx, _, _, _, _, true, rfl, .ty "str", .base (.str _), by kernel_rfl, _, rfl, ?_⟩
  refine iteF ?_
  obtain ⟨t, ht⟩ := hz d
  refine ⟨rfl, _, rfl, a, _, 0, _, rfl, rfl, ha, atI_nat (j := 0) hx, _, _, .int (d.args.length + 1 : Nat), rfl, ht, ⟨t, rfl⟩, ?_⟩
  refine ⟨_, rfl, a, _, rfl, .inr ha, rfl, ?_⟩
  rw [eq_int (by rw [hl])]
  exact k _ (Same.refl H)
/-! ### changed(ahead, behind) -/
theorem Dp.pageI {H : Hp} {v : V} {p : Page} (h : Dp K H v (pageD p)) : ∃ a r u q, v = .ref a ∧ SqT K H a [r, u, q] ∧ Dp K H r (roadD p.1) ∧ Dp K H u (setsD p.2.1) ∧ Dp K H q (setsD p.2.2) := by
  obtain ⟨a, xs, e, h1, h2⟩ := Dp.tupI h
  cases h2 with
  | cons d1 d2 =>
    cases d2 with
    | cons d2 d3 =>
      cases d3 with
      | cons d3 d4 =>
        cases d4
        exact ⟨a, _, _, _, e, h1, d1, d2, d3⟩
def spChanged (K : PySem.W.Frag) : Sp := fun vs H Q _ => ∃ (v u : V) (p q : Page) (n : Nat), vs = [v, u] ∧ Dp K H v (pageD p) ∧ Dp K H u (pageD q) ∧ PgOk n p ∧ PgOk n q ∧ ∀ H', Same H H' → Q (.int (chg p q)) H'
abbrev nChanged : List Str := ["ahead", "behind", "mine", "its", "told", "who", "page", "one", "other"]
theorem sc_changed : FnScope nChanged ["ahead", "behind"] (defScope s_changed) := ⟨rfl, rfl, rfl, by decide +kernel, rfl, by decide +kernel, by decide +kernel⟩
/-- a page's dict of its riders' comings -/
def PgDict (H : Hp) (d : Addr) (p : Page) : Prop := ∃ ys, H d = some (.dK ((p.2.2.map Sum.inl).zip ys)) ∧ RowsV (fun _ => True) H ys (comM p.1 p.2.1)
theorem PgDict.same {H H' : Hp} {d : Addr} {p : Page} (s : Same H H') (h : PgDict H d p) : PgDict H' d p := by
  obtain ⟨ys, e, r⟩ := h
  exact ⟨ys, s _ _ e, r.mono fun q b n e => ⟨n, s _ _ e⟩⟩
theorem ok_changed (B : Bn mg) (D : Dfn K mg "changed" s_changed ["ahead", "behind"]) (h1 : Cal P w K mg base CX0 "comings" 6 ["road", "sets"] (spComings K)) : Cal P w K mg base CX0 "changed" 7 ["ahead", "behind"] (spChanged K) := by
  have nd := sc_changed.nd
  obtain ⟨f1, fd1, G1, g1, k1, b1⟩ := h1
  refine D.cal sc_changed (fun vs H Q E ⟨v, u, p, q, n, e, _⟩ => by rw [e]; rfl) (fun f cdv A outer s H vs Q E hr h => ?_)
  obtain ⟨v, u, p, q, n, rfl, hv, hu, op, oq, k⟩ := h
  refine ⟨_, PSs.nox (pss_cons (ps_asg (pe_lc (own := [("page", 6)]) (g := gName 6) (te := RhZ.tDzs K (tCons (tOp (rIxT K) (tVar 6) (tC (.int 2))) (tCons (tCall (spComings K) [] E0 (tCons (tOp (rIxT K) (tVar 6) (tC (.int 0))) (tCons (tOp (rIxT K) (tVar 6) (tC (.int 1))) tNil))) tNil)) (tCons (tC (.bl true)) tNil)) rfl nd (pi_tup (pe_tup (pa_cons (pv 0) (pa_cons (pv 1) pa_nil)))) (blkOk_by (N := nChanged) (sc := defScope s_changed) (by decide +kernel)) (fun _ _ _ _ _ => (pg_name (i := 6) nd rfl (.inl rfl))) (fun _ _ _ _ _ => pts_nil)
        (fun _ _ _ _ _ => RhZ.pe_dzs rfl (by rfl) B.dict (by rfl) B.zip (pa_cons (pe_ix ix_tup (pv 6) pe_int (fun _ _ => rfl)) (pa_cons (pe_call G1 (hr.mono (by decide)) (by rfl) g1 k1 b1 .nil pass0 (pa_cons (pe_ix ix_tup (pv 6) pe_int (fun _ _ => rfl)) (pa_cons (pe_ix ix_tup (pv 6) pe_int (fun _ _ => rfl)) pa_nil))) pa_nil)) (pk_cons pe_bl pk_nil))) (pg_lst rfl (pgs_cons (pg_name (i := 2) nd rfl (.inl rfl)) (pgs_cons (pg_name (i := 3) nd rfl (.inl rfl)) pgs_nil))))
      (pss_cons (ps_set (i := 4) nd rfl (.inl rfl) pe_int)
      (pss_cons (ps_lock (ps_for PassesOwn.never rfl (pi_keys (pv 2)) (pg_name (i := 5) nd rfl (.inl rfl)) (pss_one (ps_if (pt_cmp (pc_din (hu_of hr) (pv 5) (pv 3))) (pss_one (ps_aug (i := 4) nd rfl (.inl rfl) (pe_callB call_len_seq (by rfl) B.len PySem.boot_len (pa_cons (pe_lc (own := [("one", 7), ("other", 8)]) (g := gTup K 2 (gCons (gName 7) (gCons (gName 8) gNil))) rfl nd
      (RhZ.pi_zs (by rfl) B.zip (pa_cons (pe_dget (hu_of hr) (pv 2) (pv 5) (fun _ _ => rfl)) (pa_cons (pe_dget (hu_of hr) (pv 3) (pv 5) (fun _ _ => rfl)) pa_nil)) (pk_cons pe_bl pk_nil)) (blkOk_by (N := nChanged) (sc := defScope s_changed) (by decide +kernel))
      (fun _ _ _ _ _ => (pg_tup rfl (pgs_cons (pg_name (i := 7) nd rfl (.inl rfl)) (pgs_cons (pg_name (i := 8) nd rfl (.inl rfl)) pgs_nil)))) (fun _ _ _ _ _ => pts_one (pt_cmpR op_ne (pv 7) (pv 8) (nomark _))) (fun _ _ _ _ _ => (pv 7))) pa_nil)) ip_add)) pss_nil))))
      (pss_one (ps_ret (pv 4)))))), ?_⟩
  have okp : PgOk n p := op
  -- both dicts
  refine ⟨_, rfl, _, rfl, (by show 2 ≤ sizeLine; decide), fun tp ntp => ?_⟩
  have s0 : Same H (upd H tp (.tup [v, u])) := Same.upd ntp
  refine ⟨tp, rfl, ⟨_, SqT.of upd_same⟩, fun L hL => ?_⟩
  have nL : H L = none := Same.free s0 hL
  refine lc_rel (walk_tup (xs := [v, u])) (fun i y H' => ∃ d, y = .ref d ∧ H d = none ∧ PgDict H' d (if i = 0 then p else q)) (fun i y H' H'' s' ⟨d, e1, e2, e3⟩ => ⟨d, e1, e2, e3.same s'⟩) hL (by show 2 ≤ 100000; omega) (fun H' s' => SqT.of (s' _ _ upd_same)) (fun i x H2 H3 Qy Qn acc hi s2 eL y qy => ?_) (fun H2 ys s2 h2 hlen hR => ?_)
  · obtain ⟨rfl, ex⟩ := y
    have s02 := s0.trans s2
    have hx : Dp K H x (pageD (if i = 0 then p else q)) := by
      match i, hi, ex with
      | 0, _, ex => rw [← Option.some.inj ex]; exact hv
      | 1, _, ex => rw [← Option.some.inj ex]; exact hu
    have ok : PgOk n (if i = 0 then p else q) := by split <;> assumption
    revert hx ok qy
    generalize (if i = 0 then p else q) = g
    intro qy hx ok
    obtain ⟨a, r, uu, qq, rfl, ha, hr1, hu1, hq1⟩ := Dp.pageI hx
    obtain ⟨b, rfl, hb⟩ := Dp.setsI hq1
    have ha2 := Same.tup s02 ha
    refine ⟨rfl, ?_⟩
    refine ⟨_, rfl, a, _, 2, _, rfl, rfl, ha2, rfl, ?_⟩
    refine ⟨_, rfl, a, _, 0, _, rfl, rfl, ha2, rfl, _, rfl, a, _, 1, _, rfl, rfl, ha2, rfl, ?_⟩
    refine ⟨r, uu, g.1, g.2.1, rfl, Dp.same s02 hr1, Dp.same s02 hu1, by rw [ok.legs, ok.firsts], by rw [ok.legs]; exact ok.few, ok.sets, fun c H4 s4 hc => ?_⟩
    obtain ⟨ys, ec, nc, rw1⟩ := hc
    have hyl : ys.length = g.2.1.length := by rw [rw1.1]; unfold comM; rw [List.length_map, List.length_range]
    refine ⟨false, true, b, c, g.2.2, ys, rfl, rfl, Same.tup (s02.trans s4) hb, SqL.of ec, by rw [ok.persons, hyl], fun d nd' => ?_⟩
    have s5 : Same H4 (upd H4 d (.dK (mergeK [] ((g.2.2.map Sum.inl).zip ys)))) := Same.upd nd'
    have hm : mergeK [] ((g.2.2.map Sum.inl).zip ys) = (g.2.2.map Sum.inl).zip ys := by
      refine (mergeK_nd _ [] ?_).trans (List.nil_append _)
      rw [List.nil_append, List.map_fst_zip (Nat.le_of_eq (by rw [List.length_map, ok.persons, hyl]))]
      exact List.pairwise_map.mpr (ok.nd.imp fun h e => h (Sum.inl.inj e))
    have eL4 := s4 _ _ eL
    have hdL : d ≠ L := fun z => by rw [z, eL4] at nd'; cases nd'
    refine qy _ _ ⟨d, rfl, Same.free (s02.trans s4) nd', ys, ?_, rw1.mono fun q' b' n' e' => ⟨trivial, ?_⟩⟩ (s4.trans s5)
    · rw [hide_ne hdL, upd_same, hm]
    · have n1 : H3 q' = none := n'.1
      have hq' : q' ≠ L := fun z => by rw [z, eL] at n1; cases n1
      show hide L _ q' = _
      rw [hide_ne hq']
      exact s5 _ _ e'
  · obtain ⟨y0, y1', rfl⟩ : ∃ y0 y1, ys = [y0, y1] := by
      match ys, hlen with
      | [y0, y1], _ => exact ⟨_, _, rfl⟩
    obtain ⟨d1, rfl, n1, p1⟩ := hR 0 y0 rfl
    obtain ⟨d2, rfl, n2, p2⟩ := hR 1 y1' rfl
    have p1 : PgDict H2 d1 p := p1.same hide_same
    have p2 : PgDict H2 d2 q := p2.same hide_same
    have s02 := s0.trans s2
    obtain ⟨y1, ed1, r1⟩ := p1
    obtain ⟨y2, ed2, r2⟩ := p2
    have hc1 : (comM p.1 p.2.1).length = p.2.1.length := by unfold comM; rw [List.length_map, List.length_range]
    have hc2 : (comM q.1 q.2.1).length = q.2.1.length := by unfold comM; rw [List.length_map, List.length_range]
    refine ⟨L, _, rfl, SqL.of h2, rfl, _, _, rfl, _, _, rfl, rfl, ?_⟩
    refine ⟨d1, _, ed1, trivial, fun od => ?_⟩
    have kvl : ((p.2.2.map (Sum.inl : Int → L2.Key)).zip y1).length = p.2.1.length := by rw [List.length_zip, List.length_map, op.persons, r1.1, hc1, Nat.min_self]
    generalize hF : upd H2 d1 (.frz od (.dK ((p.2.2.map Sum.inl).zip y1))) = HF
    have eF : HF d1 = some (.frz od (.dK ((p.2.2.map Sum.inl).zip y1))) := by rw [← hF, upd_same]
    have neF : ∀ b, b ≠ d1 → HF b = H2 b := fun b hb => by rw [← hF, upd_ne hb]
    have sF : Same H HF := fun b o e => by
      rw [neF b (fun z => by rw [z, n1] at e; cases e)]
      exact s02 _ _ e
    have rd2 : Rd HF d2 (.dK ((q.2.2.map Sum.inl).zip y2)) := by
      by_cases z : d2 = d1
      · rw [z] at ed2 ⊢
        exact .inr ⟨od, by rw [eF, ← Option.some.inj (ed1.symm.trans ed2)]⟩
      · exact .inl (by rw [neF _ z]; exact ed2)
    have rF1 : RowsV (fun _ => True) HF y1 (comM p.1 p.2.1) := r1.mono fun q' b' n' e' => ⟨trivial, by
      show HF q' = _
      rw [neF q' (fun z => by rw [z] at e'; have := e'.symm.trans ed1; cases this)]
      exact e'⟩
    have rF2 : RowsV (fun _ => True) HF y2 (comM q.1 q.2.1) := r2.mono fun q' b' n' e' => ⟨trivial, by
      show HF q' = _
      rw [neF q' (fun z => by rw [z] at e'; have := e'.symm.trans ed1; cases this)]
      exact e'⟩
    have lz : (p.2.2.zip (comM p.1 p.2.1)).length = p.2.1.length := by rw [List.length_zip, op.persons, hc1, Nat.min_self]
    refine ⟨_, rfl, d1, od, rfl, .inl ⟨_, eF, for_it walk_keys (fun i σ H' => (∃ x, σ = [some v, some u, some (.ref d1), some (.ref d2), some (.int (((p.2.2.zip (comM p.1 p.2.1)).map (gainM q)).take i).sum), x, none, none, none]) ∧ Same HF H') ⟨⟨none, rfl⟩, Same.refl _⟩ (fun i σ H' _ q => q.2 _ _ eF) (fun i x σ H3 H4 hi q' y => ?_) (fun σ H3 q' => ?_)⟩⟩
    · obtain ⟨⟨x0, rfl⟩, s3⟩ := q'
      obtain ⟨rfl, ky, vy, hk, rfl⟩ := y
      rw [kvl] at hi
      have hi1 : i < p.2.2.length := by rw [op.persons]; exact hi
      have hi2 : i < (comM p.1 p.2.1).length := by rw [hc1]; exact hi
      obtain ⟨who, hwho⟩ : ∃ who, p.2.2[i]? = some who := ⟨_, List.getElem?_eq_getElem hi1⟩
      obtain ⟨row, hrow⟩ : ∃ row, (comM p.1 p.2.1)[i]? = some row := ⟨_, List.getElem?_eq_getElem hi2⟩
      obtain ⟨qr, hqr, _, hql⟩ := rF1.2 i row hrow
      have ek : (ky, vy) = (Sum.inl who, V.ref qr) := by
        have : ((p.2.2.map (Sum.inl : Int → L2.Key)).zip y1)[i]? = some (Sum.inl who, V.ref qr) := by
          rw [List.getElem?_zip_eq_some]
          exact ⟨at_map hwho, hqr⟩
        exact Option.some.inj (hk.symm.trans this)
      obtain ⟨rfl, rfl⟩ := Prod.mk.inj ek
      have hz : (p.2.2.zip (comM p.1 p.2.1))[i]? = some (who, row) := by
        rw [List.getElem?_zip_eq_some]
        exact ⟨hwho, hrow⟩
      have hsum := L2.sum_take (l := (p.2.2.zip (comM p.1 p.2.1)).map (gainM q)) (i := i) (at_map hz)
      rw [hsum]
      have rd2' : Rd H4 d2 (.dK ((q.2.2.map Sum.inl).zip y2)) := Same.rd s3 rd2
      refine ⟨_, rfl, _, rfl, d2, _, rfl, .inl ⟨_, _, rd2', rfl, rfl⟩, _, rfl, ?_⟩
      by_cases hin : who ∈ q.2.2
      · obtain ⟨j, hj, hjw⟩ := List.mem_iff_getElem.mp hin
        have hj' : q.2.2[j]? = some who := by rw [List.getElem?_eq_getElem hj, hjw]
        have hj2 : j < (comM q.1 q.2.1).length := by rw [hc2, ← oq.persons]; exact hj
        obtain ⟨row2, hrow2⟩ : ∃ row, (comM q.1 q.2.1)[j]? = some row := ⟨_, List.getElem?_eq_getElem hj2⟩
        obtain ⟨qr2, hqr2, _, hql2⟩ := rF2.2 j row2 hrow2
        have hv2 := valV_zip oq.nd hj' hqr2
        have hv1 := valV_zip op.nd hwho hqr
        have eg : gainM q (who, row) = diffs row row2 := by
          unfold gainM
          rw [lookup_zip oq.nd hj' hrow2]
        have lrow : row.length = n + 1 := by
          obtain ⟨z, _, rfl⟩ := map_at hrow
          unfold colM
          rw [List.length_map, len_books _ _ _ (by rw [op.legs, op.firsts]), op.legs]
        have lrow2 : row2.length = n + 1 := by
          obtain ⟨z, _, rfl⟩ := map_at hrow2
          unfold colM
          rw [List.length_map, len_books _ _ _ (by rw [oq.legs, oq.firsts]), oq.legs]
        refine ifT (by rw [hv2]; rfl) ?_
        refine ⟨_, rfl, ?_⟩
        refine ⟨_, rfl, _, rfl, d1, .ref qr, rfl, .inl ⟨_, _, .inr ⟨od, s3 _ _ eF⟩, rfl, hv1.symm⟩, _, rfl, _, rfl, d2, .ref qr2, rfl, .inl ⟨_, _, rd2', rfl, hv2.symm⟩, ?_⟩
        refine ⟨true, true, qr, qr2, _, _, rfl, rfl, SqL.of (s3 _ _ hql), SqL.of (s3 _ _ hql2), fun D2 nD2 => ?_⟩
        refine lc_fm (walk_zs (by rw [List.length_map, List.length_map, lrow, lrow2])) (fun i => ((row.zip row2)[i]?).bind fun p => if p.1 ≠ p.2 then some (V.int p.1) else none) nD2 (by rw [List.length_map, lrow]; have := op.few; omega) (fun H' s' => ⟨SqL.of (s' _ _ (s3 _ _ hql)), SqL.of (s' _ _ (s3 _ _ hql2))⟩) (fun m x H5 H6 Qy Qn hm s5 y qy qn => ?_) (fun H5 s5 h5 => ?_)
        · obtain ⟨T, x, z, rfl, nT, rfl, e1, e2⟩ := y
          obtain ⟨c, hc, rfl⟩ := map_at e1
          obtain ⟨d, hd, rfl⟩ := map_at e2
          have s6 := Same.upd (o := .tup [V.int c, V.int d]) nT
          have ez : (row.zip row2)[m]? = some (c, d) := by
            rw [List.getElem?_zip_eq_some]
            exact ⟨hc, hd⟩
          refine ⟨T, _, rfl, SqT.of upd_same, rfl, _, _, rfl, _, _, rfl, rfl, rfl, ?_⟩
          refine ⟨_, rfl, _, rfl, rfl, _, rfl, ?_⟩
          by_cases hcd : c = d
          · refine ifF (by rw [eq_int hcd]; rfl) (qn _ ?_ s6)
            show ((row.zip row2)[m]?).bind _ = none
            rw [ez, Option.bind_some, if_neg (fun z => z hcd)]
          · refine ifT (by rw [ne_int hcd]; rfl) ⟨_, rfl, qy _ _ ?_ s6⟩
            show ((row.zip row2)[m]?).bind _ = _
            rw [ez, Option.bind_some, if_pos hcd]
        · have hlen : ((row.zip row2).filterMap fun p => if p.1 ≠ p.2 then some (V.int p.1) else none).length = ((row.zip row2).filter fun p => decide (p.1 ≠ p.2)).length := by
            induction row.zip row2 with
            | nil => rfl
            | cons a l ih =>
              by_cases h : a.1 = a.2
              · rw [List.filterMap_cons, if_neg (fun z => z h), List.filter_cons, if_neg (by simpa using h)]
                exact ih
              · rw [List.filterMap_cons, if_pos h, List.filter_cons, if_pos (by simpa using h), List.length_cons, List.length_cons]
                exact congrArg Nat.succ ih
          rw [fm_bind _ _ _ (by rw [List.length_map, List.length_zip, lrow, lrow2, Nat.min_self])] at h5
          refine ⟨D2, _, rfl, .inl (SqL.of h5), _, _, rfl, rfl, ⟨some (V.int who), ?_⟩, s3.trans s5⟩
          rw [eg, hlen]
          rfl
      · refine ifF (by rw [valV_none hin]; rfl) ⟨⟨some (V.int who), ?_⟩, s3⟩
        have eg : gainM q (who, row) = 0 := by
          unfold gainM
          rw [lookup_zip_none hin]
        rw [eg, Int.add_zero]
        rfl
    · obtain ⟨⟨x0, rfl⟩, s3⟩ := q'
      have e4 := s3 _ _ eF
      refine ⟨e4, _, rfl, ?_⟩
      rw [kvl, List.take_of_length_le (by rw [List.length_map, lz]; exact Nat.le_refl _)]
      refine k _ fun b o e => ?_
      have hb : b ≠ d1 := fun z => by rw [z, n1] at e; cases e
      rw [upd_ne hb]
      exact s3 _ _ (sF _ _ e)
end
end Rh
end RhW2_
section RhW3_
set_option Elab.async false
set_option linter.all false
set_option maxRecDepth 100000
set_option maxHeartbeats 4000000
/-! events -/
namespace Rh
open PySem PySem.Spec PyProof.Rows L2
section
variable {P : Program} {w : World} {K : PySem.W.Frag} {mg : Str → Option Value} {base : Heap}
theorem noL_tri (b : Int × Int × Int) : noL (RhR.triD b) = true := rfl
theorem noLs_tri : ∀ bs : List (Int × Int × Int), noLs (bs.map RhR.triD) = true
  | [] => rfl
  | b :: bs => by rw [List.map_cons, noLs, noL_tri, noLs_tri bs]; rfl
theorem fm_map {α β γ : Type} (l : List α) (f : α → Option β) (g : β → γ) : (l.filterMap f).map g = l.filterMap fun a => (f a).map g := by rw [List.map_filterMap]
/-- what both sides of the comparison sort -/
def evS (rd : Road) (sets : List Int) (beat : Int) : List (Int × Int × Int) := evM (booksM rd.1 rd.2 sets) beat (rd.1.length + 1)
def sortE (l : List (Int × Int × Int)) : List (Int × Int × Int) := l.mergeSort (PySem.W.dataLe false RhR.triD)
def spEvents (K : PySem.W.Frag) : Sp := fun vs H Q _ => ∃ (v u : V) (rd : Road) (sets : List Int) (beat : Int), vs = [v, u, .int beat] ∧ Dp K H v (roadD rd) ∧ Dp K H u (setsD sets) ∧ rd.1.length = rd.2.length ∧ rd.1.length ≤ 100 ∧ sets.length ≤ 900 ∧
  ∀ p H', Same H H' → H p = none → Dp K H' (.ref p) (.list ((sortE (evS rd sets beat)).map RhR.triD)) → Q (.ref p) H'
abbrev nEvents : List Str := ["road", "sets", "beat", "found", "station", "book", "rider", "come"]
theorem sc_events : FnScope nEvents ["road", "sets", "beat"] (defScope s_events) := ⟨rfl, rfl, rfl, by decide +kernel, rfl, by decide +kernel, by decide +kernel⟩
theorem len_evB (b : List Int) (s : Nat) (beat : Int) : (evB b s beat).length ≤ b.length := by
  unfold evB
  have := List.length_filterMap_le (fun (r : Nat) => (b[r]?).bind fun c => if c ≤ beat then some (c, Int.ofNat s, Int.ofNat r) else none) (List.range b.length)
  rwa [List.length_range] at this
theorem len_evM (bs : List (List Int)) (beat : Int) (m : Nat) (h : ∀ b ∈ bs, b.length ≤ m) : ∀ n, (evM bs beat n).length ≤ n * m
  | 0 => by simp [evM]
  | n + 1 => by
    rw [evM_succ, List.length_append, Nat.succ_mul]
    have h1 := len_evM bs beat m h n
    have h2 := len_evB (bs.getD n []) n beat
    have h3 : (bs.getD n []).length ≤ m := by
      rw [List.getD_eq_getElem?_getD]
      cases e : bs[n]? with
      | none => simp
      | some b => exact h b (List.mem_of_getElem? e)
    omega
theorem ok_events (B : Bn mg) (D : Dfn K mg "events" s_events ["road", "sets", "beat"]) (h1 : Cal P w K mg base CX0 "books_to" 5 ["road", "sets", "station"] (spBooks K)) : Cal P w K mg base CX0 "events" 6 ["road", "sets", "beat"] (spEvents K) := by
  have nd := sc_events.nd
  obtain ⟨f1, fd1, G1, g1, k1, b1⟩ := h1
  refine D.cal sc_events (fun vs H Q E ⟨v, u, rd, sets, beat, e, _⟩ => by rw [e]; rfl) (fun f cdv A outer s H vs Q E hr h => ?_)
  obtain ⟨v, u, rd, sets, beat, rfl, hv, hu, hl, hl2, hs, k⟩ := h
  obtain ⟨a, b, c, ls, rfl, ha, hb, hbd, hc⟩ := Dp.roadI hv
  obtain ⟨d, rfl, hd⟩ := Dp.setsI hu
  refine ⟨_, PSs.nox (pss_cons (ps_set (i := 3) nd rfl (.inl rfl) (pe_lst pa_nil))
      (pss_cons (ps_for PassesOwn.never rfl (pi_enum (by rfl) B.enum (pa_cons (pe_call G1 (hr.mono (by decide)) (by rfl) g1 k1 b1 .nil pass0 (pa_cons (pv 0) (pa_cons (pv 1) (pa_cons (pe_callB call_len_seq (by rfl) B.len PySem.boot_len (pa_cons (pe_ix ix_tup (pv 0) pe_int (fun _ _ => rfl)) pa_nil)) pa_nil)))) pa_nil)) (pg_tup rfl (pgs_cons (pg_name (i := 4) nd rfl (.inr rfl)) (pgs_cons (pg_name (i := 5) nd rfl (.inl rfl)) pgs_nil))) (pss_one (ps_aug (i := 3) nd rfl (.inl rfl) (pe_lc (own := [("rider", 6), ("come", 7)]) (g := gTup K 2 (gCons (gName 6) (gCons (gName 7) gNil))) rfl nd (pi_enum (by rfl) B.enum (pa_cons (pv 5) pa_nil)) (blkOk_by (N := nEvents) (sc := defScope s_events) (by decide +kernel))
        (fun _ _ _ _ _ => (pg_tup rfl (pgs_cons (pg_name (i := 6) nd rfl (.inl rfl)) (pgs_cons (pg_name (i := 7) nd rfl (.inl rfl)) pgs_nil)))) (fun _ _ _ _ _ => pts_one (pt_cmpR op_le (pv 7) (pv 2) (nomark _))) (fun _ _ _ _ _ => (pe_tup (pa_cons (pv 7) (pa_cons (pv 4) (pa_cons (pv 6) pa_nil)))))) iop_ext)))
      (pss_one (ps_ret (pe_callB (RhR.cr_sortedD hr.units) (by rfl) B.sorted (by decide +kernel) (pa_cons (pv 3) pa_nil)))))), ?_⟩
  have lls : ls.length = rd.1.length := by rw [DpAll.length hbd, List.length_map]
  refine ⟨Nat.zero_le _, fun F nF => ?_⟩
  have s1 : Same H (upd H F (.lst [])) := Same.upd nF
  refine ⟨_, rfl, _, rfl, _, rfl, a, _, 0, _, rfl, rfl, Same.tup s1 ha, rfl, b, ls, rfl, .inr (Same.tup s1 hb), ?_⟩
  rw [lls]
  refine ⟨_, _, rd, sets, rd.1.length, rfl, Dp.same s1 hv, Dp.same s1 hu, hl, hl2, Nat.le_refl _, by omega, fun p H2 s2 hp => ?_⟩
  rw [List.take_length, hl, List.take_length] at hp
  have hbl : (booksM rd.1 rd.2 sets).length = rd.1.length + 1 := len_books _ _ _ hl
  have hrow : ∀ x ∈ booksM rd.1 rd.2 sets, x.length = sets.length := books_rows _ _ _
  generalize hbk : booksM rd.1 rd.2 sets = bks at hp hbl hrow
  obtain ⟨vs, ep, np, rw1⟩ := hp
  have eF := s2 _ _ (upd_same (H := H) (a := F) (o := .lst []))
  have npF : p ≠ F := fun z => by rw [z, upd_same] at np; cases np
  refine ⟨p, vs, rfl, SqL.of ep, ?_⟩
  have hmul : (rd.1.length + 1) * sets.length ≤ 101 * 900 := Nat.mul_le_mul (by omega) hs
  have hle : ∀ i, i ≤ rd.1.length + 1 → (evM bks beat i).length ≤ 90900 := fun i hi => by
    have h1 := len_evM bks beat sets.length (fun x hx => Nat.le_of_eq (hrow x hx)) i
    have h2 : i * sets.length ≤ (rd.1.length + 1) * sets.length := Nat.mul_le_mul hi (Nat.le_refl _)
    omega
  refine for_it walk_enum (fun i σ H' => (∃ x y, σ = [some (.ref a), some (.ref d), some (.int beat), some (.ref F), x, y, none, none]) ∧ Fr [F] H2 H' ∧ ∃ ws, H' F = some (.lst ws) ∧ DpAll K H' ws ((evM bks beat i).map RhR.triD))
    ⟨⟨none, none, rfl⟩, Fr.refl, [], eF, .nil⟩ (fun i σ H' _ q => SqL.of (q.2.1.keep _ _ ep (by simpa using npF))) (fun i x σ H3 H4 hi q y => ?_) (fun σ H3 q => ?_)
  · obtain ⟨⟨x0, y0, rfl⟩, fr, ws, ew, dw⟩ := q
    obtain ⟨T, x, z, rfl, nT, rfl, e1, e2⟩ := y
    have ex : x = .int (i : Nat) := (Option.some.inj e1).symm
    subst ex
    obtain ⟨q, row, rfl, hr1, nq, hq⟩ := rw1.at e2
    have nqF : q ≠ F := fun z => by
      have h1 := nq.1
      rw [z] at h1
      have h2 : upd H F (.lst []) F = none := h1
      rw [upd_same] at h2
      cases h2
    have s4 : Same H3 (upd H3 T (.tup [V.int (i : Nat), V.ref q])) := Same.upd nT
    have hq4 := s4 _ _ (fr.keep _ _ hq (by simpa using nqF))
    have hrl : row.length = sets.length := hrow _ (List.mem_of_getElem? hr1)
    refine ⟨T, _, rfl, SqT.of upd_same, rfl, _, _, rfl, _, _, rfl, rfl, ?_⟩
    refine ⟨_, rfl, _, rfl, q, _, rfl, SqL.of hq4, fun D nD => ?_⟩
    refine lc_dp (K := K) walk_enum (fun (r : Nat) => ((row[r]?).bind fun c => if c ≤ beat then some (c, Int.ofNat i, Int.ofNat r) else none).map RhR.triD) nD (by rw [List.length_map]; omega) (fun H' s' => SqL.of (s' _ _ hq4)) (fun m x H5 H6 Qy Qn acc hm s5 eD y qy qn => ?_) (fun H5 ys s5 h5 hdp => ?_)
    · obtain ⟨T2, x, z, rfl, nT2, rfl, e1, e2⟩ := y
      have ex : x = .int (m : Nat) := (Option.some.inj e1).symm
      subst ex
      obtain ⟨c, hc, rfl⟩ := map_at e2
      have s6 := Same.upd (o := .tup [V.int (m : Nat), V.int c]) nT2
      refine ⟨T2, _, rfl, SqT.of upd_same, rfl, _, _, rfl, _, _, rfl, rfl, rfl, ?_⟩
      refine ⟨_, rfl, _, rfl, _, _, rfl, rfl, _, rfl, ?_⟩
      by_cases hcb : c ≤ beat
      · refine ifT (decide_eq_true hcb) ?_
        refine ⟨_, rfl, _, rfl, _, rfl, (by show 3 ≤ sizeLine; decide), fun t nt => ?_⟩
        refine qy _ _ (RhR.triD (c, Int.ofNat i, Int.ofNat m)) ?_ (.tup (SqT.of ?_) (.cons (.int c) (.cons (.int _) (.cons (.int _) .nil)))) (s6.trans (Same.upd nt))
        · show Option.map _ ((row[m]?).bind _) = _
          rw [hc, Option.bind_some, if_pos hcb]
          rfl
        · have htD : t ≠ D := fun z => by
            rw [z] at nt
            have := s6 _ _ eD
            rw [this] at nt
            cases nt
          rw [hide_ne htD, upd_same]
          rfl
      · refine ifF (decide_eq_false hcb) (qn _ ?_ s6)
        show Option.map _ ((row[m]?).bind _) = _
        rw [hc, Option.bind_some, if_neg hcb]
        rfl
    · have ew5 := s5 _ _ (s4 _ _ ew)
      have hdp' := DpAll.same hide_same hdp
      have hfr : Fr [F] H2 (upd H5 F (.lst (ws ++ ys))) := fr.trans ((Fr.of (s4.trans s5)).trans (Fr.lst ew5 (by simp)))
      have hput : Fr [F] H5 (upd H5 F (.lst (ws ++ ys))) := Fr.lst ew5 (by simp)
      have e3 : (List.range (row.map V.int).length).filterMap (fun (r : Nat) => ((row[r]?).bind fun c => if c ≤ beat then some (c, Int.ofNat i, Int.ofNat r) else none).map RhR.triD) = (evB row i beat).map RhR.triD := by
        unfold evB
        rw [fm_map, List.length_map]
      rw [e3] at hdp'
      have l1 : ws.length ≤ 90900 := by rw [DpAll.length dw, List.length_map]; exact hle i (by rw [rw1.1, hbl] at hi; omega)
      have l2 : ys.length ≤ 900 := by
        rw [DpAll.length hdp', List.length_map]
        have := len_evB row i beat
        omega
      refine ⟨F, D, ws, ys, rfl, rfl, ew5, h5, by rw [sizeLine_eq]; omega, ⟨some (.int (i : Nat)), some (.ref q), rfl⟩, hfr, _, upd_same, ?_⟩
      have eg : bks.getD i [] = row := by rw [List.getD_eq_getElem?_getD, hr1]; rfl
      rw [evM_succ, eg, List.map_append]
      exact DpAll.app (DpAll.fr hput (noLs_tri _) (DpAll.same (s4.trans s5) dw)) (DpAll.fr hput (noLs_tri _) hdp')
  · obtain ⟨⟨x0, y0, rfl⟩, fr, ws, ew, dw⟩ := q
    have l1 : vs.length = rd.1.length + 1 := by rw [rw1.1, hbl]
    rw [l1] at dw
    refine ⟨_, rfl, F, ws, _, rfl, SqL.of ew, dw, by have := hle _ (Nat.le_refl _); omega, fun p2 ys np2 hd2 => ?_⟩
    have s3 : Same H H3 := Fr.beside (s1.trans s2) fr (fun z hz => by rw [List.mem_singleton.mp hz]; exact nF)
    refine k p2 _ (s3.trans (Same.upd np2)) (Same.free s3 np2) (.lst (SqL.of upd_same) ?_)
    have e : evS rd sets beat = evM bks beat (rd.1.length + 1) := by unfold evS; rw [hbk]
    rw [e]
    exact DpAll.same (Same.upd np2) hd2
end
end Rh
end RhW3_
section RhW4_
set_option Elab.async false
set_option linter.all false
set_option maxRecDepth 100000
set_option maxHeartbeats 4000000
/-! The exceptions; the house's small methods. -/
namespace Rh
open PySem PySem.Spec PyProof.Rows L2
/-! ### exceptions -/
/-- what the top has written of an own exception with one field -/
structure ExT (K : PySem.W.Frag) (mg : Str → Option Value) (xC fld : Str) (B newId initId : String) (bm : List Value) (st : Stmt) (q : Str) (C : Addr) : Prop where
  bb : RhX.Bas B newId initId bm
  cx : RhX.Cx1 K newId bm C
  c : ExcC K C
  g : mg xC = some (.ref C)
  no : PySem.W.findIn K (.ref C) fld = some none
  vV : PySem.W.findCls K (.type B) (.type "type") "__init__" = some (.val (.builtin initId))
  init : ∃ (f : Addr) (fd : FuncData), FunD K "__init__" q (defArgs st) (defBody st) (defScope st) [] [] f fd ∧ PySem.W.findIn K (.ref C) "__init__" = some (some (.ref f)) ∧ PySem.W.typeIn K (.ref f) = some (.type "function") ∧ L2.Binds K fd ["self", fld] []
/-- __init__(self, v) of such -/
def spExI (C : Addr) (fld : Str) : Sp := fun vs H Q _ => ∃ (a : Addr) (y : V), vs = [.ref a, y] ∧ H a = some (exo a C none) ∧ ∀ dx, H dx = none → dx ≠ a → Q .non (upd (upd H dx (exd dx [(fld, y)])) a (exo a C (some dx)))
/-- a class that can be raised -/
def ExCal (P : Program) (w : World) (K : PySem.W.Frag) (mg : Str → Option Value) (base : Heap) (xC fld : Str) (B newId initId : String) (bm : List Value) (C : Addr) : Prop :=
  RhX.Bas B newId initId bm ∧ RhX.Cx1 K newId bm C ∧ ExcC K C ∧ mg xC = some (.ref C) ∧ PySem.W.findIn K (.ref C) fld = some none ∧ ∃ (f : Addr) (fd : FuncData), FnOk P w K mg base CX0 1 f fd ["self", fld] (spExI C fld) ∧ PySem.W.findIn K (.ref C) "__init__" = some (some (.ref f)) ∧ PySem.W.typeIn K (.ref f) = some (.type "function") ∧ L2.Binds K fd ["self", fld] []
/-- raise C(e) -/
def tRx (C : Addr) (fld : Str) (W : WX) (te : TE) : TS := fun _ σ H => te σ H fun y H1 => ∀ d H', Same H1 H' → H1 d = none → H' d = some (.xd [(fld, y)]) → W (.ref C) (some d) σ H'
section
variable {X : Cx} {xC fld : Str} {B newId initId : String} {bm : List Value} {C : Addr} {W : WX} {e : Expr} {te : TE} {p pos pos2 : Pos}
theorem mkO_of {y : V} {H1 : Hp} {Q : XK} (h : ∀ d H', Same H1 H' → H1 d = none → H' d = some (.xd [(fld, y)]) → Q (.ref C) (some d) H') : ∀ a, H1 a = none → spExI C fld (.ref a :: ([y] ++ [])) (upd H1 a (exo a C none))
    (fun v H2 => v = .non ∧ ∃ (d : Addr) (fs : List (Str × V)), H2 a = some (exo a C (some d)) ∧ H2 d = some (exd d fs) ∧ H1 d = none ∧ Q (.ref C) (some d) (upd (del H2 a) d (.xd fs))) (fun _ _ _ => False) := by
  intro a na
  refine ⟨a, y, rfl, upd_same, fun dx ndx hne => ⟨rfl, dx, [(fld, y)], upd_same, ?_, ?_, h dx _ (fun b o e => ?_) ?_ upd_same⟩⟩
  · rw [upd_ne hne, upd_same]
  · rw [upd_ne hne] at ndx
    exact ndx
  · rw [upd_ne hne] at ndx
    rw [upd_ne (ne_of_none e ndx)]
    have ha : b ≠ a := ne_of_none e na
    unfold del
    rw [if_neg ha, upd_ne ha, upd_ne (ne_of_none e ndx), upd_ne ha]
    exact e
  · rw [upd_ne hne] at ndx
    exact ndx
/-- a reading that may be asked for less -/
def tWk (te : TE) : TE := fun σ H Q => ∃ R : V → Hp → Prop, te σ H R ∧ ∀ y H1, R y H1 → Q y H1
theorem pe_wk (he : PE X e te) : PE X e (tWk te) := ⟨fun pins s σ H Q I h => by
  obtain ⟨R, h1, k⟩ := h
  refine wpAny_mono (he.run pins s σ H R I h1) (fun v s' z => ?_) fun _ _ z => z
  obtain ⟨y, H1, I1, r, q⟩ := z
  exact ⟨y, H1, I1, r, k y H1 q⟩⟩
theorem ps_rx (hc : X.calm = true) (tk : Takes X W) (T : ExCal X.prog X.w X.K X.mg X.base xC fld B newId initId bm C) (hr : Room 2 X.A) (hg : Gl X xC) (he : PE X e te) (hdb : (xC == ("__debug__" : Str)) = false := by decide)
    (hs : starEach (e :: []) X.env = (false, eval e X.env) :: starEach [] X.env := by rfl) (hpl : (backTo pos (starEach [] X.env)).any (·.1) = false := by rfl) :
    PS X (.Raise (some (.Call (.Name xC p) [e] [] pos)) none pos2) (tRx C fld W te) := by
  obtain ⟨bb, cx, c, g, no, f, fd, F, iC, tI, hb⟩ := T
  have h1 := ps_raise (pos := pos2) hc tk (RhX.pmk_b (p := p) (pos := pos) (dvs := []) (ds := []) bb cx iC tI F hr hb .nil (fun _ _ _ _ _ _ _ h => h.elim) hg g (pa_cons (pe_wk he) pa_nil hs) hdb hs hpl)
  refine ⟨fun pins s σ H D I h => h1.run pins s σ H D I ?_⟩
  exact ⟨_, h, fun y H1 q => ⟨by show 1 ≤ 1000; decide, mkO_of (C := C) (fld := fld) (y := y) (H1 := H1) (Q := fun cls d H' => W cls d σ H') q⟩⟩
end
section
variable {P : Program} {w : World} {K : PySem.W.Frag} {mg : Str → Option Value} {base : Heap}
/-- the __init__ of such, once its text is known -/
theorem ExT.cal {xC fld : Str} {B newId initId : String} {bm : List Value} {st : Stmt} {q : Str} {C : Addr} (T : ExT K mg xC fld B newId initId bm st q C) (sc : FnScope ["self", fld] ["self", fld] (defScope st))
    (ht : ∀ (f : Addr) (cdv : Value) (A : Around) (outer : List Env) (s : Shared) (H : Hp) (E : XK), PSs (cxOf CX0 P w K mg base ["self", fld] q (defScope st) f cdv A outer s H E) (defBody st) (tSeq (tDrop (RhX.tBinit K newId bm (tCons (tVar 0) tNil))) (RhX.tSt1 K newId bm fld (tVar 0) (tVar 1)))) :
    ExCal P w K mg base xC fld B newId initId bm C := by
  obtain ⟨bb, cx, c, g, no, vV, f, fd, F, iC, tI, hb⟩ := T
  refine ⟨bb, cx, c, g, no, f, fd, F.ok sc (fun vs H Q E ⟨a, y, e, _⟩ => by rw [e]; rfl) (fun cdv A outer s H vs Q E hr h => ?_), iC, tI, hb⟩
  obtain ⟨a, y, rfl, ea, k⟩ := h
  refine ⟨_, ht f cdv A outer s H E, ?_⟩
  refine ⟨_, rfl, a, C, rfl, cx, ea, ?_⟩
  exact ⟨_, rfl, _, rfl, a, C, rfl, cx, no, ea, fun dx ndx hne => k dx ndx hne⟩
theorem ex_noRider {C : Addr} (B : Bn mg) (T : ExT K mg "NoRider" "rider" "LookupError" "LookupError.__new__" "LookupError.__init__" RhX.bmL s_NoRider_init "NoRider.__init__" C) : ExCal P w K mg base "NoRider" "rider" "LookupError" "LookupError.__new__" "LookupError.__init__" RhX.bmL C := by
  have nd := s_NoRider_init_sc.nd
  exact T.cal s_NoRider_init_sc fun f cdv A outer s H E => pss_cons (ps_expr (RhX.pe_binit T.bb (by rfl) B.lookupE (by decide +kernel) T.vV (by decide +kernel) (pa_cons (pv 0) pa_nil))) (pss_one (RhX.ps_st1 T.bb (pv 0) (pv 1)))
theorem ex_noStation {C : Addr} (B : Bn mg) (T : ExT K mg "NoStation" "station" "LookupError" "LookupError.__new__" "LookupError.__init__" RhX.bmL s_NoStation_init "NoStation.__init__" C) : ExCal P w K mg base "NoStation" "station" "LookupError" "LookupError.__new__" "LookupError.__init__" RhX.bmL C := by
  have nd := s_NoStation_init_sc.nd
  exact T.cal s_NoStation_init_sc fun f cdv A outer s H E => pss_cons (ps_expr (RhX.pe_binit T.bb (by rfl) B.lookupE (by decide +kernel) T.vV (by decide +kernel) (pa_cons (pv 0) pa_nil))) (pss_one (RhX.ps_st1 T.bb (pv 0) (pv 1)))
theorem ex_early {C : Addr} (B : Bn mg) (T : ExT K mg "Early" "beat" "RuntimeError" "RuntimeError.__new__" "RuntimeError.__init__" RhX.bmR s_Early_init "Early.__init__" C) : ExCal P w K mg base "Early" "beat" "RuntimeError" "RuntimeError.__new__" "RuntimeError.__init__" RhX.bmR C := by
  have nd := s_Early_init_sc.nd
  exact T.cal s_Early_init_sc fun f cdv A outer s H E => pss_cons (ps_expr (RhX.pe_binit T.bb (by rfl) B.runtimeE (by decide +kernel) T.vV (by decide +kernel) (pa_cons (pv 0) pa_nil))) (pss_one (RhX.ps_st1 T.bb (pv 0) (pv 1)))
theorem ex_late {C : Addr} (B : Bn mg) (T : ExT K mg "Late" "beat" "RuntimeError" "RuntimeError.__new__" "RuntimeError.__init__" RhX.bmR s_Late_init "Late.__init__" C) : ExCal P w K mg base "Late" "beat" "RuntimeError" "RuntimeError.__new__" "RuntimeError.__init__" RhX.bmR C := by
  have nd := s_Late_init_sc.nd
  exact T.cal s_Late_init_sc fun f cdv A outer s H E => pss_cons (ps_expr (RhX.pe_binit T.bb (by rfl) B.runtimeE (by decide +kernel) T.vV (by decide +kernel) (pa_cons (pv 0) pa_nil))) (pss_one (RhX.ps_st1 T.bb (pv 0) (pv 1)))
end
end Rh
end RhW4_
section RhW5_
set_option Elab.async false
set_option linter.all false
set_option maxRecDepth 100000
set_option maxHeartbeats 4000000
/-! The house: what it tells of itself, what it refuses, how a page is added. -/
namespace Rh
open PySem PySem.Spec PyProof.Rows L2
def hF (l : Addr) (n : Int) : List (Str × V) := [("own_pages", .ref l), ("own_sent", .int n)]
theorem lk_here {k : Str} {v : V} {r : List (Str × V)} : List.lookup k ((k, v) :: r) = some v := by
  have e : (k == k) = true := beq_self_eq_true k
  simp only [List.lookup, e]
theorem lk_past {k g : Str} {v : V} {r : List (Str × V)} (h : (k == g) = false) : List.lookup k ((g, v) :: r) = List.lookup k r := by
  simp only [List.lookup, h]
theorem put_here {f : Str} {v x : V} {r : List (Str × V)} : putF f v ((f, x) :: r) = (f, v) :: r := if_pos rfl
theorem put_past {f g : Str} {v x : V} {r : List (Str × V)} (h : ¬ g = f) : putF f v ((g, x) :: r) = (g, x) :: putF f v r := if_neg h
theorem hF_pages (l : Addr) (n : Int) : (hF l n).lookup ("own_pages" : Str) = some (.ref l) := lk_here
theorem hF_sent (l : Addr) (n : Int) : (hF l n).lookup ("own_sent" : Str) = some (.int n) := (lk_past (by decide +kernel)).trans lk_here
theorem hF_no {m : Str} (l : Addr) (n : Int) (h1 : (m == ("own_pages" : Str)) = false) (h2 : (m == ("own_sent" : Str)) = false) : (hF l n).lookup m = none := (lk_past h1).trans ((lk_past h2).trans rfl)
theorem hF_putP (l l' : Addr) (n : Int) : putF "own_pages" (.ref l') (hF l n) = hF l' n := put_here
theorem hF_putS (l : Addr) (n n' : Int) : putF "own_sent" (.int n') (hF l n) = hF l n' := (put_past (by decide +kernel)).trans (congrArg _ put_here)
theorem hF_new (l : Addr) (n : Int) : putF "own_sent" (.int n) (putF "own_pages" (.ref l) []) = hF l n := (put_past (by decide +kernel)).trans rfl
/-- the house at h, its pages' list at l -/
def HouseAt (K : PySem.W.Frag) (C : Addr) (H : Hp) (h l : Addr) (ps : List Page) (n : Int) : Prop := ∃ dx vs, H h = some (.ins C dx (hF l n)) ∧ H l = some (.lst vs) ∧ DpAll K H vs (ps.map pageD)
theorem noL_leg (g : Leg) : noL (legD g) = true := rfl
theorem noLs_ints : ∀ ns : List Int, noLs (ns.map PyData.int) = true
  | [] => rfl
  | n :: ns => by rw [List.map_cons, noLs, noLs_ints ns]; rfl
theorem noLs_legs : ∀ ls : List Leg, noLs (ls.map legD) = true
  | [] => rfl
  | g :: gs => by rw [List.map_cons, noLs, noL_leg, noLs_legs gs]; rfl
theorem noL_road (r : Road) : noL (roadD r) = true := by simp [roadD, noL, noLs, noLs_legs, noLs_ints]
theorem noL_sets (s : List Int) : noL (setsD s) = true := by simp [setsD, noL, noLs_ints]
theorem noL_page (p : Page) : noL (pageD p) = true := by simp [pageD, noL, noLs, noL_road, noL_sets]
theorem noLs_pages : ∀ ps : List Page, noLs (ps.map pageD) = true
  | [] => rfl
  | p :: ps => by rw [List.map_cons, noLs, noL_page, noLs_pages ps]; rfl
section
variable {P : Program} {w : World} {K : PySem.W.Frag} {mg : Str → Option Value} {base : Heap} {C : Addr}
theorem HouseAt.same {H H' : Hp} {h l : Addr} {ps : List Page} {n : Int} (s : Same H H') (a : HouseAt K C H h l ps n) : HouseAt K C H' h l ps n := by
  obtain ⟨dx, vs, h1, h2, h3⟩ := a
  exact ⟨dx, vs, s _ _ h1, s _ _ h2, DpAll.same s h3⟩
theorem HouseAt.fr {S : List Addr} {H H' : Hp} {h l : Addr} {ps : List Page} {n : Int} (s : Fr S H H') (n1 : h ∉ S) (n2 : l ∉ S) (a : HouseAt K C H h l ps n) : HouseAt K C H' h l ps n := by
  obtain ⟨dx, vs, h1, h2, h3⟩ := a
  exact ⟨dx, vs, s.keep _ _ h1 n1, s.keep _ _ h2 n2, DpAll.fr s (noLs_pages ps) h3⟩
theorem DpAll.last {H : Hp} {vs : List V} {ds : List PyData} {d : PyData} (h : DpAll K H vs ds) (e : ds.getLast? = some d) : ∃ v, vs.getLast? = some v ∧ Dp K H v d := by
  rw [List.getLast?_eq_getElem?] at e
  obtain ⟨v, e1, e2⟩ := DpAll.at h e
  refine ⟨v, ?_, e2⟩
  rw [List.getLast?_eq_getElem?, DpAll.length h]
  exact e1
/-- the last page -/
theorem HouseAt.last {H : Hp} {h l : Addr} {ps : List Page} {n : Int} {p : Page} (a : HouseAt K C H h l ps n) (e : ps.getLast? = some p) :
    ∃ dx vs pv r u q, H h = some (.ins C dx (hF l n)) ∧ H l = some (.lst vs) ∧ DpAll K H vs (ps.map pageD) ∧ vs.getLast? = some (.ref pv) ∧ SqT K H pv [r, u, q] ∧ Dp K H r (roadD p.1) ∧ Dp K H u (setsD p.2.1) ∧ Dp K H q (setsD p.2.2) ∧ Dp K H (.ref pv) (pageD p) := by
  obtain ⟨dx, vs, h1, h2, h3⟩ := a
  obtain ⟨v, e1, e2⟩ := DpAll.last h3 (d := pageD p) (by rw [List.getLast?_map, e]; rfl)
  obtain ⟨pv, r, u, q, rfl, t1, t2, t3, t4⟩ := Dp.pageI e2
  exact ⟨dx, vs, pv, r, u, q, h1, h2, h3, e1, t1, t2, t3, t4, e2⟩
/-- what the top has written of the class -/
structure HT (K : PySem.W.Frag) (mg : Str → Option Value) (C : Addr) : Prop where
  cl : Cls K C
  nP : NoAttr K C "own_pages"
  nS : NoAttr K C "own_sent"
  g : mg "House" = some (.ref C)
  ca : PySem.W.findIn K (.ref C) "__class__" = some (some (.builtin "object.__class__"))
  cn : PySem.W.specialIn K (.builtin "object.__class__") "__get__" = some (some (.builtin "getset_descriptor.__get__"))
  ct : PySem.W.takesIn K (.builtin "object.__class__") = some true
  cm : PySem.W.mroIn K C (.type "object") = some true
  kS : PySem.W.kitOne K (.ref C) (.ref C) = some true
  mks : PySem.W.makesIn K C = true
  kp : PySem.W.keepIn K (.ref C) = true
  ne : PySem.W.findIn K (.ref C) "__ne__" = some (some (.builtin "object.__ne__"))
  ob : PySem.W.subIn K (.ref C) (.type "object") = some true
/-! ### road, sets, deeds -/
def spHRoad (K : PySem.W.Frag) (C : Addr) : Sp := fun vs H Q _ => ∃ (h l : Addr) (ps : List Page) (n : Int) (p : Page), vs = [.ref h] ∧ HouseAt K C H h l ps n ∧ ps.getLast? = some p ∧ ∀ v, Dp K H v (roadD p.1) → Q v H
theorem ok_hroad (T : HT K mg C) (D : Mfn K C "road" "House.road" s_House_road ["self"]) : MCal P w K mg base C CX0 "road" 1 ["self"] (spHRoad K C) := by
  have nd := s_House_road_sc.nd
  refine D.cal s_House_road_sc (fun vs H Q E ⟨h, l, ps, n, p, e, _⟩ => by rw [e]; rfl) (fun f cdv A outer s H vs Q E hr h => ?_)
  obtain ⟨h, l, ps, n, p, rfl, ha, hp, k⟩ := h
  obtain ⟨dx, vs, pg, r, u, q, h1, h2, h3, h4, h5, h6, h7, h8, h9⟩ := ha.last hp
  refine ⟨_, PSs.nox (pss_one (ps_ret (pe_ix ix_tup (pe_ix ix_list (pe_fld (pv 0) rfl) (pe_un un_neg pe_int) (fun _ _ => rfl)) pe_int (fun _ _ => rfl)))), ?_⟩
  exact ⟨_, rfl, h, C, dx, _, _, rfl, h1, T.cl, T.nP, hF_pages _ _, _, rfl, l, vs, _, _, rfl, rfl, SqL.of h2, atI_m1 h4, pg, _, 0, r, rfl, rfl, h5, rfl, k r h6⟩
def spHSets (K : PySem.W.Frag) (C : Addr) : Sp := fun vs H Q _ => ∃ (h l : Addr) (ps : List Page) (n : Int) (p : Page), vs = [.ref h] ∧ HouseAt K C H h l ps n ∧ ps.getLast? = some p ∧ ∀ v, Dp K H v (setsD p.2.1) → Q v H
theorem ok_hsets (T : HT K mg C) (D : Mfn K C "sets" "House.sets" s_House_sets ["self"]) : MCal P w K mg base C CX0 "sets" 1 ["self"] (spHSets K C) := by
  have nd := s_House_sets_sc.nd
  refine D.cal s_House_sets_sc (fun vs H Q E ⟨h, l, ps, n, p, e, _⟩ => by rw [e]; rfl) (fun f cdv A outer s H vs Q E hr h => ?_)
  obtain ⟨h, l, ps, n, p, rfl, ha, hp, k⟩ := h
  obtain ⟨dx, vs, pg, r, u, q, h1, h2, h3, h4, h5, h6, h7, h8, h9⟩ := ha.last hp
  refine ⟨_, PSs.nox (pss_one (ps_ret (pe_ix ix_tup (pe_ix ix_list (pe_fld (pv 0) rfl) (pe_un un_neg pe_int) (fun _ _ => rfl)) pe_int (fun _ _ => rfl)))), ?_⟩
  exact ⟨_, rfl, h, C, dx, _, _, rfl, h1, T.cl, T.nP, hF_pages _ _, _, rfl, l, vs, _, _, rfl, rfl, SqL.of h2, atI_m1 h4, pg, _, 1, u, rfl, rfl, h5, rfl, k u h7⟩
def spHDeeds (K : PySem.W.Frag) (C : Addr) : Sp := fun vs H Q _ => ∃ (h l : Addr) (ps : List Page) (n : Int), vs = [.ref h] ∧ HouseAt K C H h l ps n ∧ Q (.int ((ps.length : Nat) - 1)) H
theorem ok_hdeeds (B : Bn mg) (T : HT K mg C) (D : Mfn K C "deeds" "House.deeds" s_House_deeds ["self"]) : MCal P w K mg base C CX0 "deeds" 1 ["self"] (spHDeeds K C) := by
  have nd := s_House_deeds_sc.nd
  refine D.cal s_House_deeds_sc (fun vs H Q E ⟨h, l, ps, n, e, _⟩ => by rw [e]; rfl) (fun f cdv A outer s H vs Q E hr h => ?_)
  obtain ⟨h, l, ps, n, rfl, ⟨dx, vs, h1, h2, h3⟩, k⟩ := h
  refine ⟨_, PSs.nox (pss_one (ps_ret (pe_op op_sub (pe_callB call_len_seq (by rfl) B.len PySem.boot_len (pa_cons (pe_fld (pv 0) rfl) pa_nil)) pe_int))), ?_⟩
  have hl : vs.length = ps.length := by rw [DpAll.length h3, List.length_map]
  refine ⟨_, rfl, h, C, dx, _, _, rfl, h1, T.cl, T.nP, hF_pages _ _, l, vs, rfl, .inl (SqL.of h2), _, _, rfl, rfl, ?_⟩
  rw [hl]
  exact k
/-! ### what is refused -/
/-- so it's refused, by an exception of the class at C -/
def Rf (C : Addr) (fld : Str) (y : Int) (H : Hp) (E : XK) : Prop := ∀ d H', Same H H' → H d = none → H' d = some (.xd [(fld, .int y)]) → E (.ref C) (some d) H'
abbrev XR (P : Program) (w : World) (K : PySem.W.Frag) (mg : Str → Option Value) (base : Heap) (C : Addr) : Prop := ExCal P w K mg base "NoRider" "rider" "LookupError" "LookupError.__new__" "LookupError.__init__" RhX.bmL C
abbrev XS (P : Program) (w : World) (K : PySem.W.Frag) (mg : Str → Option Value) (base : Heap) (C : Addr) : Prop := ExCal P w K mg base "NoStation" "station" "LookupError" "LookupError.__new__" "LookupError.__init__" RhX.bmL C
abbrev XE' (P : Program) (w : World) (K : PySem.W.Frag) (mg : Str → Option Value) (base : Heap) (C : Addr) : Prop := ExCal P w K mg base "Early" "beat" "RuntimeError" "RuntimeError.__new__" "RuntimeError.__init__" RhX.bmR C
abbrev XL (P : Program) (w : World) (K : PySem.W.Frag) (mg : Str → Option Value) (base : Heap) (C : Addr) : Prop := ExCal P w K mg base "Late" "beat" "RuntimeError" "RuntimeError.__new__" "RuntimeError.__init__" RhX.bmR C
def spLookR (K : PySem.W.Frag) (C CR : Addr) : Sp := fun vs H Q E => ∃ (h l : Addr) (ps : List Page) (n : Int) (p : Page) (r : Int), vs = [.ref h, .int r] ∧ HouseAt K C H h l ps n ∧ ps.getLast? = some p ∧ (0 ≤ r ∧ r < p.2.1.length → Q .non H) ∧ (¬ (0 ≤ r ∧ r < p.2.1.length) → Rf CR "rider" r H E)
theorem ok_lookr {CR : Addr} (B : Bn mg) (T : HT K mg C) (XX : XR P w K mg base CR) (D : Mfn K C "look_rider" "House.look_rider" s_House_look_rider ["self", "rider"]) (h1 : MCal P w K mg base C CX0 "sets" 1 ["self"] (spHSets K C)) :
    MCal P w K mg base C (L2.CX P w) "look_rider" 3 ["self", "rider"] (spLookR K C CR) := by
  have nd := s_House_look_rider_sc.nd
  obtain ⟨f1, fd1, G1, m1, b1⟩ := h1
  refine D.cal s_House_look_rider_sc (fun vs H Q E ⟨h, l, ps, n, p, r, e, _⟩ => by rw [e]; rfl) (fun f cdv A outer s H vs Q E hr h => ?_)
  obtain ⟨h, l, ps, n, p, r, rfl, ha, hp, k1, k2⟩ := h
  refine ⟨_, (pss_one (ps_if (pt_not (pt_chain op_le op_lt pe_int (pv 1) (pe_callB call_len_seq (by rfl) B.len PySem.boot_len (pa_cons (pe_meth0 (pv 0) T.cl m1 G1 (hr.mono (by decide)) b1 .nil pass0) pa_nil)))) (pss_one (ps_rx rfl (takes_of rfl rfl rfl rfl) XX (hr.mono (by decide)) (by rfl) (pv 1))) pss_nil)), ?_⟩
  have noM : (hF l n).lookup ("sets" : Str) = none := hF_no l n (by decide +kernel) (by decide +kernel)
  obtain ⟨dx, vs, e1, e2, e3⟩ := id ha
  refine ⟨_, rfl, _, _, rfl, rfl, _, rfl, ?_⟩
  by_cases c1 : (0 : Int) ≤ r
  · refine ifT (decide_eq_true c1) ?_
    refine ⟨_, rfl, h, dx, _, rfl, e1, noM, h, l, ps, n, p, rfl, ha, hp, fun v hv => ?_⟩
    obtain ⟨a, rfl, hs⟩ := Dp.setsI hv
    refine ⟨a, _, rfl, .inr hs, _, _, rfl, rfl, _, rfl, ?_⟩
    rw [List.length_map]
    by_cases c2 : r < (p.2.1.length : Nat)
    · rw [decide_eq_true c2]
      refine iteF ?_
      exact k1 ⟨c1, c2⟩
    · rw [decide_eq_false c2]
      refine iteT ?_
      exact ⟨_, rfl, k2 fun z => c2 z.2⟩
  · refine ifF (decide_eq_false c1) ⟨_, rfl, ?_⟩
    refine iteT ?_
    exact ⟨_, rfl, k2 fun z => c1 z.1⟩
/-! ### look_station(station, most) -/
def spLookS (CS : Addr) : Sp := fun vs H Q E => ∃ (x : V) (r m : Int), vs = [x, .int r, .int m] ∧ (0 ≤ r ∧ r ≤ m → Q .non H) ∧ (¬ (0 ≤ r ∧ r ≤ m) → Rf CS "station" r H E)
theorem ok_looks {CS : Addr} (XX : XS P w K mg base CS) (D : Mfn K C "look_station" "House.look_station" s_House_look_station ["self", "station", "most"]) : MCal P w K mg base C (L2.CX P w) "look_station" 3 ["self", "station", "most"] (spLookS CS) := by
  have nd := s_House_look_station_sc.nd
  refine D.cal s_House_look_station_sc (fun vs H Q E ⟨x, r, m, e, _⟩ => by rw [e]; rfl) (fun f cdv A outer s H vs Q E hr h => ?_)
  obtain ⟨x, r, m, rfl, k1, k2⟩ := h
  refine ⟨_, (pss_one (ps_if (pt_not (pt_chain op_le op_le pe_int (pv 1) (pv 2))) (pss_one (ps_rx rfl (takes_of rfl rfl rfl rfl) XX (hr.mono (by decide)) (by rfl) (pv 1))) pss_nil)), ?_⟩
  refine ⟨_, rfl, _, _, rfl, rfl, _, rfl, ?_⟩
  by_cases c1 : (0 : Int) ≤ r
  · refine ifT (decide_eq_true c1) ?_
    refine ⟨_, rfl, _, _, rfl, rfl, _, rfl, ?_⟩
    by_cases c2 : r ≤ m
    · rw [decide_eq_true c2]
      exact iteF (k1 ⟨c1, c2⟩)
    · rw [decide_eq_false c2]
      exact iteT ⟨_, rfl, k2 fun z => c2 z.2⟩
  · refine ifF (decide_eq_false c1) ⟨_, rfl, ?_⟩
    exact iteT ⟨_, rfl, k2 fun z => c1 z.1⟩
/-! ### look_early(beat, ahead) -/
def spLookE (K : PySem.W.Frag) (C CE : Addr) : Sp := fun vs H Q E => ∃ (h l : Addr) (ps : List Page) (n : Int) (p : Page) (b : Int) (a : Addr) (as : List Int), vs = [.ref h, .int b, .ref a] ∧ HouseAt K C H h l ps n ∧ ps.getLast? = some p ∧ SqT K H a (as.map V.int) ∧ as.length ≤ 1000 ∧ p.1.2.length ≤ 1000 ∧
  ((∀ x ∈ as ++ p.1.2, x ≤ b) → ∀ H', Same H H' → Q .non H') ∧ (¬ (∀ x ∈ as ++ p.1.2, x ≤ b) → Rf CE "beat" b H E)
abbrev nEarly : List Str := ["self", "beat", "ahead", "other"]
theorem sc_early : FnScope nEarly ["self", "beat", "ahead"] (defScope s_House_look_early) := ⟨rfl, rfl, rfl, by decide +kernel, rfl, by decide +kernel, by decide +kernel⟩
theorem Rf.same {CE : Addr} {fld : Str} {y : Int} {H H' : Hp} {E : XK} (s : Same H H') (r : Rf CE fld y H E) : Rf CE fld y H' E := fun d H2 s2 n e => r d H2 (s.trans s2) (Same.free s n) e
theorem any_map {l : List Int} {q : Int → Bool} : (l.map q).any id = l.any q := by rw [List.any_map]; rfl
theorem ok_looke {CE : Addr} (B : Bn mg) (T : HT K mg C) (XX : XE' P w K mg base CE) (D : Mfn K C "look_early" "House.look_early" s_House_look_early ["self", "beat", "ahead"]) (h1 : MCal P w K mg base C CX0 "road" 1 ["self"] (spHRoad K C)) :
    MCal P w K mg base C (L2.CX P w) "look_early" 3 ["self", "beat", "ahead"] (spLookE K C CE) := by
  have nd := sc_early.nd
  obtain ⟨f1, fd1, G1, m1, b1⟩ := h1
  refine D.cal sc_early (fun vs H Q E ⟨h, l, ps, n, p, b, a, as, e, _⟩ => by rw [e]; rfl) (fun f cdv A outer s H vs Q E hr h => ?_)
  obtain ⟨h, l, ps, n, p, b, a, as, rfl, ha, hp, has, hl1, hl2, k1, k2⟩ := h
  refine ⟨_, (pss_one (ps_if (pt_val (pe_callB (cr_any rfl) (by rfl) B.any (by decide +kernel) (pa_cons (pe_lc (own := [("other", 3)]) (g := gName 3) rfl nd (pi_tup (pe_op RhR.op_catW (pv 2) (pe_ix ix_tup (pe_meth0 (pv 0) T.cl m1 G1 (hr.mono (by decide)) b1 .nil pass0) pe_int (fun _ _ => rfl)))) (blkOk_by (N := nEarly) (sc := defScope s_House_look_early) (by decide +kernel)) (fun _ _ _ _ _ => (pg_name (i := 3) nd rfl (.inl rfl))) (fun _ _ _ _ _ => pts_nil)
      (fun _ _ _ _ _ => (pe_cmpR op_lt (pv 1) (pv 3) (nomark _)))) pa_nil))) (pss_one (ps_rx rfl (takes_of rfl rfl rfl rfl) XX (hr.mono (by decide)) (by rfl) (pv 1))) pss_nil)), ?_⟩
  have noM : (hF l n).lookup ("road" : Str) = none := hF_no l n (by decide +kernel) (by decide +kernel)
  obtain ⟨dx, vs, e1, e2, e3⟩ := id ha
  refine ⟨_, rfl, _, rfl, h, dx, _, rfl, e1, noM, h, l, ps, n, p, rfl, ha, hp, fun v hv => ?_⟩
  obtain ⟨ra, rb, rc, ls, rfl, r1, r2, r3, r4⟩ := Dp.roadI hv
  refine ⟨ra, _, 1, _, rfl, rfl, r1, rfl, a, rc, _, _, rfl, rfl, has, r4, by rw [List.length_map, List.length_map]; omega, fun t H1 s1 ht => ?_⟩
  rw [← List.map_append] at ht
  refine ⟨t, rfl, ⟨_, ht⟩, fun D nD => ?_⟩
  refine lc_fm walk_tup (fun i => (((as ++ p.1.2).map fun x => decide (b < x)).map V.bl)[i]?) nD (by rw [List.length_map, List.length_append]; omega) (fun H' s' => Same.tup s' ht) (fun i x H2 H3 Qy Qn hi s2 y qy qn => ?_) (fun H2 s2 h2 => ?_)
  · obtain ⟨rfl, ex⟩ := y
    obtain ⟨c, hc, rfl⟩ := map_at ex
    refine ⟨rfl, _, rfl, _, rfl, _, _, rfl, rfl, qy _ _ ?_ (Same.refl _)⟩
    exact at_map (at_map hc)
  · rw [fm_get (by simp)] at h2
    refine ⟨D, _, rfl, SqL.of h2, _, rfl, ?_⟩
    rw [any_map]
    by_cases c : ∀ x ∈ as ++ p.1.2, x ≤ b
    · refine ifF ?_ (k1 c _ (s1.trans s2))
      rw [List.any_eq_false]
      intro x hx
      have := c x hx
      simpa using this
    · refine ifT ?_ ⟨_, rfl, Rf.same (s1.trans s2) (k2 c)⟩
      rw [List.any_eq_true]
      refine Classical.byContradiction fun z => c fun x hx => ?_
      refine Classical.byContradiction fun z2 => z ⟨x, hx, ?_⟩
      exact decide_eq_true (by omega)
end
end Rh
end RhW5_
section RhW6_
set_option Elab.async false
set_option linter.all false
set_option maxRecDepth 100000
set_option maxHeartbeats 4000000
/-! The house's deeds. -/
namespace Rh
open PySem PySem.Spec PyProof.Rows L2
section
variable {P : Program} {w : World} {K : PySem.W.Frag} {mg : Str → Option Value} {base : Heap} {C : Addr}
/-! ### done(road, sets, persons) -/
def spDone (K : PySem.W.Frag) (C : Addr) : Sp := fun vs H Q _ => ∃ (h l : Addr) (ps : List Page) (n : Int) (p g : Page) (v u q : V) (m : Nat), vs = [.ref h, v, u, q] ∧ HouseAt K C H h l ps n ∧ ps.getLast? = some p ∧ ps.length ≤ 100000 ∧
  Dp K H v (roadD g.1) ∧ Dp K H u (setsD g.2.1) ∧ Dp K H q (setsD g.2.2) ∧ PgOk m p ∧ PgOk m g ∧ ∀ H', Fr [h, l] H H' → HouseAt K C H' h l (ps ++ [g]) n → Q (.int (chg p g)) H'
theorem ok_done (T : HT K mg C) (D : Mfn K C "done" "House.done" s_House_done ["self", "road", "sets", "persons"]) (h1 : Cal P w K mg base CX0 "changed" 7 ["ahead", "behind"] (spChanged K)) : MCal P w K mg base C CX0 "done" 8 ["self", "road", "sets", "persons"] (spDone K C) := by
  have nd := s_House_done_sc.nd
  obtain ⟨f1, fd1, G1, g1, k1, b1⟩ := h1
  refine D.cal s_House_done_sc (fun vs H Q E ⟨h, l, ps, n, p, g, v, u, q, m, e, _⟩ => by rw [e]; rfl) (fun f cdv A outer s H vs Q E hr h => ?_)
  obtain ⟨h, l, ps, n, p, g, v, u, q, m, rfl, ha, hp, hpl, hv, hu, hq, o1, o2, k⟩ := h
  obtain ⟨dx, vs, pg, r, u', q', e1, e2, e3, e4, e5, e6, e7, e8, e9⟩ := ha.last hp
  refine ⟨_, PSs.nox (pss_cons (ps_set (i := 4) nd rfl (.inl rfl) (pe_tup (pa_cons (pv 1) (pa_cons (pv 2) (pa_cons (pv 3) pa_nil)))))
      (pss_cons (ps_set (i := 5) nd rfl (.inl rfl) (pe_call G1 (hr.mono (by decide)) (by rfl) g1 k1 b1 .nil pass0 (pa_cons (pe_ix ix_list (pe_fld (pv 0) rfl) (pe_un un_neg pe_int) (fun _ _ => rfl)) (pa_cons (pv 4) pa_nil))))
      (pss_cons (ps_expr (pe_bm PySem.F.plainAttrs_list PySem.F.slot_list_append PySem.F.type_list_append mt_append (pe_fld (pv 0) rfl) (pa_cons (pv 4) pa_nil)))
      (pss_one (ps_ret (pv 5)))))), ?_⟩
  refine ⟨_, rfl, _, rfl, _, rfl, (by show 3 ≤ sizeLine; decide), fun t nt => ?_⟩
  have s1 := Same.upd (o := .tup [v, u, q]) nt
  refine ⟨_, rfl, h, C, dx, _, _, rfl, s1 _ _ e1, T.cl, T.nP, hF_pages _ _, _, rfl, l, vs, _, _, rfl, rfl, SqL.of (s1 _ _ e2), atI_m1 e4, _, rfl, ?_⟩
  have dt : Dp K (upd H t (.tup [v, u, q])) (.ref t) (pageD g) := .tup (SqT.of upd_same) (.cons (Dp.same s1 hv) (.cons (Dp.same s1 hu) (.cons (Dp.same s1 hq) .nil)))
  refine ⟨_, _, p, g, m, rfl, Dp.same s1 e9, dt, o1, o2, fun H2 s2 => ?_⟩
  have x1 := s2 _ _ (s1 _ _ e1)
  have x2 := s2 _ _ (s1 _ _ e2)
  refine ⟨_, rfl, h, C, dx, _, _, rfl, x1, T.cl, T.nP, hF_pages _ _, .inl ⟨rfl, _, SqL.of x2⟩, _, rfl, l, vs, _, rfl, rfl, x2, by rw [sizeLine_eq, DpAll.length e3, List.length_map]; omega, ?_⟩
  have hne : h ≠ l := fun z => by rw [z] at x1; have := x1.symm.trans x2; cases this
  have fr2 : Fr [h, l] H2 (upd H2 l (.lst (vs ++ [.ref t]))) := Fr.lst x2 (by simp)
  refine ⟨_, rfl, k _ ((Fr.of (s1.trans s2)).trans fr2) ⟨dx, vs ++ [.ref t], by rw [upd_ne hne]; exact x1, upd_same, ?_⟩⟩
  rw [List.map_append]
  exact DpAll.app (DpAll.fr fr2 (noLs_pages ps) (DpAll.same (s1.trans s2) e3)) (.cons (Dp.fr fr2 (noL_page g) (Dp.same s2 dt)) .nil)
/-! ### a deed, as every method of that kind promises it -/
def spDeed (K : PySem.W.Frag) (C : Addr) (cx : Ex → Addr) (isK : Deed → Prop) : Sp := fun vs H Q E => ∃ (h l : Addr) (ps : List Page) (n : Int) (p : Page) (m : Nat) (d : Deed) (as : List V), vs = .ref h :: as ∧ isK d ∧ DpAll K H as d.args ∧ HouseAt K C H h l ps n ∧ ps.getLast? = some p ∧ ps.length ≤ 100000 ∧ HOk m p n ∧
  (refus p.1 p.2.1 d = none → ∀ H', Fr [h, l] H H' → HouseAt K C H' h l (ps ++ [applyP p n d]) (applyN n d) → Q (.int (chg p (applyP p n d))) H') ∧ ∀ k y, refus p.1 p.2.1 d = some (k, y) → Rf (cx k) k.fld y H E
def isSend : Deed → Prop := fun d => ∃ b, d = .send b
def isMove : Deed → Prop := fun d => ∃ r b, d = .move r b
def isStrike : Deed → Prop := fun d => ∃ r, d = .strike r
def isFirst : Deed → Prop := fun d => ∃ s b, d = .first s b
def isLeg : Deed → Prop := fun d => ∃ s g, d = .leg s g
theorem DpAll.one {H : Hp} {as : List V} {d : PyData} (h : DpAll K H as [d]) : ∃ v, as = [v] ∧ Dp K H v d := by
  cases h with
  | cons h1 h2 =>
    cases h2
    exact ⟨_, rfl, h1⟩
theorem DpAll.two {H : Hp} {as : List V} {d e : PyData} (h : DpAll K H as [d, e]) : ∃ v u, as = [v, u] ∧ Dp K H v d ∧ Dp K H u e := by
  cases h with
  | cons h1 h2 =>
    obtain ⟨u, e1, e2⟩ := DpAll.one h2
    exact ⟨_, u, by rw [e1], h1, e2⟩
/-! ### send(beat) -/
theorem ok_send {cx : Ex → Addr} (T : HT K mg C) (D : Mfn K C "send" "House.send" s_House_send ["self", "beat"]) (h1 : MCal P w K mg base C (L2.CX P w) "look_early" 3 ["self", "beat", "ahead"] (spLookE K C (cx .early)))
    (h2 : MCal P w K mg base C CX0 "done" 8 ["self", "road", "sets", "persons"] (spDone K C)) : MCal P w K mg base C (L2.CX P w) "send" 9 ["self", "beat"] (spDeed K C cx isSend) := by
  have nd := s_House_send_sc.nd
  obtain ⟨f1, fd1, G1, m1, b1⟩ := h1
  obtain ⟨f2, fd2, G2, m2, b2⟩ := h2
  refine D.cal s_House_send_sc (fun vs H Q E ⟨h, l, ps, n, p, m, d, as, e, ⟨b, eb⟩, da, _⟩ => by rw [e]; rw [List.length_cons, DpAll.length da, eb]; rfl) (fun f cdv A outer s H vs Q E hr h => ?_)
  obtain ⟨h, l, ps, n, p, m, d, as, rfl, ⟨b, rfl⟩, da, ha, hp, hpl, hok, k1, k2⟩ := h
  obtain ⟨v, rfl, dv⟩ := DpAll.one da
  obtain rfl := Dp.intI dv
  obtain ⟨dx, vs, pg, r, u', q', e1, e2, e3, e4, e5, e6, e7, e8, e9⟩ := ha.last hp
  obtain ⟨sa, rfl, hs⟩ := Dp.setsI e7
  obtain ⟨qa, rfl, hq⟩ := Dp.setsI e8
  refine ⟨_, (pss_cons (ps_asg (pe_ix ix_list (pe_fld (pv 0) rfl) (pe_un un_neg pe_int) (fun _ _ => rfl)) (pg_tup rfl (pgs_cons (pg_name (i := 2) nd rfl (.inl rfl)) (pgs_cons (pg_name (i := 3) nd rfl (.inl rfl)) (pgs_cons (pg_name (i := 4) nd rfl (.inl rfl)) pgs_nil)))))
      (pss_cons (ps_expr (RhR.pe_methS (pv 0) T.cl m1 G1 (hr.mono (by decide)) b1 (fun σ => passAt (takes_of rfl rfl rfl rfl) σ) (pa_cons (pv 1) (pa_cons (pe_slice RhR.sl_tupW (pv 3) (po_some (pe_un un_neg pe_int)) po_none) pa_nil))))
      (pss_cons (ps_fldaug (pv 0) pe_int in_add)
      (pss_one (ps_ret (pe_meth (pv 0) T.cl m2 G2 (hr.mono (by decide)) b2 .nil pass0 (pa_cons (pv 2) (pa_cons (pe_op RhR.op_catW (pv 3) (pe_tup (pa_cons (pv 1) pa_nil))) (pa_cons (pe_op RhR.op_catW (pv 4) (pe_tup (pa_cons (pe_fld (pv 0) rfl) pa_nil))) pa_nil))))))))), ?_⟩
  have noM1 : (hF l n).lookup ("look_early" : Str) = none := hF_no l n (by decide +kernel) (by decide +kernel)
  have noM2 : (hF l (n + 1)).lookup ("done" : Str) = none := hF_no l (n + 1) (by decide +kernel) (by decide +kernel)
  refine ⟨_, rfl, h, C, dx, _, _, rfl, e1, T.cl, T.nP, hF_pages _ _, _, rfl, l, vs, _, _, rfl, rfl, SqL.of e2, atI_m1 e4, pg, _, rfl, e5, rfl, _, _, rfl, _, _, rfl, _, _, rfl, rfl, ?_⟩
  refine ⟨_, rfl, h, dx, _, rfl, e1, noM1, _, rfl, _, rfl, _, rfl, _, rfl, sa, _, rfl, hs, fun t H1 s1 ht => ?_⟩
  rw [RhR.cutV_last, List.length_map, ← List.map_drop] at ht
  refine ⟨h, l, ps, n, p, b, t, lastOf p.2.1, rfl, ha.same s1, hp, ht, by unfold lastOf; rw [List.length_drop]; omega, by rw [hok.pg.firsts]; have := hok.pg.few; omega, fun hle H2 s2 => ?_, fun hno => ?_⟩
  · have hnone : refus p.1 p.2.1 (.send b) = none := if_pos hle
    have s12 := s1.trans s2
    have x1 := s12 _ _ e1
    refine ⟨_, rfl, h, C, dx, _, _, rfl, x1, T.cl, T.nS, hF_sent _ _, _, _, rfl, rfl, dx, _, x1, by show 2 < 1000; decide, ?_⟩
    rw [hF_putS]
    have x2 := s12 _ _ e2
    have hne : h ≠ l := fun z => by rw [z] at x1; have := x1.symm.trans x2; cases this
    have fr3 : Fr [h, l] H2 (upd H2 h (.ins C dx (hF l (n + 1)))) := Fr.ins x1 (by simp)
    have fr03 : Fr [h, l] H (upd H2 h (.ins C dx (hF l (n + 1)))) := (Fr.of s12).trans fr3
    have a3 : HouseAt K C (upd H2 h (.ins C dx (hF l (n + 1)))) h l ps (n + 1) := ⟨dx, vs, upd_same, by rw [upd_ne hne.symm]; exact x2, DpAll.fr fr03 (noLs_pages ps) e3⟩
    have hs3 := fr03.tup hs
    have hq3 := fr03.tup hq
    have dr3 := Dp.fr fr03 (noL_road _) e6
    generalize (upd H2 h (.ins C dx (hF l (n + 1)))) = H3 at fr3 fr03 a3 hs3 hq3 dr3
    obtain ⟨dx3, vs3, y1, y2, y3⟩ := id a3
    refine ⟨_, rfl, h, dx3, _, rfl, y1, noM2, _, rfl, _, rfl, _, rfl, (by show 1 ≤ sizeLine; decide), fun t2 nt2 => ?_⟩
    have s4 := Same.upd (o := .tup [V.int b]) nt2
    refine ⟨sa, t2, _, _, rfl, rfl, Same.tup s4 hs3, SqT.of upd_same, by rw [List.length_map]; have := hok.few; simp; omega, fun t3 H5 s5 ht3 => ?_⟩
    have s35 := s4.trans s5
    refine ⟨_, rfl, _, rfl, h, C, dx3, _, _, rfl, s35 _ _ y1, T.cl, T.nS, hF_sent _ _, (by show 1 ≤ sizeLine; decide), fun t4 nt4 => ?_⟩
    have s6 := Same.upd (o := .tup [V.int (n + 1)]) nt4
    refine ⟨qa, t4, _, _, rfl, rfl, Same.tup (s35.trans s6) hq3, SqT.of upd_same, by rw [List.length_map, hok.pg.persons]; have := hok.few; simp; omega, fun t5 H7 s7 ht5 => ?_⟩
    have s37 := (s35.trans s6).trans s7
    refine ⟨h, l, ps, n + 1, p, applyP p n (.send b), _, _, _, m, rfl, a3.same s37, hp, hpl, Dp.same s37 dr3, ?_, ?_, hok.pg, hok.next, fun H8 fr8 a8 => k1 hnone H8 ((fr03.trans (Fr.of s37)).trans fr8) a8⟩
    · refine .tup (Same.tup (s6.trans s7) ht3) ?_
      show DpAll K H7 (p.2.1.map V.int ++ [V.int b]) ((p.2.1 ++ [b]).map PyData.int)
      rw [show p.2.1.map V.int ++ [V.int b] = (p.2.1 ++ [b]).map V.int by simp]
      exact DpAll.ints
    · refine .tup ht5 ?_
      show DpAll K H7 (p.2.2.map V.int ++ [V.int (n + 1)]) ((p.2.2 ++ [n + 1]).map PyData.int)
      rw [show p.2.2.map V.int ++ [V.int (n + 1)] = (p.2.2 ++ [n + 1]).map V.int by simp]
      exact DpAll.ints
  · have hsome : refus p.1 p.2.1 (.send b) = some (.early, b) := if_neg hno
    exact Rf.same s1 (k2 _ _ hsome)
/-! ### strike(rider) -/
theorem of_nn {r : Int} {n : Nat} (h : 0 ≤ r ∧ r < (n : Nat)) : ∃ i : Nat, r = (i : Int) ∧ i < n := ⟨r.toNat, by omega, by omega⟩
theorem ok_strike {cx : Ex → Addr} (T : HT K mg C) (D : Mfn K C "strike" "House.strike" s_House_strike ["self", "rider"]) (h1 : MCal P w K mg base C (L2.CX P w) "look_rider" 3 ["self", "rider"] (spLookR K C (cx .rider)))
    (h2 : MCal P w K mg base C CX0 "done" 8 ["self", "road", "sets", "persons"] (spDone K C)) : MCal P w K mg base C (L2.CX P w) "strike" 9 ["self", "rider"] (spDeed K C cx isStrike) := by
  have nd := s_House_strike_sc.nd
  obtain ⟨f1, fd1, G1, m1, b1⟩ := h1
  obtain ⟨f2, fd2, G2, m2, b2⟩ := h2
  refine D.cal s_House_strike_sc (fun vs H Q E ⟨h, l, ps, n, p, m, d, as, e, ⟨b, eb⟩, da, _⟩ => by rw [e]; rw [List.length_cons, DpAll.length da, eb]; rfl) (fun f cdv A outer s H vs Q E hr h => ?_)
  obtain ⟨h, l, ps, n, p, m, d, as, rfl, ⟨b, rfl⟩, da, ha, hp, hpl, hok, k1, k2⟩ := h
  obtain ⟨v, rfl, dv⟩ := DpAll.one da
  obtain rfl := Dp.intI dv
  obtain ⟨dx, vs, pg, r, u', q', e1, e2, e3, e4, e5, e6, e7, e8, e9⟩ := ha.last hp
  obtain ⟨sa, rfl, hs⟩ := Dp.setsI e7
  obtain ⟨qa, rfl, hq⟩ := Dp.setsI e8
  refine ⟨_, (pss_cons (ps_asg (pe_ix ix_list (pe_fld (pv 0) rfl) (pe_un un_neg pe_int) (fun _ _ => rfl)) (pg_tup rfl (pgs_cons (pg_name (i := 2) nd rfl (.inl rfl)) (pgs_cons (pg_name (i := 3) nd rfl (.inl rfl)) (pgs_cons (pg_name (i := 4) nd rfl (.inl rfl)) pgs_nil)))))
      (pss_cons (ps_expr (RhR.pe_methS (pv 0) T.cl m1 G1 (hr.mono (by decide)) b1 (fun σ => passAt (takes_of rfl rfl rfl rfl) σ) (pa_cons (pv 1) pa_nil)))
      (pss_one (ps_ret (pe_meth (pv 0) T.cl m2 G2 (hr.mono (by decide)) b2 .nil pass0 (pa_cons (pv 2) (pa_cons (pe_op RhR.op_catW (pe_slice RhR.sl_tupW (pv 3) po_none (po_some (pv 1))) (pe_slice RhR.sl_tupW (pv 3) (po_some (pe_op op_add (pv 1) pe_int)) po_none)) (pa_cons (pe_op RhR.op_catW (pe_slice RhR.sl_tupW (pv 4) po_none (po_some (pv 1))) (pe_slice RhR.sl_tupW (pv 4) (po_some (pe_op op_add (pv 1) pe_int)) po_none)) pa_nil)))))))), ?_⟩
  have noM1 : (hF l n).lookup ("look_rider" : Str) = none := hF_no l n (by decide +kernel) (by decide +kernel)
  have noM2 : (hF l n).lookup ("done" : Str) = none := hF_no l n (by decide +kernel) (by decide +kernel)
  refine ⟨_, rfl, h, C, dx, _, _, rfl, e1, T.cl, T.nP, hF_pages _ _, _, rfl, l, vs, _, _, rfl, rfl, SqL.of e2, atI_m1 e4, pg, _, rfl, e5, rfl, _, _, rfl, _, _, rfl, _, _, rfl, rfl, ?_⟩
  refine ⟨_, rfl, h, dx, _, rfl, e1, noM1, _, rfl, h, l, ps, n, p, b, rfl, ha, hp, fun hin => ?_, fun hno => ?_⟩
  · have hnone : refus p.1 p.2.1 (.strike b) = none := if_neg (fun z => z hin)
    obtain ⟨i, rfl, hi⟩ := of_nn hin
    refine ⟨_, rfl, h, dx, _, rfl, e1, noM2, _, rfl, _, rfl, _, rfl, _, rfl, sa, _, rfl, hs, fun t1 H1 s1 h1 => ?_⟩
    rw [RhR.cutV_take] at h1
    refine ⟨_, rfl, _, rfl, _, _, rfl, rfl, _, rfl, sa, _, rfl, Same.tup s1 hs, fun t2 H2 s2 h2 => ?_⟩
    rw [show ((i : Int) + 1) = ((i + 1 : Nat) : Int) from rfl, RhR.cutV_drop] at h2
    have lf := hok.few
    refine ⟨t1, t2, _, _, rfl, rfl, Same.tup s2 h1, h2, by rw [List.length_take, List.length_drop, List.length_map]; omega, fun t3 H3 s3 h3 => ?_⟩
    have s03 := (s1.trans s2).trans s3
    refine ⟨_, rfl, _, rfl, _, rfl, qa, _, rfl, Same.tup s03 hq, fun t4 H4 s4 h4 => ?_⟩
    rw [RhR.cutV_take] at h4
    refine ⟨_, rfl, _, rfl, _, _, rfl, rfl, _, rfl, qa, _, rfl, Same.tup (s03.trans s4) hq, fun t5 H5 s5 h5 => ?_⟩
    rw [show ((i : Int) + 1) = ((i + 1 : Nat) : Int) from rfl, RhR.cutV_drop] at h5
    refine ⟨t4, t5, _, _, rfl, rfl, Same.tup s5 h4, h5, by rw [List.length_take, List.length_drop, List.length_map, hok.pg.persons]; omega, fun t6 H6 s6 h6 => ?_⟩
    have s06 := ((s03.trans s4).trans s5).trans s6
    refine ⟨h, l, ps, n, p, applyP p n (.strike i), _, _, _, m, rfl, ha.same s06, hp, hpl, Dp.same s06 e6, ?_, ?_, hok.pg, hok.next, fun H8 fr8 a8 => k1 hnone H8 ((Fr.of s06).trans fr8) a8⟩
    · refine .tup (Same.tup ((s4.trans s5).trans s6) h3) ?_
      show DpAll K H6 ((p.2.1.map V.int).take i ++ (p.2.1.map V.int).drop (i + 1)) ((p.2.1.eraseIdx i).map PyData.int)
      rw [← List.map_take, ← List.map_drop, ← List.map_append, ← List.eraseIdx_eq_take_drop_succ]
      exact DpAll.ints
    · refine .tup h6 ?_
      show DpAll K H6 ((p.2.2.map V.int).take i ++ (p.2.2.map V.int).drop (i + 1)) ((p.2.2.eraseIdx i).map PyData.int)
      rw [← List.map_take, ← List.map_drop, ← List.map_append, ← List.eraseIdx_eq_take_drop_succ]
      exact DpAll.ints
  · exact k2 _ _ (if_pos hno)
/-! ### first(station, beat), leg(station, told) -/
theorem DpAll.set : ∀ {H : Hp} {vs : List V} {ds : List PyData} {i : Nat} {v : V} {d : PyData}, DpAll K H vs ds → Dp K H v d → DpAll K H (vs.set i v) (ds.set i d)
  | _, _, _, _, _, _, .nil, _ => .nil
  | _, _, _, 0, _, _, .cons h1 h2, h => .cons h h2
  | _, _, _, i + 1, _, _, .cons h1 h2, h => .cons h1 (DpAll.set h2 h)
abbrev nFirst : List Str := ["self", "station", "beat", "legs", "firsts", "sets", "persons", "other"]
theorem sc_first : FnScope nFirst ["self", "station", "beat"] (defScope s_House_first) := ⟨rfl, rfl, rfl, by decide +kernel, rfl, by decide +kernel, by decide +kernel⟩
theorem ok_first {cx : Ex → Addr} (B : Bn mg) (T : HT K mg C) (XX : XL P w K mg base (cx .late)) (D : Mfn K C "first" "House.first" s_House_first ["self", "station", "beat"]) (h1 : MCal P w K mg base C (L2.CX P w) "look_station" 3 ["self", "station", "most"] (spLookS (cx .station)))
    (h2 : MCal P w K mg base C CX0 "done" 8 ["self", "road", "sets", "persons"] (spDone K C)) (h3 : Cal P w K mg base CX0 "with_one" 1 ["some", "at", "one"] (spWith K)) : MCal P w K mg base C (L2.CX P w) "first" 9 ["self", "station", "beat"] (spDeed K C cx isFirst) := by
  have nd := sc_first.nd
  obtain ⟨f1, fd1, G1, m1, b1⟩ := h1
  obtain ⟨f2, fd2, G2, m2, b2⟩ := h2
  obtain ⟨f3, fd3, G3, g3, k3, b3⟩ := h3
  refine D.cal sc_first (fun vs H Q E ⟨h, l, ps, n, p, m, d, as, e, ⟨s', b, eb⟩, da, _⟩ => by rw [e]; rw [List.length_cons, DpAll.length da, eb]; rfl) (fun f cdv A outer s H vs Q E hr h => ?_)
  obtain ⟨h, l, ps, n, p, m, d, as, rfl, ⟨st, b, rfl⟩, da, ha, hp, hpl, hok, k1, k2⟩ := h
  obtain ⟨v, u, rfl, dv, du⟩ := DpAll.two da
  obtain rfl := Dp.intI dv
  obtain rfl := Dp.intI du
  obtain ⟨dx, vs, pg, r, u', q', e1, e2, e3, e4, e5, e6, e7, e8, e9⟩ := ha.last hp
  obtain ⟨sa, rfl, hs⟩ := Dp.setsI e7
  obtain ⟨ra, rb, rc, ls, rfl, r1, r2, r3, r4⟩ := Dp.roadI e6
  have lf := hok.few
  have hlen : ls.length = p.1.1.length := by rw [DpAll.length r3, List.length_map]
  refine ⟨_, (pss_cons (ps_asg (pe_ix ix_list (pe_fld (pv 0) rfl) (pe_un un_neg pe_int) (fun _ _ => rfl)) (pg_tup rfl (pgs_cons (pg_tup rfl (pgs_cons (pg_name (i := 3) nd rfl (.inl rfl)) (pgs_cons (pg_name (i := 4) nd rfl (.inl rfl)) pgs_nil))) (pgs_cons (pg_name (i := 5) nd rfl (.inl rfl)) (pgs_cons (pg_name (i := 6) nd rfl (.inl rfl)) pgs_nil)))))
      (pss_cons (ps_expr (RhR.pe_methS (pv 0) T.cl m1 G1 (hr.mono (by decide)) b1 (fun σ => passAt (takes_of rfl rfl rfl rfl) σ) (pa_cons (pv 1) (pa_cons (pe_op op_sub (pe_callB call_len_seq (by rfl) B.len PySem.boot_len (pa_cons (pv 3) pa_nil)) pe_int) pa_nil))))
      (pss_cons (ps_if (pt_val (pe_callB (cr_any rfl) (by rfl) B.any (by decide +kernel) (pa_cons (pe_lc (own := [("other", 7)]) (g := gName 7) rfl nd (pi_tup (pv 5)) (blkOk_by (N := nFirst) (sc := defScope s_House_first) (by decide +kernel)) (fun _ _ _ _ _ => (pg_name (i := 7) nd rfl (.inl rfl))) (fun _ _ _ _ _ => pts_nil)
      (fun _ _ _ _ _ => (pe_cmpR op_gt (pv 2) (pv 7) (nomark _)))) pa_nil))) (pss_one (ps_rx rfl (takes_of rfl rfl rfl rfl) XX (hr.mono (by decide)) (by rfl) (pv 2))) pss_nil)
      (pss_one (ps_ret (pe_meth (pv 0) T.cl m2 G2 (hr.mono (by decide)) b2 .nil pass0 (pa_cons (pe_tup (pa_cons (pv 3) (pa_cons (pe_call G3 (hr.mono (by decide)) (by rfl) g3 k3 b3 .nil pass0 (pa_cons (pv 4) (pa_cons (pv 1) (pa_cons (pv 2) pa_nil)))) pa_nil))) (pa_cons (pv 5) (pa_cons (pv 6) pa_nil))))))))), ?_⟩
  have noM1 : (hF l n).lookup ("look_station" : Str) = none := hF_no l n (by decide +kernel) (by decide +kernel)
  have noM2 : (hF l n).lookup ("done" : Str) = none := hF_no l n (by decide +kernel) (by decide +kernel)
  refine ⟨_, rfl, h, C, dx, _, _, rfl, e1, T.cl, T.nP, hF_pages _ _, _, rfl, l, vs, _, _, rfl, rfl, SqL.of e2, atI_m1 e4, pg, _, rfl, e5, rfl, _, _, rfl, ?_⟩
  refine ⟨ra, _, rfl, r1, rfl, _, _, rfl, _, _, rfl, rfl, _, _, rfl, _, _, rfl, rfl, ?_⟩
  refine ⟨_, rfl, h, dx, _, rfl, e1, noM1, _, rfl, _, rfl, rb, _, rfl, .inr r2, _, _, rfl, rfl, ?_⟩
  rw [hlen]
  refine ⟨_, st, _, rfl, fun hin => ?_, fun hno => k2 _ _ (if_pos hno)⟩
  refine ⟨_, rfl, sa, rfl, ⟨_, hs⟩, fun D0 nD => ?_⟩
  refine lc_fm walk_tup (fun i => ((p.2.1.map fun x => decide (x < b)).map V.bl)[i]?) nD (by rw [List.length_map]; omega) (fun H' s' => Same.tup s' hs) (fun i x H2 H3 Qy Qn hi s2 y qy qn => ?_) (fun H2 s2 h2 => ?_)
  · obtain ⟨rfl, ex⟩ := y
    obtain ⟨c, hc, rfl⟩ := map_at ex
    refine ⟨rfl, _, rfl, _, rfl, _, _, rfl, rfl, qy _ _ ?_ (Same.refl _)⟩
    exact at_map (at_map hc)
  · rw [fm_get (by simp)] at h2
    refine ⟨D0, _, rfl, SqL.of h2, _, rfl, ?_⟩
    rw [any_map]
    by_cases c : ∀ x ∈ p.2.1, b ≤ x
    · have hnone : refus p.1 p.2.1 (.first st b) = none := (if_neg (fun z => z hin)).trans (if_neg fun z => z c)
      refine ifF ?_ ?_
      · rw [List.any_eq_false]
        intro x hx
        have := c x hx
        simpa using this
      · obtain ⟨i, rfl, hi⟩ := of_nn (r := st) (n := p.1.1.length) ⟨hin.1, by omega⟩
        have hm := hok.pg.few
        have hfl : p.1.2.length = p.1.1.length := by rw [hok.pg.legs, hok.pg.firsts]
        refine ⟨_, rfl, h, dx, _, rfl, s2 _ _ e1, noM2, ?_⟩
        refine ⟨_, rfl, _, rfl, _, rfl, _, rfl, rc, _, i, _, rfl, Same.tup s2 r4, by rw [List.length_map, hfl, hok.pg.legs]; omega, by rw [List.length_map, hfl]; exact hi, fun t H3 s3 ht => ?_⟩
        refine ⟨(by show 2 ≤ sizeLine; decide), fun t2 nt2 => ?_⟩
        have s4 := Same.upd (o := .tup [V.ref rb, .ref t]) nt2
        have s24 := (s2.trans s3).trans s4
        refine ⟨_, rfl, _, rfl, h, l, ps, n, p, applyP p n (.first i b), _, _, _, m, rfl, ha.same s24, hp, hpl, ?_, Dp.same s24 e7, Dp.same s24 e8, hok.pg, hok.next, fun H8 fr8 a8 => k1 hnone H8 ((Fr.of s24).trans fr8) a8⟩
        refine .tup (SqT.of upd_same) (.cons (.tup (Same.tup s24 r2) (DpAll.same s24 r3)) (.cons (.tup (Same.tup s4 ht) ?_) .nil))
        show DpAll K _ ((p.1.2.map V.int).set i (.int b)) ((p.1.2.set i b).map PyData.int)
        rw [← List.map_set]
        exact DpAll.ints
    · refine ifT ?_ ⟨_, rfl, Rf.same s2 (k2 _ _ ((if_neg (fun z => z hin)).trans (if_pos c)))⟩
      rw [List.any_eq_true]
      refine Classical.byContradiction fun z => c fun x hx => ?_
      refine Classical.byContradiction fun z2 => z ⟨x, hx, ?_⟩
      exact decide_eq_true (by omega)
theorem ok_leg {cx : Ex → Addr} (B : Bn mg) (T : HT K mg C) (D : Mfn K C "leg" "House.leg" s_House_leg ["self", "station", "told"]) (h1 : MCal P w K mg base C (L2.CX P w) "look_station" 3 ["self", "station", "most"] (spLookS (cx .station)))
    (h2 : MCal P w K mg base C CX0 "done" 8 ["self", "road", "sets", "persons"] (spDone K C)) (h3 : Cal P w K mg base CX0 "with_one" 1 ["some", "at", "one"] (spWith K)) : MCal P w K mg base C (L2.CX P w) "leg" 9 ["self", "station", "told"] (spDeed K C cx isLeg) := by
  have nd := s_House_leg_sc.nd
  obtain ⟨f1, fd1, G1, m1, b1⟩ := h1
  obtain ⟨f2, fd2, G2, m2, b2⟩ := h2
  obtain ⟨f3, fd3, G3, g3, k3, b3⟩ := h3
  refine D.cal s_House_leg_sc (fun vs H Q E ⟨h, l, ps, n, p, m, d, as, e, ⟨s', b, eb⟩, da, _⟩ => by rw [e]; rw [List.length_cons, DpAll.length da, eb]; rfl) (fun f cdv A outer s H vs Q E hr h => ?_)
  obtain ⟨h, l, ps, n, p, m, d, as, rfl, ⟨st, g, rfl⟩, da, ha, hp, hpl, hok, k1, k2⟩ := h
  obtain ⟨v, u, rfl, dv, du⟩ := DpAll.two da
  obtain rfl := Dp.intI dv
  obtain ⟨dx, vs, pg, r, u', q', e1, e2, e3, e4, e5, e6, e7, e8, e9⟩ := ha.last hp
  obtain ⟨ra, rb, rc, ls, rfl, r1, r2, r3, r4⟩ := Dp.roadI e6
  have hlen : ls.length = p.1.1.length := by rw [DpAll.length r3, List.length_map]
  refine ⟨_, (pss_cons (ps_asg (pe_ix ix_list (pe_fld (pv 0) rfl) (pe_un un_neg pe_int) (fun _ _ => rfl)) (pg_tup rfl (pgs_cons (pg_tup rfl (pgs_cons (pg_name (i := 3) nd rfl (.inl rfl)) (pgs_cons (pg_name (i := 4) nd rfl (.inl rfl)) pgs_nil))) (pgs_cons (pg_name (i := 5) nd rfl (.inl rfl)) (pgs_cons (pg_name (i := 6) nd rfl (.inl rfl)) pgs_nil)))))
      (pss_cons (ps_expr (RhR.pe_methS (pv 0) T.cl m1 G1 (hr.mono (by decide)) b1 (fun σ => passAt (takes_of rfl rfl rfl rfl) σ) (pa_cons (pv 1) (pa_cons (pe_op op_sub (pe_callB call_len_seq (by rfl) B.len PySem.boot_len (pa_cons (pv 3) pa_nil)) pe_int) pa_nil))))
      (pss_one (ps_ret (pe_meth (pv 0) T.cl m2 G2 (hr.mono (by decide)) b2 .nil pass0 (pa_cons (pe_tup (pa_cons (pe_call G3 (hr.mono (by decide)) (by rfl) g3 k3 b3 .nil pass0 (pa_cons (pv 3) (pa_cons (pv 1) (pa_cons (pv 2) pa_nil)))) (pa_cons (pv 4) pa_nil))) (pa_cons (pv 5) (pa_cons (pv 6) pa_nil)))))))), ?_⟩
  have noM1 : (hF l n).lookup ("look_station" : Str) = none := hF_no l n (by decide +kernel) (by decide +kernel)
  have noM2 : (hF l n).lookup ("done" : Str) = none := hF_no l n (by decide +kernel) (by decide +kernel)
  refine ⟨_, rfl, h, C, dx, _, _, rfl, e1, T.cl, T.nP, hF_pages _ _, _, rfl, l, vs, _, _, rfl, rfl, SqL.of e2, atI_m1 e4, pg, _, rfl, e5, rfl, _, _, rfl, ?_⟩
  refine ⟨ra, _, rfl, r1, rfl, _, _, rfl, _, _, rfl, rfl, _, _, rfl, _, _, rfl, rfl, ?_⟩
  refine ⟨_, rfl, h, dx, _, rfl, e1, noM1, _, rfl, _, rfl, rb, _, rfl, .inr r2, _, _, rfl, rfl, ?_⟩
  rw [hlen]
  refine ⟨_, st, _, rfl, fun hin => ?_, fun hno => k2 _ _ (if_pos hno)⟩
  have hnone : refus p.1 p.2.1 (.leg st g) = none := if_neg (fun z => z hin)
  obtain ⟨i, rfl, hi⟩ := of_nn (r := st) (n := p.1.1.length) ⟨hin.1, by omega⟩
  have hm := hok.pg.few
  refine ⟨_, rfl, h, dx, _, rfl, e1, noM2, ?_⟩
  refine ⟨_, rfl, _, rfl, _, rfl, rb, ls, i, u, rfl, r2, by rw [hlen, hok.pg.legs]; omega, by rw [hlen]; exact hi, fun t H3 s3 ht => ?_⟩
  refine ⟨_, rfl, (by show 2 ≤ sizeLine; decide), fun t2 nt2 => ?_⟩
  have s4 := Same.upd (o := .tup [.ref t, V.ref rc]) nt2
  have s24 := s3.trans s4
  refine ⟨_, rfl, _, rfl, h, l, ps, n, p, applyP p n (.leg i g), _, _, _, m, rfl, ha.same s24, hp, hpl, ?_, Dp.same s24 e7, Dp.same s24 e8, hok.pg, hok.next, fun H8 fr8 a8 => k1 hnone H8 ((Fr.of s24).trans fr8) a8⟩
  refine .tup (SqT.of upd_same) (.cons (.tup (Same.tup s4 ht) ?_) (.cons (Dp.ofTints (Same.tup s24 r4)) .nil))
  show DpAll K _ (ls.set i u) ((p.1.1.set i g).map legD)
  rw [List.map_set]
  exact DpAll.set (DpAll.same s24 r3) (Dp.same s24 du)
/-! ### move(rider, *, to) -/
/-- move, as it's called: by a rider, to=; by both keywords -/
def MvCal (P : Program) (w : World) (K : PySem.W.Frag) (mg : Str → Option Value) (base : Heap) (C : Addr) (CX : CXT) (k : Nat) (sp : Sp) : Prop :=
  ∃ (f : Addr) (fd : FuncData), FnOk P w K mg base CX k f fd ["self", "rider", "to"] sp ∧ Meth K C "move" f ∧ KBn K fd ["self", "rider", "to"] 2 ["to"] (fun us ws => us ++ ws) (fun us ws => us ++ ws) ∧
    KBn K fd ["self", "rider", "to"] 1 ["to", "rider"] (fun us ws => us ++ ws.reverse) (fun us ws => us ++ ws.reverse)
def MvFn (K : PySem.W.Frag) (C : Addr) : Prop := ∃ (f : Addr) (fd : FuncData), FunD K "move" "House.move" (defArgs s_House_move) (defBody s_House_move) (defScope s_House_move) [] [] f fd ∧ Meth K C "move" f ∧ KBn K fd ["self", "rider", "to"] 2 ["to"] (fun us ws => us ++ ws) (fun us ws => us ++ ws) ∧
    KBn K fd ["self", "rider", "to"] 1 ["to", "rider"] (fun us ws => us ++ ws.reverse) (fun us ws => us ++ ws.reverse)
abbrev nMove : List Str := ["self", "rider", "to", "road", "sets", "persons", "other"]
theorem sc_move : FnScope nMove ["self", "rider", "to"] (defScope s_House_move) := ⟨rfl, rfl, rfl, by decide +kernel, rfl, by decide +kernel, by decide +kernel⟩
theorem ok_move {cx : Ex → Addr} (B : Bn mg) (T : HT K mg C) (XX : XL P w K mg base (cx .late)) (D : MvFn K C) (h1 : MCal P w K mg base C (L2.CX P w) "look_rider" 3 ["self", "rider"] (spLookR K C (cx .rider)))
    (h2 : MCal P w K mg base C CX0 "done" 8 ["self", "road", "sets", "persons"] (spDone K C)) (h3 : Cal P w K mg base CX0 "with_one" 1 ["some", "at", "one"] (spWith K))
    (h4 : MCal P w K mg base C (L2.CX P w) "look_early" 3 ["self", "beat", "ahead"] (spLookE K C (cx .early))) : MvCal P w K mg base C (L2.CX P w) 9 (spDeed K C cx isMove) := by
  have nd := sc_move.nd
  obtain ⟨f1, fd1, G1, m1, b1⟩ := h1
  obtain ⟨f2, fd2, G2, m2, b2⟩ := h2
  obtain ⟨f3, fd3, G3, g3, k3, b3⟩ := h3
  obtain ⟨f4, fd4, G4, m4, b4⟩ := h4
  obtain ⟨f, fd, F, mm, kb1, kb2⟩ := D
  refine ⟨f, fd, F.ok sc_move (fun vs H Q E ⟨h, l, ps, n, p, m, d, as, e, ⟨s', b, eb⟩, da, _⟩ => by rw [e]; rw [List.length_cons, DpAll.length da, eb]; rfl) (fun cdv A outer s H vs Q E hr h => ?_), mm, kb1, kb2⟩
  obtain ⟨h, l, ps, n, p, m, d, as, rfl, ⟨st, b, rfl⟩, da, ha, hp, hpl, hok, k1, k2⟩ := h
  obtain ⟨v, u, rfl, dv, du⟩ := DpAll.two da
  obtain rfl := Dp.intI dv
  obtain rfl := Dp.intI du
  obtain ⟨dx, vs, pg, r, u', q', e1, e2, e3, e4, e5, e6, e7, e8, e9⟩ := ha.last hp
  obtain ⟨sa, rfl, hs⟩ := Dp.setsI e7
  have lf := hok.few
  have hfew := hok.pg.few
  refine ⟨_, (pss_cons (ps_asg (pe_ix ix_list (pe_fld (pv 0) rfl) (pe_un un_neg pe_int) (fun _ _ => rfl)) (pg_tup rfl (pgs_cons (pg_name (i := 3) nd rfl (.inl rfl)) (pgs_cons (pg_name (i := 4) nd rfl (.inl rfl)) (pgs_cons (pg_name (i := 5) nd rfl (.inl rfl)) pgs_nil)))))
      (pss_cons (ps_expr (RhR.pe_methS (pv 0) T.cl m1 G1 (hr.mono (by decide)) b1 (fun σ => passAt (takes_of rfl rfl rfl rfl) σ) (pa_cons (pv 1) pa_nil)))
      (pss_cons (ps_expr (RhR.pe_methS (pv 0) T.cl m4 G4 (hr.mono (by decide)) b4 (fun σ => passAt (takes_of rfl rfl rfl rfl) σ) (pa_cons (pv 2) (pa_cons (pe_slice RhR.sl_tupW (pe_slice RhR.sl_tupW (pv 4) po_none (po_some (pv 1))) (po_some (pe_un un_neg pe_int)) po_none) pa_nil))))
      (pss_cons (ps_if (pt_val (pe_callB (cr_any rfl) (by rfl) B.any (by decide +kernel) (pa_cons (pe_lc (own := [("other", 6)]) (g := gName 6) rfl nd (pi_tup (pe_slice RhR.sl_tupW (pv 4) (po_some (pe_op op_add (pv 1) pe_int)) po_none)) (blkOk_by (N := nMove) (sc := defScope s_House_move) (by decide +kernel)) (fun _ _ _ _ _ => (pg_name (i := 6) nd rfl (.inl rfl))) (fun _ _ _ _ _ => pts_nil)
      (fun _ _ _ _ _ => (pe_cmpR op_gt (pv 2) (pv 6) (nomark _)))) pa_nil))) (pss_one (ps_rx rfl (takes_of rfl rfl rfl rfl) XX (hr.mono (by decide)) (by rfl) (pv 2))) pss_nil)
      (pss_one (ps_ret (pe_meth (pv 0) T.cl m2 G2 (hr.mono (by decide)) b2 .nil pass0 (pa_cons (pv 3) (pa_cons (pe_call G3 (hr.mono (by decide)) (by rfl) g3 k3 b3 .nil pass0 (pa_cons (pv 4) (pa_cons (pv 1) (pa_cons (pv 2) pa_nil)))) (pa_cons (pv 5) pa_nil)))))))))), ?_⟩
  have noM1 : (hF l n).lookup ("look_rider" : Str) = none := hF_no l n (by decide +kernel) (by decide +kernel)
  have noM2 : (hF l n).lookup ("done" : Str) = none := hF_no l n (by decide +kernel) (by decide +kernel)
  have noM4 : (hF l n).lookup ("look_early" : Str) = none := hF_no l n (by decide +kernel) (by decide +kernel)
  refine ⟨_, rfl, h, C, dx, _, _, rfl, e1, T.cl, T.nP, hF_pages _ _, _, rfl, l, vs, _, _, rfl, rfl, SqL.of e2, atI_m1 e4, pg, _, rfl, e5, rfl, _, _, rfl, _, _, rfl, _, _, rfl, rfl, ?_⟩
  refine ⟨_, rfl, h, dx, _, rfl, e1, noM1, _, rfl, h, l, ps, n, p, st, rfl, ha, hp, fun hin => ?_, fun hno => k2 _ _ (if_pos hno)⟩
  obtain ⟨i, rfl, hi⟩ := of_nn hin
  refine ⟨_, rfl, h, dx, _, rfl, e1, noM4, _, rfl, _, rfl, _, rfl, _, rfl, sa, _, rfl, hs, fun t1 H1 s1 h1 => ?_⟩
  rw [RhR.cutV_take, ← List.map_take] at h1
  refine ⟨_, rfl, _, rfl, t1, _, rfl, h1, fun t2 H2 s2 h2 => ?_⟩
  rw [RhR.cutV_last, List.length_map, ← List.map_drop] at h2
  have s02 := s1.trans s2
  refine ⟨h, l, ps, n, p, b, t2, lastOf (p.2.1.take i), rfl, ha.same s02, hp, h2, by unfold lastOf; rw [List.length_drop, List.length_take]; omega, by rw [hok.pg.firsts]; omega, fun hle H3 s3 => ?_, fun hno => Rf.same s02 (k2 _ _ ((if_neg (fun z => z hin)).trans (if_pos hno)))⟩
  have s03 := s02.trans s3
  refine ⟨_, rfl, _, rfl, _, _, rfl, rfl, _, rfl, sa, _, rfl, Same.tup s03 hs, fun t4 H4 s4 h4 => ?_⟩
  rw [show ((i : Int) + 1) = ((i + 1 : Nat) : Int) from rfl, RhR.cutV_drop, ← List.map_drop] at h4
  have s04 := s03.trans s4
  refine ⟨t4, rfl, ⟨_, h4⟩, fun D0 nD => ?_⟩
  refine lc_fm walk_tup (fun j => (((p.2.1.drop (i + 1)).map fun x => decide (x < b)).map V.bl)[j]?) nD (by rw [List.length_map, List.length_drop]; omega) (fun H' s' => Same.tup s' h4) (fun j x H5 H6 Qy Qn hj s5 y qy qn => ?_) (fun H5 s5 h5 => ?_)
  · obtain ⟨rfl, ex⟩ := y
    obtain ⟨c, hc, rfl⟩ := map_at ex
    refine ⟨rfl, _, rfl, _, rfl, _, _, rfl, rfl, qy _ _ ?_ (Same.refl _)⟩
    exact at_map (at_map hc)
  · rw [fm_get (by simp)] at h5
    have s05 := s04.trans s5
    refine ⟨D0, _, rfl, SqL.of h5, _, rfl, ?_⟩
    rw [any_map]
    by_cases c : ∀ x ∈ p.2.1.drop (i + 1), b ≤ x
    · have hnone : refus p.1 p.2.1 (.move i b) = none := (if_neg (fun z => z hin)).trans ((if_neg fun z => z hle).trans (if_neg fun z => z c))
      refine ifF ?_ ?_
      · rw [List.any_eq_false]
        intro x hx
        have := c x hx
        simpa using this
      · refine ⟨_, rfl, h, dx, _, rfl, s05 _ _ e1, noM2, ?_⟩
        refine ⟨_, rfl, _, rfl, _, rfl, _, rfl, sa, _, i, _, rfl, Same.tup s05 hs, by rw [List.length_map]; omega, by rw [List.length_map]; exact hi, fun t H7 s7 ht => ?_⟩
        have s07 := s05.trans s7
        refine ⟨_, rfl, h, l, ps, n, p, applyP p n (.move i b), _, _, _, m, rfl, ha.same s07, hp, hpl, Dp.same s07 e6, ?_, Dp.same s07 e8, hok.pg, hok.next, fun H8 fr8 a8 => k1 hnone H8 ((Fr.of s07).trans fr8) a8⟩
        refine .tup ht ?_
        show DpAll K _ ((p.2.1.map V.int).set i (.int b)) ((p.2.1.set i b).map PyData.int)
        rw [← List.map_set]
        exact DpAll.ints
    · refine ifT ?_ ⟨_, rfl, Rf.same s05 (k2 _ _ ((if_neg (fun z => z hin)).trans ((if_neg fun z => z hle).trans (if_pos c))))⟩
      rw [List.any_eq_true]
      refine Classical.byContradiction fun z => c fun x hx => ?_
      refine Classical.byContradiction fun z2 => z ⟨x, hx, ?_⟩
      exact decide_eq_true (by omega)
end
end Rh
end RhW6_
section RhW7_
set_option Elab.async false
set_option linter.all false
set_option maxRecDepth 100000
set_option maxHeartbeats 4000000
/-! The house: made, undone, its books, a twin, ==, len. -/
namespace Rh
open PySem PySem.Spec PyProof.Rows L2
/-! ### sizes of data -/
theorem lay_ints : ∀ ns : List Int, PyData.canLayAll0 (ns.map PyData.int) = true
  | [] => rfl
  | n :: ns => by simp [PyData.canLayAll0, PyData.canLay0, lay_ints ns]
theorem lay_legs : ∀ ls : List Leg, PyData.canLayAll0 (ls.map legD) = true
  | [] => rfl
  | g :: gs => by simp [PyData.canLayAll0, PyData.canLay0, legD, lay_legs gs]
theorem lay_rows : ∀ ls : List (List Int), PyData.canLayAll0 (ls.map rowD) = true
  | [] => rfl
  | g :: gs => by simp [PyData.canLayAll0, PyData.canLay0, rowD, lay_ints, lay_rows gs]
theorem dep_ints (ns : List Int) : PyData.depthAll (ns.map PyData.int) = 0 := PySem.W.depth_ints ns
theorem dep_legs : ∀ ls : List Leg, PyData.depthAll (ls.map legD) ≤ 1
  | [] => by simp [PyData.depthAll]
  | g :: gs => by
    have := dep_legs gs
    simp only [List.map_cons, PyData.depthAll, PyData.depth, legD]
    omega
theorem dep_rows : ∀ ls : List (List Int), PyData.depthAll (ls.map rowD) ≤ 1
  | [] => by simp [PyData.depthAll]
  | g :: gs => by
    have := dep_rows gs
    simp only [List.map_cons, PyData.depthAll, PyData.depth, rowD, dep_ints]
    omega
/-- what a house tells when it's compared -/
def hsD (rd : Road) (sets : List Int) : PyData := .tuple [roadD rd, setsD sets]
theorem shaped_hs (rd : Road) (sets : List Int) : SeqAt.shaped (hsD rd sets) = true := by
  unfold SeqAt.shaped
  rw [Bool.and_eq_true]
  refine ⟨by simp [hsD, roadD, setsD, PyData.canLay0, PyData.canLayAll0, lay_ints, lay_legs], decide_eq_true ?_⟩
  have := dep_legs rd.1
  simp only [hsD, roadD, setsD, PyData.depth, PyData.depthAll, dep_ints]
  omega
section
variable {P : Program} {w : World} {K : PySem.W.Frag} {mg : Str → Option Value} {base : Heap} {C : Addr}
/-! ### __init__ -/
def spHInit (K : PySem.W.Frag) (C : Addr) : Sp := fun vs H Q _ => ∃ (x dx : Addr) (v : V) (rd : Road), vs = [.ref x, v] ∧ H x = some (.ins C dx []) ∧ Dp K H v (roadD rd) ∧ ∀ l H', (∀ b o, H b = some o → b ≠ x → H' b = some o) → H l = none → HouseAt K C H' x l [(rd, [], [])] 0 → Q .non H'
theorem ok_hinit (T : HT K mg C) (D : Mfn K C "__init__" "House.__init__" s_House_init ["self", "road"]) : MCal P w K mg base C CX0 "__init__" 1 ["self", "road"] (spHInit K C) := by
  have nd := s_House_init_sc.nd
  refine D.cal s_House_init_sc (fun vs H Q E ⟨x, dx, v, rd, e, _⟩ => by rw [e]; rfl) (fun f cdv A outer s H vs Q E hr h => ?_)
  obtain ⟨x, dx, v, rd, rfl, hx, hv, k⟩ := h
  refine ⟨_, PSs.nox (pss_cons (ps_fld (pv 0) (pe_lst (pa_cons (pe_tup (pa_cons (pv 1) (pa_cons (pe_tup pa_nil) (pa_cons (pe_tup pa_nil) pa_nil)))) pa_nil)) rfl)
      (pss_one (ps_fld (pv 0) pe_int rfl))), ?_⟩
  refine ⟨_, rfl, Nat.zero_le _, fun a na => ⟨Nat.zero_le _, fun b nb => ⟨(by show 3 ≤ sizeLine; decide), fun t nt => ⟨(by show 1 ≤ sizeLine; decide), fun l nl => ?_⟩⟩⟩⟩
  have s1 := Same.upd (o := .tup []) na
  have s2 := Same.upd (o := .tup []) nb
  have s3 := Same.upd (o := .tup [v, V.ref a, V.ref b]) nt
  have s4 := Same.upd (o := .lst [V.ref t]) nl
  have s04 := ((s1.trans s2).trans s3).trans s4
  have nl0 : H l = none := Same.free ((s1.trans s2).trans s3) nl
  have hx4 := s04 _ _ hx
  have ht4 : Dp K _ (.ref t) (pageD (rd, [], [])) := .tup (SqT.of (s4 _ _ upd_same)) (.cons (Dp.same s04 hv) (.cons (.tup (SqT.of (s4 _ _ (s3 _ _ (s2 _ _ upd_same)))) .nil) (.cons (.tup (SqT.of (s4 _ _ (s3 _ _ upd_same))) .nil) .nil)))
  have hl4 : upd (upd (upd (upd H a (.tup [])) b (.tup [])) t (.tup [v, .ref a, .ref b])) l (.lst [.ref t]) l = some (.lst [.ref t]) := upd_same
  generalize hG : upd (upd (upd (upd H a (.tup [])) b (.tup [])) t (.tup [v, .ref a, .ref b])) l (.lst [.ref t]) = H4 at s04 hx4 ht4 hl4
  have hne : x ≠ l := fun z => by rw [z] at hx; rw [hx] at nl0; cases nl0
  refine ⟨_, rfl, x, C, dx, [], rfl, hx4, T.cl, T.nP, (by show 0 < 1000; decide), ?_⟩
  refine ⟨_, rfl, x, C, dx, _, rfl, upd_same, T.cl, T.nS, (by show 1 < 1000; decide), ?_⟩
  rw [hF_new]
  have fr5 : Fr [x] H4 (upd H4 x (.ins C dx (putF "own_pages" (.ref l) []))) := Fr.ins hx4 (by simp)
  have fr6 : Fr [x] _ (upd (upd H4 x (.ins C dx (putF "own_pages" (.ref l) []))) x (.ins C dx (hF l 0))) := Fr.ins upd_same (by simp)
  have fr46 := fr5.trans fr6
  refine k l _ (fun b o e hb => ?_) nl0 ⟨dx, [.ref t], upd_same, ?_, .cons (Dp.fr fr46 (noL_page _) ht4) .nil⟩
  · rw [upd_ne hb, upd_ne hb]
    exact s04 _ _ e
  · rw [upd_ne hne.symm, upd_ne hne.symm]
    exact hl4
/-! ### undo() -/
def spUndo (K : PySem.W.Frag) (C : Addr) : Sp := fun vs H Q _ => ∃ (h l : Addr) (pre : List Page) (p : Page) (n : Int), vs = [.ref h] ∧ HouseAt K C H h l (pre ++ [p]) n ∧ (pre = [] → Q (.bl false) H) ∧ (pre ≠ [] → ∀ H', Fr [h, l] H H' → HouseAt K C H' h l pre n → Q (.bl true) H')
theorem ok_undo (T : HT K mg C) (D : Mfn K C "undo" "House.undo" s_House_undo ["self"]) (h1 : MCal P w K mg base C CX0 "deeds" 1 ["self"] (spHDeeds K C)) : MCal P w K mg base C CX0 "undo" 2 ["self"] (spUndo K C) := by
  have nd := s_House_undo_sc.nd
  obtain ⟨f1, fd1, G1, m1, b1⟩ := h1
  refine D.cal s_House_undo_sc (fun vs H Q E ⟨h, l, ps, n, p, e, _⟩ => by rw [e]; rfl) (fun f cdv A outer s H vs Q E hr h => ?_)
  obtain ⟨h, l, pre, p, n, rfl, ha, k1, k2⟩ := h
  obtain ⟨dx, vs, e1, e2, e3⟩ := id ha
  refine ⟨_, PSs.nox (pss_cons (ps_if (pt_cmpR op_eq (pe_meth0 (pv 0) T.cl m1 G1 (hr.mono (by decide)) b1 .nil pass0) pe_int (nomark _)) (pss_one (ps_ret pe_bl)) pss_nil)
      (pss_cons (ps_expr (pe_bm0 PySem.F.plainAttrs_list PySem.F.slot_list_pop PySem.F.type_list_pop mt_pop (pe_fld (pv 0) rfl)))
      (pss_one (ps_ret pe_bl)))), ?_⟩
  have noM1 : (hF l n).lookup ("deeds" : Str) = none := hF_no l n (by decide +kernel) (by decide +kernel)
  refine ⟨_, rfl, h, dx, _, rfl, e1, noM1, h, l, _, n, rfl, ha, rfl, _, rfl, ?_⟩
  rw [List.length_append, List.length_singleton]
  by_cases c : pre = []
  · refine ifT (eq_int (by rw [c]; rfl)) ?_
    exact k1 c
  · have hpos : 0 < pre.length := List.length_pos_iff.mpr c
    refine ifF (ne_int (by omega)) ?_
    have hvl : vs.length = pre.length + 1 := by rw [DpAll.length e3, List.length_map, List.length_append]; rfl
    refine ⟨_, rfl, h, C, dx, _, _, rfl, e1, T.cl, T.nP, hF_pages _ _, .inl ⟨rfl, _, SqL.of e2⟩, l, vs, vs[vs.length - 1]'(by omega), rfl, rfl, e2, List.getElem?_eq_getElem _, ?_⟩
    have fr : Fr [h, l] H (upd H l (.lst vs.dropLast)) := Fr.lst e2 (by simp)
    have hne : h ≠ l := fun z => by rw [z] at e1; have := e1.symm.trans e2; cases this
    refine k2 c _ fr ⟨dx, vs.dropLast, by rw [upd_ne hne]; exact e1, upd_same, ?_⟩
    have h1 := DpAll.take pre.length (DpAll.fr fr (noLs_pages _) e3)
    rw [← List.map_take, List.take_append_of_le_length (Nat.le_refl _), List.take_length] at h1
    have hdl : vs.take pre.length = vs.dropLast := by rw [List.dropLast_eq_take, hvl]; rfl
    rw [hdl] at h1
    exact h1
/-! ### book(station), coming(rider, station) -/
def spBook (K : PySem.W.Frag) (C : Addr) : Sp := fun vs H Q _ => ∃ (h l : Addr) (ps : List Page) (n : Int) (p : Page) (m st : Nat), vs = [.ref h, .int st] ∧ HouseAt K C H h l ps n ∧ ps.getLast? = some p ∧ PgOk m p ∧ st ≤ m ∧
  ∀ q H', Same H H' → H q = none → IL H' q ((booksM p.1.1 p.1.2 p.2.1).getD st []) → Q (.ref q) H'
theorem ok_book {cS : Addr} (B : Bn mg) (T : HT K mg C) (D : Mfn K C "book" "House.book" s_House_book ["self", "station"]) (h1 : MCal P w K mg base C CX0 "road" 1 ["self"] (spHRoad K C)) (h2 : MCal P w K mg base C CX0 "sets" 1 ["self"] (spHSets K C))
    (h3 : MCal P w K mg base C (L2.CX P w) "look_station" 3 ["self", "station", "most"] (spLookS cS)) (h4 : Cal P w K mg base CX0 "books_to" 5 ["road", "sets", "station"] (spBooks K)) : MCal P w K mg base C CX0 "book" 6 ["self", "station"] (spBook K C) := by
  have nd := s_House_book_sc.nd
  obtain ⟨f1, fd1, G1, m1, b1⟩ := h1
  obtain ⟨f2, fd2, G2, m2, b2⟩ := h2
  obtain ⟨f3, fd3, G3, m3, b3⟩ := h3
  obtain ⟨f4, fd4, G4, g4, k4, b4⟩ := h4
  refine D.cal s_House_book_sc (fun vs H Q E ⟨h, l, ps, n, p, m, st, e, _⟩ => by rw [e]; rfl) (fun f cdv A outer s H vs Q E hr h => ?_)
  obtain ⟨h, l, ps, n, p, m, st, rfl, ha, hp, ok, hst, k⟩ := h
  obtain ⟨dx, vs, e1, e2, e3⟩ := id ha
  have nR : (hF l n).lookup ("road" : Str) = none := hF_no l n (by decide +kernel) (by decide +kernel)
  have nS : (hF l n).lookup ("sets" : Str) = none := hF_no l n (by decide +kernel) (by decide +kernel)
  have nL : (hF l n).lookup ("look_station" : Str) = none := hF_no l n (by decide +kernel) (by decide +kernel)
  refine ⟨_, PSs.nox (pss_cons (ps_expr (pe_meth (pv 0) T.cl m3 G3 (hr.mono (by decide)) b3 .nil passL (pa_cons (pv 1) (pa_cons (pe_callB call_len_seq (by rfl) B.len PySem.boot_len (pa_cons (pe_ix ix_tup (pe_meth0 (pv 0) T.cl m1 G1 (hr.mono (by decide)) b1 .nil pass0) pe_int (fun _ _ => rfl)) pa_nil)) pa_nil))))
      (pss_one (ps_ret (pe_ix ix_list (pe_call G4 (hr.mono (by decide)) (by rfl) g4 k4 b4 .nil pass0 (pa_cons (pe_meth0 (pv 0) T.cl m1 G1 (hr.mono (by decide)) b1 .nil pass0) (pa_cons (pe_meth0 (pv 0) T.cl m2 G2 (hr.mono (by decide)) b2 .nil pass0) (pa_cons (pv 1) pa_nil)))) (pe_un un_neg pe_int) (fun _ _ => rfl))))), ?_⟩
  refine ⟨_, rfl, h, dx, _, rfl, e1, nL, _, rfl, _, rfl, h, dx, _, rfl, e1, nR, h, l, ps, n, p, rfl, ha, hp, fun v hv => ?_⟩
  obtain ⟨ra, rb, rc, ls, rfl, r1, r2, r3, r4⟩ := Dp.roadI hv
  have hlen : ls.length = m := by rw [DpAll.length r3, List.length_map, ok.legs]
  refine ⟨ra, _, 0, _, rfl, rfl, r1, rfl, rb, ls, rfl, .inr r2, ?_⟩
  rw [hlen]
  refine ⟨_, st, m, rfl, fun _ => ?_, fun hno => absurd ⟨by omega, by omega⟩ hno⟩
  refine ⟨_, rfl, h, dx, _, rfl, e1, nR, h, l, ps, n, p, rfl, ha, hp, fun v2 hv2 => ?_⟩
  refine ⟨_, rfl, h, dx, _, rfl, e1, nS, h, l, ps, n, p, rfl, ha, hp, fun v3 hv3 => ?_⟩
  have hlf : p.1.1.length = p.1.2.length := by rw [ok.legs, ok.firsts]
  have hfew := ok.few
  refine ⟨_, rfl, v2, v3, p.1, p.2.1, st, rfl, hv2, hv3, hlf, by rw [ok.legs]; omega, by rw [ok.legs]; omega, ok.sets, fun b H2 s2 hb => ?_⟩
  rw [books_take _ _ _ _ hlf] at hb
  obtain ⟨ws, w1, w2, w3⟩ := hb
  have hbl : (booksM p.1.1 p.1.2 p.2.1).length = m + 1 := by rw [len_books _ _ _ hlf, ok.legs]
  have hget : ((booksM p.1.1 p.1.2 p.2.1).take (st + 1)).getLast? = some ((booksM p.1.1 p.1.2 p.2.1).getD st []) := by
    rw [List.getLast?_eq_getElem?, List.length_take, hbl, Nat.min_eq_left (by omega), Nat.add_sub_cancel, List.getElem?_take, if_pos (by omega), List.getD_eq_getElem?_getD, List.getElem?_eq_getElem (by omega)]
    rfl
  obtain ⟨q, q1, q2, q3⟩ := w3.last hget
  exact ⟨_, rfl, b, ws, _, _, rfl, rfl, SqL.of w1, atI_m1 q1, k q H2 s2 q2.1 q3⟩
def spComing (K : PySem.W.Frag) (C : Addr) : Sp := fun vs H Q _ => ∃ (h l : Addr) (ps : List Page) (n : Int) (p : Page) (m r st : Nat), vs = [.ref h, .int r, .int st] ∧ HouseAt K C H h l ps n ∧ ps.getLast? = some p ∧ PgOk m p ∧ st ≤ m ∧ r < p.2.1.length ∧
  ∀ H', Same H H' → Q (.int (((booksM p.1.1 p.1.2 p.2.1).getD st []).getD r 0)) H'
theorem ok_coming {cR : Addr} (T : HT K mg C) (D : Mfn K C "coming" "House.coming" s_House_coming ["self", "rider", "station"]) (h1 : MCal P w K mg base C (L2.CX P w) "look_rider" 3 ["self", "rider"] (spLookR K C cR)) (h2 : MCal P w K mg base C CX0 "book" 6 ["self", "station"] (spBook K C)) :
    MCal P w K mg base C CX0 "coming" 7 ["self", "rider", "station"] (spComing K C) := by
  have nd := s_House_coming_sc.nd
  obtain ⟨f1, fd1, G1, m1, b1⟩ := h1
  obtain ⟨f2, fd2, G2, m2, b2⟩ := h2
  refine D.cal s_House_coming_sc (fun vs H Q E ⟨h, l, ps, n, p, m, r, st, e, _⟩ => by rw [e]; rfl) (fun f cdv A outer s H vs Q E hr h => ?_)
  obtain ⟨h, l, ps, n, p, m, r, st, rfl, ha, hp, ok, hst, hr', k⟩ := h
  obtain ⟨dx, vs, e1, e2, e3⟩ := id ha
  have n1 : (hF l n).lookup ("look_rider" : Str) = none := hF_no l n (by decide +kernel) (by decide +kernel)
  have n2 : (hF l n).lookup ("book" : Str) = none := hF_no l n (by decide +kernel) (by decide +kernel)
  refine ⟨_, PSs.nox (pss_cons (ps_expr (pe_meth (pv 0) T.cl m1 G1 (hr.mono (by decide)) b1 .nil passL (pa_cons (pv 1) pa_nil)))
      (pss_one (ps_ret (pe_ix ix_list (pe_meth (pv 0) T.cl m2 G2 (hr.mono (by decide)) b2 .nil pass0 (pa_cons (pv 2) pa_nil)) (pv 1) (fun _ _ => rfl))))), ?_⟩
  refine ⟨_, rfl, h, dx, _, rfl, e1, n1, _, rfl, h, l, ps, n, p, r, rfl, ha, hp, fun _ => ?_, fun hno => absurd ⟨by omega, by omega⟩ hno⟩
  refine ⟨_, rfl, h, dx, _, rfl, e1, n2, _, rfl, h, l, ps, n, p, m, st, rfl, ha, hp, ok, hst, fun q H2 s2 nq hq => ?_⟩
  have hlf : p.1.1.length = p.1.2.length := by rw [ok.legs, ok.firsts]
  have hrow : ((booksM p.1.1 p.1.2 p.2.1).getD st []).length = p.2.1.length := by
    have hlt : st < (booksM p.1.1 p.1.2 p.2.1).length := by rw [len_books _ _ _ hlf, ok.legs]; omega
    rw [List.getD_eq_getElem?_getD, List.getElem?_eq_getElem hlt]
    exact books_rows _ _ _ _ (List.getElem_mem hlt)
  refine ⟨_, rfl, q, _, r, _, rfl, rfl, SqL.of hq, atI_nat (v := .int (((booksM p.1.1 p.1.2 p.2.1).getD st []).getD r 0)) ?_, k H2 s2⟩
  rw [List.getElem?_map, List.getD_eq_getElem?_getD (i := r), List.getElem?_eq_getElem (by omega)]
  rfl
/-! ### as_of(many), twin() -/
def spAsOf (K : PySem.W.Frag) (C : Addr) : Sp := fun vs H Q _ => ∃ (h l : Addr) (ps : List Page) (n : Int) (p : Page), vs = [.ref h, .int ((ps.length : Nat) - 1)] ∧ HouseAt K C H h l ps n ∧ ps.getLast? = some p ∧
  ∀ x l' H', Same H H' → H x = none → H l' = none → HouseAt K C H' x l' ps n → Q (.ref x) H'
theorem ok_asof (T : HT K mg C) (D : Mfn K C "as_of" "House.as_of" s_House_as_of ["self", "many"]) (h1 : MCal P w K mg base C CX0 "deeds" 1 ["self"] (spHDeeds K C)) (h2 : MCal P w K mg base C CX0 "road" 1 ["self"] (spHRoad K C))
    (h3 : MCal P w K mg base C CX0 "__init__" 1 ["self", "road"] (spHInit K C)) : MCal P w K mg base C CX0 "as_of" 3 ["self", "many"] (spAsOf K C) := by
  have nd := s_House_as_of_sc.nd
  obtain ⟨f1, fd1, G1, m1, b1⟩ := h1
  obtain ⟨f2, fd2, G2, m2, b2⟩ := h2
  obtain ⟨f3, fd3, G3, m3, b3⟩ := h3
  refine D.cal s_House_as_of_sc (fun vs H Q E ⟨h, l, ps, n, p, e, _⟩ => by rw [e]; rfl) (fun f cdv A outer s H vs Q E hr h => ?_)
  obtain ⟨h, l, ps, n, p, rfl, ha, hp, k⟩ := h
  obtain ⟨dx, vs, e1, e2, e3⟩ := id ha
  have nD : (hF l n).lookup ("deeds" : Str) = none := hF_no l n (by decide +kernel) (by decide +kernel)
  have nR : (hF l n).lookup ("road" : Str) = none := hF_no l n (by decide +kernel) (by decide +kernel)
  refine ⟨_, PSs.nox (pss_cons (ps_if (pt_not (pt_chain op_le op_le pe_int (pv 1) (pe_meth0 (pv 0) T.cl m1 G1 (hr.mono (by decide)) b1 .nil pass0))) (pss_one ps_never) pss_nil)
      (pss_cons (ps_set (i := 2) nd rfl (.inl rfl) (pe_make ⟨T.mks, m3.at_, m3.fn, T.kp⟩ G3 (hr.mono (by decide)) (by rfl) T.g b3 .nil pass0 (pa_cons (pe_meth0 (pv 0) T.cl m2 G2 (hr.mono (by decide)) b2 .nil pass0) pa_nil)))
      (pss_cons (ps_fld (pv 2) (pe_slice sl_list (pe_fld (pv 0) rfl) po_none (po_some (pe_op op_add (pv 1) pe_int))) rfl)
      (pss_cons (ps_fld (pv 2) (pe_fld (pv 0) rfl) rfl)
      (pss_one (ps_ret (pv 2))))))), ?_⟩
  have hpos : 0 < ps.length := List.length_pos_iff.mpr fun z => by rw [z] at hp; cases hp
  refine ⟨_, rfl, _, _, rfl, rfl, _, rfl, ?_⟩
  refine ifT (decide_eq_true (by omega)) ?_
  refine ⟨_, rfl, h, dx, _, rfl, e1, nD, h, l, ps, n, rfl, ha, _, _, rfl, rfl, _, rfl, ?_⟩
  rw [decide_eq_true (by omega)]
  refine iteF ?_
  refine ⟨_, rfl, h, dx, _, rfl, e1, nR, h, l, ps, n, p, rfl, ha, hp, fun v hv => ?_⟩
  intro x d nx nd' hne
  have s0 : Same H (upd H d (.own x)) := Same.upd nd'
  have hv1 : Dp K (upd (upd H d (.own x)) x (.ins C d [])) v (roadD p.1) := Dp.same (fun b o e => by rw [upd_ne (ne_of_none e nx)]; exact s0 _ _ e) hv
  refine ⟨x, d, v, p.1, rfl, upd_same, hv1, fun l0 H3 kp nl0 a0 => ⟨rfl, ?_⟩⟩
  have s3 : Same H H3 := Same.made nx nd' kp
  obtain ⟨dx3, vs3, y1, y2, y3⟩ := a0
  refine ⟨_, rfl, h, C, dx, _, _, rfl, s3 _ _ e1, T.cl, T.nP, hF_pages _ _, _, rfl, _, _, rfl, rfl, _, rfl, l, vs, rfl, SqL.of (s3 _ _ e2), fun D0 nD0 => ?_⟩
  have hvl : vs.length = ps.length := by rw [DpAll.length e3, List.length_map]
  have ecut : cutV vs none (some (((ps.length : Nat) : Int) - 1 + 1)) = vs := by
    rw [show ((ps.length : Nat) : Int) - 1 + 1 = ((ps.length : Nat) : Int) by omega, RhR.cutV_take, ← hvl, List.take_length]
  rw [ecut]
  have s4 := Same.upd (o := .lst vs) nD0
  have s34 := s3.trans s4
  have y1' := s4 _ _ y1
  have hxD : x ≠ D0 := fun z => by rw [z] at y1; rw [y1] at nD0; cases nD0
  have eD : upd H3 D0 (.lst vs) D0 = some (.lst vs) := upd_same
  have nD1 : H D0 = none := Same.free s3 nD0
  generalize (upd H3 D0 (.lst vs)) = H4 at s4 s34 y1' eD
  refine ⟨_, rfl, x, C, dx3, _, rfl, y1', T.cl, T.nP, (by show 2 < 1000; decide), ?_⟩
  rw [hF_putP]
  have hhx : h ≠ x := fun z => by rw [z, nx] at e1; cases e1
  refine ⟨_, rfl, h, C, dx, _, _, rfl, by rw [upd_ne hhx]; exact s34 _ _ e1, T.cl, T.nS, hF_sent _ _, _, rfl, x, C, dx3, _, rfl, upd_same, T.cl, T.nS, (by show 2 < 1000; decide), ?_⟩
  rw [hF_putS]
  have fr5 : Fr [x] H4 (upd H4 x (.ins C dx3 (hF D0 0))) := Fr.ins y1' (by simp)
  have fr6 : Fr [x] _ (upd (upd H4 x (.ins C dx3 (hF D0 0))) x (.ins C dx3 (hF D0 n))) := Fr.ins upd_same (by simp)
  have fr46 := fr5.trans fr6
  refine ⟨_, rfl, k x D0 _ (Fr.beside s34 fr46 (fun z hz => by rw [List.mem_singleton.mp hz]; exact nx)) nx nD1 ⟨dx3, vs, upd_same, ?_, DpAll.fr fr46 (noLs_pages _) (DpAll.same s34 e3)⟩⟩
  rw [upd_ne hxD.symm, upd_ne hxD.symm]
  exact eD
def spTwin (K : PySem.W.Frag) (C : Addr) : Sp := fun vs H Q _ => ∃ (h l : Addr) (ps : List Page) (n : Int) (p : Page), vs = [.ref h] ∧ HouseAt K C H h l ps n ∧ ps.getLast? = some p ∧ ∀ x l' H', Same H H' → H x = none → H l' = none → HouseAt K C H' x l' ps n → Q (.ref x) H'
theorem ok_twin (T : HT K mg C) (D : Mfn K C "twin" "House.twin" s_House_twin ["self"]) (h1 : MCal P w K mg base C CX0 "deeds" 1 ["self"] (spHDeeds K C)) (h2 : MCal P w K mg base C CX0 "as_of" 3 ["self", "many"] (spAsOf K C)) : MCal P w K mg base C CX0 "twin" 4 ["self"] (spTwin K C) := by
  have nd := s_House_twin_sc.nd
  obtain ⟨f1, fd1, G1, m1, b1⟩ := h1
  obtain ⟨f2, fd2, G2, m2, b2⟩ := h2
  refine D.cal s_House_twin_sc (fun vs H Q E ⟨h, l, ps, n, p, e, _⟩ => by rw [e]; rfl) (fun f cdv A outer s H vs Q E hr h => ?_)
  obtain ⟨h, l, ps, n, p, rfl, ha, hp, k⟩ := h
  obtain ⟨dx, vs, e1, e2, e3⟩ := id ha
  have nD : (hF l n).lookup ("deeds" : Str) = none := hF_no l n (by decide +kernel) (by decide +kernel)
  have nA : (hF l n).lookup ("as_of" : Str) = none := hF_no l n (by decide +kernel) (by decide +kernel)
  refine ⟨_, PSs.nox (pss_one (ps_ret (pe_meth (pv 0) T.cl m2 G2 (hr.mono (by decide)) b2 .nil pass0 (pa_cons (pe_meth0 (pv 0) T.cl m1 G1 (hr.mono (by decide)) b1 .nil pass0) pa_nil)))), ?_⟩
  exact ⟨_, rfl, h, dx, _, rfl, e1, nA, _, rfl, h, dx, _, rfl, e1, nD, h, l, ps, n, rfl, ha, h, l, ps, n, p, rfl, ha, hp, k⟩
/-! ### ==, len -/
def spHEq (K : PySem.W.Frag) (C : Addr) : Sp := fun vs H Q _ => ∃ (h l h' l' : Addr) (ps ps' : List Page) (n n' : Int) (p p' : Page), vs = [.ref h, .ref h'] ∧ HouseAt K C H h l ps n ∧ ps.getLast? = some p ∧ HouseAt K C H h' l' ps' n' ∧ ps'.getLast? = some p' ∧ p.1 = p'.1 ∧ p.2.1 = p'.2.1 ∧
  ∀ H', Same H H' → Q (.bl true) H'
theorem ok_heq (B : Bn mg) (T : HT K mg C) (D : Mfn K C "__eq__" "House.__eq__" s_House_eq ["self", "other"]) (h1 : MCal P w K mg base C CX0 "road" 1 ["self"] (spHRoad K C)) (h2 : MCal P w K mg base C CX0 "sets" 1 ["self"] (spHSets K C)) :
    MCal P w K mg base C CX0 "__eq__" 2 ["self", "other"] (spHEq K C) := by
  have nd := s_House_eq_sc.nd
  obtain ⟨f1, fd1, G1, m1, b1⟩ := h1
  obtain ⟨f2, fd2, G2, m2, b2⟩ := h2
  refine D.cal s_House_eq_sc (fun vs H Q E ⟨h, l, h', l', ps, ps', n, n', p, p', e, _⟩ => by rw [e]; rfl) (fun f cdv A outer s H vs Q E hr h => ?_)
  obtain ⟨h, l, h', l', ps, ps', n, n', p, p', rfl, ha, hp, ha', hp', q1, q2, k⟩ := h
  obtain ⟨dx, vs, e1, e2, e3⟩ := id ha
  obtain ⟨dx', vs', e1', e2', e3'⟩ := id ha'
  have nR : (hF l n).lookup ("road" : Str) = none := hF_no l n (by decide +kernel) (by decide +kernel)
  have nS : (hF l n).lookup ("sets" : Str) = none := hF_no l n (by decide +kernel) (by decide +kernel)
  have nR' : (hF l' n').lookup ("road" : Str) = none := hF_no l' n' (by decide +kernel) (by decide +kernel)
  have nS' : (hF l' n').lookup ("sets" : Str) = none := hF_no l' n' (by decide +kernel) (by decide +kernel)
  refine ⟨_, PSs.nox (pss_cons (ps_if (pt_not (pt_val (pe_callB call_isi (by rfl) B.isi (by decide +kernel) (pa_cons (pv 1) (pa_cons (pe_glob (v := .ref C) rfl T.g rfl) pa_nil))))) (pss_one (ps_ret pe_bl)) pss_nil)
      (pss_one (ps_ret (pe_cmpR (op_eqD hr.units) (pe_tup (pa_cons (pe_meth0 (pv 0) T.cl m1 G1 (hr.mono (by decide)) b1 .nil pass0) (pa_cons (pe_meth0 (pv 0) T.cl m2 G2 (hr.mono (by decide)) b2 .nil pass0) pa_nil))) (pe_tup (pa_cons (pe_meth0 (pv 1) T.cl m1 G1 (hr.mono (by decide)) b1 .nil pass0) (pa_cons (pe_meth0 (pv 1) T.cl m2 G2 (hr.mono (by decide)) b2 .nil pass0) pa_nil))) (nomark _))))), ?_⟩
  refine ⟨_, rfl, _, _, _, _, true, rfl, .own C, .base (.ins e1' T.cl T.ca T.cn T.ct T.cm), T.kS, _, rfl, ?_⟩
  refine iteF ?_
  refine ⟨_, rfl, h, dx, _, rfl, e1, nR, h, l, ps, n, p, rfl, ha, hp, fun r hr1 => ?_⟩
  refine ⟨_, rfl, h, dx, _, rfl, e1, nS, h, l, ps, n, p, rfl, ha, hp, fun u hu1 => ?_⟩
  refine ⟨(by show 2 ≤ sizeLine; decide), fun t nt => ?_⟩
  have s1 := Same.upd (o := .tup [r, u]) nt
  refine ⟨_, rfl, h', dx', _, rfl, s1 _ _ e1', nR', h', l', ps', n', p', rfl, ha'.same s1, hp', fun r' hr2 => ?_⟩
  refine ⟨_, rfl, h', dx', _, rfl, s1 _ _ e1', nS', h', l', ps', n', p', rfl, ha'.same s1, hp', fun u' hu2 => ?_⟩
  refine ⟨(by show 2 ≤ sizeLine; decide), fun t' nt' => ?_⟩
  have s2 := Same.upd (o := .tup [r', u']) nt'
  refine ⟨hsD p.1 p.2.1, hsD p.1 p.2.1, .tup (SqT.of (s2 _ _ upd_same)) (.cons (Dp.same (s1.trans s2) hr1) (.cons (Dp.same (s1.trans s2) hu1) .nil)), ?_, shaped_hs _ _, shaped_hs _ _, ?_⟩
  · rw [q1, q2]
    exact .tup (SqT.of upd_same) (.cons (Dp.same s2 hr2) (.cons (Dp.same s2 hu2) .nil))
  · rw [SeqAt.eqv_refl _ (SeqAt.canLay_of_shaped (shaped_hs _ _))]
    exact k _ (s1.trans s2)
def spHLen (K : PySem.W.Frag) (C : Addr) : Sp := fun vs H Q _ => ∃ (h l : Addr) (ps : List Page) (n : Int) (p : Page), vs = [.ref h] ∧ HouseAt K C H h l ps n ∧ ps.getLast? = some p ∧ Q (.int (p.2.1.length : Nat)) H
theorem ok_hlen (B : Bn mg) (T : HT K mg C) (D : Mfn K C "__len__" "House.__len__" s_House_len ["self"]) (h2 : MCal P w K mg base C CX0 "sets" 1 ["self"] (spHSets K C)) : MCal P w K mg base C CX0 "__len__" 2 ["self"] (spHLen K C) := by
  have nd := s_House_len_sc.nd
  obtain ⟨f2, fd2, G2, m2, b2⟩ := h2
  refine D.cal s_House_len_sc (fun vs H Q E ⟨h, l, ps, n, p, e, _⟩ => by rw [e]; rfl) (fun f cdv A outer s H vs Q E hr h => ?_)
  obtain ⟨h, l, ps, n, p, rfl, ha, hp, k⟩ := h
  obtain ⟨dx, vs, e1, e2, e3⟩ := id ha
  have nS : (hF l n).lookup ("sets" : Str) = none := hF_no l n (by decide +kernel) (by decide +kernel)
  refine ⟨_, PSs.nox (pss_one (ps_ret (pe_callB call_len_seq (by rfl) B.len PySem.boot_len (pa_cons (pe_meth0 (pv 0) T.cl m2 G2 (hr.mono (by decide)) b2 .nil pass0) pa_nil)))), ?_⟩
  refine ⟨_, rfl, h, dx, _, rfl, e1, nS, h, l, ps, n, p, rfl, ha, hp, fun u hu => ?_⟩
  obtain ⟨a, rfl, hs⟩ := Dp.setsI hu
  refine ⟨a, _, rfl, .inr hs, ?_⟩
  rw [List.length_map]
  exact k
end
end Rh
end RhW7_
section RhW8_
set_option Elab.async false
set_option linter.all false
set_option maxRecDepth 100000
set_option maxHeartbeats 4000000
/-! A row of deeds. -/
namespace Rh
open PySem PySem.Spec PyProof.Rows L2
section
variable {P : Program} {w : World} {K : PySem.W.Frag} {mg : Str → Option Value} {base : Heap} {C : Addr}
/-- a deed as one tuple -/
def spOne (K : PySem.W.Frag) (C : Addr) (cx : Ex → Addr) : Sp := fun vs H Q E => ∃ (h l : Addr) (ps : List Page) (n : Int) (p : Page) (m : Nat) (d : Deed) (v : V), vs = [.ref h, v] ∧ Dp K H v (deedD d) ∧ HouseAt K C H h l ps n ∧ ps.getLast? = some p ∧ ps.length ≤ 100000 ∧ HOk m p n ∧
  (refus p.1 p.2.1 d = none → ∀ H', Fr [h, l] H H' → HouseAt K C H' h l (ps ++ [applyP p n d]) (applyN n d) → Q (.int (chg p (applyP p n d))) H') ∧ ∀ k y, refus p.1 p.2.1 d = some (k, y) → Rf (cx k) k.fld y H E
/-- the five methods -/
structure Five (P : Program) (w : World) (K : PySem.W.Frag) (mg : Str → Option Value) (base : Heap) (C : Addr) (cx : Ex → Addr) : Prop where
  send : MCal P w K mg base C (L2.CX P w) "send" 9 ["self", "beat"] (spDeed K C cx isSend)
  move : MvCal P w K mg base C (L2.CX P w) 9 (spDeed K C cx isMove)
  strike : MCal P w K mg base C (L2.CX P w) "strike" 9 ["self", "rider"] (spDeed K C cx isStrike)
  first : MCal P w K mg base C (L2.CX P w) "first" 9 ["self", "station", "beat"] (spDeed K C cx isFirst)
  leg : MCal P w K mg base C (L2.CX P w) "leg" 9 ["self", "station", "told"] (spDeed K C cx isLeg)
theorem word_ne {a b : Str} (h : decide (a = b) = false) : decide (V.str a = V.str b) = false := decide_eq_false fun z => of_decide_eq_false h (V.str.inj z)
theorem word_eq {a : Str} : decide (V.str a = V.str a) = true := decide_eq_true rfl
theorem ok_one {cx : Ex → Addr} (T : HT K mg C) (D : Mfn K C "one_done" "House.one_done" s_House_one_done ["self", "deed"]) (F5 : Five P w K mg base C cx) : MCal P w K mg base C (L2.CX P w) "one_done" 10 ["self", "deed"] (spOne K C cx) := by
  have nd := s_House_one_done_sc.nd
  obtain ⟨⟨f1, fd1, G1, m1, b1⟩, ⟨f2, fd2, G2, m2, kb1, kb2⟩, ⟨f3, fd3, G3, m3, b3⟩, ⟨f4, fd4, G4, m4, b4⟩, ⟨f5, fd5, G5, m5, b5⟩⟩ := F5
  refine D.cal s_House_one_done_sc (fun vs H Q E ⟨h, l, ps, n, p, m, d, v, e, _⟩ => by rw [e]; rfl) (fun f cdv A outer s H vs Q E hr h => ?_)
  obtain ⟨h, l, ps, n, p, m, d, v, rfl, hv, ha, hp, hpl, hok, k1, k2⟩ := h
  obtain ⟨a, xs, rfl, hx, hd⟩ := Dp.tupI hv
  obtain ⟨dx, vs, e1, e2, e3⟩ := id ha
  refine ⟨_, (pss_cons (ps_asg (pv 1) (RhR.pg_star (i := 2) (j := 3) rfl nd rfl rfl rfl rfl))
      (pss_cons (ps_if (pt_cmpR op_eq (pv 2) pe_str (nomark _)) (pss_one (ps_ret (RhR.pe_methS (pv 0) T.cl m1 G1 (hr.mono (by decide)) b1 (fun σ => passAt (takes_of rfl rfl rfl rfl) σ) (pa_cons (pe_ix ix_list (pv 3) pe_int (fun _ _ => rfl)) pa_nil)))) pss_nil)
      (pss_cons (ps_if (pt_cmpR op_eq (pv 2) pe_str (nomark _)) (pss_one (ps_ret (RhR.pe_methK (pv 0) T.cl m2 G2 (hr.mono (by decide)) kb1 (fun σ => passAt (takes_of rfl rfl rfl rfl) σ) (pa_cons (pe_ix ix_list (pv 3) pe_int (fun _ _ => rfl)) pa_nil) (pk_cons (pe_ix ix_list (pv 3) pe_int (fun _ _ => rfl)) pk_nil)))) pss_nil)
      (pss_cons (ps_if (pt_cmpR op_eq (pv 2) pe_str (nomark _)) (pss_one (ps_ret (RhR.pe_methS (pv 0) T.cl m3 G3 (hr.mono (by decide)) b3 (fun σ => passAt (takes_of rfl rfl rfl rfl) σ) (pa_cons (pe_ix ix_list (pv 3) pe_int (fun _ _ => rfl)) pa_nil)))) pss_nil)
      (pss_one (ps_ret (pe_ifExp (pt_cmpR op_eq (pv 2) pe_str (nomark _)) (RhR.pe_methS (pv 0) T.cl m4 G4 (hr.mono (by decide)) b4 (fun σ => passAt (takes_of rfl rfl rfl rfl) σ) (pa_cons (pe_ix ix_list (pv 3) pe_int (fun _ _ => rfl)) (pa_cons (pe_ix ix_list (pv 3) pe_int (fun _ _ => rfl)) pa_nil))) (RhR.pe_methS (pv 0) T.cl m5 G5 (hr.mono (by decide)) b5 (fun σ => passAt (takes_of rfl rfl rfl rfl) σ) (pa_cons (pe_ix ix_list (pv 3) pe_int (fun _ _ => rfl)) (pa_cons (pe_ix ix_list (pv 3) pe_int (fun _ _ => rfl)) pa_nil)))))))))), ?_⟩
  have nS : (hF l n).lookup ("send" : Str) = none := hF_no l n (by decide +kernel) (by decide +kernel)
  have nM : (hF l n).lookup ("move" : Str) = none := hF_no l n (by decide +kernel) (by decide +kernel)
  have nT : (hF l n).lookup ("strike" : Str) = none := hF_no l n (by decide +kernel) (by decide +kernel)
  have nF : (hF l n).lookup ("first" : Str) = none := hF_no l n (by decide +kernel) (by decide +kernel)
  have nL : (hF l n).lookup ("leg" : Str) = none := hF_no l n (by decide +kernel) (by decide +kernel)
  cases hd with
  | @cons _ ws _ _ dw das =>
    cases dw
    refine ⟨_, rfl, a, _, _, rfl, hx, ?_, fun t nt => ?_⟩
    · rw [DpAll.length das]
      have : d.args.length ≤ 2 := by cases d <;> simp [Deed.args]
      omega
    · have s1 := Same.upd (o := .lst ws) nt
      have x1 := s1 _ _ e1
      have fin : ∀ {d : Deed}, (refus p.1 p.2.1 d = none → ∀ H', Fr [h, l] H H' → HouseAt K C H' h l (ps ++ [applyP p n d]) (applyN n d) → Q (.int (chg p (applyP p n d))) H') → (∀ k y, refus p.1 p.2.1 d = some (k, y) → Rf (cx k) k.fld y H E) → ∀ {H1}, Same H H1 →
        (refus p.1 p.2.1 d = none → ∀ H', Fr [h, l] H1 H' → HouseAt K C H' h l (ps ++ [applyP p n d]) (applyN n d) → Q (.int (chg p (applyP p n d))) H') ∧ ∀ k y, refus p.1 p.2.1 d = some (k, y) → Rf (cx k) k.fld y H1 E :=
        fun k1 k2 _ s => ⟨fun r H' fr a' => k1 r H' ((Fr.of s).trans fr) a', fun k y r => Rf.same s (k2 k y r)⟩
      have das1 := DpAll.same s1 das
      cases d with
      | send b =>
        obtain ⟨v1, rfl, d1⟩ := DpAll.one das
        refine ⟨_, rfl, rfl, _, rfl, ifT word_eq ?_⟩
        exact ⟨_, rfl, h, dx, _, rfl, x1, nS, _, rfl, t, _, 0, _, rfl, rfl, SqL.of upd_same, rfl, h, l, ps, n, p, m, .send b, _, rfl, ⟨b, rfl⟩, das1, ha.same s1, hp, hpl, hok, fin k1 k2 s1⟩
      | move r b =>
        obtain ⟨v1, v2, rfl, d1, d2⟩ := DpAll.two das
        refine ⟨_, rfl, rfl, _, rfl, ifF (word_ne (a := "move") (by decide +kernel)) ?_⟩
        refine ⟨_, rfl, rfl, _, rfl, ifT word_eq ?_⟩
        exact ⟨_, rfl, h, dx, _, rfl, x1, nM, _, rfl, t, _, 0, _, rfl, rfl, SqL.of upd_same, rfl, _, rfl, t, _, 1, _, rfl, rfl, SqL.of upd_same, rfl, rfl, rfl, h, l, ps, n, p, m, .move r b, _, rfl, ⟨r, b, rfl⟩, das1, ha.same s1, hp, hpl, hok, fin k1 k2 s1⟩
      | strike r =>
        obtain ⟨v1, rfl, d1⟩ := DpAll.one das
        refine ⟨_, rfl, rfl, _, rfl, ifF (word_ne (a := "strike") (by decide +kernel)) ?_⟩
        refine ⟨_, rfl, rfl, _, rfl, ifF (word_ne (a := "strike") (by decide +kernel)) ?_⟩
        refine ⟨_, rfl, rfl, _, rfl, ifT word_eq ?_⟩
        exact ⟨_, rfl, h, dx, _, rfl, x1, nT, _, rfl, t, _, 0, _, rfl, rfl, SqL.of upd_same, rfl, h, l, ps, n, p, m, .strike r, _, rfl, ⟨r, rfl⟩, das1, ha.same s1, hp, hpl, hok, fin k1 k2 s1⟩
      | first r b =>
        obtain ⟨v1, v2, rfl, d1, d2⟩ := DpAll.two das
        refine ⟨_, rfl, rfl, _, rfl, ifF (word_ne (a := "first") (by decide +kernel)) ?_⟩
        refine ⟨_, rfl, rfl, _, rfl, ifF (word_ne (a := "first") (by decide +kernel)) ?_⟩
        refine ⟨_, rfl, rfl, _, rfl, ifF (word_ne (a := "first") (by decide +kernel)) ?_⟩
        refine ⟨_, rfl, rfl, _, rfl, ifT word_eq ?_⟩
        exact ⟨_, rfl, h, dx, _, rfl, x1, nF, _, rfl, t, _, 0, _, rfl, rfl, SqL.of upd_same, rfl, _, rfl, t, _, 1, _, rfl, rfl, SqL.of upd_same, rfl, h, l, ps, n, p, m, .first r b, _, rfl, ⟨r, b, rfl⟩, das1, ha.same s1, hp, hpl, hok, fin k1 k2 s1⟩
      | leg r g =>
        obtain ⟨v1, v2, rfl, d1, d2⟩ := DpAll.two das
        refine ⟨_, rfl, rfl, _, rfl, ifF (word_ne (a := "leg") (by decide +kernel)) ?_⟩
        refine ⟨_, rfl, rfl, _, rfl, ifF (word_ne (a := "leg") (by decide +kernel)) ?_⟩
        refine ⟨_, rfl, rfl, _, rfl, ifF (word_ne (a := "leg") (by decide +kernel)) ?_⟩
        refine ⟨_, rfl, rfl, _, rfl, ifF (word_ne (a := "leg") (by decide +kernel)) ?_⟩
        exact ⟨_, rfl, h, dx, _, rfl, x1, nL, _, rfl, t, _, 0, _, rfl, rfl, SqL.of upd_same, rfl, _, rfl, t, _, 1, _, rfl, rfl, SqL.of upd_same, rfl, h, l, ps, n, p, m, .leg r g, _, rfl, ⟨r, g, rfl⟩, das1, ha.same s1, hp, hpl, hok, fin k1 k2 s1⟩
/-! ### do(deeds) -/
def DoFn (K : PySem.W.Frag) (C : Addr) : Prop := ∃ (f : Addr) (fd : FuncData) (ds : List Value), FunD K "do" "House.do" (defArgs s_House_do) (defBody s_House_do) (defScope s_House_do) [] [("whole", .bl true)] f fd ∧ Meth K C "do" f ∧ Vals [V.bl true] ds ∧ L2.Binds K fd ["self", "deeds", "whole"] ds
def DoCal (P : Program) (w : World) (K : PySem.W.Frag) (mg : Str → Option Value) (base : Heap) (C : Addr) (k : Nat) (sp : Sp) : Prop := ∃ (f : Addr) (fd : FuncData) (ds : List Value), FnOk P w K mg base (L2.CX P w) k f fd ["self", "deeds", "whole"] sp ∧ Meth K C "do" f ∧ Vals [V.bl true] ds ∧ L2.Binds K fd ["self", "deeds", "whole"] ds
def spDoRow (K : PySem.W.Frag) (C : Addr) (cx : Ex → Addr) : Sp := fun vs H Q E => ∃ (h l dl : Addr) (S : HSt) (m B : Nat) (ds : List Deed) (vds : List V), vs = [.ref h, .ref dl, .bl true] ∧ H dl = some (.lst vds) ∧ DpAll K H vds (ds.map deedD) ∧ dl ≠ l ∧ HouseAt K C H h l S.1 S.2 ∧ HInv m S B ∧ B + ds.length ≤ 900 ∧
  (∀ S', runD S ds = some S' → ∀ H' q, Fr [h, l] H H' → H q = none → HouseAt K C H' h l S'.1 S'.2 → Q (.ref q) H') ∧
  (runD S ds = none → ∀ k y d l' n' H', S.2 ≤ n' → Fr [h, l] H H' → H l' = none → HouseAt K C H' h l' S.1 n' → H d = none → H' d = some (.xd [(Ex.fld k, .int y)]) → E (.ref (cx k)) (some d) H')
theorem noL_deed (d : Deed) : noL (deedD d) = true := by cases d <;> rfl
def tSuite (K : PySem.W.Frag) : TS := tIfS (tTest (tOp (fun x y H Q => y = .non ∧ Q (.bl (!decide (x = .non))) H) (tVar 6) (tC .non))) (sFld K (tVar 0) (tVar 6) "own_pages") tNext
def tRowB (K : PySem.W.Frag) (C : Addr) (cx : Ex → Addr) (W : WX) : TS := tSeq (tFor (iList K (tVar 1)) (gName 4) (tDrop (tBM K "list" rAppend (tVar 5) (tCons (RhR.tMethS C "one_done" (spOne K C cx) (WE W) (tVar 0) (tCons (tVar 4) tNil)) tNil)))) (tAsg (tC .non) (gName 6))
theorem ok_do {cx : Ex → Addr} (B : Bn mg) (T : HT K mg C) (D : DoFn K C) (h1 : Cal P w K mg base CX0 "is_deed" 1 ["thing"] (spIsDeed K)) (h2 : MCal P w K mg base C (L2.CX P w) "one_done" 10 ["self", "deed"] (spOne K C cx)) : DoCal P w K mg base C 11 (spDoRow K C cx) := by
  have nd := s_House_do_sc.nd
  obtain ⟨f1, fd1, G1, g1, k1, b1⟩ := h1
  obtain ⟨f2, fd2, G2, m2, b2⟩ := h2
  obtain ⟨f, fd, dv, F, mm, hdv, hb⟩ := D
  refine ⟨f, fd, dv, F.ok s_House_do_sc (fun vs H Q E ⟨h, l, dl, S, m, B, ds, vds, e, _⟩ => by rw [e]; rfl) (fun cdv A outer s H vs Q E hr h => ?_), mm, hdv, hb⟩
  obtain ⟨h, l, dl, S, m, B0, ds, vds, rfl, hdl, hdd, hndl, ha, hinv, hBd, kS, kN⟩ := h
  obtain ⟨dx, vs, e1, e2, e3⟩ := id ha
  refine ⟨_, (pss_cons (ps_for (passes_of rfl) rfl (pi_enum (by rfl) B.enum (pa_cons (pv 1) pa_nil)) (pg_tup rfl (pgs_cons (pg_name (i := 3) nd rfl (.inl rfl)) (pgs_cons (pg_name (i := 4) nd rfl (.inl rfl)) pgs_nil))) (pss_one (ps_if (pt_not (pt_val (pe_call G1 (hr.mono (by decide)) (by rfl) g1 k1 b1 .nil pass0 (pa_cons (pv 4) pa_nil)))) (pss_one ps_never) pss_nil)))
      (pss_cons (ps_par (i := 5) (j := 6) rfl nd rfl rfl (by decide) rfl rfl (pa_cons (pe_lst pa_nil) (pa_cons (pe_ifExp (pt_val (pv 2)) (pe_callTy call_list_of (by rfl) B.list (by decide +kernel) (pa_cons (pe_fld (pv 0) rfl) pa_nil)) pe_non) pa_nil)) (by rfl))
      (pss_cons (RhR.ps_fin (tb := tRowB K C cx) (tf := tSuite K) (tfs := tSuite K) rfl rfl rfl (takes_of rfl rfl rfl rfl)
      (fun W pn xe tk po => (pss_cons (ps_for po rfl (pi_list (pv 1)) (pg_name (i := 4) nd rfl (.inl rfl)) (pss_one (ps_expr (pe_bm PySem.F.plainAttrs_list PySem.F.slot_list_append PySem.F.type_list_append mt_append (pv 5) (pa_cons (RhR.pe_methS (pv 0) T.cl m2 G2 (hr.mono (by decide)) b2 (fun σ => passAt tk σ) (pa_cons (pv 4) pa_nil)) pa_nil)))))
      (pss_one (ps_set (i := 6) nd rfl (.inl rfl) pe_non))))
      (pss_one (ps_if (pt_cmpR op_notN (pv 6) pe_non (nomark _)) (pss_one (ps_fld (pv 0) (pv 6) rfl)) pss_nil)) (fun a pn => (pss_one (ps_if (pt_cmpR op_notN (pv 6) pe_non (nomark _)) (pss_one (ps_fld (pv 0) (pv 6) rfl)) pss_nil))))
      (pss_one (ps_ret (pv 5)))))), ?_⟩
  have hvl : vs.length = S.1.length := by rw [DpAll.length e3, List.length_map]
  have hvd : vds.length = ds.length := by rw [DpAll.length hdd, List.length_map]
  have hSl := hinv.len
  -- the first loop
  refine ⟨_, rfl, dl, vds, rfl, SqL.of hdl, for_it walk_enum (fun i σ H' => (∃ x y, σ = [some (.ref h), some (.ref dl), some (.bl true), x, y, none, none]) ∧ Same H H') ⟨⟨none, none, rfl⟩, Same.refl _⟩ (fun i σ H' _ q => SqL.of (q.2 _ _ hdl)) (fun i x σ H1 H2 hi q y => ?_) (fun σ H1 q => ?_)⟩
  · obtain ⟨⟨x0, y0, rfl⟩, s1⟩ := q
    obtain ⟨Tt, x, z, rfl, nT, rfl, ex1, ex2⟩ := y
    have s2 := Same.upd (o := .tup [x, z]) nT
    obtain ⟨dd, hdd1, hz⟩ := DpAll.at' hdd ex2
    obtain ⟨d, _, rfl⟩ := map_at hdd1
    refine ⟨Tt, _, rfl, SqT.of upd_same, rfl, _, _, rfl, _, _, rfl, rfl, ?_⟩
    refine ⟨_, rfl, z, d, rfl, Dp.same (s1.trans s2) hz, fun H3 s3 => ⟨_, rfl, ?_⟩⟩
    exact iteF ⟨⟨_, _, rfl⟩, (s1.trans s2).trans s3⟩
  · obtain ⟨⟨x0, y0, rfl⟩, s1⟩ := q
    -- told, back
    refine ⟨Nat.zero_le _, fun TL nTL => ?_⟩
    have s2 := Same.upd (o := .lst []) nTL
    have s12 := s1.trans s2
    refine ⟨_, rfl, _, rfl, ?_⟩
    refine iteT ?_
    refine ⟨_, rfl, h, C, dx, _, _, rfl, s12 _ _ e1, T.cl, T.nP, hF_pages _ _, l, vs, rfl, .inl (SqL.of (s12 _ _ e2)), fun BK nBK => ⟨_, _, rfl, ?_⟩⟩
    have s3 := Same.upd (o := .lst vs) nBK
    have s13 := s12.trans s3
    have nTL0 : H TL = none := Same.free s1 nTL
    have nBK0 : H BK = none := Same.free s12 nBK
    have eTL := s3 _ _ (upd_same (H := H1) (a := TL) (o := .lst []))
    have eBK : upd (upd H1 TL (.lst [])) BK (.lst vs) BK = some (.lst vs) := upd_same
    have hBT : BK ≠ TL := fun z => by rw [z, upd_same] at nBK; cases nBK
    have hBh : BK ≠ h := fun z => by rw [z, e1] at nBK0; cases nBK0
    have hBl : BK ≠ l := fun z => by rw [z, e2] at nBK0; cases nBK0
    have hdh : dl ≠ h := fun z => by rw [z, e1] at hdl; cases hdl
    have hdT : dl ≠ TL := fun z => by rw [z, nTL0] at hdl; cases hdl
    generalize (upd (upd H1 TL (.lst [])) BK (.lst vs)) = H2 at s3 s13 eTL eBK
    refine ⟨_, rfl, dl, rfl, ⟨_, SqL.of (s13 _ _ hdl)⟩, ?_⟩
    refine for_it (walk_list (xs := vds)) (fun i σ H' => ∃ x y z S1 ts, σ = [some (.ref h), some (.ref dl), some (.bl true), x, y, some (.ref TL), some (.ref BK)] ∧ Fr [h, l, TL] H2 H' ∧ HouseAt K C H' h l S1.1 S1.2 ∧ HInv m S1 (B0 + i) ∧ S.2 ≤ S1.2 ∧ runD S ds = runD S1 (ds.drop i) ∧ H' TL = some (.lst ts) ∧ ts.length = i ∧ z = (0 : Nat))
      ⟨x0, y0, 0, S, [], rfl, Fr.refl, ha.same s13, hinv, Int.le_refl _, by rw [List.drop_zero], eTL, rfl, rfl⟩ (fun i σ H' _ q => ?_) (fun i x σ H3 H4 hi q y => ?_) (fun σ H3 q => ?_)
    · obtain ⟨x, y, z, S1, ts, _, fr, _⟩ := q
      exact SqL.of (fr.keep _ _ (s13 _ _ hdl) (by simp [hdh, hndl, hdT]))
    · obtain ⟨x1, y1, z1, S1, ts, rfl, fr, aS, iS, hle, hrun, eT3, hts, rfl⟩ := q
      obtain ⟨rfl, ex⟩ := y
      rw [hvd] at hi
      obtain ⟨dd, hdd1, hz⟩ := DpAll.at' hdd ex
      obtain ⟨d, hd, rfl⟩ := map_at hdd1
      have fr04 : Fr [h, l, TL] H H4 := (Fr.of s13).trans fr
      have hz4 : Dp K H4 x (deedD d) := Dp.fr fr04 (noL_deed d) hz
      obtain ⟨p, hp⟩ : ∃ p, S1.1.getLast? = some p := ⟨_, List.getLast?_eq_some_getLast iS.ne⟩
      obtain ⟨dx4, vs4, y1', y2', y3'⟩ := id aS
      have nO : (hF l S1.2).lookup ("one_done" : Str) = none := hF_no l S1.2 (by decide +kernel) (by decide +kernel)
      have hdrop : ds.drop i = d :: ds.drop (i + 1) := by
        rw [List.getElem?_eq_some_iff] at hd
        obtain ⟨hlt, e⟩ := hd
        rw [List.drop_eq_getElem_cons hlt, e]
      have hrun2 : runD S ds = match refus p.1 p.2.1 d with | none => runD (S1.1 ++ [applyP p S1.2 d], applyN S1.2 d) (ds.drop (i + 1)) | some _ => none := by
        rw [hrun, hdrop, runD, hp] <;> rfl
      refine ⟨_, rfl, .inl ⟨rfl, _, SqL.of eT3⟩, ?_⟩
      have iSl := iS.len
      refine ⟨_, rfl, h, dx4, _, rfl, y1', nO, _, rfl, h, l, S1.1, S1.2, p, m, d, x, rfl, hz4, aS, hp, by omega, iS.hok hp, fun hnone H5 fr5 a5 => ?_, fun k y hsome d0 H5 s5 nd0 hd0 => ?_⟩
      · rw [hnone] at hrun2
        have hTh : TL ≠ h := fun z => by rw [z, e1] at nTL0; cases nTL0
        have hTl : TL ≠ l := fun z => by rw [z, e2] at nTL0; cases nTL0
        have eT5 := fr5.keep _ _ eT3 (by simp [hTh, hTl])
        have fr6 : Fr [h, l, TL] H5 (upd H5 TL (.lst (ts ++ [.int (chg p (applyP p S1.2 d))]))) := Fr.lst eT5 (by simp)
        refine ⟨TL, ts, _, rfl, rfl, eT5, by rw [sizeLine_eq]; omega, _, _, 0, (S1.1 ++ [applyP p S1.2 d], applyN S1.2 d), _, rfl, (fr.trans (fr5.mono (by simp))).trans fr6, ?_, iS.next hp (by omega), Int.le_trans hle (applyN_le _ _), hrun2, upd_same, by rw [List.length_append, hts]; rfl, rfl⟩
        obtain ⟨dx5, vs5, z1', z2', z3'⟩ := a5
        exact ⟨dx5, vs5, by rw [upd_ne hTh.symm]; exact z1', by rw [upd_ne hTl.symm]; exact z2', DpAll.fr fr6 (noLs_pages _) z3'⟩
      · rw [hsome] at hrun2
        have frB := (Fr.of s13 (S := [h, l, TL])).trans fr
        have hTh : TL ≠ h := fun z => by rw [z, e1] at nTL0; cases nTL0
        have eB4 := s5 _ _ (fr.keep _ _ eBK (by simp [hBh, hBl, hBT]))
        have y1'' := s5 _ _ y1'
        refine ⟨_, rfl, rfl, _, rfl, ?_⟩
        refine ifT (by simp) ?_
        refine ⟨_, rfl, _, rfl, h, C, dx4, _, rfl, y1'', T.cl, T.nP, (by show 2 < 1000; decide), ?_⟩
        rw [hF_putP]
        have fr7 : Fr [h, l, TL] H5 (upd H5 h (.ins C dx4 (hF BK S1.2))) := Fr.ins y1'' (by simp)
        have frH : Fr [h, l, TL] H (upd H5 h (.ins C dx4 (hF BK S1.2))) := (frB.trans (Fr.of s5)).trans fr7
        have nd00 : H d0 = none := by
          cases e : H d0 with
          | none => rfl
          | some o =>
            by_cases hm : d0 ∈ [h, l, TL]
            · simp only [List.mem_cons, List.not_mem_nil, or_false] at hm
              rcases hm with z | z | z
              · rw [z, y1'] at nd0; cases nd0
              · rw [z, y2'] at nd0; cases nd0
              · rw [z, eT3] at nd0; cases nd0
            · have := frB.keep _ _ e hm
              rw [this] at nd0
              cases nd0
        have hdh0 : d0 ≠ h := fun z => by rw [z, y1'] at nd0; cases nd0
        refine kN hrun2 k y d0 BK S1.2 _ hle ⟨fun b o e hb => frH.keep b o e ?_, frH.tk⟩ nBK0 ⟨dx4, vs, upd_same, by rw [upd_ne hBh]; exact eB4, DpAll.fr frH (noLs_pages _) e3⟩ nd00 (by rw [upd_ne hdh0]; exact hd0)
        have hbT : b ≠ TL := fun z => by rw [z, nTL0] at e; cases e
        simp only [List.mem_cons, List.not_mem_nil, or_false] at hb ⊢
        exact fun z => z.elim (fun z => hb (.inl z)) fun z => z.elim (fun z => hb (.inr z)) hbT
    · obtain ⟨x1, y1, z1, S1, ts, rfl, fr, aS, iS, hle, hrun, eT3, hts, rfl⟩ := q
      rw [hvd, List.drop_length] at hrun
      refine ⟨_, rfl, rfl, _, rfl, ?_⟩
      refine ifF (by simp) ?_
      have frH : Fr [h, l, TL] H H3 := (Fr.of s13).trans fr
      refine ⟨_, rfl, kS S1 (by rw [hrun, runD]) H3 TL ⟨fun b o e hb => frH.keep b o e ?_, frH.tk⟩ nTL0 aS⟩
      have hbT : b ≠ TL := fun z => by rw [z, nTL0] at e; cases e
      simp only [List.mem_cons, List.not_mem_nil, or_false] at hb ⊢
      exact fun z => z.elim (fun z => hb (.inl z)) fun z => z.elim (fun z => hb (.inr z)) hbT
end
end Rh
end RhW8_
section RhW9_
set_option Elab.async false
set_option linter.all false
set_option maxRecDepth 100000
set_option maxHeartbeats 4000000
/-! Chains. -/
namespace Rh
open PySem PySem.Spec PyProof.Rows L2
section
variable {P : Program} {w : World} {K : PySem.W.Frag} {mg : Str → Option Value} {base : Heap}
/-- the words -/
structure Wd (K : PySem.W.Frag) (mg : Str → Option Value) : Prop where
  least : ∃ t, mg "LEAST" = some (.str "least" t)
  horse : ∃ t, mg "HORSE" = some (.str "horse" t)
  most : ∃ t, mg "MOST" = some (.str "most" t)
  set : ∃ t, mg "SET" = some (.str "set" t)
  first : ∃ t, mg "FIRST" = some (.str "first" t)
  parts : ∃ t, mg "STEP_PARTS" = some (.int 4 t)
  words : ∃ a, mg "WORDS" = some (.ref a) ∧ (∃ o, K.lookup a = some o ∧ o.cls = .type "tuple" ∧ o.dict = none) ∧ ∀ H, SqT K H a [V.str "least", V.str "horse", V.str "most"]
theorem rowsAt {N : Addr → Prop} {H : Hp} {p : Addr} {bs : List (List Int)} {s : Nat} {b : List Int} (r : Rows N H p bs) (h : bs[s]? = some b) : ∃ vs q, H p = some (.lst vs) ∧ vs[s]? = some (.ref q) ∧ IL H q b := by
  obtain ⟨vs, h1, _, _, h4⟩ := r
  obtain ⟨q, e1, _, e3⟩ := h4 s b h
  exact ⟨vs, q, h1, e1, e3⟩
/-! ### three_by(road, books, rider, station) -/
def spThree (K : PySem.W.Frag) : Sp := fun vs H Q _ => ∃ (v : V) (p : Addr) (r s : Nat) (rd : Road) (bs : List (List Int)) (g : Leg) (f c hb : Int) (here : List Int), vs = [v, .ref p, .int r, .int (s + 1 : Nat)] ∧ Dp K H v (roadD rd) ∧ Rows (fun _ => True) H p bs ∧ rd.1[s]? = some g ∧ rd.2[s]? = some f ∧ bs[s]? = some here ∧
  here[r]? = some c ∧ ((f :: here).dropLast)[r]? = some hb ∧ here.length ≤ 1000 ∧ ∀ t H', Same H H' → H t = none → H' t = some (.tup [.int (c + g.2.1), .int (hb + g.1), .int (c + g.2.2)]) → Q (.ref t) H'
theorem ok_three (D : Dfn K mg "three_by" s_three_by ["road", "books", "rider", "station"]) (h1 : Cal P w K mg base CX0 "horses_at" 1 ["first", "comes"] (spHorses K)) : Cal P w K mg base CX0 "three_by" 2 ["road", "books", "rider", "station"] (spThree K) := by
  have nd := s_three_by_sc.nd
  obtain ⟨f1, fd1, G1, g1, k1, b1⟩ := h1
  refine D.cal s_three_by_sc (fun vs H Q E ⟨v, p, r, s, rd, bs, g, f, c, hb, here, e, _⟩ => by rw [e]; rfl) (fun f cdv A outer s H vs Q E hr h => ?_)
  obtain ⟨v, p, r, s, rd, bs, g, f, c, hb, here, rfl, hv, hp, eg, ef, eb, ec, eh, hl, k⟩ := h
  obtain ⟨ra, rb, rc, ls, rfl, r1, r2, r3, r4⟩ := Dp.roadI hv
  obtain ⟨ws, q, e1, e2, e3⟩ := rowsAt hp eb
  obtain ⟨gv, hgv, dg⟩ := DpAll.at r3 (at_map (f := legD) eg)
  obtain ⟨ga, rfl, hga⟩ := Dp.legI dg
  have es : ((s + 1 : Nat) : Int) - 1 = (s : Nat) := by omega
  refine ⟨_, PSs.nox (pss_cons (ps_asg (pv 0) (pg_tup rfl (pgs_cons (pg_name (i := 4) nd rfl (.inl rfl)) (pgs_cons (pg_name (i := 5) nd rfl (.inl rfl)) pgs_nil))))
      (pss_cons (ps_asg (pe_ix ix_tup (pv 4) (pe_op op_sub (pv 3) pe_int) (fun _ _ => rfl)) (pg_tup rfl (pgs_cons (pg_name (i := 6) nd rfl (.inl rfl)) (pgs_cons (pg_name (i := 7) nd rfl (.inl rfl)) (pgs_cons (pg_name (i := 8) nd rfl (.inl rfl)) pgs_nil)))))
      (pss_cons (ps_set (i := 9) nd rfl (.inl rfl) (pe_ix ix_list (pv 1) (pe_op op_sub (pv 3) pe_int) (fun _ _ => rfl)))
      (pss_cons (ps_set (i := 10) nd rfl (.inl rfl) (pe_ix ix_list (pe_call G1 (hr.mono (by decide)) (by rfl) g1 k1 b1 .nil pass0 (pa_cons (pe_ix ix_tup (pv 5) (pe_op op_sub (pv 3) pe_int) (fun _ _ => rfl)) (pa_cons (pv 9) pa_nil))) (pv 2) (fun _ _ => rfl)))
      (pss_one (ps_ret (pe_tup (pa_cons (pe_op op_add (pe_ix ix_list (pv 9) (pv 2) (fun _ _ => rfl)) (pv 7)) (pa_cons (pe_op op_add (pv 10) (pv 6)) (pa_cons (pe_op op_add (pe_ix ix_list (pv 9) (pv 2) (fun _ _ => rfl)) (pv 8)) pa_nil)))))))))), ?_⟩
  refine ⟨_, rfl, ra, _, rfl, r1, rfl, _, _, rfl, _, _, rfl, rfl, ?_⟩
  refine ⟨_, rfl, _, rfl, _, _, rfl, rfl, rb, ls, _, _, rfl, rfl, r2, by rw [es]; exact atI_nat hgv, ga, _, rfl, hga, rfl, _, _, rfl, _, _, rfl, _, _, rfl, rfl, ?_⟩
  refine ⟨_, rfl, _, rfl, _, _, rfl, rfl, p, ws, _, _, rfl, rfl, SqL.of e1, by rw [es]; exact atI_nat e2, ?_⟩
  refine ⟨_, rfl, _, rfl, _, _, rfl, rfl, rc, _, _, .int f, rfl, rfl, r4, by rw [es]; exact atI_nat (at_map ef), _, rfl, f, q, here, rfl, e3, hl, fun x H1 s1 nx hx => ?_⟩
  refine ⟨_, rfl, x, _, _, .int hb, rfl, rfl, SqL.of hx, atI_nat (at_map eh), ?_⟩
  have hq := s1 _ _ e3
  refine ⟨_, rfl, _, rfl, q, _, _, .int c, rfl, rfl, SqL.of hq, atI_nat (at_map ec), _, rfl, _, _, rfl, rfl, _, rfl, _, rfl, _, _, rfl, rfl, _, rfl, _, rfl, q, _, _, .int c, rfl, rfl, SqL.of hq, atI_nat (at_map ec), _, rfl, _, _, rfl, rfl, (by show 3 ≤ sizeLine; decide), fun t nt => ?_⟩
  exact k t _ (s1.trans (Same.upd nt)) (Same.free s1 nt) upd_same
/-! ### word_of(beats, beat) -/
def wordM (x y z b : Int) : Str := if y = b then "horse" else if x = b then "least" else "most"
def spWord (K : PySem.W.Frag) : Sp := fun vs H Q _ => ∃ (t : Addr) (x y z b : Int), vs = [.ref t, .int b] ∧ SqT K H t [.int x, .int y, .int z] ∧ Q (.str (wordM x y z b)) H
theorem ok_word (W : Wd K mg) (D : Dfn K mg "word_of" s_word_of ["beats", "beat"]) : Cal P w K mg base CX0 "word_of" 1 ["beats", "beat"] (spWord K) := by
  have nd := s_word_of_sc.nd
  obtain ⟨t1, w1⟩ := W.least
  obtain ⟨t2, w2⟩ := W.horse
  obtain ⟨t3, w3⟩ := W.most
  refine D.cal s_word_of_sc (fun vs H Q E ⟨t, x, y, z, b, e, _⟩ => by rw [e]; rfl) (fun f cdv A outer s H vs Q E hr h => ?_)
  obtain ⟨t, x, y, z, b, rfl, ht, k⟩ := h
  refine ⟨_, PSs.nox (pss_cons (ps_if (pt_cmpR op_eq (pe_ix ix_tup (pv 0) pe_int (fun _ _ => rfl)) (pv 1) (nomark _)) (pss_one (ps_ret (pe_glob (v := .str "horse") rfl w2 ⟨_, rfl⟩))) pss_nil)
      (pss_one (ps_ret (pe_ifExp (pt_cmpR op_eq (pe_ix ix_tup (pv 0) pe_int (fun _ _ => rfl)) (pv 1) (nomark _)) (pe_glob (v := .str "least") rfl w1 ⟨_, rfl⟩) (pe_glob (v := .str "most") rfl w3 ⟨_, rfl⟩))))), ?_⟩
  refine ⟨_, rfl, t, _, 1, _, rfl, rfl, ht, rfl, _, rfl, rfl, _, rfl, ?_⟩
  unfold wordM at k
  by_cases c1 : y = b
  · rw [if_pos c1] at k
    exact ifT (eq_int c1) k
  · rw [if_neg c1] at k
    refine ifF (ne_int c1) ?_
    refine ⟨_, rfl, t, _, 0, _, rfl, rfl, ht, rfl, _, rfl, rfl, _, rfl, ?_⟩
    by_cases c2 : x = b
    · rw [if_pos c2] at k
      exact ifT (eq_int c2) k
    · rw [if_neg c2] at k
      exact ifF (ne_int c2) k
/-! ### behind_step(word, rider, station), end_step(road, sets, rider, station) -/
def vR : Option Nat → V
  | none => .non
  | some r => .int (r : Nat)
def spBehind : Sp := fun vs H Q _ => ∃ (z : Str) (r s : Nat), vs = [.str z, .int r, .int (s + 1 : Nat)] ∧ ∀ t, H t = none → Q (.ref t) (upd H t (.tup [vR (nextR z r), .int s]))
theorem str_ne {a b : Str} (h : a ≠ b) : decide (V.str a = V.str b) = false := decide_eq_false fun z => h (V.str.inj z)
theorem str_eq {a b : Str} (h : a = b) : decide (V.str a = V.str b) = true := decide_eq_true (by rw [h])
theorem ok_behind (W : Wd K mg) (D : Dfn K mg "behind_step" s_behind_step ["word", "rider", "station"]) : Cal P w K mg base CX0 "behind_step" 1 ["word", "rider", "station"] spBehind := by
  have nd := s_behind_step_sc.nd
  obtain ⟨t2, w2⟩ := W.horse
  refine D.cal s_behind_step_sc (fun vs H Q E ⟨z, r, s, e, _⟩ => by rw [e]; rfl) (fun f cdv A outer s H vs Q E hr h => ?_)
  obtain ⟨z, r, s, rfl, k⟩ := h
  refine ⟨_, PSs.nox (pss_cons (ps_if (pt_cmpR op_ne (pv 0) (pe_glob (v := .str "horse") rfl w2 ⟨_, rfl⟩) (nomark _)) (pss_one (ps_ret (pe_tup (pa_cons (pv 1) (pa_cons (pe_op op_sub (pv 2) pe_int) pa_nil))))) pss_nil)
      (pss_one (ps_ret (pe_tup (pa_cons (pe_ifExp (pt_cmpR op_gt (pv 1) pe_int (nomark _)) (pe_op op_sub (pv 1) pe_int) pe_non) (pa_cons (pe_op op_sub (pv 2) pe_int) pa_nil)))))), ?_⟩
  have es : ((s + 1 : Nat) : Int) - 1 = (s : Nat) := by omega
  refine ⟨_, rfl, rfl, _, rfl, ?_⟩
  by_cases c : z = "horse"
  · refine ifF (by rw [str_eq c]; rfl) ?_
    refine ⟨_, rfl, _, _, rfl, rfl, _, rfl, ?_⟩
    unfold nextR at k
    rw [if_pos c] at k
    by_cases c2 : 0 < r
    · rw [if_pos c2] at k
      refine ifT (decide_eq_true (by omega)) ?_
      refine ⟨_, rfl, _, _, rfl, rfl, _, rfl, _, _, rfl, rfl, (by show 2 ≤ sizeLine; decide), fun t nt => ?_⟩
      have := k t nt
      show Q (.ref t) (upd H t (.tup [.int ((r : Nat) - 1), .int (((s + 1 : Nat) : Int) - 1)]))
      rw [es, show ((r : Nat) : Int) - 1 = ((r - 1 : Nat) : Int) by omega]
      exact this
    · rw [if_neg c2] at k
      refine ifF (decide_eq_false (by omega)) ?_
      refine ⟨_, rfl, _, _, rfl, rfl, (by show 2 ≤ sizeLine; decide), fun t nt => ?_⟩
      show Q (.ref t) (upd H t (.tup [.non, .int (((s + 1 : Nat) : Int) - 1)]))
      rw [es]
      exact k t nt
  · refine ifT (by rw [str_ne c]; rfl) ?_
    unfold nextR at k
    rw [if_neg c] at k
    refine ⟨_, rfl, _, rfl, _, _, rfl, rfl, (by show 2 ≤ sizeLine; decide), fun t nt => ?_⟩
    show Q (.ref t) (upd H t (.tup [.int (r : Nat), .int (((s + 1 : Nat) : Int) - 1)]))
    rw [es]
    exact k t nt
def spEnd (K : PySem.W.Frag) : Sp := fun vs H Q _ => ∃ (v u : V) (rd : Road) (sets : List Int) (rr : Option Nat) (s : Nat), vs = [v, u, vR rr, .int s] ∧ Dp K H v (roadD rd) ∧ Dp K H u (setsD sets) ∧ (rr = none → s < rd.2.length) ∧ (∀ r, rr = some r → r < sets.length) ∧
  ∀ t H', Same H H' → H t = none → Dp K H' (.ref t) (endD rd sets rr s) → Q (.ref t) H'
theorem ok_end (W : Wd K mg) (D : Dfn K mg "end_step" s_end_step ["road", "sets", "rider", "station"]) : Cal P w K mg base CX0 "end_step" 1 ["road", "sets", "rider", "station"] (spEnd K) := by
  have nd := s_end_step_sc.nd
  obtain ⟨t1, w1⟩ := W.first
  obtain ⟨t2, w2⟩ := W.set
  refine D.cal s_end_step_sc (fun vs H Q E ⟨v, u, rd, sets, rr, s, e, _⟩ => by rw [e]; rfl) (fun f cdv A outer s H vs Q E hr h => ?_)
  obtain ⟨v, u, rd, sets, rr, s, rfl, hv, hu, h1, h2, k⟩ := h
  obtain ⟨ra, rb, rc, ls, rfl, r1, r2, r3, r4⟩ := Dp.roadI hv
  obtain ⟨d, rfl, hd⟩ := Dp.setsI hu
  refine ⟨_, PSs.nox (pss_one (ps_ret (pe_ifExp (pt_cmpR op_isN (pv 2) pe_non (nomark _)) (pe_tup (pa_cons (pe_glob (v := .str "first") rfl w1 ⟨_, rfl⟩) (pa_cons pe_non (pa_cons (pv 3) (pa_cons (pe_ix ix_tup (pe_ix ix_tup (pv 0) pe_int (fun _ _ => rfl)) (pv 3) (fun _ _ => rfl)) pa_nil))))) (pe_tup (pa_cons (pe_glob (v := .str "set") rfl w2 ⟨_, rfl⟩) (pa_cons (pv 2) (pa_cons pe_int (pa_cons (pe_ix ix_tup (pv 1) (pv 2) (fun _ _ => rfl)) pa_nil)))))))), ?_⟩
  refine ⟨_, rfl, rfl, _, rfl, ?_⟩
  cases rr with
  | none =>
    refine ifT (by rfl) ?_
    have hs := h1 rfl
    refine ⟨_, rfl, _, rfl, ra, _, 1, _, rfl, rfl, r1, rfl, _, rfl, rc, _, _, .int (rd.2.getD s 0), rfl, rfl, r4, atI_nat ?_, (by show 4 ≤ sizeLine; decide), fun t nt => ?_⟩
    · refine at_map ?_
      rw [List.getD_eq_getElem?_getD, List.getElem?_eq_getElem hs]
      rfl
    · exact k t _ (Same.upd nt) nt (.tup (SqT.of upd_same) (.cons (.str _) (.cons .non (.cons (.int _) (.cons (.int _) .nil)))))
  | some r =>
    refine ifF (by rfl) ?_
    have hs := h2 r rfl
    refine ⟨_, rfl, _, rfl, _, rfl, d, _, _, .int (sets.getD r 0), rfl, rfl, hd, atI_nat ?_, (by show 4 ≤ sizeLine; decide), fun t nt => ?_⟩
    · refine at_map ?_
      rw [List.getD_eq_getElem?_getD, List.getElem?_eq_getElem hs]
      rfl
    · exact k t _ (Same.upd nt) nt (.tup (SqT.of upd_same) (.cons (.str _) (.cons (.int _) (.cons (.int _) (.cons (.int _) .nil)))))
end
end Rh
end RhW9_
section RhW10_
set_option Elab.async false
set_option linter.all false
set_option maxRecDepth 100000
set_option maxHeartbeats 4000000
/-! chain, root. -/
namespace Rh
open PySem PySem.Spec PyProof.Rows L2
section
variable {P : Program} {w : World} {K : PySem.W.Frag} {mg : Str → Option Value} {base : Heap}
def spChain (K : PySem.W.Frag) : Sp := fun vs H Q _ => ∃ (v u : V) (rd : Road) (sets : List Int) (R S : Nat), vs = [v, u, .int R, .int S] ∧ Dp K H v (roadD rd) ∧ Dp K H u (setsD sets) ∧ rd.1.length = rd.2.length ∧ rd.1.length ≤ 100 ∧ sets.length ≤ 1000 ∧ R < sets.length ∧ S ≤ rd.1.length ∧
  ∀ p H', Same H H' → H p = none → Dp K H' (.ref p) (.list (chainM rd sets (booksM rd.1 rd.2 sets) S (some R))) → Q (.ref p) H'
theorem noLs_intsQ : ∀ ns : List Int, noLs (ns.map PyData.int) = true
  | [] => rfl
  | n :: ns => by rw [List.map_cons, noLs, noLs_intsQ ns]; rfl
theorem noLs_legsQ : ∀ ls : List Leg, noLs (ls.map legD) = true
  | [] => rfl
  | g :: gs => by rw [List.map_cons, noLs, show noL (legD g) = true from rfl, noLs_legsQ gs]; rfl
theorem noL_roadQ (r : Road) : noL (roadD r) = true := by simp [roadD, noL, noLs, noLs_legsQ, noLs_intsQ]
theorem noL_setsQ (s : List Int) : noL (setsD s) = true := by simp [setsD, noL, noLs_intsQ]
theorem noL_end (rd : Road) (sets : List Int) (rr : Option Nat) (s : Nat) : noL (endD rd sets rr s) = true := by cases rr <;> rfl
theorem noLs_app : ∀ (a b : List PyData), noLs (a ++ b) = (noLs a && noLs b)
  | [], b => by simp [noLs]
  | d :: a, b => by rw [List.cons_append, noLs, noLs, noLs_app a b, Bool.and_assoc]
theorem chain_end {rd : Road} {sets : List Int} {bs : List (List Int)} {s : Nat} {rr : Option Nat} (h : rr = none ∨ s = 0) : chainM rd sets bs s rr = [endD rd sets rr s] := by
  cases rr with
  | none => cases s <;> rfl
  | some r =>
    rcases h with h | h
    · cases h
    · subst h
      rfl
theorem getD_some {α : Type} {l : List α} {i : Nat} {d : α} (h : i < l.length) : l[i]? = some (l.getD i d) := by rw [List.getD_eq_getElem?_getD, List.getElem?_eq_getElem h]; rfl
/-- what a chain's step asks of the books up to a station -/
theorem three_at {rd : Road} {sets : List Int} {S s r : Nat} (hl : rd.1.length = rd.2.length) (hS : S ≤ rd.1.length) (hs : s + 1 ≤ S) (hr : r < sets.length) :
    ∃ g f c hb here, rd.1[s]? = some g ∧ rd.2[s]? = some f ∧ ((booksM rd.1 rd.2 sets).take (S + 1))[s]? = some here ∧ here[r]? = some c ∧ ((f :: here).dropLast)[r]? = some hb ∧ here.length = sets.length ∧
      g = rd.1.getD s (0, 0, 0) ∧ c = cAt (booksM rd.1 rd.2 sets) s r ∧ hb = hAt rd.2 (booksM rd.1 rd.2 sets) s r := by
  have hbl : (booksM rd.1 rd.2 sets).length = rd.1.length + 1 := len_books _ _ _ hl
  have hh : ((booksM rd.1 rd.2 sets).getD s []).length = sets.length := by
    have := getD_some (l := booksM rd.1 rd.2 sets) (i := s) (d := []) (by omega)
    exact books_rows _ _ _ _ (List.mem_of_getElem? this)
  refine ⟨rd.1.getD s (0, 0, 0), rd.2.getD s 0, cAt (booksM rd.1 rd.2 sets) s r, hAt rd.2 (booksM rd.1 rd.2 sets) s r, (booksM rd.1 rd.2 sets).getD s [], getD_some (by omega), getD_some (by omega), ?_, getD_some (by omega), ?_, hh, rfl, rfl, rfl⟩
  · rw [List.getElem?_take, if_pos (by omega)]
    exact getD_some (by omega)
  · rw [List.getElem?_dropLast, if_pos (by rw [List.length_cons, hh]; omega)]
    unfold hAt
    cases r with
    | zero => rfl
    | succ r =>
      rw [if_neg (by omega), List.getElem?_cons_succ, Nat.add_sub_cancel]
      exact getD_some (by omega)
theorem word_is {rd : Road} {bs : List (List Int)} {s r : Nat} : wordM (cAt bs s r + (rd.1.getD s (0, 0, 0)).2.1) (hAt rd.2 bs s r + (rd.1.getD s (0, 0, 0)).1) (cAt bs s r + (rd.1.getD s (0, 0, 0)).2.2) (cAt bs (s + 1) r) = wordAt rd bs s r := rfl
theorem nextR_lt {z : Str} {r n r' : Nat} (h : r < n) (e : nextR z r = some r') : r' < n := by
  unfold nextR at e
  split at e
  · split at e
    · cases e
      omega
    · cases e
  · cases e
    exact h
theorem ok_chain (B : Bn mg) (D : Dfn K mg "chain" s_chain ["road", "sets", "rider", "station"]) (h1 : Cal P w K mg base CX0 "books_to" 5 ["road", "sets", "station"] (spBooks K)) (h2 : Cal P w K mg base CX0 "word_of" 1 ["beats", "beat"] (spWord K))
    (h3 : Cal P w K mg base CX0 "three_by" 2 ["road", "books", "rider", "station"] (spThree K)) (h4 : Cal P w K mg base CX0 "behind_step" 1 ["word", "rider", "station"] spBehind) (h5 : Cal P w K mg base CX0 "end_step" 1 ["road", "sets", "rider", "station"] (spEnd K)) :
    Cal P w K mg base CX0 "chain" 6 ["road", "sets", "rider", "station"] (spChain K) := by
  have nd := s_chain_sc.nd
  obtain ⟨f1, fd1, G1, g1, k1, b1⟩ := h1
  obtain ⟨f2, fd2, G2, g2, k2, b2⟩ := h2
  obtain ⟨f3, fd3, G3, g3, k3, b3⟩ := h3
  obtain ⟨f4, fd4, G4, g4, k4, b4⟩ := h4
  obtain ⟨f5, fd5, G5, g5, k5, b5⟩ := h5
  refine D.cal s_chain_sc (fun vs H Q E ⟨v, u, rd, sets, R, S, e, _⟩ => by rw [e]; rfl) (fun f cdv A outer s H vs Q E hr h => ?_)
  obtain ⟨v, u, rd, sets, R, S, rfl, hv, hu, hl, hl2, hn, hR, hS, k⟩ := h
  refine ⟨_, PSs.nox (pss_cons (ps_par (i := 4) (j := 5) rfl nd rfl rfl (by decide) rfl rfl (pa_cons (pe_call G1 (hr.mono (by decide)) (by rfl) g1 k1 b1 .nil pass0 (pa_cons (pv 0) (pa_cons (pv 1) (pa_cons (pv 3) pa_nil)))) (pa_cons (pe_lst pa_nil) pa_nil)) (by rfl))
      (pss_cons (ps_while PassesOwn.never (PW.pt (pw_and (pt_cmpR op_notN (pv 2) pe_non (nomark _)) (pw_and1 (pt_cmpR op_gt (pv 3) pe_int (nomark _))))) (pss_cons (ps_set (i := 6) nd rfl (.inl rfl) (pe_ix ix_list (pe_ix ix_list (pv 4) (pv 3) (fun _ _ => rfl)) (pv 2) (fun _ _ => rfl)))
      (pss_cons (ps_set (i := 7) nd rfl (.inl rfl) (pe_call G2 (hr.mono (by decide)) (by rfl) g2 k2 b2 .nil pass0 (pa_cons (pe_call G3 (hr.mono (by decide)) (by rfl) g3 k3 b3 .nil pass0 (pa_cons (pv 0) (pa_cons (pv 4) (pa_cons (pv 2) (pa_cons (pv 3) pa_nil))))) (pa_cons (pv 6) pa_nil))))
      (pss_cons (ps_expr (pe_bm PySem.F.plainAttrs_list PySem.F.slot_list_append PySem.F.type_list_append mt_append (pv 5) (pa_cons (pe_tup (pa_cons (pv 7) (pa_cons (pv 2) (pa_cons (pv 3) (pa_cons (pv 6) pa_nil))))) pa_nil)))
      (pss_one (ps_asg (pe_call G4 (hr.mono (by decide)) (by rfl) g4 k4 b4 .nil pass0 (pa_cons (pv 7) (pa_cons (pv 2) (pa_cons (pv 3) pa_nil)))) (pg_tup rfl (pgs_cons (pg_name (i := 2) nd rfl (.inl rfl)) (pgs_cons (pg_name (i := 3) nd rfl (.inl rfl)) pgs_nil)))))))))
      (pss_one (ps_ret (pe_op op_cat (pv 5) (pe_lst (pa_cons (pe_call G5 (hr.mono (by decide)) (by rfl) g5 k5 b5 .nil pass0 (pa_cons (pv 0) (pa_cons (pv 1) (pa_cons (pv 2) (pa_cons (pv 3) pa_nil))))) pa_nil))))))), ?_⟩
  have hbl : (booksM rd.1 rd.2 sets).length = rd.1.length + 1 := len_books _ _ _ hl
  refine ⟨_, rfl, _, rfl, _, rfl, v, u, rd, sets, S, rfl, hv, hu, hl, hl2, hS, hn, fun p H1 s1 hp => ?_⟩
  rw [books_take _ _ _ _ hl] at hp
  refine ⟨Nat.zero_le _, fun F nF => ⟨_, _, rfl, ?_⟩⟩
  have s2 := Same.upd (o := .lst []) nF
  have s12 := s1.trans s2
  have nF0 : H F = none := Same.free s1 nF
  have eF : upd H1 F (.lst []) F = some (.lst []) := upd_same
  have hp2 : Rows (fun q => q ≠ F) (upd H1 F (.lst [])) p ((booksM rd.1 rd.2 sets).take (S + 1)) := by
    obtain ⟨ws, x1, x2, x3, x4⟩ := hp
    refine ⟨ws, s2 _ _ x1, fun z => (by rw [z, nF] at x1; cases x1), x3, fun i b e => ?_⟩
    obtain ⟨q, y1, y2, y3⟩ := x4 i b e
    exact ⟨q, y1, ⟨fun z => (by rw [z] at y3; have y4 : H1 F = _ := y3; rw [nF] at y4; cases y4), y2.2⟩, s2 _ _ y3⟩
  generalize (upd H1 F (.lst [])) = H2 at s2 s12 eF hp2
  refine while_by (fun σ H' => ∃ rr s acc x y ds, σ = [some v, some u, some (vR rr), some (.int (s : Nat)), some (.ref p), some (.ref F), x, y] ∧ Fr [F] H2 H' ∧ H' F = some (.lst acc) ∧ DpAll K H' acc ds ∧ noLs ds = true ∧ chainM rd sets (booksM rd.1 rd.2 sets) S (some R) = ds ++ chainM rd sets (booksM rd.1 rd.2 sets) s rr ∧
    s + ds.length = S ∧ (rr = none → s < S) ∧ ∀ r, rr = some r → r < sets.length) (fun (σ : L2.St) (_ : Hp) => match σ[3]? with | some (some (V.int i)) => i.toNat | _ => 0) ⟨some R, S, [], none, none, [], rfl, Fr.refl, eF, .nil, rfl, rfl, by simp, fun e => (by cases e), fun r e => (by cases e; exact hR)⟩ ?_ ?_
  · rintro σ H3 ⟨rr, s, acc, x, y, ds, rfl, fr, eF3, dacc, nl, hch, hlen, hnn, hrr⟩
    have fr0 : Fr [F] H H3 := (Fr.of s12).trans fr
    -- what follows the loop
    have fin : (rr = none ∨ s = 0) → tRet (tOp rCat (tVar 5) (tLst (tCons (tCall (spEnd K) [] E0 (tCons (tVar 0) (tCons (tVar 1) (tCons (tVar 2) (tCons (tVar 3) tNil))))) tNil))) { nx := fun _ H' => Q .non H', rt := Q } [some v, some u, some (vR rr), some (.int (s : Nat)), some (.ref p), some (.ref F), x, y] H3 := fun hc => by
      refine ⟨_, rfl, _, rfl, _, rfl, _, rfl, _, rfl, v, u, rd, sets, rr, s, rfl, Dp.fr fr0 (noL_roadQ rd) hv, Dp.fr fr0 (noL_setsQ sets) hu, fun e => by have := hnn e; omega, hrr, fun t H4 s4 nt ht => ?_⟩
      refine ⟨(by show 1 ≤ sizeLine; decide), fun l nl' => ?_⟩
      have s5 := Same.upd (o := .lst [V.ref t]) nl'
      have s45 := s4.trans s5
      refine ⟨F, l, acc, _, rfl, rfl, s45 _ _ eF3, upd_same, by rw [sizeLine_eq, DpAll.length dacc]; simp; omega, fun q nq => ?_⟩
      have s6 := Same.upd (o := .lst (acc ++ [V.ref t])) nq
      have s46 := s45.trans s6
      refine k q _ (Fr.beside s12 (fr.trans (Fr.of s46)) (fun z hz => by rw [List.mem_singleton.mp hz]; exact nF0)) ?_ (.lst (SqL.of upd_same) ?_)
      · have nq3 : H3 q = none := Same.free s45 nq
        cases e : H q with
        | none => rfl
        | some o =>
          have := (Fr.beside s12 fr (fun z hz => by rw [List.mem_singleton.mp hz]; exact nF0)) _ _ e
          rw [this] at nq3
          cases nq3
      · rw [hch, chain_end hc]
        exact DpAll.app (DpAll.same s46 dacc) (.cons (Dp.same (s5.trans s6) ht) .nil)
    refine ⟨_, rfl, rfl, _, rfl, ?_⟩
    cases rr with
    | none =>
      refine ifF (by rfl) ?_
      exact ifF rfl (fin (.inl rfl))
    | some r =>
      refine ifT (by rfl) ?_
      refine ⟨_, rfl, _, _, rfl, rfl, _, rfl, ?_⟩
      cases s with
      | zero => exact ifF (decide_eq_false (by simp)) (fin (.inr rfl))
      | succ s =>
        refine ifT (decide_eq_true (by omega)) ?_
        have hr' := hrr r rfl
        obtain ⟨g, f, c, hb, here, x1, x2, x3, x4, x5, x6, rfl, rfl, rfl⟩ := three_at (S := S) (s := s) (r := r) hl hS (by omega) hr'
        have hrow : ((booksM rd.1 rd.2 sets).take (S + 1))[s + 1]? = some ((booksM rd.1 rd.2 sets).getD (s + 1) []) := by
          rw [List.getElem?_take, if_pos (by omega)]
          exact getD_some (by omega)
        have hrl : ((booksM rd.1 rd.2 sets).getD (s + 1) []).length = sets.length := books_rows _ _ _ _ (List.mem_of_getElem? (List.getElem?_eq_some_iff.mpr (by
          have := getD_some (l := booksM rd.1 rd.2 sets) (i := s + 1) (d := []) (by omega)
          exact List.getElem?_eq_some_iff.mp this)))
        have hp3 : Rows (fun q => q ≠ F) H3 p ((booksM rd.1 rd.2 sets).take (S + 1)) := hp2.fr fr (fun q hq => by simpa using hq)
        obtain ⟨ws, q, y1, y2, y3⟩ := rowsAt hp3 hrow
        have hc : ((booksM rd.1 rd.2 sets).getD (s + 1) [])[r]? = some (cAt (booksM rd.1 rd.2 sets) (s + 1) r) := getD_some (by omega)
        refine ⟨_, rfl, _, rfl, p, ws, _, _, rfl, rfl, SqL.of y1, atI_nat y2, _, rfl, q, _, _, .int (cAt (booksM rd.1 rd.2 sets) (s + 1) r), rfl, rfl, SqL.of y3, atI_nat (at_map hc), ?_⟩
        refine ⟨_, rfl, _, rfl, _, rfl, _, rfl, v, p, r, s, rd, _, _, f, _, _, here, rfl, Dp.fr fr0 (noL_roadQ rd) hv, hp3.mono (fun _ _ => trivial), x1, x2, x3, x4, x5, by omega, fun t H4 s4 nt ht => ?_⟩
        refine ⟨_, rfl, t, _, _, _, _, rfl, SqT.of ht, ?_⟩
        rw [word_is]
        have eF4 := s4 _ _ eF3
        refine ⟨_, rfl, .inl ⟨rfl, _, SqL.of eF4⟩, ?_⟩
        refine ⟨_, rfl, _, rfl, _, rfl, _, rfl, (by show 4 ≤ sizeLine; decide), fun t2 nt2 => ?_⟩
        have s5 := Same.upd (o := .tup [V.str (wordAt rd (booksM rd.1 rd.2 sets) s r), V.int (r : Nat), V.int (s + 1 : Nat), V.int (cAt (booksM rd.1 rd.2 sets) (s + 1) r)]) nt2
        have s45 := s4.trans s5
        have eF5 := s5 _ _ eF4
        refine ⟨F, acc, _, rfl, rfl, eF5, by rw [sizeLine_eq, DpAll.length dacc]; omega, ?_⟩
        have fr6 : Fr [F] H3 (upd (upd H4 t2 (.tup [V.str (wordAt rd (booksM rd.1 rd.2 sets) s r), V.int (r : Nat), V.int (s + 1 : Nat), V.int (cAt (booksM rd.1 rd.2 sets) (s + 1) r)])) F (.lst (acc ++ [.ref t2]))) := (Fr.of s45).trans (Fr.lst eF5 (by simp))
        have e2F : t2 ≠ F := fun z => by rw [z, eF4] at nt2; cases nt2
        refine ⟨_, rfl, _, rfl, _, rfl, _, r, s, rfl, fun t3 nt3 => ?_⟩
        have s7 := Same.upd (o := .tup [vR (nextR (wordAt rd (booksM rd.1 rd.2 sets) s r) r), V.int (s : Nat)]) nt3
        refine ⟨t3, _, rfl, SqT.of upd_same, rfl, _, _, rfl, _, _, rfl, rfl, ?_⟩
        have dstep : Dp K (upd (upd H4 t2 (.tup [V.str (wordAt rd (booksM rd.1 rd.2 sets) s r), V.int (r : Nat), V.int (s + 1 : Nat), V.int (cAt (booksM rd.1 rd.2 sets) (s + 1) r)])) F (.lst (acc ++ [.ref t2]))) (.ref t2) (stepD (wordAt rd (booksM rd.1 rd.2 sets) s r) r (s + 1) (cAt (booksM rd.1 rd.2 sets) (s + 1) r)) :=
          .tup (SqT.of (by rw [upd_ne e2F, upd_same])) (.cons (.str _) (.cons (.int _) (.cons (.int _) (.cons (.int _) .nil))))
        refine ⟨⟨nextR (wordAt rd (booksM rd.1 rd.2 sets) s r) r, s, acc ++ [.ref t2], _, _, ds ++ [stepD (wordAt rd (booksM rd.1 rd.2 sets) s r) r (s + 1) (cAt (booksM rd.1 rd.2 sets) (s + 1) r)], rfl, (fr.trans fr6).trans (Fr.of s7), s7 _ _ upd_same, ?_, ?_, ?_, ?_, fun _ => by omega, fun r' e => nextR_lt hr' e⟩, ?_⟩
        · exact DpAll.same s7 (DpAll.app (DpAll.fr fr6 nl dacc) (.cons dstep .nil))
        · rw [noLs_app, nl]
          rfl
        · rw [hch, chainM, List.append_assoc]
          rfl
        · rw [List.length_append, List.length_singleton]
          omega
        · show ((s : Nat) : Int).toNat < ((s + 1 : Nat) : Int).toNat
          omega
  · intro σ H' Q1 Q2 imp hh
    obtain ⟨x, hx, e, k, hk, hh⟩ := hh
    refine ⟨x, hx, e, k, hk, ?_⟩
    cases k with
    | false => exact imp _ _ hh
    | true =>
      obtain ⟨x2, hx2, i, j, e1, e2, k2, hk2, hh2⟩ := hh
      exact ⟨x2, hx2, i, j, e1, e2, k2, hk2, imp _ _ hh2⟩
end
end Rh
end RhW10_
section RhW11_
set_option Elab.async false
set_option linter.all false
set_option maxRecDepth 100000
set_option maxHeartbeats 4000000
/-! root, is_step, shows_chain. -/
namespace Rh
open PySem PySem.Spec PyProof.Rows L2
section
variable {P : Program} {w : World} {K : PySem.W.Frag} {mg : Str → Option Value} {base : Heap}
def rootD : Option Nat → Nat → PyData
  | none, s => .tuple [.str "first", .int (s : Nat)]
  | some r, _ => .tuple [.str "set", .int (r : Nat)]
theorem chain_last (rd : Road) (sets : List Int) (bs : List (List Int)) : ∀ (s : Nat) (rr : Option Nat), ∃ rr' s', (chainM rd sets bs s rr).getLast? = some (endD rd sets rr' s')
  | s, none => ⟨none, s, by cases s <;> rfl⟩
  | 0, some r => ⟨some r, 0, rfl⟩
  | s + 1, some r => by
    obtain ⟨rr', s', e⟩ := chain_last rd sets bs s (nextR (wordAt rd bs s r) r)
    refine ⟨rr', s', ?_⟩
    rw [chainM, List.getLast?_cons, e]
    rfl
def spRoot (K : PySem.W.Frag) : Sp := fun vs H Q _ => ∃ (v u : V) (rd : Road) (sets : List Int) (R S : Nat), vs = [v, u, .int R, .int S] ∧ Dp K H v (roadD rd) ∧ Dp K H u (setsD sets) ∧ rd.1.length = rd.2.length ∧ rd.1.length ≤ 100 ∧ sets.length ≤ 1000 ∧ R < sets.length ∧ S ≤ rd.1.length ∧
  ∀ t rr s H', (chainM rd sets (booksM rd.1 rd.2 sets) S (some R)).getLast? = some (endD rd sets rr s) → Same H H' → Dp K H' (.ref t) (rootD rr s) → Q (.ref t) H'
theorem ok_root (D : Dfn K mg "root" s_root ["road", "sets", "rider", "station"]) (h1 : Cal P w K mg base CX0 "chain" 6 ["road", "sets", "rider", "station"] (spChain K)) : Cal P w K mg base CX0 "root" 7 ["road", "sets", "rider", "station"] (spRoot K) := by
  have nd := s_root_sc.nd
  obtain ⟨f1, fd1, G1, g1, k1, b1⟩ := h1
  refine D.cal s_root_sc (fun vs H Q E ⟨v, u, rd, sets, R, S, e, _⟩ => by rw [e]; rfl) (fun f cdv A outer s H vs Q E hr h => ?_)
  obtain ⟨v, u, rd, sets, R, S, rfl, hv, hu, hl, hl2, hn, hR, hS, k⟩ := h
  refine ⟨_, PSs.nox (pss_cons (ps_asg (pe_ix ix_list (pe_call G1 (hr.mono (by decide)) (by rfl) g1 k1 b1 .nil pass0 (pa_cons (pv 0) (pa_cons (pv 1) (pa_cons (pv 2) (pa_cons (pv 3) pa_nil))))) (pe_un un_neg pe_int) (fun _ _ => rfl)) (pg_tup rfl (pgs_cons (pg_name (i := 4) nd rfl (.inl rfl)) (pgs_cons (pg_name (i := 5) nd rfl (.inl rfl)) (pgs_cons (pg_name (i := 6) nd rfl (.inl rfl)) (pgs_cons (pg_name (i := 7) nd rfl (.inl rfl)) pgs_nil))))))
      (pss_one (ps_ret (pe_ifExp (pt_cmpR op_isN (pv 5) pe_non (nomark _)) (pe_tup (pa_cons (pv 4) (pa_cons (pv 6) pa_nil))) (pe_tup (pa_cons (pv 4) (pa_cons (pv 5) pa_nil))))))), ?_⟩
  refine ⟨_, rfl, _, rfl, _, rfl, _, rfl, v, u, rd, sets, R, S, rfl, hv, hu, hl, hl2, hn, hR, hS, fun p H1 s1 np hp => ?_⟩
  obtain ⟨p', xs, e, hx, hd⟩ := Dp.lstI hp
  cases e
  obtain ⟨rr, s', hlast⟩ := chain_last rd sets (booksM rd.1 rd.2 sets) S (some R)
  rw [List.getLast?_eq_getElem?] at hlast
  obtain ⟨z, hz, dz⟩ := DpAll.at hd hlast
  have hz' : xs.getLast? = some z := by rw [List.getLast?_eq_getElem?, DpAll.length hd]; exact hz
  rw [← List.getLast?_eq_getElem?] at hlast
  cases rr with
  | none =>
    obtain ⟨a, ys, rfl, ha, da⟩ := Dp.tupI dz
    cases da with
    | cons d1 d2 => cases d2 with
      | cons d2 d3 => cases d3 with
        | cons d3 d4 => cases d4 with
          | cons d4 d5 =>
            cases d5
            cases d1
            cases d2
            cases d3
            cases d4
            refine ⟨_, rfl, p, xs, _, _, rfl, rfl, hx, atI_m1 hz', a, _, rfl, ha, rfl, _, _, rfl, _, _, rfl, _, _, rfl, _, _, rfl, rfl, ?_⟩
            refine ⟨_, rfl, rfl, _, rfl, ?_⟩
            refine ifT (by rfl) ?_
            exact ⟨_, rfl, _, rfl, (by show 2 ≤ sizeLine; decide), fun t nt => k t none s' _ hlast (s1.trans (Same.upd nt)) (.tup (SqT.of upd_same) (.cons (.str _) (.cons (.int _) .nil)))⟩
  | some r =>
    obtain ⟨a, ys, rfl, ha, da⟩ := Dp.tupI dz
    cases da with
    | cons d1 d2 => cases d2 with
      | cons d2 d3 => cases d3 with
        | cons d3 d4 => cases d4 with
          | cons d4 d5 =>
            cases d5
            cases d1
            cases d2
            cases d3
            cases d4
            refine ⟨_, rfl, p, xs, _, _, rfl, rfl, hx, atI_m1 hz', a, _, rfl, ha, rfl, _, _, rfl, _, _, rfl, _, _, rfl, _, _, rfl, rfl, ?_⟩
            refine ⟨_, rfl, rfl, _, rfl, ?_⟩
            refine ifF (by rfl) ?_
            exact ⟨_, rfl, _, rfl, (by show 2 ≤ sizeLine; decide), fun t nt => k t (some r) s' _ hlast (s1.trans (Same.upd nt)) (.tup (SqT.of upd_same) (.cons (.str _) (.cons (.int _) .nil)))⟩
/-! ### is_step(thing) -/
/-- a step's form -/
def StepF (d : PyData) : Prop := ∃ (z : Str) (x : PyData) (s b : Int), d = .tuple [.str z, x, .int s, .int b] ∧ (x = .none ∨ ∃ i, x = .int i)
theorem chain_steps (rd : Road) (sets : List Int) (bs : List (List Int)) : ∀ (s : Nat) (rr : Option Nat), ∀ d ∈ chainM rd sets bs s rr, StepF d
  | s, none, d, hd => by
    have hd' : d ∈ [endD rd sets none s] := by cases s <;> exact hd
    rw [List.mem_singleton.mp hd']
    exact ⟨_, _, _, _, rfl, .inl rfl⟩
  | 0, some r, d, hd => by
    rw [List.mem_singleton.mp hd]
    exact ⟨_, _, _, _, rfl, .inr ⟨_, rfl⟩⟩
  | s + 1, some r, d, hd => by
    rw [chainM] at hd
    rcases List.mem_cons.mp hd with z | z
    · rw [z]
      exact ⟨_, _, _, _, rfl, .inr ⟨_, rfl⟩⟩
    · exact chain_steps rd sets bs s _ d z
def spIsStep (K : PySem.W.Frag) : Sp := fun vs H Q _ => ∃ (v : V) (d : PyData), vs = [v] ∧ Dp K H v d ∧ StepF d ∧ ∀ H', Same H H' → Q (.bl true) H'
abbrev nIsStep : List Str := ["thing", "part"]
theorem sc_isstep : FnScope nIsStep ["thing"] (defScope s_is_step) := ⟨rfl, rfl, rfl, by decide +kernel, rfl, by decide +kernel, by decide +kernel⟩
theorem ok_isstep (B : Bn mg) (W : Wd K mg) (D : Dfn K mg "is_step" s_is_step ["thing"]) : Cal P w K mg base CX0 "is_step" 1 ["thing"] (spIsStep K) := by
  have nd := sc_isstep.nd
  obtain ⟨tp, wp⟩ := W.parts
  refine D.cal sc_isstep (fun vs H Q E ⟨v, d, e, _⟩ => by rw [e]; rfl) (fun f cdv A outer s H vs Q E hr h => ?_)
  obtain ⟨v, d, rfl, hv, ⟨z, x, s', b, rfl, hx⟩, k⟩ := h
  obtain ⟨a, xs, rfl, ha, da⟩ := Dp.tupI hv
  have hl : xs.length = 4 := by rw [DpAll.length da]; rfl
  obtain ⟨x0, hx0, dx0⟩ := DpAll.at da (i := 0) (d := .str z) rfl
  have e0 : x0 = .str z := by cases dx0; rfl
  subst e0
  refine ⟨_, PSs.nox (pss_cons (ps_if (PW.pt (pw_or (pt_not (pt_val (pe_callB call_isi (by rfl) B.isi (by decide +kernel) (pa_cons (pv 0) (pa_cons (pe_bltn (v := .ty "tuple") (by rfl) B.tuple (by decide +kernel) rfl) pa_nil))))) (pw_or (pt_cmpR op_ne (pe_callB call_len_seq (by rfl) B.len PySem.boot_len (pa_cons (pv 0) pa_nil)) (pe_glob (v := .int 4) rfl wp ⟨_, rfl⟩) (nomark _)) (pw_or1 (pt_not (pt_val (pe_callB call_isi (by rfl) B.isi (by decide +kernel) (pa_cons (pe_ix ix_tup (pv 0) pe_int (fun _ _ => rfl)) (pa_cons (pe_bltn (v := .ty "str") (by rfl) B.str (by decide +kernel) rfl) pa_nil))))))))) (pss_one (ps_ret pe_bl)) pss_nil)
      (pss_one (ps_ret (pe_not (pe_callB (cr_any rfl) (by rfl) B.any (by decide +kernel) (pa_cons (pe_lc (own := [("part", 1)]) (g := gName 1) (te := tCB (rIsi K) (tCons (tVar 1) (tCons (tC (.ty "bool")) tNil))) rfl nd (pi_tup (pv 0)) (blkOk_by (N := nIsStep) (sc := defScope s_is_step) (by decide +kernel)) (fun _ _ _ _ _ => (pg_name (i := 1) nd rfl (.inl rfl))) (fun _ _ _ _ _ => pts_nil)
      (fun _ _ _ _ _ => (pe_callB call_isi (by rfl) B.isi (by decide +kernel) (pa_cons (pv 1) (pa_cons (pe_bltn (v := .ty "bool") (by rfl) B.bool (by decide +kernel) rfl) pa_nil))))) pa_nil)))))), ?_⟩
  refine ⟨_, rfl, _, _, _, _, true, rfl, .ty "tuple", TyX.ofT ha, by kernel_rfl, _, rfl, ?_⟩
  refine iteF ?_
  refine ⟨_, rfl, a, _, rfl, .inr ha, rfl, _, rfl, ?_⟩
  refine ifF (by rw [eq_int (by rw [hl]; rfl)]; rfl) ?_
  refine ⟨_, rfl, a, _, 0, _, rfl, rfl, ha, atI_nat (j := 0) hx0, _, _, _, _, true, rfl, .ty "str", .base (.str _), by kernel_rfl, _, rfl, ?_⟩
  refine iteF ?_
  refine ⟨_, rfl, a, rfl, ⟨_, ha⟩, fun D0 nD => ?_⟩
  refine lc_fm walk_tup (fun _ => some (.bl false)) nD (by omega) (fun H' s' => Same.tup s' ha) (fun i y H2 H3 Qy Qn hi s2 ey qy qn => ?_) (fun H2 s2 h2 => ?_)
  · obtain ⟨rfl, ex⟩ := ey
    obtain ⟨dd, hdd, dy⟩ := DpAll.at' da ex
    refine ⟨rfl, _, rfl, _, _, tyD dd, _, false, rfl, .ty "bool", Dp.ty (Dp.same s2 dy), ?_, qy _ _ rfl (Same.refl _)⟩
    have hmem := List.mem_of_getElem? hdd
    simp only [List.mem_cons, List.not_mem_nil, or_false] at hmem
    rcases hmem with rfl | rfl | rfl | rfl
    · kernel_rfl
    · rcases hx with rfl | ⟨i, rfl⟩ <;> kernel_rfl
    · kernel_rfl
    · kernel_rfl
  · have e4 : (List.range xs.length).filterMap (fun _ => some (V.bl false)) = [false, false, false, false].map V.bl := by rw [hl]; rfl
    rw [e4] at h2
    exact ⟨D0, _, rfl, SqL.of h2, false, rfl, k _ s2⟩
/-! ### shows_chain(road, sets, rider, station, thing) -/
theorem shaped_end (rd : Road) (sets : List Int) (rr : Option Nat) (s : Nat) : SeqAt.shaped (endD rd sets rr s) = true := by
  unfold SeqAt.shaped
  rw [Bool.and_eq_true]
  cases rr with
  | none =>
    refine ⟨?_, decide_eq_true (by simp [endD, PyData.depth, PyData.depthAll])⟩
    simp only [endD, PyData.canLay0, PyData.canLayAll0, Bool.and_true]
    decide +kernel
  | some r =>
    refine ⟨?_, decide_eq_true (by simp [endD, PyData.depth, PyData.depthAll])⟩
    simp only [endD, PyData.canLay0, PyData.canLayAll0, Bool.and_true]
    decide +kernel
theorem shaped_tri (a b c : Int) : SeqAt.shaped (.tuple [.int a, .int b, .int c]) = true := by
  unfold SeqAt.shaped
  rw [Bool.and_eq_true]
  exact ⟨by simp [PyData.canLay0, PyData.canLayAll0], decide_eq_true (by simp [PyData.depth, PyData.depthAll])⟩
theorem eqv_self {d : PyData} (h : SeqAt.shaped d = true) : PyData.eqv d d = true := SeqAt.eqv_refl _ (SeqAt.canLay_of_shaped h)
def spShows (K : PySem.W.Frag) : Sp := fun vs H Q _ => ∃ (v u x : V) (rd : Road) (sets : List Int) (R S : Nat), vs = [v, u, .int R, .int S, x] ∧ Dp K H v (roadD rd) ∧ Dp K H u (setsD sets) ∧ rd.1.length = rd.2.length ∧ rd.1.length ≤ 100 ∧ sets.length ≤ 1000 ∧ R < sets.length ∧ S ≤ rd.1.length ∧
  Dp K H x (.list (chainM rd sets (booksM rd.1 rd.2 sets) S (some R))) ∧ ∀ H', Same H H' → Q (.bl true) H'
theorem chain_len (rd : Road) (sets : List Int) (bs : List (List Int)) : ∀ (s : Nat) (rr : Option Nat), 0 < (chainM rd sets bs s rr).length ∧ (chainM rd sets bs s rr).length ≤ s + 1
  | s, none => by
    have e : chainM rd sets bs s none = [endD rd sets none s] := by cases s <;> rfl
    rw [e, List.length_singleton]
    omega
  | 0, some r => by rw [chainM, List.length_singleton]; omega
  | s + 1, some r => by
    have := chain_len rd sets bs s (nextR (wordAt rd bs s r) r)
    rw [chainM, List.length_cons]
    omega
theorem ok_shows (B : Bn mg) (W : Wd K mg) (D : Dfn K mg "shows_chain" s_shows_chain ["road", "sets", "rider", "station", "thing"]) (h1 : Cal P w K mg base CX0 "books_to" 5 ["road", "sets", "station"] (spBooks K)) (h2 : Cal P w K mg base CX0 "is_step" 1 ["thing"] (spIsStep K))
    (h3 : Cal P w K mg base CX0 "three_by" 2 ["road", "books", "rider", "station"] (spThree K)) (h4 : Cal P w K mg base CX0 "behind_step" 1 ["word", "rider", "station"] spBehind) (h5 : Cal P w K mg base CX0 "end_step" 1 ["road", "sets", "rider", "station"] (spEnd K)) :
    Cal P w K mg base CX0 "shows_chain" 6 ["road", "sets", "rider", "station", "thing"] (spShows K) := by
  have nd := s_shows_chain_sc.nd
  obtain ⟨f1, fd1, G1, g1, k1, b1⟩ := h1
  obtain ⟨f2, fd2, G2, g2, k2, b2⟩ := h2
  obtain ⟨f3, fd3, G3, g3, k3, b3⟩ := h3
  obtain ⟨f4, fd4, G4, g4, k4, b4⟩ := h4
  obtain ⟨f5, fd5, G5, g5, k5, b5⟩ := h5
  obtain ⟨wa, gw, kw, hw⟩ := W.words
  refine D.cal s_shows_chain_sc (fun vs H Q E ⟨v, u, x, rd, sets, R, S, e, _⟩ => by rw [e]; rfl) (fun f cdv A outer s H vs Q E hr h => ?_)
  obtain ⟨v, u, x, rd, sets, R, S, rfl, hv, hu, hl, hl2, hn, hR, hS, hx, k⟩ := h
  obtain ⟨xa, xs, rfl, hxa, hxd⟩ := Dp.lstI hx
  refine ⟨_, PSs.nox (pss_cons (ps_if (PW.pt (pw_or (pt_not (pt_val (pe_callB call_isi (by rfl) B.isi (by decide +kernel) (pa_cons (pv 4) (pa_cons (pe_bltn (v := .ty "list") (by rfl) B.list (by decide +kernel) rfl) pa_nil))))) (pw_or1 (pt_not (pt_val (pe_callB (cr_all rfl) (by rfl) B.all (by decide +kernel) (pa_cons (pe_lc (own := [("step", 5)]) (g := gName 5) rfl nd (pi_list (pv 4)) (blkOk_by (N := ["road", "sets", "rider", "station", "thing", "step", "books", "at", "word", "beat"]) (sc := defScope s_shows_chain) (by decide +kernel)) (fun _ _ _ _ _ => (pg_name (i := 5) nd rfl (.inl rfl))) (fun _ _ _ _ _ => pts_nil) (fun _ _ _ _ _ => (pe_call G2 (hr.mono (by decide)) (by rfl) g2 k2 b2 .nil pass0 (pa_cons (pv 5) pa_nil)))) pa_nil))))))) (pss_one (ps_ret pe_bl)) pss_nil)
      (pss_cons (ps_set (i := 6) nd rfl (.inl rfl) (pe_call G1 (hr.mono (by decide)) (by rfl) g1 k1 b1 .nil pass0 (pa_cons (pv 0) (pa_cons (pv 1) (pa_cons (pv 3) pa_nil)))))
      (pss_cons (ps_for PassesOwn.never rfl (pi_enum (by rfl) B.enum (pa_cons (pv 4) pa_nil)) (pg_tup rfl (pgs_cons (pg_name (i := 7) nd rfl (.inl rfl)) (pgs_cons (pg_name (i := 5) nd rfl (.inl rfl)) pgs_nil))) (pss_cons (ps_if (PW.pt (pw_or (pt_cmpR op_isN (pv 2) pe_non (nomark _)) (pw_or1 (pt_cmpR op_eq (pv 3) pe_int (nomark _))))) (pss_one (ps_ret (pe_and (pe_cmpR op_eq (pv 7) (pe_op op_sub (pe_callB call_len_seq (by rfl) B.len PySem.boot_len (pa_cons (pv 4) pa_nil)) pe_int) (nomark _)) (pe_one (pe_cmpR (op_eqD hr.units) (pv 5) (pe_call G5 (hr.mono (by decide)) (by rfl) g5 k5 b5 .nil pass0 (pa_cons (pv 0) (pa_cons (pv 1) (pa_cons (pv 2) (pa_cons (pv 3) pa_nil))))) (nomark _)))))) pss_nil)
      (pss_cons (ps_par (i := 8) (j := 9) rfl nd rfl rfl (by decide) rfl rfl (pa_cons (pe_ix ix_tup (pv 5) pe_int (fun _ _ => rfl)) (pa_cons (pe_ix ix_list (pe_ix ix_list (pv 6) (pv 3) (fun _ _ => rfl)) (pv 2) (fun _ _ => rfl)) pa_nil)) (by rfl))
      (pss_cons (ps_if (PW.pt (pw_or (pt_cmpR (op_neD hr.units) (pe_slice RhR.sl_tupW (pv 5) (po_some pe_int) po_none) (pe_tup (pa_cons (pv 2) (pa_cons (pv 3) (pa_cons (pv 9) pa_nil)))) (nomark _)) (pw_or1 (pt_cmpR op_notIn_seq (pv 8) (pe_glob (v := .ref wa) rfl gw rfl) (by rfl))))) (pss_one (ps_ret pe_bl)) pss_nil)
      (pss_cons (ps_if (pt_cmpR op_ne (pe_ix ix_tup (pe_call G3 (hr.mono (by decide)) (by rfl) g3 k3 b3 .nil pass0 (pa_cons (pv 0) (pa_cons (pv 6) (pa_cons (pv 2) (pa_cons (pv 3) pa_nil))))) (pe_bm PySem.F.plainAttrs_tuple PySem.F.slot_tuple_index PySem.F.type_tuple_index mt_tup_index (pe_glob (v := .ref wa) rfl gw rfl) (pa_cons (pv 8) pa_nil)) (fun _ _ => rfl)) (pv 9) (nomark _)) (pss_one (ps_ret pe_bl)) pss_nil)
      (pss_one (ps_asg (pe_call G4 (hr.mono (by decide)) (by rfl) g4 k4 b4 .nil pass0 (pa_cons (pv 8) (pa_cons (pv 2) (pa_cons (pv 3) pa_nil)))) (pg_tup rfl (pgs_cons (pg_name (i := 2) nd rfl (.inl rfl)) (pgs_cons (pg_name (i := 3) nd rfl (.inl rfl)) pgs_nil))))))))))
      (pss_one (ps_ret pe_bl))))), ?_⟩
  have hbl : (booksM rd.1 rd.2 sets).length = rd.1.length + 1 := len_books _ _ _ hl
  have hcl := chain_len rd sets (booksM rd.1 rd.2 sets) S (some R)
  have hxl : xs.length = (chainM rd sets (booksM rd.1 rd.2 sets) S (some R)).length := DpAll.length hxd
  refine ⟨_, rfl, _, _, _, _, true, rfl, .ty "list", TyX.ofL hxa, by kernel_rfl, _, rfl, ?_⟩
  refine iteF ?_
  refine ⟨_, rfl, xa, rfl, ⟨_, hxa⟩, fun D0 nD => ?_⟩
  refine lc_fm (walk_list (xs := xs)) (fun _ => some (.bl true)) nD (by omega) (fun H' s' => s'.seq hxa) (fun i y H2 H3 Qy Qn hi s2 ey qy qn => ?_) (fun H2 s2 h2 => ?_)
  · obtain ⟨rfl, ex⟩ := ey
    obtain ⟨dd, hdd, dy⟩ := DpAll.at' hxd ex
    exact ⟨rfl, _, rfl, y, dd, rfl, Dp.same s2 dy, chain_steps _ _ _ _ _ _ (List.mem_of_getElem? hdd), fun H4 s4 => qy _ _ rfl s4⟩
  · have e4 : (List.range xs.length).filterMap (fun _ => some (V.bl true)) = ((List.range xs.length).map fun _ => true).map V.bl := by
      rw [List.map_map]
      induction List.range xs.length with
      | nil => rfl
      | cons a l ih => rw [List.filterMap_cons, ih]; rfl
    rw [e4] at h2
    refine ⟨D0, _, rfl, SqL.of h2, _, rfl, ?_⟩
    have hall : (((List.range xs.length).map fun _ => true).all id) = true := by rw [List.all_eq_true]; intro a ha; obtain ⟨_, _, rfl⟩ := List.mem_map.mp ha; rfl
    rw [hall]
    refine iteF ?_
    refine ⟨_, rfl, _, rfl, _, rfl, _, _, rd, sets, S, rfl, Dp.same s2 hv, Dp.same s2 hu, hl, hl2, hS, hn, fun p H1 s1 hp => ?_⟩
    rw [books_take _ _ _ _ hl] at hp
    have s01 := s2.trans s1
    refine ⟨_, rfl, xa, xs, rfl, s01.seq hxa, ?_⟩
    refine for_it (walk_enum (xs := xs)) (fun i σ H' => ∃ rr s pre y1 y2 y3 y4, σ = [some v, some u, some (vR rr), some (.int (s : Nat)), some (.ref xa), y1, some (.ref p), y2, y3, y4] ∧ Same H1 H' ∧ chainM rd sets (booksM rd.1 rd.2 sets) S (some R) = pre ++ chainM rd sets (booksM rd.1 rd.2 sets) s rr ∧ pre.length = i ∧ s + i = S ∧ (rr = none → s < S) ∧ ∀ r, rr = some r → r < sets.length)
      ⟨some R, S, [], none, none, none, none, rfl, Same.refl _, rfl, rfl, rfl, fun e => (by cases e), fun r e => (by cases e; exact hR)⟩ (fun i σ H' _ q => ?_) (fun i y σ H3 H4 hi q ey => ?_) (fun σ H3 q => ?_)
    · obtain ⟨_, _, _, _, _, _, _, _, s', _⟩ := q
      exact (s01.trans s').seq hxa
    · obtain ⟨rr, s, pre, y1, y2, y3, y4, rfl, s3, hch, hpre, hsi, hnn, hrr⟩ := q
      obtain ⟨T, yi, z, rfl, nT, rfl, ex1, ex2⟩ := ey
      have exi : yi = .int (i : Nat) := (Option.some.inj ex1).symm
      subst exi
      have s4 := Same.upd (o := .tup [V.int (i : Nat), z]) nT
      have s14 := s3.trans s4
      have s04 := s01.trans s14
      obtain ⟨dd, hdd, dz⟩ := DpAll.at' hxd ex2
      have dz4 := Dp.same s04 dz
      refine ⟨T, _, rfl, SqT.of upd_same, rfl, _, _, rfl, _, _, rfl, rfl, ?_⟩
      have hlast : (rr = none ∨ s = 0) → dd = endD rd sets rr s ∧ xs.length = i + 1 := fun hc => by
        rw [chain_end hc] at hch
        refine ⟨?_, by rw [hxl, hch, List.length_append, hpre]; rfl⟩
        rw [hch, List.getElem?_append_right (by omega), hpre, Nat.sub_self] at hdd
        exact (Option.some.inj hdd).symm
      -- what is told at the end
      have fin : (rr = none ∨ s = 0) → (tRet (tAndV (tOp rEq (tVar 7) (tOp (rI0 fun i j => .int (i - j)) (tCB (fun xs H Q => ∃ p ys, xs = [.ref p] ∧ (SqL K H p ys ∨ SqT K H p ys) ∧ Q (.int ys.length) H) (tCons (tVar 4) tNil)) (tC (.int 1)))) (tOp (rEqD K) (tVar 5) (tCall (spEnd K) [] E0 (tCons (tVar 0) (tCons (tVar 1) (tCons (tVar 2) (tCons (tVar 3) tNil)))))))
          { nx := fun _ _ => False, rt := Q } [some v, some u, some (vR rr), some (.int (s : Nat)), some (.ref xa), some z, some (.ref p), some (.int (i : Nat)), y3, y4] (upd H3 T (.tup [.int (i : Nat), z])) : Prop) := fun hc => by
        obtain ⟨rfl, hxi⟩ := hlast hc
        refine ⟨_, rfl, _, rfl, xa, xs, rfl, .inl (s04.seq hxa), _, _, rfl, rfl, rfl, _, rfl, ?_⟩
        refine ifT (eq_int (by omega)) ?_
        refine ⟨_, rfl, _, rfl, _, rfl, _, rfl, _, rfl, v, u, rd, sets, rr, s, rfl, Dp.same s04 hv, Dp.same s04 hu, fun e => (by have := hnn e; omega), hrr, fun t H5 s5 nt ht => ?_⟩
        refine ⟨_, _, Dp.same s5 dz4, ht, shaped_end _ _ _ _, shaped_end _ _ _ _, ?_⟩
        rw [eqv_self (shaped_end _ _ _ _)]
        exact k _ (s04.trans s5)
      refine ⟨_, rfl, rfl, _, rfl, ?_⟩
      cases rr with
      | none =>
        refine ifT (by rfl) (ifT rfl ?_)
        exact fin (.inl rfl)
      | some r =>
        refine ifF (by rfl) ?_
        refine ⟨_, rfl, rfl, _, rfl, ?_⟩
        cases s with
        | zero =>
          refine ifT (eq_int rfl) ?_
          exact fin (.inr rfl)
        | succ s =>
          refine ifF (ne_int (by omega)) ?_
          have hr' := hrr r rfl
          obtain ⟨g, f, c, hb, here, x1, x2, x3, x4, x5, x6, rfl, rfl, rfl⟩ := three_at (S := S) (s := s) (r := r) hl hS (by omega) hr'
          have hrow : ((booksM rd.1 rd.2 sets).take (S + 1))[s + 1]? = some ((booksM rd.1 rd.2 sets).getD (s + 1) []) := by
            rw [List.getElem?_take, if_pos (by omega)]
            exact getD_some (by omega)
          have hrl : ((booksM rd.1 rd.2 sets).getD (s + 1) []).length = sets.length := books_rows _ _ _ _ (List.mem_of_getElem? (getD_some (l := booksM rd.1 rd.2 sets) (i := s + 1) (d := []) (by omega)))
          obtain ⟨ws, q, z1, z2, z3⟩ := rowsAt (hp.same s14) hrow
          have hc : ((booksM rd.1 rd.2 sets).getD (s + 1) [])[r]? = some (cAt (booksM rd.1 rd.2 sets) (s + 1) r) := getD_some (by omega)
          have edd : dd = stepD (wordAt rd (booksM rd.1 rd.2 sets) s r) r (s + 1) (cAt (booksM rd.1 rd.2 sets) (s + 1) r) := by
            rw [hch, List.getElem?_append_right (by omega), hpre, Nat.sub_self, chainM] at hdd
            exact (Option.some.inj hdd).symm
          subst edd
          obtain ⟨za, zs, rfl, hza, hzd⟩ := Dp.tupI dz4
          have ezs : zs = [.str (wordAt rd (booksM rd.1 rd.2 sets) s r), .int (r : Nat), .int (s + 1 : Nat), .int (cAt (booksM rd.1 rd.2 sets) (s + 1) r)] := by
            cases hzd with
            | cons a1 a2 => cases a2 with
              | cons a2 a3 => cases a3 with
                | cons a3 a4 => cases a4 with
                  | cons a4 a5 =>
                    cases a5
                    cases a1
                    cases a2
                    cases a3
                    cases a4
                    rfl
          subst ezs
          -- word, beat
          refine ⟨_, rfl, za, _, 0, _, rfl, rfl, hza, rfl, ?_⟩
          refine ⟨_, rfl, _, rfl, p, ws, _, _, rfl, rfl, SqL.of z1, atI_nat z2, _, rfl, q, _, _, .int (cAt (booksM rd.1 rd.2 sets) (s + 1) r), rfl, rfl, SqL.of z3, atI_nat (at_map hc), _, _, rfl, ?_⟩
          -- its other parts
          refine ⟨_, rfl, _, rfl, za, _, rfl, hza, fun t1 H5 s5 ht1 => ?_⟩
          rw [show (1 : Int) = ((1 : Nat) : Int) from rfl, RhR.cutV_drop] at ht1
          refine ⟨_, rfl, _, rfl, _, rfl, (by show 3 ≤ sizeLine; decide), fun t2 nt2 => ?_⟩
          have s6 := Same.upd (o := .tup [V.int (r : Nat), V.int (s + 1 : Nat), V.int (cAt (booksM rd.1 rd.2 sets) (s + 1) r)]) nt2
          refine ⟨.tuple [.int (r : Nat), .int (s + 1 : Nat), .int (cAt (booksM rd.1 rd.2 sets) (s + 1) r)], .tuple [.int (r : Nat), .int (s + 1 : Nat), .int (cAt (booksM rd.1 rd.2 sets) (s + 1) r)], .tup (Same.tup s6 ht1) (.cons (.int _) (.cons (.int _) (.cons (.int _) .nil))), .tup (SqT.of upd_same) (.cons (.int _) (.cons (.int _) (.cons (.int _) .nil))), shaped_tri _ _ _, shaped_tri _ _ _, _, rfl, ?_⟩
          rw [eqv_self (shaped_tri _ _ _)]
          refine iteF ?_
          have hw3 := word_three rd sets s r hl (by omega) hr'
          have s16 := (s14.trans s5).trans s6
          have s06 := s01.trans s16
          refine ⟨_, rfl, wa, _, rfl, .inr (hw _), rfl, rfl, _, rfl, ?_⟩
          have hin : (if true = true then !inV (V.str (wordAt rd (booksM rd.1 rd.2 sets) s r)) [V.str "least", V.str "horse", V.str "most"] else inV (V.str (wordAt rd (booksM rd.1 rd.2 sets) s r)) [V.str "least", V.str "horse", V.str "most"]) = false := by
            rcases hw3 with ⟨e, _⟩ | ⟨e, _⟩ | ⟨e, _⟩ <;> rw [e] <;> decide +kernel
          refine ifF hin ?_
          -- the three
          refine ⟨_, rfl, _, rfl, _, rfl, _, rfl, v, p, r, s, rd, _, _, f, _, _, here, rfl, Dp.same s06 hv, (hp.same s16).mono (fun _ _ => trivial), x1, x2, x3, x4, x5, by omega, fun t3 H7 s7 nt3 ht3 => ?_⟩
          refine ⟨.inr (.inl ⟨rfl, kw⟩), ?_⟩
          have s17 := s16.trans s7
          rcases hw3 with ⟨e, e'⟩ | ⟨e, e'⟩ | ⟨e, e'⟩
          · refine ⟨_, rfl, wa, ["least", "horse", "most"], wordAt rd (booksM rd.1 rd.2 sets) s r, 0, rfl, rfl, hw _, by rw [e]; rfl, fun m hm => by omega, t3, _, _, _, rfl, rfl, SqT.of ht3, rfl, ?_⟩
            refine ⟨_, rfl, rfl, _, rfl, ifF (by rw [eq_int e']; rfl) ?_⟩
            refine ⟨_, rfl, _, rfl, _, rfl, _, r, s, rfl, fun t4 nt4 => ?_⟩
            have s8 := Same.upd (o := .tup [vR (nextR (wordAt rd (booksM rd.1 rd.2 sets) s r) r), V.int (s : Nat)]) nt4
            exact ⟨t4, _, rfl, SqT.of upd_same, rfl, _, _, rfl, _, _, rfl, rfl, nextR (wordAt rd (booksM rd.1 rd.2 sets) s r) r, s, pre ++ [stepD (wordAt rd (booksM rd.1 rd.2 sets) s r) r (s + 1) (cAt (booksM rd.1 rd.2 sets) (s + 1) r)], _, _, _, _, rfl, s17.trans s8, by rw [hch, chainM, List.append_assoc]; rfl, by rw [List.length_append, hpre]; rfl, by omega, fun _ => by omega, fun r' e => nextR_lt hr' e⟩
          · refine ⟨_, rfl, wa, ["least", "horse", "most"], wordAt rd (booksM rd.1 rd.2 sets) s r, 1, rfl, rfl, hw _, by rw [e]; rfl, fun m hm => ?_, t3, _, _, _, rfl, rfl, SqT.of ht3, rfl, ?_⟩
            · obtain rfl : m = 0 := by omega
              rw [e]
              decide +kernel
            refine ⟨_, rfl, rfl, _, rfl, ifF (by rw [eq_int e']; rfl) ?_⟩
            refine ⟨_, rfl, _, rfl, _, rfl, _, r, s, rfl, fun t4 nt4 => ?_⟩
            have s8 := Same.upd (o := .tup [vR (nextR (wordAt rd (booksM rd.1 rd.2 sets) s r) r), V.int (s : Nat)]) nt4
            exact ⟨t4, _, rfl, SqT.of upd_same, rfl, _, _, rfl, _, _, rfl, rfl, nextR (wordAt rd (booksM rd.1 rd.2 sets) s r) r, s, pre ++ [stepD (wordAt rd (booksM rd.1 rd.2 sets) s r) r (s + 1) (cAt (booksM rd.1 rd.2 sets) (s + 1) r)], _, _, _, _, rfl, s17.trans s8, by rw [hch, chainM, List.append_assoc]; rfl, by rw [List.length_append, hpre]; rfl, by omega, fun _ => by omega, fun r' e => nextR_lt hr' e⟩
          · refine ⟨_, rfl, wa, ["least", "horse", "most"], wordAt rd (booksM rd.1 rd.2 sets) s r, 2, rfl, rfl, hw _, by rw [e]; rfl, fun m hm => ?_, t3, _, _, _, rfl, rfl, SqT.of ht3, rfl, ?_⟩
            · rw [e]
              match m, hm with
              | 0, _ => decide +kernel
              | 1, _ => decide +kernel
            refine ⟨_, rfl, rfl, _, rfl, ifF (by rw [eq_int e']; rfl) ?_⟩
            refine ⟨_, rfl, _, rfl, _, rfl, _, r, s, rfl, fun t4 nt4 => ?_⟩
            have s8 := Same.upd (o := .tup [vR (nextR (wordAt rd (booksM rd.1 rd.2 sets) s r) r), V.int (s : Nat)]) nt4
            exact ⟨t4, _, rfl, SqT.of upd_same, rfl, _, _, rfl, _, _, rfl, rfl, nextR (wordAt rd (booksM rd.1 rd.2 sets) s r) r, s, pre ++ [stepD (wordAt rd (booksM rd.1 rd.2 sets) s r) r (s + 1) (cAt (booksM rd.1 rd.2 sets) (s + 1) r)], _, _, _, _, rfl, s17.trans s8, by rw [hch, chainM, List.append_assoc]; rfl, by rw [List.length_append, hpre]; rfl, by omega, fun _ => by omega, fun r' e => nextR_lt hr' e⟩
    · obtain ⟨rr, s, pre, y1, y2, y3, y4, rfl, s3, hch, hpre, hsi, hnn, hrr⟩ := q
      have := (chain_len rd sets (booksM rd.1 rd.2 sets) s rr).1
      rw [hxl, hch, List.length_append] at hpre
      omega
end
end Rh
end RhW11_
section RhL1_
set_option Elab.async false
set_option linter.all false
set_option maxRecDepth 100000
set_option maxHeartbeats 4000000
/-! The law's tape: its draws. -/
namespace Rh
open PySem PySem.Spec PyProof.Rows L2
section
variable {P : Program} {w : World} {K : PySem.W.Frag} {mg : Str → Option Value} {base : Heap}
/-- a tape at t, at most N draws mixed so far -/
def TapeAt (H : Hp) (t : Addr) (N : Int) : Prop := ∃ x0 x1 x2 : Int, H t = some (.lst [.int x0, .int x1, .int x2]) ∧ 0 ≤ x0 ∧ 0 ≤ x1 ∧ x1 < 4611686018427387904 ∧ 0 ≤ x2 ∧ x2 ≤ N
theorem TapeAt.mono {H : Hp} {t : Addr} {N N' : Int} (h : TapeAt H t N) (e : N ≤ N') : TapeAt H t N' := by
  obtain ⟨x0, x1, x2, h1, h2, h3, h4, h5, h6⟩ := h
  exact ⟨x0, x1, x2, h1, h2, h3, h4, h5, by omega⟩
theorem TapeAt.same {H H' : Hp} {t : Addr} {N : Int} (s : Same H H') (h : TapeAt H t N) : TapeAt H' t N := by
  obtain ⟨x0, x1, x2, h1, h2⟩ := h
  exact ⟨x0, x1, x2, s _ _ h1, h2⟩
theorem TapeAt.fr {S : List Addr} {H H' : Hp} {t : Addr} {N : Int} (s : Fr S H H') (n : t ∉ S) (h : TapeAt H t N) : TapeAt H' t N := by
  obtain ⟨x0, x1, x2, h1, h2⟩ := h
  exact ⟨x0, x1, x2, s.keep _ _ h1 n, h2⟩
/-! ### _law_draw(tape, many) -/
def spDraw : Sp := fun vs H Q _ => ∃ (t : Addr) (m N : Int), vs = [.ref t, .int m] ∧ TapeAt H t N ∧ N ≤ 1000000 ∧ 0 < m ∧ m < 1073741824 ∧ ∀ r H', 0 ≤ r → r < m → Fr [t] H H' → TapeAt H' t (N + 1) → Q (.int r) H'
theorem ok_draw (D : Dfn K mg "_law_draw" s_law_draw ["_law_tape_here", "_law_many"]) : Cal P w K mg base CX0 "_law_draw" 1 ["_law_tape_here", "_law_many"] spDraw := by
  have nd := s_law_draw_sc.nd
  refine D.cal s_law_draw_sc (fun vs H Q E ⟨t, m, N, e, _⟩ => by rw [e]; rfl) (fun f cdv A outer s H vs Q E hr h => ?_)
  obtain ⟨t, m, N, rfl, ⟨x0, x1, x2, ht, h0, h1, h1', h2, h2'⟩, hN, hm, hm', k⟩ := h
  refine ⟨_, PSs.nox (pss_cons (ps_if (pt_cmpR op_gt (pe_ix ix_list (pv 0) pe_int (fun _ _ => rfl)) pe_int (nomark _)) (pss_cons (ps_set (i := 2) nd rfl (.inl rfl) (pe_op op_mod (pe_ix ix_list (pv 0) pe_int (fun _ _ => rfl)) (pv 1)))
      (pss_cons (ps_asg (pe_op op_fdivW (pe_ix ix_list (pv 0) pe_int (fun _ _ => rfl)) (pv 1)) (pg_sub (pv 0) pe_int set_list))
      (pss_one (ps_ret (pv 2))))) pss_nil)
      (pss_cons (ps_asg (pe_op op_add (pe_ix ix_list (pv 0) pe_int (fun _ _ => rfl)) pe_int) (pg_sub (pv 0) pe_int set_list))
      (pss_cons (ps_set (i := 3) nd rfl (.inl rfl) (pe_op op_mod (pe_op op_pow (pe_op op_add (pe_ix ix_list (pv 0) pe_int (fun _ _ => rfl)) (pe_op op_mul pe_int (pe_ix ix_list (pv 0) pe_int (fun _ _ => rfl)))) pe_int) pe_int))
      (pss_cons (ps_set (i := 4) nd rfl (.inl rfl) (pe_op op_mod (pe_op op_mul (pe_op op_add (pv 3) (pe_ix ix_list (pv 0) pe_int (fun _ _ => rfl))) (pe_op op_add (pe_op op_add (pe_op op_mod (pv 3) pe_int) pe_int) (pe_ix ix_list (pv 0) pe_int (fun _ _ => rfl)))) pe_int))
      (pss_cons (ps_set (i := 5) nd rfl (.inl rfl) (pe_op op_mod (pe_op op_add (pe_op op_add (pe_op op_fdivW (pe_ix ix_list (pv 0) pe_int (fun _ _ => rfl)) pe_int) (pe_op op_mul (pv 4) pe_int)) (pe_ix ix_list (pv 0) pe_int (fun _ _ => rfl))) pe_int))
      (pss_one (ps_ret (pe_op op_mod (pe_op op_fdivW (pe_op op_mod (pe_op op_add (pe_op op_add (pe_op op_mul (pv 4) pe_int) (pe_op op_mul (pv 5) pe_int)) (pv 3)) pe_int) pe_int) (pv 1))))))))), ?_⟩
  have hmd : ∀ (a b : Int), 0 < b → 0 ≤ a % b ∧ a % b < b := fun a b hb => ⟨Int.emod_nonneg _ (by omega), Int.emod_lt_of_pos _ hb⟩
  have hw : ∀ {j : Int}, 0 < j → j < 4611686018427387904 → ∀ i, CDivW i j := fun {j} h0 h1 i => wide_div (b := 62) h0 (by omega) (by decide) (by decide)
  refine ⟨_, rfl, t, _, 0, _, rfl, rfl, SqL.of ht, rfl, _, _, rfl, rfl, _, rfl, ?_⟩
  by_cases c0 : 0 < x0
  · refine ifT (decide_eq_true c0) ?_
    refine ⟨_, rfl, t, _, 0, _, rfl, rfl, SqL.of ht, rfl, _, rfl, _, _, rfl, rfl, hm, ?_⟩
    refine ⟨_, rfl, t, _, 0, _, rfl, rfl, SqL.of ht, rfl, _, rfl, _, _, rfl, rfl, hw hm (by omega) _, ?_⟩
    refine ⟨_, rfl, t, _, 0, 0, rfl, rfl, ht, rfl, ?_⟩
    obtain ⟨r1, r2⟩ := hmd x0 m hm
    exact ⟨_, rfl, k _ _ r1 r2 (Fr.lst ht (by simp)) ⟨x0 / m, x1, x2, upd_same, Int.ediv_nonneg h0 (by omega), h1, h1', h2, by omega⟩⟩
  · refine ifF (decide_eq_false c0) ?_
    refine ⟨_, rfl, t, _, 2, _, rfl, rfl, SqL.of ht, rfl, _, _, rfl, rfl, ?_⟩
    refine ⟨_, rfl, t, _, 2, 2, rfl, rfl, ht, rfl, ?_⟩
    have fr : Fr [t] H (upd H t (.lst [.int x0, .int x1, .int (x2 + 1)])) := Fr.lst ht (by simp)
    have ht2 : upd H t (.lst [.int x0, .int x1, .int (x2 + 1)]) t = some (.lst [.int x0, .int x1, .int (x2 + 1)]) := upd_same
    have e : (upd H t (.lst ([V.int x0, V.int x1, V.int x2].set 2 (.int (x2 + 1))))) = upd H t (.lst [.int x0, .int x1, .int (x2 + 1)]) := rfl
    show tSeq _ _ _ _ (upd H t (.lst [.int x0, .int x1, .int (x2 + 1)]))
    generalize upd H t (.lst [.int x0, .int x1, .int (x2 + 1)]) = H2 at fr ht2
    refine ⟨_, rfl, t, _, 1, _, rfl, rfl, SqL.of ht2, rfl, _, rfl, t, _, 2, _, rfl, rfl, SqL.of ht2, rfl, _, _, rfl, rfl, .inl ⟨by omega, by omega⟩, _, _, rfl, rfl, _, _, rfl, rfl, ⟨by omega, by omega, ?_⟩, _, _, rfl, rfl, by show (0 : Int) < 2147483647; omega, ?_⟩
    · have : (x1 + 39373 * (x2 + 1)).natAbs < 2 ^ 64 := by omega
      exact this
    obtain ⟨o1, o2⟩ := hmd ((x1 + 39373 * (x2 + 1)) ^ (5 : Int).toNat) 2147483647 (by omega)
    generalize (x1 + 39373 * (x2 + 1)) ^ (5 : Int).toNat % 2147483647 = on at o1 o2
    refine ⟨_, rfl, _, rfl, t, _, 2, _, rfl, rfl, SqL.of ht2, rfl, _, _, rfl, rfl, _, rfl, _, _, rfl, rfl, by show (0 : Int) < 40009; omega, _, _, rfl, rfl, _, rfl, t, _, 2, _, rfl, rfl, SqL.of ht2, rfl, _, _, rfl, rfl, _, _, rfl, rfl, .inl ⟨by omega, by omega⟩, _, _, rfl, rfl, by show (0 : Int) < 2147483629; omega, ?_⟩
    obtain ⟨u1, u2⟩ := hmd ((on + (x2 + 1)) * (on % 40009 + 7 + (x2 + 1))) 2147483629 (by omega)
    generalize (on + (x2 + 1)) * (on % 40009 + 7 + (x2 + 1)) % 2147483629 = tw at u1 u2
    refine ⟨_, rfl, t, _, 1, _, rfl, rfl, SqL.of ht2, rfl, _, _, rfl, rfl, hw (by omega) (by omega) _, _, rfl, _, _, rfl, rfl, .inl ⟨by omega, by omega⟩, _, _, rfl, rfl, _, rfl, t, _, 2, _, rfl, rfl, SqL.of ht2, rfl, _, _, rfl, rfl, _, _, rfl, rfl, by show (0 : Int) < 2305843009213693951; omega, ?_⟩
    obtain ⟨w1, w2⟩ := hmd (x1 / 2147483647 + tw * 40009 + (x2 + 1)) 2305843009213693951 (by omega)
    generalize (x1 / 2147483647 + tw * 40009 + (x2 + 1)) % 2305843009213693951 = wd at w1 w2
    refine ⟨_, rfl, _, _, rfl, rfl, .inl ⟨by omega, by omega⟩, _, rfl, _, _, rfl, rfl, .inl ⟨by omega, by omega⟩, _, _, rfl, rfl, _, rfl, _, _, rfl, rfl, _, _, rfl, rfl, by show (0 : Int) < 2305843009213693921; omega, _, _, rfl, rfl, hw (by omega) (by omega) _, _, rfl, _, _, rfl, rfl, hm, ?_⟩
    exact k _ _ (hmd _ m hm).1 (hmd _ m hm).2 fr ⟨x0, x1, x2 + 1, ht2, h0, h1, h1', by omega, by omega⟩
/-! ### _law_tape(script, k) -/
theorem b01 (b : Bool) : -(2 ^ 64) < (if b = true then (1 : Int) else 0) ∧ (if b = true then (1 : Int) else 0) < 2 ^ 64 := by cases b <;> decide
theorem b01' (b : Bool) : 0 ≤ (if b = true then (1 : Int) else 0) := by cases b <;> decide
theorem absnn (x : Int) : 0 ≤ (if x < 0 then -x else x) := by split <;> omega
theorem ixN_nat {n j : Nat} (h : j < n) : ixN n (j : Int) = some j := by
  unfold ixN
  rw [if_pos (by omega), if_pos (by omega)]
  simp
def spTape : Sp := fun vs H Q _ => ∃ (c : Addr) (cells : List Int) (i : Nat), vs = [.ref c, .int i] ∧ IL H c cells ∧ i < cells.length ∧ cells.length ≤ 2 ∧ ∀ t H', Same H H' → H t = none → TapeAt H' t 0 → Q (.ref t) H'
theorem ok_tape (B : Bn mg) (D : Dfn K mg "_law_tape" s_law_tape ["_law_script", "_law_k"]) : Cal P w K mg base CX0 "_law_tape" 1 ["_law_script", "_law_k"] spTape := by
  have nd := s_law_tape_sc.nd
  refine D.cal s_law_tape_sc (fun vs H Q E ⟨c, cells, i, e, _⟩ => by rw [e]; rfl) (fun f cdv A outer s H vs Q E hr h => ?_)
  obtain ⟨c, cells, i, rfl, hc, hi, hl, k⟩ := h
  refine ⟨_, PSs.nox (pss_cons (ps_set (i := 2) nd rfl (.inl rfl) (pe_ifExp (pt_cmpR op_lt (pv 1) (pe_callB call_len_seq (by rfl) B.len PySem.boot_len (pa_cons (pv 0) pa_nil)) (nomark _)) (pe_ix ix_list (pv 0) (pv 1) (fun _ _ => rfl)) pe_int))
      (pss_one (ps_ret (pe_lst (pa_cons (pe_op op_mul (pe_callB call_abs (by rfl) B.abs (by decide +kernel) (pa_cons (pv 2) pa_nil)) (pe_callTy call_int1 (by rfl) B.int (by decide +kernel) (pa_cons (pe_cmpR op_ge (pe_callB call_abs (by rfl) B.abs (by decide +kernel) (pa_cons (pv 2) pa_nil)) (pe_op op_pow pe_int pe_int) (nomark _)) pa_nil))) (pa_cons (pe_op op_add (pe_op op_add (pe_op op_mod (pv 2) pe_int) (pe_op op_mul pe_int (pv 1))) pe_int) (pa_cons pe_int pa_nil))))))), ?_⟩
  obtain ⟨x, hx⟩ : ∃ x, cells[i]? = some x := ⟨_, List.getElem?_eq_getElem hi⟩
  refine ⟨_, rfl, _, rfl, c, _, rfl, .inl (SqL.of hc), _, _, rfl, rfl, _, rfl, ?_⟩
  refine ifT (decide_eq_true (by rw [List.length_map]; omega)) ?_
  refine ⟨_, rfl, _, rfl, c, _, _, .int x, rfl, rfl, SqL.of hc, atI_nat (at_map hx), ?_⟩
  refine ⟨_, rfl, x, rfl, _, rfl, x, rfl, _, _, rfl, rfl, ⟨by omega, by omega, by decide⟩, _, _, rfl, rfl, .inr ⟨_, rfl, _, _, rfl, rfl, .inr ?_, ?_⟩⟩
  · exact b01 _
  · have hmd : 0 ≤ x % 2305843009213693951 ∧ x % 2305843009213693951 < 2305843009213693951 := ⟨Int.emod_nonneg _ (by omega), Int.emod_lt_of_pos _ (by omega)⟩
    refine ⟨_, rfl, _, _, rfl, rfl, by show (0 : Int) < 2305843009213693951; omega, _, rfl, _, _, rfl, rfl, .inl ⟨by omega, by omega⟩, _, _, rfl, rfl, _, _, rfl, rfl, (by show 3 ≤ sizeLine; decide), fun t nt => ?_⟩
    refine k t _ (Same.upd nt) nt ⟨_, _, 0, upd_same, ?_, by omega, by omega, Int.le_refl _, Int.le_refl _⟩
    exact Int.mul_nonneg (absnn x) (b01' _)
/-! ### _law_folded(script, many) -/
def spFolded (K : PySem.W.Frag) : Sp := fun vs H Q _ => ∃ (a : Addr) (ns : List Int), vs = [.ref a, .int 2] ∧ SqL K H a (ns.map V.int) ∧ ns.length ≤ 63 ∧ ns ≠ [] ∧ ∀ p cs H', Same H H' → H p = none → IL H' p cs → 1 ≤ cs.length → cs.length ≤ 2 → Q (.ref p) H'
theorem ok_folded (B : Bn mg) (D : Dfn K mg "_law_folded" s_law_folded ["_law_script", "_law_many"]) : Cal P w K mg base CX0 "_law_folded" 1 ["_law_script", "_law_many"] (spFolded K) := by
  have nd := s_law_folded_sc.nd
  refine D.cal s_law_folded_sc (fun vs H Q E ⟨a, ns, e, _⟩ => by rw [e]; rfl) (fun f cdv A outer s H vs Q E hr h => ?_)
  obtain ⟨a, ns, rfl, ha, hl, hne, k⟩ := h
  refine ⟨_, PSs.nox (pss_cons (ps_set (i := 2) nd rfl (.inl rfl) (pe_callTy call_list_of (by rfl) B.list (by decide +kernel) (pa_cons (pe_slice sl_list (pv 0) po_none (po_some (pv 1))) pa_nil)))
      (pss_cons (ps_for PassesOwn.never rfl (pi_enum (by rfl) B.enum (pa_cons (pe_slice sl_list (pv 0) (po_some (pv 1)) (po_some pe_int)) pa_nil)) (pg_tup rfl (pgs_cons (pg_name (i := 3) nd rfl (.inl rfl)) (pgs_cons (pg_name (i := 4) nd rfl (.inl rfl)) pgs_nil))) (pss_one (ps_asg (pe_op op_add (pe_ix ix_list (pv 2) (pe_op op_mod (pv 3) (pv 1)) (fun _ _ => rfl)) (pe_op op_mul (pv 4) (pe_op op_add (pv 3) pe_int))) (pg_sub (pv 2) (pe_op op_mod (pv 3) (pv 1)) set_list))))
      (pss_one (ps_ret (pv 2))))), ?_⟩
  have hpos : 0 < ns.length := List.length_pos_iff.mpr hne
  refine ⟨_, rfl, _, rfl, _, rfl, a, _, rfl, ha, fun p np => ?_⟩
  have s1 := Same.upd (o := .lst (cutV (ns.map V.int) none (some 2))) np
  refine ⟨p, _, rfl, .inl (SqL.of upd_same), fun C nC => ?_⟩
  have s2 := Same.upd (o := .lst (cutV (ns.map V.int) none (some 2))) nC
  have s12 := s1.trans s2
  have nC0 : H C = none := Same.free s1 nC
  have eC : upd (upd H p (.lst (cutV (ns.map V.int) none (some 2)))) C (.lst (cutV (ns.map V.int) none (some 2))) C = some (.lst ((ns.take 2).map V.int)) := by
    rw [upd_same, show (2 : Int) = ((2 : Nat) : Int) from rfl, RhR.cutV_take, List.map_take]
  generalize upd (upd H p (.lst (cutV (ns.map V.int) none (some 2)))) C (.lst (cutV (ns.map V.int) none (some 2))) = H2 at s2 s12 eC
  refine ⟨_, rfl, _, rfl, _, rfl, _, rfl, a, _, rfl, s12.seq ha, fun q nq => ?_⟩
  have s3 := Same.upd (o := .lst (cutV (ns.map V.int) (some 2) (some 63))) nq
  have s13 := s12.trans s3
  have eC3 := s3 _ _ eC
  have eq3 : upd H2 q (.lst (cutV (ns.map V.int) (some 2) (some 63))) q = some (.lst (((ns.take 63).drop 2).map V.int)) := by
    rw [upd_same, show (2 : Int) = ((2 : Nat) : Int) from rfl, show (63 : Int) = ((63 : Nat) : Int) from rfl, RhR.cutV_range, List.map_drop, List.map_take]
  have hqC : q ≠ C := fun z => by rw [z, eC] at nq; cases nq
  generalize upd H2 q (.lst (cutV (ns.map V.int) (some 2) (some 63))) = H3 at s3 s13 eC3 eq3
  have hdl : ((ns.take 63).drop 2).length = ns.length - 2 := by rw [List.length_drop, List.length_take]; omega
  refine ⟨q, _, rfl, SqL.of eq3, for_it walk_enum (fun i σ H' => (∃ x y, σ = [some (.ref a), some (.int 2), some (.ref C), x, y]) ∧ Fr [C] H3 H' ∧ ∃ cs, IL H' C cs ∧ cs.length = min 2 ns.length)
    ⟨⟨none, none, rfl⟩, Fr.refl, _, eC3, by rw [List.length_take]⟩ (fun i σ H' _ z => SqL.of (z.2.1.keep _ _ eq3 (by simpa using hqC))) (fun i x σ H4 H5 hi z y => ?_) (fun σ H4 z => ?_)⟩
  · obtain ⟨⟨x0, y0, rfl⟩, fr, cs, ec, hcl⟩ := z
    obtain ⟨T, x, y, rfl, nT, rfl, e1, e2⟩ := y
    have ex : x = .int (i : Nat) := (Option.some.inj e1).symm
    subst ex
    obtain ⟨cv, hcv, rfl⟩ := map_at e2
    rw [List.length_map, hdl] at hi
    have s4 := Same.upd (o := .tup [V.int (i : Nat), V.int cv]) nT
    have ec4 := s4 _ _ ec
    have hk : ((i : Nat) : Int) % 2 = ((i % 2 : Nat) : Int) := by omega
    have hk2 : i % 2 < cs.length := by rw [hcl]; omega
    obtain ⟨c0, hc0⟩ : ∃ x, cs[i % 2]? = some x := ⟨_, List.getElem?_eq_getElem hk2⟩
    refine ⟨T, _, rfl, SqT.of upd_same, rfl, _, _, rfl, _, _, rfl, rfl, ?_⟩
    refine ⟨_, rfl, _, rfl, _, rfl, _, _, rfl, rfl, by show (0 : Int) < 2; omega, C, _, _, .int c0, rfl, rfl, SqL.of ec4, by rw [hk]; exact atI_nat (at_map hc0), _, rfl, _, rfl, _, _, rfl, rfl, _, _, rfl, rfl, .inr ⟨by omega, by omega⟩, _, _, rfl, rfl, ?_⟩
    refine ⟨_, rfl, _, rfl, _, rfl, _, _, rfl, rfl, by show (0 : Int) < 2; omega, C, _, _, i % 2, rfl, rfl, ec4, ?_, ⟨_, _, rfl⟩, fr.trans ((Fr.of s4).trans (Fr.lst ec4 (by simp))), cs.set (i % 2) (c0 + cv * (i + 2)), ?_, by rw [List.length_set, hcl]⟩
    · rw [hk, List.length_map]
      exact ixN_nat hk2
    · show upd _ C _ C = _
      rw [upd_same, List.map_set]
  · obtain ⟨⟨x0, y0, rfl⟩, fr, cs, ec, hcl⟩ := z
    exact ⟨_, rfl, k C cs _ (Fr.beside s13 fr (fun z hz => by rw [List.mem_singleton.mp hz]; exact nC0)) nC0 ec (by rw [hcl]; omega) (by rw [hcl]; omega)⟩
end
end Rh
end RhL1_
section RhL2_
set_option Elab.async false
set_option linter.all false
set_option maxRecDepth 100000
set_option maxHeartbeats 4000000
/-! The law's roads and deeds by draws. -/
namespace Rh
open PySem PySem.Spec PyProof.Rows L2
section
variable {P : Program} {w : World} {K : PySem.W.Frag} {mg : Str → Option Value} {base : Heap}
theorem atI_ints {ns : List Int} {r : Int} (h0 : 0 ≤ r) (h1 : r < (ns.length : Nat)) : ∃ v, atI (ns.map V.int) r = some (.int v) ∧ v ∈ ns := by
  obtain ⟨j, rfl, hj⟩ := (⟨r.toNat, by omega, by omega⟩ : ∃ j : Nat, r = (j : Int) ∧ j < ns.length)
  exact ⟨ns[j], atI_nat (at_map (List.getElem?_eq_getElem hj)), List.getElem_mem hj⟩
theorem Fr.newD {S : List Addr} {H1 H : Hp} {D : Addr} {o : HO} (n : H1 D = none) (f : Fr S H1 H) : Fr S H1 (upd H D o) := ⟨fun b u e hb => by rw [upd_ne (ne_of_none e n)]; exact f.keep b u e hb, fun b xs h => by
  have hb : b ≠ D := fun z => by rcases h with h | ⟨_, h⟩ <;> rw [z, n] at h <;> cases h
  have := f.tk b xs h
  unfold Rd at this ⊢
  rw [upd_ne hb]
  exact this⟩
theorem TapeAt.ne {H : Hp} {t D : Addr} {N : Int} (h : TapeAt H t N) (n : H D = none) : t ≠ D := by
  obtain ⟨x0, x1, x2, e, _⟩ := h
  exact fun z => by rw [z, n] at e; cases e
theorem TapeAt.upd {H : Hp} {t D : Addr} {N : Int} {o : HO} (h : TapeAt H t N) (n : t ≠ D) : TapeAt (upd H D o) t N := by
  obtain ⟨x0, x1, x2, e, r⟩ := h
  exact ⟨x0, x1, x2, by rw [upd_ne n]; exact e, r⟩
def LegOk (g : Leg) : Prop := g.2.1 ≤ g.2.2
/-! ### _law_leg(tape) -/
def spLLeg (K : PySem.W.Frag) : Sp := fun vs H Q _ => ∃ (t : Addr) (N : Int), vs = [.ref t] ∧ TapeAt H t N ∧ N ≤ 900000 ∧ ∀ a g H', Fr [t] H H' → Dp K H' (.ref a) (legD g) → LegOk g → TapeAt H' t (N + 9) → Q (.ref a) H'
theorem ok_lleg (B : Bn mg) (D : Dfn K mg "_law_leg" s_law_leg ["_law_tape_here"]) (h1 : Cal P w K mg base CX0 "_law_draw" 1 ["_law_tape_here", "_law_many"] spDraw) : Cal P w K mg base CX0 "_law_leg" 2 ["_law_tape_here"] (spLLeg K) := by
  have nd := s_law_leg_sc.nd
  obtain ⟨f1, fd1, G1, g1, k1, b1⟩ := h1
  refine D.cal s_law_leg_sc (fun vs H Q E ⟨t, N, e, _⟩ => by rw [e]; rfl) (fun f cdv A outer s H vs Q E hr h => ?_)
  obtain ⟨t, N, rfl, ht, hN, k⟩ := h
  refine ⟨_, PSs.nox (pss_cons (ps_par (i := 1) (j := 2) rfl nd rfl rfl (by decide) rfl rfl (pa_cons (pe_call G1 (hr.mono (by decide)) (by rfl) g1 k1 b1 .nil pass0 (pa_cons (pv 0) (pa_cons pe_int pa_nil))) (pa_cons (pe_op op_add pe_int (pe_call G1 (hr.mono (by decide)) (by rfl) g1 k1 b1 .nil pass0 (pa_cons (pv 0) (pa_cons (pe_ix ix_list (pe_lst (pa_cons pe_int (pa_cons pe_int (pa_cons (pe_op op_pow pe_int pe_int) pa_nil)))) (pe_call G1 (hr.mono (by decide)) (by rfl) g1 k1 b1 .nil pass0 (pa_cons (pv 0) (pa_cons pe_int pa_nil))) (fun _ _ => rfl)) pa_nil)))) pa_nil)) (by rfl))
      (pss_cons (ps_set (i := 3) nd rfl (.inl rfl) (pe_ix ix_list (pe_lst (pa_cons (pv 2) (pa_cons pe_int (pa_cons (pe_op op_add pe_int (pe_call G1 (hr.mono (by decide)) (by rfl) g1 k1 b1 .nil pass0 (pa_cons (pv 0) (pa_cons (pv 2) pa_nil)))) (pa_cons (pe_op op_add pe_int (pe_call G1 (hr.mono (by decide)) (by rfl) g1 k1 b1 .nil pass0 (pa_cons (pv 0) (pa_cons (pv 2) pa_nil)))) (pa_cons (pe_callB (call_max2 rfl) (by rfl) B.max (by decide +kernel) (pa_cons pe_int (pa_cons (pe_op op_sub (pv 2) pe_int) pa_nil))) (pa_cons (pe_op op_add pe_int (pe_op op_fdiv (pv 2) pe_int)) pa_nil))))))) (pv 1) (fun _ _ => rfl)))
      (pss_cons (ps_set (i := 4) nd rfl (.inl rfl) (pe_ix ix_list (pe_lst (pa_cons pe_int (pa_cons (pe_call G1 (hr.mono (by decide)) (by rfl) g1 k1 b1 .nil pass0 (pa_cons (pv 0) (pa_cons pe_int pa_nil))) (pa_cons (pe_call G1 (hr.mono (by decide)) (by rfl) g1 k1 b1 .nil pass0 (pa_cons (pv 0) (pa_cons pe_int pa_nil))) (pa_cons (pe_call G1 (hr.mono (by decide)) (by rfl) g1 k1 b1 .nil pass0 (pa_cons (pv 0) (pa_cons (pe_op op_mul pe_int (pv 2)) pa_nil))) (pa_cons pe_int (pa_cons pe_int pa_nil))))))) (pe_call G1 (hr.mono (by decide)) (by rfl) g1 k1 b1 .nil pass0 (pa_cons (pv 0) (pa_cons pe_int pa_nil))) (fun _ _ => rfl)))
      (pss_one (ps_ret (pe_tup (pa_cons (pe_op op_add (pv 2) (pv 4)) (pa_cons (pv 3) (pa_cons (pv 2) pa_nil))))))))), ?_⟩
  -- way
  refine ⟨_, rfl, t, 6, N, rfl, ht, by omega, by omega, by omega, fun way H1 p0 p1 fr1 ht1 => ?_⟩
  -- most
  refine ⟨_, rfl, _, _, rfl, rfl, ⟨by decide, by decide, by decide⟩, (by show 3 ≤ sizeLine; decide), fun l1 nl1 => ?_⟩
  have f1' : Fr [t] H1 (upd H1 l1 (.lst ([12, 40, 100000].map V.int))) := Fr.new nl1
  have ht1' : TapeAt (upd H1 l1 (.lst ([12, 40, 100000].map V.int))) t (N + 1) := ht1.upd (ht1.ne nl1)
  refine ⟨_, rfl, t, 3, N + 1, rfl, ht1', by omega, by omega, by omega, fun r2 H2 q0 q1 fr2 ht2 => ?_⟩
  obtain ⟨m0, hm0, mm0⟩ := atI_ints (ns := [12, 40, 100000]) q0 q1
  refine ⟨l1, _, _, _, rfl, rfl, SqL.of (fr2.keep _ _ upd_same (by simpa using (ht1.ne nl1).symm)), hm0, ?_⟩
  have hm0' : 1 ≤ m0 ∧ m0 ≤ 100000 := by
    simp only [List.mem_cons, List.not_mem_nil, or_false] at mm0
    omega
  refine ⟨t, m0, N + 1 + 1, rfl, ht2, by omega, by omega, by omega, fun r3 H3 u0 u1 fr3 ht3 => ?_⟩
  refine ⟨_, _, rfl, rfl, _, _, rfl, ?_⟩
  have hmo : ∃ mo, mo = 1 + r3 := ⟨_, rfl⟩
  obtain ⟨mo, emo⟩ := hmo
  have fr03 : Fr [t] H H3 := ((fr1.trans f1').trans fr2).trans fr3
  show tSeq _ _ _ [some (.ref t), some (.int way), some (.int (1 + r3)), none, none] H3
  rw [← emo]
  have bmo : 1 ≤ mo ∧ mo ≤ 100000 := by omega
  -- least
  refine ⟨_, rfl, _, rfl, _, rfl, t, mo, N + 1 + 1 + 1, rfl, ht3, by omega, by omega, by omega, fun r4 H4 v0 v1 fr4 ht4 => ?_⟩
  refine ⟨_, _, rfl, rfl, _, rfl, _, rfl, t, mo, N + 1 + 1 + 1 + 1, rfl, ht4, by omega, by omega, by omega, fun r5 H5 w0 w1 fr5 ht5 => ?_⟩
  refine ⟨_, _, rfl, rfl, _, rfl, _, _, rfl, rfl, _, _, rfl, _, rfl, _, _, rfl, rfl, ⟨by omega, by omega⟩, _, _, rfl, rfl, (by show 6 ≤ sizeLine; decide), fun l2 nl2 => ?_⟩
  have ht5' : TapeAt (upd H5 l2 (.lst ([mo, 1, 1 + r4, 1 + r5, if mo - 2 > 1 then mo - 2 else 1, 1 + mo / 2].map V.int))) t (N + 1 + 1 + 1 + 1 + 1) := ht5.upd (ht5.ne nl2)
  have f5' : Fr [t] H5 (upd H5 l2 (.lst ([mo, 1, 1 + r4, 1 + r5, if mo - 2 > 1 then mo - 2 else 1, 1 + mo / 2].map V.int))) := Fr.new nl2
  obtain ⟨le, hle, mle⟩ := atI_ints (ns := [mo, 1, 1 + r4, 1 + r5, if mo - 2 > 1 then mo - 2 else 1, 1 + mo / 2]) p0 p1
  refine ⟨_, rfl, l2, _, _, _, rfl, rfl, SqL.of upd_same, hle, ?_⟩
  have hle' : le ≤ mo := by
    simp only [List.mem_cons, List.not_mem_nil, or_false] at mle
    split at mle <;> omega
  -- more
  refine ⟨_, rfl, t, 9, N + 1 + 1 + 1 + 1 + 1, rfl, ht5', by omega, by omega, by omega, fun r6 H6 a0 a1 fr6 ht6 => ?_⟩
  refine ⟨_, rfl, t, 30, N + 1 + 1 + 1 + 1 + 1 + 1, rfl, ht6, by omega, by omega, by omega, fun r7 H7 b0 b1 fr7 ht7 => ?_⟩
  refine ⟨_, rfl, _, rfl, _, _, rfl, rfl, .inl ⟨by omega, by omega⟩, t, 2 * mo, N + 1 + 1 + 1 + 1 + 1 + 1 + 1, rfl, ht7, by omega, by omega, by omega, fun r8 H8 c0 c1 fr8 ht8 => ?_⟩
  refine ⟨(by show 6 ≤ sizeLine; decide), fun l3 nl3 => ?_⟩
  have ht8' : TapeAt (upd H8 l3 (.lst ([0, r6, r7, r8, 0, 1].map V.int))) t (N + 1 + 1 + 1 + 1 + 1 + 1 + 1 + 1) := ht8.upd (ht8.ne nl3)
  have f8' : Fr [t] H8 (upd H8 l3 (.lst ([0, r6, r7, r8, 0, 1].map V.int))) := Fr.new nl3
  refine ⟨_, rfl, t, 6, N + 1 + 1 + 1 + 1 + 1 + 1 + 1 + 1, rfl, ht8', by omega, by omega, by omega, fun r9 H9 d0 d1 fr9 ht9 => ?_⟩
  obtain ⟨mr, hmr, mmr⟩ := atI_ints (ns := [0, r6, r7, r8, 0, 1]) d0 d1
  refine ⟨l3, _, _, _, rfl, rfl, SqL.of (fr9.keep _ _ upd_same (by simpa using (ht8.ne nl3).symm)), hmr, ?_⟩
  refine ⟨_, rfl, _, rfl, _, _, rfl, rfl, _, rfl, _, rfl, (by show 3 ≤ sizeLine; decide), fun a na => ?_⟩
  have frA : Fr [t] H (upd H9 a (.tup [.int (mo + mr), .int le, .int mo])) := ((((((((fr03.trans fr4).trans fr5).trans f5').trans fr6).trans fr7).trans fr8).trans f8').trans fr9).trans (Fr.new na)
  exact k a (mo + mr, le, mo) _ frA (.tup (SqT.of upd_same) (.cons (.int _) (.cons (.int _) (.cons (.int _) .nil)))) hle' ((ht9.upd (ht9.ne na)).mono (by omega))
/-! ### _law_road(tape, most) -/
/-- a road as the law draws them -/
structure RdOk (rd : Road) (n : Nat) (B : Int) : Prop where
  legs : rd.1.length = n
  firsts : rd.2.length = n
  pos : 1 ≤ n
  few : n ≤ 8
  ok : ∀ g ∈ rd.1, LegOk g
  lo : ∀ x ∈ rd.2, -B ≤ x ∧ x ≤ B
def spLRoad (K : PySem.W.Frag) : Sp := fun vs H Q _ => ∃ (t : Addr) (N : Int), vs = [.ref t, .int 8] ∧ TapeAt H t N ∧ N ≤ 800000 ∧ ∀ v rd n H', Fr [t] H H' → Dp K H' v (roadD rd) → RdOk rd n 1001000 → TapeAt H' t (N + 100) → Q v H'
abbrev nRoad : List Str := ["_law_tape_here", "_law_most", "_law_many", "_law_kinds", "_law_legs", "_law_base", "_law_wide", "_law_k"]
theorem sc_lroad : FnScope nRoad ["_law_tape_here", "_law_most"] (defScope s_law_road) := ⟨rfl, rfl, rfl, by decide +kernel, rfl, by decide +kernel, by decide +kernel⟩
theorem ok_lroad (B : Bn mg) (D : Dfn K mg "_law_road" s_law_road ["_law_tape_here", "_law_most"]) (h1 : Cal P w K mg base CX0 "_law_draw" 1 ["_law_tape_here", "_law_many"] spDraw) (h2 : Cal P w K mg base CX0 "_law_leg" 2 ["_law_tape_here"] (spLLeg K)) : Cal P w K mg base CX0 "_law_road" 3 ["_law_tape_here", "_law_most"] (spLRoad K) := by
  have nd := sc_lroad.nd
  obtain ⟨f1, fd1, G1, g1, k1, b1⟩ := h1
  obtain ⟨f2, fd2, G2, g2, k2, b2⟩ := h2
  refine D.cal sc_lroad (fun vs H Q E ⟨t, N, e, _⟩ => by rw [e]; rfl) (fun f cdv A outer s H vs Q E hr h => ?_)
  obtain ⟨t, N, rfl, ht, hN, k⟩ := h
  refine ⟨_, PSs.nox (pss_cons (ps_asg (pe_tup (pa_cons (pe_op op_add pe_int (pe_call G1 (hr.mono (by decide)) (by rfl) g1 k1 b1 .nil pass0 (pa_cons (pv 0) (pa_cons (pv 1) pa_nil)))) (pa_cons (pe_lc (own := [("_law_k", 7)]) (g := gName 7) (te := tCall (spLLeg K) [] E0 (tCons (tVar 0) tNil)) rfl nd (pi_range1 (by rfl) B.range (pa_cons (pe_op op_add pe_int (pe_call G1 (hr.mono (by decide)) (by rfl) g1 k1 b1 .nil pass0 (pa_cons (pv 0) (pa_cons pe_int pa_nil)))) pa_nil)) (blkOk_by (N := nRoad) (sc := defScope s_law_road) (by decide +kernel)) (fun _ _ _ _ _ => (pg_name (i := 7) nd rfl (.inl rfl))) (fun _ _ _ _ _ => pts_nil) (fun _ _ _ _ _ => (pe_call G2 (hr.mono (by decide)) (by rfl) g2 k2 b2 .nil pass0 (pa_cons (pv 0) pa_nil)))) pa_nil))) (pg_tup rfl (pgs_cons (pg_name (i := 2) nd rfl (.inl rfl)) (pgs_cons (pg_name (i := 3) nd rfl (.inr rfl)) pgs_nil))))
      (pss_cons (ps_setLc (i := 4) (own := [("_law_k", 7)]) (g := gName 7) (te := tOp (rIxL K) (tVar 3) (tCall spDraw [] E0 (tCons (tVar 0) (tCons (tCB (fun xs H Q => ∃ p ys, xs = [.ref p] ∧ (SqL K H p ys ∨ SqT K H p ys) ∧ Q (.int ys.length) H) (tCons (tVar 3) tNil)) tNil)))) rfl nd rfl rfl (sw_true rfl rfl rfl (by decide +kernel)) (pi_range1 (by rfl) B.range (pa_cons (pv 2) pa_nil)) (blkOk_by (N := nRoad) (sc := defScope s_law_road) (by decide +kernel)) (fun _ _ _ _ _ => (pg_name (i := 7) nd rfl (.inl rfl))) (fun _ _ _ _ _ => pts_nil) (fun _ _ _ _ _ => (pe_ix ix_list (pv 3) (pe_call G1 (hr.mono (by decide)) (by rfl) g1 k1 b1 .nil pass0 (pa_cons (pv 0) (pa_cons (pe_callB call_len_seq (by rfl) B.len PySem.boot_len (pa_cons (pv 3) pa_nil)) pa_nil))) (fun _ _ => rfl))))
      (pss_cons (ps_asg (pe_tup (pa_cons (pe_ix ix_list (pe_lst (pa_cons pe_int (pa_cons (pe_un un_neg (pe_op op_pow pe_int pe_int)) (pa_cons pe_int pa_nil)))) (pe_call G1 (hr.mono (by decide)) (by rfl) g1 k1 b1 .nil pass0 (pa_cons (pv 0) (pa_cons pe_int pa_nil))) (fun _ _ => rfl)) (pa_cons (pe_ix ix_list (pe_lst (pa_cons pe_int (pa_cons pe_int (pa_cons pe_int pa_nil)))) (pe_call G1 (hr.mono (by decide)) (by rfl) g1 k1 b1 .nil pass0 (pa_cons (pv 0) (pa_cons pe_int pa_nil))) (fun _ _ => rfl)) pa_nil))) (pg_tup rfl (pgs_cons (pg_name (i := 5) nd rfl (.inr rfl)) (pgs_cons (pg_name (i := 6) nd rfl (.inr rfl)) pgs_nil))))
      (pss_one (ps_ret (pe_tup (pa_cons (pe_callTy call_tuple_of (by rfl) B.tuple (by decide +kernel) (pa_cons (pv 4) pa_nil)) (pa_cons (pe_callTy call_tuple_of (by rfl) B.tuple (by decide +kernel) (pa_cons (pe_lc (own := [("_law_k", 7)]) (g := gName 7) rfl nd (pi_range1 (by rfl) B.range (pa_cons (pv 2) pa_nil)) (blkOk_by (N := nRoad) (sc := defScope s_law_road) (by decide +kernel)) (fun _ _ _ _ _ => (pg_name (i := 7) nd rfl (.inl rfl))) (fun _ _ _ _ _ => pts_nil) (fun _ _ _ _ _ => (pe_op op_sub (pv 5) (pe_call G1 (hr.mono (by decide)) (by rfl) g1 k1 b1 .nil pass0 (pa_cons (pv 0) (pa_cons (pv 6) pa_nil)))))) pa_nil)) pa_nil)))))))), ?_⟩
  -- how many, the kinds
  refine ⟨_, rfl, _, rfl, t, 8, N, rfl, ht, by omega, by omega, by omega, fun r1 H1 p0 p1 fr1 ht1 => ⟨_, _, rfl, rfl, ?_⟩⟩
  refine ⟨_, rfl, t, 3, N + 1, rfl, ht1, by omega, by omega, by omega, fun r2 H2 q0 q1 fr2 ht2 => ⟨_, _, rfl, rfl, ?_⟩⟩
  refine ⟨_, rfl, by omega, by omega, ?_⟩
  intro D nD
  have htD := ht2.ne nD
  have fr02 := fr1.trans fr2
  refine lc_it (walk_range (lo := 0) (n := (1 + r2).toNat)) (fun i H' => Fr [t] H2 H' ∧ TapeAt H' t (N + 1 + 1 + 9 * i) ∧ ∃ (vs : List V) (gs : List Leg), H' D = some (.lst vs) ∧ DpAll K H' vs (gs.map legD) ∧ gs.length = i ∧ ∀ g ∈ gs, LegOk g)
    ⟨Fr.newD nD Fr.refl, (ht2.upd htD).mono (by omega), [], [], upd_same, .nil, rfl, fun g hg => by cases hg⟩ (fun _ _ _ _ => trivial) (fun i x H3 H4 hi pv' y => ?_) (fun H3 pv' => ?_)
  · obtain ⟨fr3, ht3, vs, gs, eD, dD, lD, okD⟩ := pv'
    obtain ⟨rfl, rfl⟩ := y
    refine ⟨rfl, ?_⟩
    refine ⟨_, rfl, t, N + 1 + 1 + 9 * i, rfl, ht3, by omega, fun a g H5 fr5 dg og ht5 => ?_⟩
    have eD5 := fr5.keep _ _ eD (by simpa using htD.symm)
    have f6 : Fr [t] H2 (upd H5 D (.lst (vs ++ [.ref a]))) := Fr.newD nD (fr3.trans fr5)
    have f56 : Fr [D] H5 (upd H5 D (.lst (vs ++ [.ref a]))) := Fr.lst eD5 (by simp)
    refine ⟨vs, eD5, by rw [sizeLine_eq, DpAll.length dD, List.length_map]; omega, f6, (ht5.upd htD).mono (by omega), vs ++ [.ref a], gs ++ [g], upd_same, ?_, by rw [List.length_append, lD]; rfl, fun g' hg' => ?_⟩
    · rw [List.map_append]
      exact DpAll.app (DpAll.fr f56 (noLs_legs _) (DpAll.fr fr5 (noLs_legs _) dD)) (.cons (Dp.fr f56 (noL_leg _) dg) .nil)
    · rcases List.mem_append.mp hg' with z | z
      · exact okD _ z
      · rw [List.mem_singleton.mp z]
        exact og
  obtain ⟨fr3, ht3, kvs, kgs, eK, dK', lK, okK⟩ := pv'
  refine ⟨(by show 2 ≤ sizeLine; decide), fun tp ntp => ?_⟩
  have s4 := Same.upd (o := .tup [V.int (1 + r1), V.ref D]) ntp
  refine ⟨tp, _, rfl, SqT.of upd_same, rfl, _, _, rfl, _, _, rfl, rfl, ?_⟩
  have fr04 : Fr [t] H (upd H3 tp (.tup [V.int (1 + r1), V.ref D])) := (fr02.trans fr3).trans (Fr.of s4)
  have ht4 := ht3.same s4
  have eK4 := s4 _ _ eK
  have dK4 := DpAll.same s4 dK'
  have hkl : kvs.length = (1 + r2).toNat := by rw [DpAll.length dK', List.length_map, lK]
  show tSeq _ _ _ [some (.ref t), some (.int 8), some (.int (1 + r1)), some (.ref D), none, none, none, none] (upd H3 tp (.tup [V.int (1 + r1), V.ref D]))
  generalize (upd H3 tp (.tup [V.int (1 + r1), V.ref D])) = H4 at fr04 ht4 eK4 dK4
  -- the legs
  refine ⟨_, rfl, _, rfl, by omega, by omega, ?_⟩
  intro D2 nD2
  have htD2 := ht4.ne nD2
  have hDD2 : D ≠ D2 := fun z => by rw [z, nD2] at eK4; cases eK4
  refine lc_it (walk_range (lo := 0) (n := (1 + r1).toNat)) (fun i H' => Fr [t] H4 H' ∧ TapeAt H' t (N + 40 + i) ∧ ∃ (vs : List V) (gs : List Leg), H' D2 = some (.lst vs) ∧ DpAll K H' vs (gs.map legD) ∧ gs.length = i ∧ ∀ g ∈ gs, LegOk g)
    ⟨Fr.newD nD2 Fr.refl, (ht4.upd htD2).mono (by omega), [], [], upd_same, .nil, rfl, fun g hg => by cases hg⟩ (fun _ _ _ _ => trivial) (fun i x H5 H6 hi pv' y => ?_) (fun H5 pv' => ?_)
  · obtain ⟨fr5, ht5, vs, gs, eD, dD, lD, okD⟩ := pv'
    obtain ⟨rfl, rfl⟩ := y
    refine ⟨rfl, ?_⟩
    have eK5 := fr5.keep _ _ eK4 (by simpa using htD.symm)
    refine ⟨_, rfl, _, rfl, _, rfl, D, kvs, rfl, .inl (SqL.of eK5), t, (kvs.length : Nat), N + 40 + i, rfl, ht5, by omega, by omega, by omega, fun r H7 a0 a1 fr7 ht7 => ?_⟩
    obtain ⟨j, rfl, hj⟩ := (⟨r.toNat, by omega, by omega⟩ : ∃ j : Nat, r = (j : Int) ∧ j < kvs.length)
    have hv : kvs[j]? = some kvs[j] := List.getElem?_eq_getElem hj
    have fr47 := fr5.trans fr7
    obtain ⟨dd, hdd, dv⟩ := DpAll.at' dK4 hv
    obtain ⟨g, hg, rfl⟩ := map_at hdd
    refine ⟨D, kvs, _, _, rfl, rfl, SqL.of (fr47.keep _ _ eK4 (by simpa using htD.symm)), atI_nat hv, ?_⟩
    have eD7 := fr7.keep _ _ eD (by simpa using htD2.symm)
    have f78 : Fr [D2] H7 (upd H7 D2 (.lst (vs ++ [kvs[j]]))) := Fr.lst eD7 (by simp)
    refine ⟨vs, eD7, by rw [sizeLine_eq, DpAll.length dD, List.length_map]; omega, Fr.newD nD2 fr47, (ht7.upd htD2).mono (by omega), vs ++ [kvs[j]], gs ++ [g], upd_same, ?_, by rw [List.length_append, lD]; rfl, fun g' hg' => ?_⟩
    · rw [List.map_append]
      exact DpAll.app (DpAll.fr f78 (noLs_legs _) (DpAll.fr fr7 (noLs_legs _) dD)) (.cons (Dp.fr f78 (noL_leg _) (Dp.fr fr47 (noL_leg _) dv)) .nil)
    · rcases List.mem_append.mp hg' with z | z
      · exact okD _ z
      · rw [List.mem_singleton.mp z]
        exact okK _ (List.mem_of_getElem? hg)
  obtain ⟨fr5, ht5, lvs, lgs, eL, dL, lL, okL⟩ := pv'
  have fr05 := fr04.trans fr5
  -- base, wide
  refine ⟨_, _, rfl, rfl, ⟨by decide, by decide, by decide⟩, _, rfl, (by show 3 ≤ sizeLine; decide), fun l1 nl1 => ?_⟩
  have f6 : Fr [t] H5 (upd H5 l1 (.lst ([0, -(10 ^ (6 : Int).toNat), 500].map V.int))) := Fr.new nl1
  have ht6 := ht5.upd (o := .lst ([0, -(10 ^ (6 : Int).toNat), 500].map V.int)) (ht5.ne nl1)
  have hl1t := (ht5.ne nl1).symm
  refine ⟨_, rfl, t, 3, _, rfl, ht6, by omega, by omega, by omega, fun r3 H7 b0 b1 fr7 ht7 => ?_⟩
  obtain ⟨ba, hba, mba⟩ := atI_ints (ns := [0, -(10 ^ (6 : Int).toNat), 500]) b0 b1
  refine ⟨l1, _, _, _, rfl, rfl, SqL.of (fr7.keep _ _ upd_same (by simpa using hl1t)), hba, ?_⟩
  have bba : -1000000 ≤ ba ∧ ba ≤ 500 := by
    simp only [List.mem_cons, List.not_mem_nil, or_false] at mba
    rcases mba with z | z | z <;> rw [z] <;> decide
  refine ⟨(by show 3 ≤ sizeLine; decide), fun l2 nl2 => ?_⟩
  have f8 : Fr [t] H7 (upd H7 l2 (.lst ([1, 10, 200].map V.int))) := Fr.new nl2
  have ht8 := ht7.upd (o := .lst ([1, 10, 200].map V.int)) (ht7.ne nl2)
  have hl2t := (ht7.ne nl2).symm
  refine ⟨_, rfl, t, 3, _, rfl, ht8, by omega, by omega, by omega, fun r4 H9 c0 c1 fr9 ht9 => ?_⟩
  obtain ⟨wi, hwi, mwi⟩ := atI_ints (ns := [1, 10, 200]) c0 c1
  refine ⟨l2, _, _, _, rfl, rfl, SqL.of (fr9.keep _ _ upd_same (by simpa using hl2t)), hwi, ?_⟩
  have bwi : 1 ≤ wi ∧ wi ≤ 200 := by
    simp only [List.mem_cons, List.not_mem_nil, or_false] at mwi
    omega
  refine ⟨(by show 2 ≤ sizeLine; decide), fun tq ntq => ?_⟩
  have s10 := Same.upd (o := .tup [V.int ba, V.int wi]) ntq
  refine ⟨tq, _, rfl, SqT.of upd_same, rfl, _, _, rfl, _, _, rfl, rfl, ?_⟩
  have fr5A : Fr [t] H5 (upd H9 tq (.tup [V.int ba, V.int wi])) := (((f6.trans fr7).trans f8).trans fr9).trans (Fr.of s10)
  have htA := ht9.same s10
  have eLA := fr5A.keep _ _ eL (by simpa using htD2.symm)
  have dLA := DpAll.fr fr5A (noLs_legs _) dL
  have fr0A := fr05.trans fr5A
  generalize (upd H9 tq (.tup [V.int ba, V.int wi])) = HA at fr5A htA eLA dLA fr0A
  -- the tuples
  refine ⟨_, rfl, D2, lvs, rfl, .inl ⟨SqL.of eLA, fun lt nlt => ?_⟩⟩
  have s11 := Same.upd (o := .tup lvs) nlt
  have htB := htA.same s11
  have elt : upd HA lt (.tup lvs) lt = some (.tup lvs) := upd_same
  have dLB := DpAll.same s11 dLA
  have fr0B := fr0A.trans (Fr.of s11)
  generalize (upd HA lt (.tup lvs)) = HB at s11 htB elt dLB fr0B ⊢
  refine ⟨_, rfl, _, rfl, by omega, by omega, ?_⟩
  intro D3 nD3
  have htD3 := htB.ne nD3
  refine lc_it (walk_range (lo := 0) (n := (1 + r1).toNat)) (fun i H' => Fr [t] HB H' ∧ TapeAt H' t (N + 80 + i) ∧ ∃ xs : List Int, IL H' D3 xs ∧ xs.length = i ∧ ∀ x ∈ xs, -1001000 ≤ x ∧ x ≤ 1001000)
    ⟨Fr.newD nD3 Fr.refl, (htB.upd htD3).mono (by omega), [], upd_same, rfl, fun g hg => by cases hg⟩ (fun _ _ _ _ => trivial) (fun i x H5 H6 hi pv' y => ?_) (fun HC pv' => ?_)
  · obtain ⟨fr5', ht5', xs, eD, lD, okD⟩ := pv'
    obtain ⟨rfl, rfl⟩ := y
    refine ⟨rfl, ?_⟩
    refine ⟨_, rfl, _, rfl, _, rfl, t, wi, N + 80 + i, rfl, ht5', by omega, by omega, by omega, fun r H7 a0 a1 fr7' ht7' => ⟨_, _, rfl, rfl, ?_⟩⟩
    have eD7 := fr7'.keep _ _ eD (by simpa using htD3.symm)
    refine ⟨xs.map V.int, eD7, by rw [sizeLine_eq, List.length_map]; omega, Fr.newD nD3 (fr5'.trans fr7'), (ht7'.upd htD3).mono (by omega), xs ++ [ba - r], ?_, by rw [List.length_append, lD]; rfl, fun x hx => ?_⟩
    · show upd H7 D3 _ D3 = _
      rw [upd_same, List.map_append]
      rfl
    · rcases List.mem_append.mp hx with z | z
      · exact okD _ z
      · rw [List.mem_singleton.mp z]
        omega
  obtain ⟨frC, htC, xs, eX, lX, okX⟩ := pv'
  refine ⟨D3, _, rfl, .inl ⟨SqL.of eX, fun ft nft => ?_⟩⟩
  have s12 := Same.upd (o := .tup (xs.map V.int)) nft
  refine ⟨(by show 2 ≤ sizeLine; decide), fun rt nrt => ?_⟩
  have s13 := Same.upd (o := .tup [V.ref lt, V.ref ft]) nrt
  have s1213 := s12.trans s13
  have eltC := s1213 _ _ (frC.keep _ _ elt (by
    have : lt ≠ t := fun z => by obtain ⟨x0, x1, x2, e, _⟩ := htB; rw [← z, elt] at e; cases e
    simpa using this))
  refine k (.ref rt) (lgs, xs) (1 + r1).toNat _ ((fr0B.trans frC).trans (Fr.of s1213)) ?_ ⟨lL, lX, by omega, by omega, okL, okX⟩ ((htC.same s1213).mono (by omega))
  exact .tup (SqT.of upd_same) (.cons (.tup (SqT.of eltC) (DpAll.same s1213 (DpAll.fr frC (noLs_legs _) dLB))) (.cons (Dp.ofTints (SqT.of (s13 _ _ upd_same))) .nil))
end
end Rh
end RhL2_
section RhL3_
set_option Elab.async false
set_option linter.all false
set_option maxRecDepth 100000
set_option maxHeartbeats 4000000
/-! The law's own books; alike, kind by kind. -/
namespace Rh
open PySem PySem.Spec PyProof.Rows L2
section
variable {P : Program} {w : World} {K : PySem.W.Frag} {mg : Str → Option Value} {base : Heap}
theorem perm_sum {l1 l2 : List Int} (h : l1.Perm l2) : l1.sum = l2.sum := by
  induction h with
  | nil => rfl
  | cons x _ ih => rw [List.sum_cons, List.sum_cons, ih]
  | swap x y l => rw [List.sum_cons, List.sum_cons, List.sum_cons, List.sum_cons]; omega
  | trans _ _ h1 h2 => rw [h1, h2]
/-- the middle one of three, the first of them not above the last -/
theorem middle {a b c : Int} {ns : List Int} (h : ns.Perm [a, b, c]) (hs : ns.Pairwise (· ≤ ·)) (hac : a ≤ c) : ∃ x z, ns = [x, max a (min c b), z] := by
  have hl := h.length_eq
  match ns, hl with
  | [x, y, z], _ =>
    have hsum := perm_sum h
    simp only [List.sum_cons, List.sum_nil] at hsum
    have m1 : x = a ∨ x = b ∨ x = c := by have := h.mem_iff (a := x); simpa using this.mp (by simp)
    have m2 : y = a ∨ y = b ∨ y = c := by have := h.mem_iff (a := y); simpa using this.mp (by simp)
    have m3 : z = a ∨ z = b ∨ z = c := by have := h.mem_iff (a := z); simpa using this.mp (by simp)
    have n1 : a = x ∨ a = y ∨ a = z := by have := h.mem_iff (a := a); simpa using this.mpr (by simp)
    have n2 : b = x ∨ b = y ∨ b = z := by have := h.mem_iff (a := b); simpa using this.mpr (by simp)
    have n3 : c = x ∨ c = y ∨ c = z := by have := h.mem_iff (a := c); simpa using this.mpr (by simp)
    simp only [List.pairwise_cons, List.mem_cons, List.not_mem_nil, or_false, forall_eq_or_imp, forall_eq] at hs
    refine ⟨x, z, ?_⟩
    have : y = max a (min c b) := by
      rcases m1 with rfl | rfl | rfl <;> rcases m2 with rfl | rfl | rfl <;> rcases m3 with rfl | rfl | rfl <;> omega
    rw [this]
theorem ride_mid {g : Leg} {s : Int} (h : LegOk g) : max g.2.1 (min g.2.2 (g.1 - s)) = rideM g s := by
  unfold rideM heldM
  unfold LegOk at h
  omega
/-! ### _law_books(road, sets) -/
def spLBooks (K : PySem.W.Frag) : Sp := fun vs H Q _ => ∃ (v u : V) (rd : Road) (sets : List Int), vs = [v, u] ∧ Dp K H v (roadD rd) ∧ Dp K H u (setsD sets) ∧ rd.1.length = rd.2.length ∧ rd.1.length ≤ 100 ∧ sets.length ≤ 1000 ∧ (∀ g ∈ rd.1, LegOk g) ∧
  ∀ p H', Same H H' → Rows (fun q => H q = none) H' p (booksM rd.1 rd.2 sets) → Q (.ref p) H'
theorem ok_lbooks (B : Bn mg) (D : Dfn K mg "_law_books" s_law_books ["_law_road_here", "_law_sets"]) : Cal P w K mg base CX0 "_law_books" 1 ["_law_road_here", "_law_sets"] (spLBooks K) := by
  have nd := s_law_books_sc.nd
  refine D.cal s_law_books_sc (fun vs H Q E ⟨v, u, rd, sets, e, _⟩ => by rw [e]; rfl) (fun f cdv A outer s H vs Q E hr h => ?_)
  obtain ⟨v, u, rd, sets, rfl, hv, hu, hl, hl2, hs, hok, k⟩ := h
  obtain ⟨a, b, c, ls, rfl, ha, hb, hbd, hc⟩ := Dp.roadI hv
  obtain ⟨d, rfl, hd⟩ := Dp.setsI hu
  refine ⟨_, PSs.nox (pss_cons (ps_set (i := 2) nd rfl (.inl rfl) (pe_lst (pa_cons (pe_callTy call_list_of (by rfl) B.list (by decide +kernel) (pa_cons (pv 1) pa_nil)) pa_nil)))
      (pss_cons (ps_for PassesOwn.never rfl (RZ.pi_zipA (by rfl) B.zip (pa_cons (pe_ix ix_tup (pv 0) pe_int (fun _ _ => rfl)) (pa_cons (pe_ix ix_tup (pv 0) pe_int (fun _ _ => rfl)) pa_nil))) (pg_tup rfl (pgs_cons (pg_name (i := 3) nd rfl (.inl rfl)) (pgs_cons (pg_name (i := 4) nd rfl (.inl rfl)) pgs_nil))) (pss_cons (ps_par (i := 5) (j := 6) rfl nd rfl rfl (by decide) rfl rfl (pa_cons (pv 4) (pa_cons (pe_lst pa_nil) pa_nil)) (by rfl))
      (pss_cons (ps_for PassesOwn.never rfl (pi_list (pe_ix ix_list (pv 2) (pe_un un_neg pe_int) (fun _ _ => rfl))) (pg_name (i := 7) nd rfl (.inl rfl)) (pss_cons (ps_expr (pe_bm PySem.F.plainAttrs_list PySem.F.slot_list_append PySem.F.type_list_append mt_append (pv 6) (pa_cons (pe_op op_add (pv 7) (pe_ix ix_list (pe_callB cr_sorted (by rfl) B.sorted (by decide +kernel) (pa_cons (pe_lst (pa_cons (pe_ix ix_tup (pv 3) pe_int (fun _ _ => rfl)) (pa_cons (pe_op op_sub (pe_ix ix_tup (pv 3) pe_int (fun _ _ => rfl)) (pe_op op_sub (pv 7) (pv 5))) (pa_cons (pe_ix ix_tup (pv 3) pe_int (fun _ _ => rfl)) pa_nil)))) pa_nil)) pe_int (fun _ _ => rfl))) pa_nil)))
      (pss_one (ps_set (i := 5) nd rfl (.inl rfl) (pv 7)))))
      (pss_one (ps_expr (pe_bm PySem.F.plainAttrs_list PySem.F.slot_list_append PySem.F.type_list_append mt_append (pv 2) (pa_cons (pv 6) pa_nil)))))))
      (pss_one (ps_ret (pv 2))))), ?_⟩
  have lls : ls.length = rd.1.length := by rw [DpAll.length hbd, List.length_map]
  refine ⟨_, rfl, d, _, rfl, .inr hd, fun l nl => ?_⟩
  refine ⟨(by show 1 ≤ sizeLine; decide), fun B0 nB => ?_⟩
  have s1 : Same H (upd H l (.lst (sets.map V.int))) := Same.upd nl
  have s2 := s1.trans (Same.upd (o := .lst [V.ref l]) nB)
  have nB0 : H B0 = none := Same.free s1 nB
  have nlB : l ≠ B0 := ne_of_none (show upd H l (.lst (sets.map V.int)) l = _ from upd_same) nB
  have e0 : upd (upd H l (.lst (sets.map V.int))) B0 (.lst [V.ref l]) B0 = some (.lst [V.ref l]) := upd_same
  have el : IL (upd (upd H l (.lst (sets.map V.int))) B0 (.lst [V.ref l])) l sets := Same.upd nB _ _ upd_same
  generalize hH3 : upd (upd H l (.lst (sets.map V.int))) B0 (.lst [V.ref l]) = H3 at s2 e0 el ⊢
  refine ⟨_, rfl, a, _, 0, _, rfl, rfl, Same.tup s2 ha, rfl, _, rfl, a, _, 1, _, rfl, rfl, Same.tup s2 ha, rfl, b, c, ls, _, rfl, .inr ⟨Same.tup s2 hb, Same.tup s2 hc, ?_⟩⟩
  refine for_it (walk_zT (n := rd.1.length) (by rw [lls, List.length_map, ← hl, Nat.min_self])) (fun i σ H' => (∃ x y z t r, σ = [some (.ref a), some (.ref d), some (.ref B0), x, y, z, t, r]) ∧ Fr [B0] H3 H' ∧ ∃ vs, H' B0 = some (.lst vs) ∧ RowsV (fun q => H q = none ∧ q ≠ B0) H' vs (booksM (rd.1.take i) (rd.2.take i) sets))
    ⟨⟨none, none, none, none, none, rfl⟩, Fr.refl, _, e0, ?_⟩ (fun i σ H' _ q => ⟨q.2.1.tup (Same.tup s2 hb), q.2.1.tup (Same.tup s2 hc)⟩) (fun i x σ H4 H5 hi q y => ?_) (fun σ H4 q => ?_)
  · rw [List.take_zero, books_nil]
    exact RowsV.snoc (vs := []) (bs := []) RowsV.nil ⟨nl, nlB⟩ el
  · obtain ⟨⟨x1, y1, z1, t1, r1, rfl⟩, fr, vs, eB, rw1⟩ := q
    obtain ⟨T, x, z, rfl, nT, rfl, e1, e2⟩ := y
    obtain ⟨y, hy, rfl⟩ := map_at e2
    obtain ⟨dg, hdg, hx⟩ := DpAll.at' hbd e1
    obtain ⟨g, hg, rfl⟩ := map_at hdg
    have s5 : Same H4 (upd H4 T (.tup [x, V.int y])) := Same.upd nT
    have s45 : Same H H4 := Fr.beside s2 fr (fun z hz => by rw [List.mem_singleton.mp hz]; exact nB0)
    obtain ⟨lst, hlst, hbk⟩ := books_snoc (rd.1.take i) (rd.2.take i) sets g y (by rw [List.length_take, List.length_take, hl])
    obtain ⟨q, hq, nq, hql⟩ := rw1.last hlst
    have hlen : lst.length = sets.length := books_rows _ _ _ _ (List.mem_of_getLast? hlst)
    obtain ⟨ga, rfl, hga⟩ := Dp.legI (Dp.same (s45.trans s5) hx)
    have hgok : LegOk g := hok g (List.mem_of_getElem? hg)
    refine ⟨T, _, rfl, SqT.of upd_same, rfl, _, _, rfl, _, _, rfl, rfl, ?_⟩
    refine ⟨_, rfl, Nat.zero_le _, fun F nF => ⟨_, _, rfl, ?_⟩⟩
    have s6 := Same.upd (o := .lst []) nF
    have s56 := s5.trans s6
    have eB6 := s56 _ _ eB
    have hq6 := s56 _ _ hql
    have hga6 := Same.tup s6 hga
    have nF0 : H F = none := Same.free (s45.trans s5) nF
    have hFB : F ≠ B0 := fun z => by rw [z] at nF; rw [s5 _ _ eB] at nF; cases nF
    have hqF : q ≠ F := fun z => by rw [← z] at nF; rw [s5 _ _ hql] at nF; cases nF
    have eF6 : upd (upd H4 T (.tup [.ref ga, V.int y])) F (.lst []) F = some (.lst []) := upd_same
    generalize (upd (upd H4 T (.tup [.ref ga, V.int y])) F (.lst [])) = H6 at s6 s56 eB6 hq6 hga6 eF6 ⊢
    refine ⟨_, rfl, _, rfl, B0, vs, _, _, rfl, rfl, SqL.of eB6, atI_m1 hq, q, rfl, ⟨_, SqL.of hq6⟩, ?_⟩
    refine for_it (walk_list (xs := lst.map V.int)) (fun j σ H' => (∃ h r, σ = [some (.ref a), some (.ref d), some (.ref B0), some (.ref ga), some (.int y), some (.int h), some (.ref F), r] ∧ (y :: lst)[j]? = some h) ∧ Fr [F] H6 H' ∧ IL H' F ((nextM g y lst).take j))
      ⟨⟨y, r1, rfl, rfl⟩, Fr.refl, eF6⟩ (fun j σ H' _ q => SqL.of (q.2.1.keep _ _ hq6 (by simpa using hqF))) (fun j x σ H7 H8 hj q' y' => ?_) (fun σ H7 q' => ?_)
    · obtain ⟨⟨h, r, rfl, hh⟩, fr7, eF7⟩ := q'
      obtain ⟨rfl, ex⟩ := y'
      obtain ⟨cj, hcj, rfl⟩ := map_at ex
      have hga8 := fr7.tup hga6
      have eFl := eF7
      refine ⟨_, rfl, .inl ⟨rfl, _, SqL.of eF7⟩, ?_⟩
      refine ⟨_, rfl, _, rfl, ga, _, 1, _, rfl, rfl, hga8, rfl, _, rfl, ga, _, 0, _, rfl, rfl, hga8, rfl, _, rfl, _, rfl, _, _, rfl, rfl, _, _, rfl, rfl, _, rfl, ga, _, 2, _, rfl, rfl, hga8, rfl, (by show 3 ≤ sizeLine; decide), fun S nS => ?_⟩
      refine ⟨S, [g.2.1, g.1 - (cj - h), g.2.2], rfl, SqL.of upd_same, by show 3 < 64; omega, fun ns' p hp hso np => ?_⟩
      obtain ⟨m1, m2, rfl⟩ := middle hp hso hgok
      rw [ride_mid hgok] at *
      have s9 := Same.upd (o := .lst [V.int g.2.1, V.int (g.1 - (cj - h)), V.int g.2.2]) nS
      have s10 := Same.upd (o := .lst ([m1, rideM g (cj - h), m2].map V.int)) np
      have eF10 := s10 _ _ (s9 _ _ eF7)
      refine ⟨p, _, 1, .int (rideM g (cj - h)), rfl, rfl, SqL.of upd_same, rfl, _, _, rfl, rfl, ?_⟩
      have hnl : (nextM g y lst).length = lst.length := len_next _ _ _
      rw [List.length_map] at hj
      refine ⟨F, _, _, rfl, rfl, eF10, by rw [sizeLine_eq, List.length_map, List.length_take, hnl]; omega, ?_⟩
      refine ⟨_, rfl, ⟨cj, _, rfl, by rw [List.getElem?_cons_succ]; exact hcj⟩, (fr7.trans (Fr.of (s9.trans s10))).trans (Fr.lst eF10 (by simp)), ?_⟩
      show upd _ F _ F = _
      have hdl : ((y :: lst).dropLast)[j]? = some h := by
        rw [List.getElem?_dropLast, if_pos (by simpa using hj)]
        exact hh
      rw [upd_same, List.take_add_one, next_at g y lst j cj h hcj hdl, List.map_append]
      rfl
    · obtain ⟨⟨h, r, rfl, hh⟩, fr7, eF7⟩ := q'
      rw [List.length_map, List.take_of_length_le (by rw [len_next]; exact Nat.le_refl _)] at eF7
      have eB7 := fr7.keep _ _ eB6 (by simpa using hFB.symm)
      refine ⟨_, rfl, .inl ⟨rfl, _, SqL.of eB7⟩, _, rfl, B0, vs, _, rfl, rfl, eB7, by rw [sizeLine_eq, rw1.1, len_books _ _ _ (by rw [List.length_take, List.length_take, hl]), List.length_take]; omega, ⟨_, _, _, _, _, rfl⟩, ?_, _, upd_same, ?_⟩
      · refine fr.trans ((Fr.past (Fr.of s56 (S := [B0])) fr7 (fun z hz => .inr ?_)).trans (Fr.lst eB7 (by simp)))
        rw [List.mem_singleton.mp hz]
        exact Same.free s5 nF
      · rw [← List.take_append_getElem (by omega : i < rd.1.length), ← List.take_append_getElem (by omega : i < rd.2.length)]
        have eg : rd.1[i]'(by omega) = g := by
          rw [List.getElem?_eq_getElem (by omega)] at hg
          exact Option.some.inj hg
        have ey : rd.2[i]'(by omega) = y := by
          rw [List.getElem?_eq_getElem (by omega)] at hy
          exact Option.some.inj hy
        rw [eg, ey, hbk]
        refine RowsV.snoc (rw1.mono fun q' b' n' e' => ⟨n', ?_⟩) ⟨nF0, hFB⟩ ?_
        · show upd H7 B0 _ q' = _
          rw [upd_ne n'.2]
          refine fr7.keep _ _ (s56 _ _ e') ?_
          have : q' ≠ F := fun z => by rw [z] at e'; have e'' : H4 F = _ := e'; rw [Same.free s5 nF] at e''; cases e''
          simpa using this
        · show upd H7 B0 _ F = _
          rw [upd_ne hFB]
          exact eF7
  · obtain ⟨⟨x1, y1, z1, t1, r1, rfl⟩, fr, vs, eB, rw1⟩ := q
    rw [List.take_length, hl, List.take_length] at rw1
    exact ⟨_, rfl, k B0 _ (Fr.beside s2 fr (fun z hz => by rw [List.mem_singleton.mp hz]; exact nB0)) ⟨vs, eB, nB0, rw1⟩⟩
end
end Rh
end RhL3_
section RhL4_
set_option Elab.async false
set_option linter.all false
set_option maxRecDepth 100000
set_option maxHeartbeats 4000000
/-! Alike, kind by kind. -/
namespace Rh
open PySem PySem.Spec PyProof.Rows L2
section
variable {P : Program} {w : World} {K : PySem.W.Frag} {mg : Str → Option Value} {base : Heap}
mutual
/-- no list or tuple of more than 100000 items -/
def weightOk : PyData → Bool
  | .list ds => decide (ds.length ≤ 100000) && weightOks ds
  | .tuple ds => decide (ds.length ≤ 100000) && weightOks ds
  | .dict _ => false
  | _ => true
def weightOks : List PyData → Bool
  | [] => true
  | d :: ds => weightOk d && weightOks ds
end
theorem weightOks_mem : ∀ {ds : List PyData} {d : PyData}, weightOks ds = true → d ∈ ds → weightOk d = true
  | [], d, _, h => by cases h
  | e :: ds, d, hw, h => by
    rw [weightOks, Bool.and_eq_true] at hw
    rcases List.mem_cons.mp h with z | z
    · rw [z]; exact hw.1
    · exact weightOks_mem hw.2 z
theorem lay_mem : ∀ {ds : List PyData} {d : PyData}, PyData.canLayAll0 ds = true → d ∈ ds → d.canLay0 = true
  | [], d, _, h => by cases h
  | e :: ds, d, hw, h => by
    rw [PyData.canLayAll0, Bool.and_eq_true] at hw
    rcases List.mem_cons.mp h with z | z
    · rw [z]; exact hw.1
    · exact lay_mem hw.2 z
theorem dep_mem : ∀ {ds : List PyData} {d : PyData}, d ∈ ds → d.depth ≤ PyData.depthAll ds
  | [], d, h => by cases h
  | e :: ds, d, h => by
    rw [PyData.depthAll]
    rcases List.mem_cons.mp h with z | z
    · rw [z]; omega
    · have := dep_mem z
      omega
def spSame (K : PySem.W.Frag) (n : Nat) : Sp := fun vs H Q _ => ∃ (v u : V) (d : PyData), vs = [v, u] ∧ Dp K H v d ∧ Dp K H u d ∧ SeqAt.shaped d = true ∧ d.depth ≤ n ∧ weightOk d = true ∧ ∀ H', Same H H' → Q (.bl true) H'
abbrev nSame : List Str := ["_law_found", "_law_due", "_law_one", "_law_other"]
theorem sc_same : FnScope nSame ["_law_found", "_law_due"] (defScope s_law_same) := ⟨rfl, rfl, rfl, by decide +kernel, rfl, by decide +kernel, by decide +kernel⟩
/-- the kinds that are gone into -/
def isSeqD : PyData → Bool
  | .list _ => true
  | .tuple _ => true
  | _ => false
theorem kit_any (d : PyData) : PySem.W.kitAny K (tyD d) [.type "list", .type "tuple"] = some (isSeqD d) := by
  cases d <;> kernel_rfl
theorem kit_one_bool (d : PyData) : PySem.W.kitOne K (tyD d) (.type "bool") = some (match d with | .bool _ => true | _ => false) := by
  cases d <;> kernel_rfl
theorem kit_one_int (d : PyData) : PySem.W.kitOne K (tyD d) (.type "int") = some (match d with | .bool _ => true | .int _ => true | _ => false) := by
  cases d <;> kernel_rfl
theorem kit_one_list (d : PyData) : PySem.W.kitOne K (tyD d) (.type "list") = some (match d with | .list _ => true | _ => false) := by
  cases d <;> kernel_rfl
theorem kit_one_tuple (d : PyData) : PySem.W.kitOne K (tyD d) (.type "tuple") = some (match d with | .tuple _ => true | _ => false) := by
  cases d <;> kernel_rfl
theorem kit_sb (d : PyData) : PySem.W.kitAny K (tyD d) [.type "str", .type "bool"] = some (match d with | .str _ => true | .bool _ => true | _ => false) := by
  cases d <;> kernel_rfl
theorem ok_same (B : Bn mg) (D : Dfn K mg "_law_same" s_law_same ["_law_found", "_law_due"]) : ∀ n : Nat, Cal P w K mg base CX0 "_law_same" (n + 1) ["_law_found", "_law_due"] (spSame K n)
  | 0 => by
    have nd := sc_same.nd
    refine D.cal sc_same (fun vs H Q E ⟨v, u, d, e, _⟩ => by rw [e]; rfl) (fun f cdv A outer s H vs Q E hr h => ?_)
    obtain ⟨v, u, d, rfl, hv, hu, hsh, hdep, hw, k⟩ := h
    refine ⟨_, PSs.nox (pss_cons (ps_if (pt_val (pe_callB call_isiT (by rfl) B.isi (by decide +kernel) (pa_cons (pv 1) (pa_cons (pe_tup (pa_cons (pe_bltn (v := .ty "list") (by rfl) B.list (by decide +kernel) rfl) (pa_cons (pe_bltn (v := .ty "tuple") (by rfl) B.tuple (by decide +kernel) rfl) pa_nil))) pa_nil)))) pss_never pss_nil)
      (pss_cons (ps_if (PW.pt (pw_or (pt_cmpR op_isN (pv 1) pe_non (nomark _)) (pw_or1 (pt_val (pe_callB call_isiT (by rfl) B.isi (by decide +kernel) (pa_cons (pv 1) (pa_cons (pe_tup (pa_cons (pe_bltn (v := .ty "str") (by rfl) B.str (by decide +kernel) rfl) (pa_cons (pe_bltn (v := .ty "bool") (by rfl) B.bool (by decide +kernel) rfl) pa_nil))) pa_nil))))))) (pss_one (ps_ret (pe_and (pe_cmpR op_eq (pe_callB call_isi (by rfl) B.isi (by decide +kernel) (pa_cons (pv 0) (pa_cons (pe_bltn (v := .ty "bool") (by rfl) B.bool (by decide +kernel) rfl) pa_nil))) (pe_callB call_isi (by rfl) B.isi (by decide +kernel) (pa_cons (pv 1) (pa_cons (pe_bltn (v := .ty "bool") (by rfl) B.bool (by decide +kernel) rfl) pa_nil))) (nomark _)) (pe_one (pe_cmpR (op_eqD hr.units) (pv 0) (pv 1) (nomark _)))))) pss_nil)
      (pss_one (ps_ret (pe_and (pe_callB call_isi (by rfl) B.isi (by decide +kernel) (pa_cons (pv 0) (pa_cons (pe_bltn (v := .ty "int") (by rfl) B.int (by decide +kernel) rfl) pa_nil))) (pe_and (pe_not (pe_callB call_isi (by rfl) B.isi (by decide +kernel) (pa_cons (pv 0) (pa_cons (pe_bltn (v := .ty "bool") (by rfl) B.bool (by decide +kernel) rfl) pa_nil)))) (pe_one (pe_cmpR (op_eqD hr.units) (pv 0) (pv 1) (nomark _))))))))), ?_⟩
    -- a plain thing
    have leaf : isSeqD d = false → ∀ H1, Same H H1 → (tSeq (tIfS (tOr (tTest (tOp (fun x y H Q => y = .non ∧ Q (.bl (decide (x = .non))) H) (tVar 1) (tC .non))) (tB (tCB (rIsiT K) (tCons (tVar 1) (tCons (tTup (tCons (tC (.ty "str")) (tCons (tC (.ty "bool")) tNil))) tNil))))) (tRet (tAndV (tOp rEq (tCB (rIsi K) (tCons (tVar 0) (tCons (tC (.ty "bool")) tNil))) (tCB (rIsi K) (tCons (tVar 1) (tCons (tC (.ty "bool")) tNil)))) (tOp (rEqD K) (tVar 0) (tVar 1)))) tNext)
        (tRet (tAndV (tCB (rIsi K) (tCons (tVar 0) (tCons (tC (.ty "int")) tNil))) (tAndV (tNotV (tCB (rIsi K) (tCons (tVar 0) (tCons (tC (.ty "bool")) tNil)))) (tOp (rEqD K) (tVar 0) (tVar 1)))))) { nx := fun _ H' => Q .non H', rt := Q } (start nSame [v, u]) H1 := fun hseq H1 s1 => by
      have hv1 := Dp.same s1 hv
      have hu1 := Dp.same s1 hu
      have fin : ∀ H2, Same H1 H2 → rEqD K v u H2 Q := fun H2 s2 => ⟨d, d, Dp.same s2 hv1, Dp.same s2 hu1, hsh, hsh, by rw [SeqAt.eqv_refl _ (SeqAt.canLay_of_shaped hsh)]; exact k _ (s1.trans s2)⟩
      refine ⟨_, rfl, rfl, _, rfl, ?_⟩
      cases d with
      | none =>
        cases hu1
        cases hv1
        refine ifT (by rfl) (ifT rfl ?_)
        refine ⟨_, rfl, _, _, tyD .none, _, _, rfl, .ty "bool", Dp.ty .non, kit_one_bool .none, _, rfl, _, _, tyD .none, _, _, rfl, .ty "bool", Dp.ty .non, kit_one_bool .none, rfl, _, rfl, ?_⟩
        exact ifT (by rfl) ⟨_, rfl, _, rfl, fin _ (Same.refl _)⟩
      | bool b =>
        cases hu1
        cases hv1
        refine ifF (by rfl) ?_
        refine ⟨_, rfl, (by show 2 ≤ sizeLine; decide), fun tp ntp => ?_⟩
        have s2 := Same.upd (o := .tup [V.ty "str", V.ty "bool"]) ntp
        refine ⟨_, tp, _, tyD (.bool b), _, _, rfl, upd_same, .cons (.ty "str") (.cons (.ty "bool") .nil), Dp.ty (.bl b), kit_sb (.bool b), _, rfl, ?_⟩
        refine ifT rfl ?_
        refine ⟨_, rfl, _, _, tyD (.bool b), _, _, rfl, .ty "bool", Dp.ty (.bl b), kit_one_bool (.bool b), _, rfl, _, _, tyD (.bool b), _, _, rfl, .ty "bool", Dp.ty (.bl b), kit_one_bool (.bool b), rfl, _, rfl, ?_⟩
        exact ifT (by rfl) ⟨_, rfl, _, rfl, fin _ s2⟩
      | str z =>
        cases hu1
        cases hv1
        refine ifF (by rfl) ?_
        refine ⟨_, rfl, (by show 2 ≤ sizeLine; decide), fun tp ntp => ?_⟩
        have s2 := Same.upd (o := .tup [V.ty "str", V.ty "bool"]) ntp
        refine ⟨_, tp, _, tyD (.str z), _, _, rfl, upd_same, .cons (.ty "str") (.cons (.ty "bool") .nil), Dp.ty (.str z), kit_sb (.str z), _, rfl, ?_⟩
        refine ifT rfl ?_
        refine ⟨_, rfl, _, _, tyD (.str z), _, _, rfl, .ty "bool", Dp.ty (.str z), kit_one_bool (.str z), _, rfl, _, _, tyD (.str z), _, _, rfl, .ty "bool", Dp.ty (.str z), kit_one_bool (.str z), rfl, _, rfl, ?_⟩
        exact ifT (by rfl) ⟨_, rfl, _, rfl, fin _ s2⟩
      | int i =>
        cases hu1
        cases hv1
        refine ifF (by rfl) ?_
        refine ⟨_, rfl, (by show 2 ≤ sizeLine; decide), fun tp ntp => ?_⟩
        have s2 := Same.upd (o := .tup [V.ty "str", V.ty "bool"]) ntp
        refine ⟨_, tp, _, tyD (.int i), _, _, rfl, upd_same, .cons (.ty "str") (.cons (.ty "bool") .nil), Dp.ty (.int i), kit_sb (.int i), _, rfl, ?_⟩
        refine ifF rfl ?_
        refine ⟨_, rfl, _, _, tyD (.int i), _, _, rfl, .ty "int", Dp.ty (.int i), kit_one_int (.int i), _, rfl, ?_⟩
        refine ifT rfl ?_
        refine ⟨_, rfl, _, _, tyD (.int i), _, _, rfl, .ty "bool", Dp.ty (.int i), kit_one_bool (.int i), _, rfl, _, rfl, ?_⟩
        exact ifT rfl ⟨_, rfl, _, rfl, fin _ s2⟩
      | list ds => cases hseq
      | tuple ds => cases hseq
      | dict _ => cases hv1
    have hseq : isSeqD d = false := by
      cases d with
      | list ds => simp [PyData.depth] at hdep
      | tuple ds => simp [PyData.depth] at hdep
      | _ => rfl
    refine ⟨_, rfl, (by show 2 ≤ sizeLine; decide), fun tp ntp => ?_⟩
    have s2 := Same.upd (o := .tup [V.ty "list", V.ty "tuple"]) ntp
    refine ⟨_, tp, _, tyD d, _, _, rfl, upd_same, .cons (.ty "list") (.cons (.ty "tuple") .nil), Dp.ty (Dp.same s2 hu), kit_any d, _, rfl, ?_⟩
    exact ifF hseq (leaf hseq _ s2)
  | n + 1 => by
    have nd := sc_same.nd
    obtain ⟨f1, fd1, G1, g1, k1, b1⟩ := ok_same B D n
    refine D.cal sc_same (fun vs H Q E ⟨v, u, d, e, _⟩ => by rw [e]; rfl) (fun f cdv A outer s H vs Q E hr h => ?_)
    obtain ⟨v, u, d, rfl, hv, hu, hsh, hdep, hw, k⟩ := h
    refine ⟨_, PSs.nox (pss_cons (ps_if (pt_val (pe_callB call_isiT (by rfl) B.isi (by decide +kernel) (pa_cons (pv 1) (pa_cons (pe_tup (pa_cons (pe_bltn (v := .ty "list") (by rfl) B.list (by decide +kernel) rfl) (pa_cons (pe_bltn (v := .ty "tuple") (by rfl) B.tuple (by decide +kernel) rfl) pa_nil))) pa_nil)))) (pss_cons (ps_if (PW.pt (pw_or (pt_cmpR op_ne (pe_callB call_isi (by rfl) B.isi (by decide +kernel) (pa_cons (pv 0) (pa_cons (pe_bltn (v := .ty "list") (by rfl) B.list (by decide +kernel) rfl) pa_nil))) (pe_callB call_isi (by rfl) B.isi (by decide +kernel) (pa_cons (pv 1) (pa_cons (pe_bltn (v := .ty "list") (by rfl) B.list (by decide +kernel) rfl) pa_nil))) (nomark _)) (pw_or1 (pt_cmpR op_ne (pe_callB call_isi (by rfl) B.isi (by decide +kernel) (pa_cons (pv 0) (pa_cons (pe_bltn (v := .ty "tuple") (by rfl) B.tuple (by decide +kernel) rfl) pa_nil))) (pe_callB call_isi (by rfl) B.isi (by decide +kernel) (pa_cons (pv 1) (pa_cons (pe_bltn (v := .ty "tuple") (by rfl) B.tuple (by decide +kernel) rfl) pa_nil))) (nomark _))))) (pss_one (ps_ret pe_bl)) pss_nil)
      (pss_one (ps_ret (pe_and (pe_cmpR op_eq (pe_callB call_len_seq (by rfl) B.len PySem.boot_len (pa_cons (pv 0) pa_nil)) (pe_callB call_len_seq (by rfl) B.len PySem.boot_len (pa_cons (pv 1) pa_nil)) (nomark _)) (pe_one (pe_callB (cr_all rfl) (by rfl) B.all (by decide +kernel) (pa_cons (pe_lc (own := [("_law_one", 2), ("_law_other", 3)]) (g := gTup K 2 (gCons (gName 2) (gCons (gName 3) gNil))) rfl nd (RZ.pi_zipA (by rfl) B.zip (pa_cons (pv 0) (pa_cons (pv 1) pa_nil))) (blkOk_by (N := nSame) (sc := defScope s_law_same) (by decide +kernel)) (fun _ _ _ _ _ => (pg_tup rfl (pgs_cons (pg_name (i := 2) nd rfl (.inl rfl)) (pgs_cons (pg_name (i := 3) nd rfl (.inl rfl)) pgs_nil)))) (fun _ _ _ _ _ => pts_nil) (fun _ _ _ _ _ => (pe_call G1 hr (by rfl) g1 k1 b1 .nil pass0 (pa_cons (pv 2) (pa_cons (pv 3) pa_nil))))) pa_nil))))))) pss_nil)
      (pss_cons (ps_if (PW.pt (pw_or (pt_cmpR op_isN (pv 1) pe_non (nomark _)) (pw_or1 (pt_val (pe_callB call_isiT (by rfl) B.isi (by decide +kernel) (pa_cons (pv 1) (pa_cons (pe_tup (pa_cons (pe_bltn (v := .ty "str") (by rfl) B.str (by decide +kernel) rfl) (pa_cons (pe_bltn (v := .ty "bool") (by rfl) B.bool (by decide +kernel) rfl) pa_nil))) pa_nil))))))) (pss_one (ps_ret (pe_and (pe_cmpR op_eq (pe_callB call_isi (by rfl) B.isi (by decide +kernel) (pa_cons (pv 0) (pa_cons (pe_bltn (v := .ty "bool") (by rfl) B.bool (by decide +kernel) rfl) pa_nil))) (pe_callB call_isi (by rfl) B.isi (by decide +kernel) (pa_cons (pv 1) (pa_cons (pe_bltn (v := .ty "bool") (by rfl) B.bool (by decide +kernel) rfl) pa_nil))) (nomark _)) (pe_one (pe_cmpR (op_eqD hr.units) (pv 0) (pv 1) (nomark _)))))) pss_nil)
      (pss_one (ps_ret (pe_and (pe_callB call_isi (by rfl) B.isi (by decide +kernel) (pa_cons (pv 0) (pa_cons (pe_bltn (v := .ty "int") (by rfl) B.int (by decide +kernel) rfl) pa_nil))) (pe_and (pe_not (pe_callB call_isi (by rfl) B.isi (by decide +kernel) (pa_cons (pv 0) (pa_cons (pe_bltn (v := .ty "bool") (by rfl) B.bool (by decide +kernel) rfl) pa_nil)))) (pe_one (pe_cmpR (op_eqD hr.units) (pv 0) (pv 1) (nomark _))))))))), ?_⟩
    -- a plain thing
    have leaf : isSeqD d = false → ∀ H1, Same H H1 → (tSeq (tIfS (tOr (tTest (tOp (fun x y H Q => y = .non ∧ Q (.bl (decide (x = .non))) H) (tVar 1) (tC .non))) (tB (tCB (rIsiT K) (tCons (tVar 1) (tCons (tTup (tCons (tC (.ty "str")) (tCons (tC (.ty "bool")) tNil))) tNil))))) (tRet (tAndV (tOp rEq (tCB (rIsi K) (tCons (tVar 0) (tCons (tC (.ty "bool")) tNil))) (tCB (rIsi K) (tCons (tVar 1) (tCons (tC (.ty "bool")) tNil)))) (tOp (rEqD K) (tVar 0) (tVar 1)))) tNext)
        (tRet (tAndV (tCB (rIsi K) (tCons (tVar 0) (tCons (tC (.ty "int")) tNil))) (tAndV (tNotV (tCB (rIsi K) (tCons (tVar 0) (tCons (tC (.ty "bool")) tNil)))) (tOp (rEqD K) (tVar 0) (tVar 1)))))) { nx := fun _ H' => Q .non H', rt := Q } (start nSame [v, u]) H1 := fun hseq H1 s1 => by
      have hv1 := Dp.same s1 hv
      have hu1 := Dp.same s1 hu
      have fin : ∀ H2, Same H1 H2 → rEqD K v u H2 Q := fun H2 s2 => ⟨d, d, Dp.same s2 hv1, Dp.same s2 hu1, hsh, hsh, by rw [SeqAt.eqv_refl _ (SeqAt.canLay_of_shaped hsh)]; exact k _ (s1.trans s2)⟩
      refine ⟨_, rfl, rfl, _, rfl, ?_⟩
      cases d with
      | none =>
        cases hu1
        cases hv1
        refine ifT (by rfl) (ifT rfl ?_)
        refine ⟨_, rfl, _, _, tyD .none, _, _, rfl, .ty "bool", Dp.ty .non, kit_one_bool .none, _, rfl, _, _, tyD .none, _, _, rfl, .ty "bool", Dp.ty .non, kit_one_bool .none, rfl, _, rfl, ?_⟩
        exact ifT (by rfl) ⟨_, rfl, _, rfl, fin _ (Same.refl _)⟩
      | bool b =>
        cases hu1
        cases hv1
        refine ifF (by rfl) ?_
        refine ⟨_, rfl, (by show 2 ≤ sizeLine; decide), fun tp ntp => ?_⟩
        have s2 := Same.upd (o := .tup [V.ty "str", V.ty "bool"]) ntp
        refine ⟨_, tp, _, tyD (.bool b), _, _, rfl, upd_same, .cons (.ty "str") (.cons (.ty "bool") .nil), Dp.ty (.bl b), kit_sb (.bool b), _, rfl, ?_⟩
        refine ifT rfl ?_
        refine ⟨_, rfl, _, _, tyD (.bool b), _, _, rfl, .ty "bool", Dp.ty (.bl b), kit_one_bool (.bool b), _, rfl, _, _, tyD (.bool b), _, _, rfl, .ty "bool", Dp.ty (.bl b), kit_one_bool (.bool b), rfl, _, rfl, ?_⟩
        exact ifT (by rfl) ⟨_, rfl, _, rfl, fin _ s2⟩
      | str z =>
        cases hu1
        cases hv1
        refine ifF (by rfl) ?_
        refine ⟨_, rfl, (by show 2 ≤ sizeLine; decide), fun tp ntp => ?_⟩
        have s2 := Same.upd (o := .tup [V.ty "str", V.ty "bool"]) ntp
        refine ⟨_, tp, _, tyD (.str z), _, _, rfl, upd_same, .cons (.ty "str") (.cons (.ty "bool") .nil), Dp.ty (.str z), kit_sb (.str z), _, rfl, ?_⟩
        refine ifT rfl ?_
        refine ⟨_, rfl, _, _, tyD (.str z), _, _, rfl, .ty "bool", Dp.ty (.str z), kit_one_bool (.str z), _, rfl, _, _, tyD (.str z), _, _, rfl, .ty "bool", Dp.ty (.str z), kit_one_bool (.str z), rfl, _, rfl, ?_⟩
        exact ifT (by rfl) ⟨_, rfl, _, rfl, fin _ s2⟩
      | int i =>
        cases hu1
        cases hv1
        refine ifF (by rfl) ?_
        refine ⟨_, rfl, (by show 2 ≤ sizeLine; decide), fun tp ntp => ?_⟩
        have s2 := Same.upd (o := .tup [V.ty "str", V.ty "bool"]) ntp
        refine ⟨_, tp, _, tyD (.int i), _, _, rfl, upd_same, .cons (.ty "str") (.cons (.ty "bool") .nil), Dp.ty (.int i), kit_sb (.int i), _, rfl, ?_⟩
        refine ifF rfl ?_
        refine ⟨_, rfl, _, _, tyD (.int i), _, _, rfl, .ty "int", Dp.ty (.int i), kit_one_int (.int i), _, rfl, ?_⟩
        refine ifT rfl ?_
        refine ⟨_, rfl, _, _, tyD (.int i), _, _, rfl, .ty "bool", Dp.ty (.int i), kit_one_bool (.int i), _, rfl, _, rfl, ?_⟩
        exact ifT rfl ⟨_, rfl, _, rfl, fin _ s2⟩
      | list ds => cases hseq
      | tuple ds => cases hseq
      | dict _ => cases hv1
    refine ⟨_, rfl, (by show 2 ≤ sizeLine; decide), fun tp ntp => ?_⟩
    have s2 := Same.upd (o := .tup [V.ty "list", V.ty "tuple"]) ntp
    refine ⟨_, tp, _, tyD d, _, _, rfl, upd_same, .cons (.ty "list") (.cons (.ty "tuple") .nil), Dp.ty (Dp.same s2 hu), kit_any d, _, rfl, ?_⟩
    by_cases hseq : isSeqD d = true
    · refine ifT hseq ?_
      have hlay := SeqAt.canLay_of_shaped hsh
      have hd64 := SeqAt.depth_of_shaped hsh
      cases d with
      | list ds =>
        rw [weightOk, Bool.and_eq_true] at hw
        have hlen : ds.length ≤ 100000 := of_decide_eq_true hw.1
        obtain ⟨a, xs, rfl, ha, hda⟩ := Dp.lstI hv
        obtain ⟨b, ys, rfl, hb, hdb⟩ := Dp.lstI hu
        have la := DpAll.length hda
        have lb := DpAll.length hdb
        refine ⟨_, rfl, _, _, tyD (.list ds), _, _, rfl, .ty "list", Dp.ty (Dp.same s2 hv), kit_one_list (.list ds), _, rfl, _, _, tyD (.list ds), _, _, rfl, .ty "list", Dp.ty (Dp.same s2 hu), kit_one_list (.list ds), rfl, _, rfl, ?_⟩
        refine ifF (by rfl) ?_
        refine ⟨_, rfl, _, _, tyD (.list ds), _, _, rfl, .ty "tuple", Dp.ty (Dp.same s2 hv), kit_one_tuple (.list ds), _, rfl, _, _, tyD (.list ds), _, _, rfl, .ty "tuple", Dp.ty (Dp.same s2 hu), kit_one_tuple (.list ds), rfl, _, rfl, ?_⟩
        refine ifF (by rfl) ?_
        refine ⟨_, rfl, a, xs, rfl, .inl (s2.seq ha), _, rfl, b, ys, rfl, .inl (s2.seq hb), rfl, _, rfl, ?_⟩
        refine ifT (eq_int (by rw [la, lb])) ?_
        refine ⟨_, rfl, _, rfl, a, b, xs, ys, rfl, .inl ⟨s2.seq ha, s2.seq hb, fun D0 nD => ?_⟩⟩
        refine lc_fm (walk_zip (n := ds.length) (by rw [la, lb, Nat.min_self])) (fun _ => some (.bl true)) nD hlen (fun H' s' => ⟨(s2.trans s').seq ha, (s2.trans s').seq hb⟩) (fun i y H2 H3 Qy Qn hi s3 ey qy qn => ?_) (fun H2 s3 h2 => ?_)
        · obtain ⟨T, x, z, rfl, nT, rfl, e1, e2⟩ := ey
          have s4 := Same.upd (o := .tup [x, z]) nT
          obtain ⟨d1, hd1, dx⟩ := DpAll.at' hda e1
          obtain ⟨d2, hd2, dz⟩ := DpAll.at' hdb e2
          have e12 : d2 = d1 := Option.some.inj (hd2.symm.trans hd1)
          subst e12
          have hmem := List.mem_of_getElem? hd1
          have s24 := (s2.trans s3).trans s4
          have hdd : d2.depth ≤ PyData.depthAll ds := dep_mem hmem
          have hdep' : PyData.depthAll ds + 1 ≤ n + 1 := by simpa [PyData.depth] using hdep
          have hd64' : PyData.depthAll ds + 1 ≤ 64 := by simpa [PyData.depth] using hd64
          refine ⟨T, _, rfl, SqT.of upd_same, rfl, _, _, rfl, _, _, rfl, rfl, rfl, ?_⟩
          refine ⟨_, rfl, _, rfl, x, z, d2, rfl, Dp.same s24 dx, Dp.same s24 dz, ?_, by omega, weightOks_mem hw.2 hmem, fun H4 s5 => qy _ _ rfl (s4.trans s5)⟩
          unfold SeqAt.shaped
          rw [Bool.and_eq_true]
          exact ⟨lay_mem (by simpa [PyData.canLay0] using hlay) hmem, decide_eq_true (by omega)⟩
        · have e4 : (List.range ds.length).filterMap (fun _ => some (V.bl true)) = ((List.range ds.length).map fun _ => true).map V.bl := by
            rw [List.map_map]
            induction List.range ds.length with
            | nil => rfl
            | cons a l ih => rw [List.filterMap_cons, ih]; rfl
          rw [e4] at h2
          have hall : (((List.range ds.length).map fun _ => true).all id) = true := by rw [List.all_eq_true]; intro a ha; obtain ⟨_, _, rfl⟩ := List.mem_map.mp ha; rfl
          refine ⟨D0, _, rfl, SqL.of h2, ?_⟩
          rw [hall]
          exact k _ (s2.trans s3)
      | tuple ds =>
        rw [weightOk, Bool.and_eq_true] at hw
        have hlen : ds.length ≤ 100000 := of_decide_eq_true hw.1
        obtain ⟨a, xs, rfl, ha, hda⟩ := Dp.tupI hv
        obtain ⟨b, ys, rfl, hb, hdb⟩ := Dp.tupI hu
        have la := DpAll.length hda
        have lb := DpAll.length hdb
        refine ⟨_, rfl, _, _, tyD (.tuple ds), _, _, rfl, .ty "list", Dp.ty (Dp.same s2 hv), kit_one_list (.tuple ds), _, rfl, _, _, tyD (.tuple ds), _, _, rfl, .ty "list", Dp.ty (Dp.same s2 hu), kit_one_list (.tuple ds), rfl, _, rfl, ?_⟩
        refine ifF (by rfl) ?_
        refine ⟨_, rfl, _, _, tyD (.tuple ds), _, _, rfl, .ty "tuple", Dp.ty (Dp.same s2 hv), kit_one_tuple (.tuple ds), _, rfl, _, _, tyD (.tuple ds), _, _, rfl, .ty "tuple", Dp.ty (Dp.same s2 hu), kit_one_tuple (.tuple ds), rfl, _, rfl, ?_⟩
        refine ifF (by rfl) ?_
        refine ⟨_, rfl, a, xs, rfl, .inr (Same.tup s2 ha), _, rfl, b, ys, rfl, .inr (Same.tup s2 hb), rfl, _, rfl, ?_⟩
        refine ifT (eq_int (by rw [la, lb])) ?_
        refine ⟨_, rfl, _, rfl, a, b, xs, ys, rfl, .inr ⟨Same.tup s2 ha, Same.tup s2 hb, fun D0 nD => ?_⟩⟩
        refine lc_fm (walk_zT (n := ds.length) (by rw [la, lb, Nat.min_self])) (fun _ => some (.bl true)) nD hlen (fun H' s' => ⟨Same.tup (s2.trans s') ha, Same.tup (s2.trans s') hb⟩) (fun i y H2 H3 Qy Qn hi s3 ey qy qn => ?_) (fun H2 s3 h2 => ?_)
        · obtain ⟨T, x, z, rfl, nT, rfl, e1, e2⟩ := ey
          have s4 := Same.upd (o := .tup [x, z]) nT
          obtain ⟨d1, hd1, dx⟩ := DpAll.at' hda e1
          obtain ⟨d2, hd2, dz⟩ := DpAll.at' hdb e2
          have e12 : d2 = d1 := Option.some.inj (hd2.symm.trans hd1)
          subst e12
          have hmem := List.mem_of_getElem? hd1
          have s24 := (s2.trans s3).trans s4
          have hdd : d2.depth ≤ PyData.depthAll ds := dep_mem hmem
          have hdep' : PyData.depthAll ds + 1 ≤ n + 1 := by simpa [PyData.depth] using hdep
          have hd64' : PyData.depthAll ds + 1 ≤ 64 := by simpa [PyData.depth] using hd64
          refine ⟨T, _, rfl, SqT.of upd_same, rfl, _, _, rfl, _, _, rfl, rfl, rfl, ?_⟩
          refine ⟨_, rfl, _, rfl, x, z, d2, rfl, Dp.same s24 dx, Dp.same s24 dz, ?_, by omega, weightOks_mem hw.2 hmem, fun H4 s5 => qy _ _ rfl (s4.trans s5)⟩
          unfold SeqAt.shaped
          rw [Bool.and_eq_true]
          exact ⟨lay_mem (by simpa [PyData.canLay0] using hlay) hmem, decide_eq_true (by omega)⟩
        · have e4 : (List.range ds.length).filterMap (fun _ => some (V.bl true)) = ((List.range ds.length).map fun _ => true).map V.bl := by
            rw [List.map_map]
            induction List.range ds.length with
            | nil => rfl
            | cons a l ih => rw [List.filterMap_cons, ih]; rfl
          rw [e4] at h2
          have hall : (((List.range ds.length).map fun _ => true).all id) = true := by rw [List.all_eq_true]; intro a ha; obtain ⟨_, _, rfl⟩ := List.mem_map.mp ha; rfl
          refine ⟨D0, _, rfl, SqL.of h2, ?_⟩
          rw [hall]
          exact k _ (s2.trans s3)
      | dict _ => cases hv
      | _ => cases hseq
    · exact ifF (by simpa using hseq) (leaf (by simpa using hseq) _ s2)
end
end Rh
end RhL4_
section RhL5_
set_option Elab.async false
set_option linter.all false
set_option maxRecDepth 100000
set_option maxHeartbeats 4000000
/-! A deed by draws. -/
namespace Rh
open PySem PySem.Spec PyProof.Rows L2
section
variable {P : Program} {w : World} {K : PySem.W.Frag} {mg : Str → Option Value} {base : Heap}
def DeedOk (B : Int) : Deed → Prop
  | .send b => -B ≤ b ∧ b ≤ B
  | .move _ b => -B ≤ b ∧ b ≤ B
  | .strike _ => True
  | .first _ b => -B ≤ b ∧ b ≤ B
  | .leg _ g => LegOk g
def spLDeed (K : PySem.W.Frag) : Sp := fun vs H Q _ => ∃ (t pg : Addr) (N B : Int) (r u x : V) (rd : Road) (sets : List Int), vs = [.ref t, .ref pg] ∧ TapeAt H t N ∧ N ≤ 800000 ∧ SqT K H pg [r, u, x] ∧ Dp K H r (roadD rd) ∧ Dp K H u (setsD sets) ∧ rd.1.length = rd.2.length ∧ 1 ≤ rd.1.length ∧ rd.1.length ≤ 100 ∧ sets.length ≤ 900 ∧
  0 ≤ B ∧ B ≤ 100000000 ∧ (∀ x ∈ rd.2, -B ≤ x ∧ x ≤ B) ∧ (∀ x ∈ sets, -B ≤ x ∧ x ≤ B) ∧ ∀ a d H', Fr [t] H H' → Dp K H' (.ref a) (deedD d) → DeedOk (B + 100) d → TapeAt H' t (N + 30) → Q (.ref a) H'
theorem shaped_sets (s : List Int) : SeqAt.shaped (setsD s) = true := by
  unfold SeqAt.shaped
  rw [Bool.and_eq_true]
  refine ⟨by simp [setsD, PyData.canLay0, lay_ints], decide_eq_true ?_⟩
  simp only [setsD, PyData.depth, dep_ints]
  omega
theorem eqv_nil (s : List Int) : PyData.eqv (setsD s) (.tuple []) = decide (s = []) := by
  cases s with
  | nil => rfl
  | cons a s => simp [setsD, PyData.eqv, PyData.eqvAll]
theorem ok_ldeed (B : Bn mg) (D : Dfn K mg "_law_deed" s_law_deed ["_law_tape_here", "_law_page"]) (h1 : Cal P w K mg base CX0 "_law_draw" 1 ["_law_tape_here", "_law_many"] spDraw) (h2 : Cal P w K mg base CX0 "_law_leg" 2 ["_law_tape_here"] (spLLeg K)) : Cal P w K mg base CX0 "_law_deed" 3 ["_law_tape_here", "_law_page"] (spLDeed K) := by
  have nd := s_law_deed_sc.nd
  obtain ⟨f1, fd1, G1, g1, k1, b1⟩ := h1
  obtain ⟨f2, fd2, G2, g2, k2, b2⟩ := h2
  refine D.cal s_law_deed_sc (fun vs H Q E ⟨t, pg, N, B, r, u, x, rd, sets, e, _⟩ => by rw [e]; rfl) (fun f cdv A outer s H vs Q E hr h => ?_)
  obtain ⟨t, pg, N, Bd, r, u, xx, rd, sets, rfl, ht, hN, hpg, hr1, hu1, hl, hl1, hl2, hs, hB0, hB1, hfb, hsb, k⟩ := h
  obtain ⟨ra, rb, rc, ls, rfl, r1, r2, r3, r4⟩ := Dp.roadI hr1
  obtain ⟨sa, rfl, hsa⟩ := Dp.setsI hu1
  have lls : ls.length = rd.1.length := by rw [DpAll.length r3, List.length_map]
  refine ⟨_, PSs.nox (pss_cons (ps_asg (pv 1) (pg_tup rfl (pgs_cons (pg_tup rfl (pgs_cons (pg_name (i := 2) nd rfl (.inl rfl)) (pgs_cons (pg_name (i := 3) nd rfl (.inl rfl)) pgs_nil))) (pgs_cons (pg_name (i := 4) nd rfl (.inl rfl)) (pgs_cons (pg_name (i := 5) nd rfl (.inl rfl)) pgs_nil)))))
      (pss_cons (ps_par (i := 6) (j := 7) rfl nd rfl rfl (by decide) rfl rfl (pa_cons (pe_call G1 (hr.mono (by decide)) (by rfl) g1 k1 b1 .nil pass0 (pa_cons (pv 0) (pa_cons pe_int pa_nil))) (pa_cons (pe_call G1 (hr.mono (by decide)) (by rfl) g1 k1 b1 .nil pass0 (pa_cons (pv 0) (pa_cons (pe_op op_add (pe_callB call_len_seq (by rfl) B.len PySem.boot_len (pa_cons (pv 4) pa_nil)) pe_int) pa_nil))) pa_nil)) (by rfl))
      (pss_cons (ps_set (i := 8) nd rfl (.inl rfl) (pe_op op_sub (pe_op op_add (pe_ifExp (pt_cmpR (op_neD hr.units) (pv 4) (pe_tup pa_nil) (nomark _)) (pe_ix ix_tup (pv 4) (pe_op op_mod (pv 7) (pe_callB call_len_seq (by rfl) B.len PySem.boot_len (pa_cons (pv 4) pa_nil))) (fun _ _ => rfl)) (pe_callB (RhR.cr_maxT rfl (hu_of hr)) (by rfl) B.max (by decide +kernel) (pa_cons (pv 3) pa_nil))) (pe_call G1 (hr.mono (by decide)) (by rfl) g1 k1 b1 .nil pass0 (pa_cons (pv 0) (pa_cons pe_int pa_nil)))) pe_int))
      (pss_cons (ps_set (i := 9) nd rfl (.inl rfl) (pe_call G1 (hr.mono (by decide)) (by rfl) g1 k1 b1 .nil pass0 (pa_cons (pv 0) (pa_cons (pe_op op_add (pe_callB call_len_seq (by rfl) B.len PySem.boot_len (pa_cons (pv 2) pa_nil)) pe_int) pa_nil))))
      (pss_cons (ps_if (PW.pt (pw_and (pt_cmpR op_lt (pv 6) pe_int (nomark _)) (pw_and1 (pt_cmpR op_lt (pe_callB call_len_seq (by rfl) B.len PySem.boot_len (pa_cons (pv 4) pa_nil)) pe_int (nomark _))))) (pss_cons (ps_set (i := 10) nd rfl (.inl rfl) (pe_op op_sub (pe_call G1 (hr.mono (by decide)) (by rfl) g1 k1 b1 .nil pass0 (pa_cons (pv 0) (pa_cons (pe_ix ix_list (pe_lst (pa_cons pe_int (pa_cons pe_int (pa_cons pe_int pa_nil)))) (pe_call G1 (hr.mono (by decide)) (by rfl) g1 k1 b1 .nil pass0 (pa_cons (pv 0) (pa_cons pe_int pa_nil))) (fun _ _ => rfl)) pa_nil))) (pe_callTy call_int1 (by rfl) B.int (by decide +kernel) (pa_cons (pe_cmpR op_eq (pe_call G1 (hr.mono (by decide)) (by rfl) g1 k1 b1 .nil pass0 (pa_cons (pv 0) (pa_cons pe_int pa_nil))) pe_int (nomark _)) pa_nil))))
      (pss_one (ps_ret (pe_tup (pa_cons pe_str (pa_cons (pe_op op_add (pe_callB (RhR.cr_maxT rfl (hu_of hr)) (by rfl) B.max (by decide +kernel) (pa_cons (pe_op RhR.op_catW (pv 3) (pe_slice RhR.sl_tupW (pv 4) (po_some (pe_un un_neg pe_int)) po_none)) pa_nil)) (pv 10)) pa_nil)))))) pss_nil)
      (pss_cons (ps_if (pt_cmpR op_lt (pv 6) pe_int (nomark _)) (pss_one (ps_ret (pe_tup (pa_cons pe_str (pa_cons (pe_op op_sub (pv 7) (pe_callTy call_int1 (by rfl) B.int (by decide +kernel) (pa_cons (pe_cmpR op_eq (pe_call G1 (hr.mono (by decide)) (by rfl) g1 k1 b1 .nil pass0 (pa_cons (pv 0) (pa_cons pe_int pa_nil))) pe_int (nomark _)) pa_nil))) (pa_cons (pv 8) pa_nil)))))) pss_nil)
      (pss_cons (ps_if (pt_cmpR op_eq (pv 6) pe_int (nomark _)) (pss_one (ps_ret (pe_tup (pa_cons pe_str (pa_cons (pv 7) pa_nil))))) pss_nil)
      (pss_cons (ps_if (pt_cmpR op_eq (pv 6) pe_int (nomark _)) (pss_one (ps_ret (pe_tup (pa_cons pe_str (pa_cons (pv 9) (pa_cons (pe_op op_sub (pe_op op_add (pe_ix ix_tup (pv 3) (pe_op op_mod (pv 9) (pe_callB call_len_seq (by rfl) B.len PySem.boot_len (pa_cons (pv 2) pa_nil))) (fun _ _ => rfl)) (pe_call G1 (hr.mono (by decide)) (by rfl) g1 k1 b1 .nil pass0 (pa_cons (pv 0) (pa_cons pe_int pa_nil)))) pe_int) pa_nil)))))) pss_nil)
      (pss_one (ps_ret (pe_tup (pa_cons pe_str (pa_cons (pv 9) (pa_cons (pe_call G2 (hr.mono (by decide)) (by rfl) g2 k2 b2 .nil pass0 (pa_cons (pv 0) pa_nil)) pa_nil)))))))))))))), ?_⟩
  refine ⟨_, rfl, pg, _, rfl, hpg, rfl, _, _, rfl, ?_⟩
  refine ⟨ra, _, rfl, r1, rfl, _, _, rfl, _, _, rfl, rfl, _, _, rfl, _, _, rfl, rfl, ?_⟩
  refine ⟨_, rfl, t, 10, N, rfl, ht, by omega, by omega, by omega, fun way H1 a0 a1 fr1 ht1 => ?_⟩
  refine ⟨_, rfl, _, rfl, sa, _, rfl, .inr (fr1.tup hsa), _, _, rfl, rfl, ?_⟩
  rw [List.length_map]
  refine ⟨t, _, N + 1, rfl, ht1, by omega, by omega, by omega, fun at' H2 c0 c1 fr2 ht2 => ⟨_, _, rfl, ?_⟩⟩
  have fr02 := fr1.trans fr2
  -- near
  refine ⟨_, rfl, Nat.zero_le _, fun et net => ?_⟩
  have s3 := Same.upd (o := .tup []) net
  have fr03 := fr02.trans (Fr.of s3 (S := [t]))
  have ht3 := ht2.same s3
  refine ⟨setsD sets, .tuple [], Dp.ofTints (fr03.tup hsa), .tup (SqT.of upd_same) .nil, shaped_sets _, by decide +kernel, _, rfl, ?_⟩
  rw [eqv_nil]
  generalize (upd H2 et (.tup [])) = H3 at s3 fr03 ht3 ⊢
  refine (?main : ∀ K' : VK, (∀ b : Int, -Bd ≤ b → b ≤ Bd → K' (.int b) H3) → if (!decide (sets = [])) = true then tOp _ _ _ _ _ K' else tCB _ _ _ _ K') _ ?rest
  case main =>
    intro K' hK
    by_cases hnil : sets = []
    · refine ifF (by rw [decide_eq_true hnil]; rfl) ?_
      refine ⟨_, rfl, rc, rd.2, rfl, fr03.tup r4, fun z => by have h0 : rd.2.length = 0 := (by rw [z]; rfl); omega, fun m hm _ => ?_⟩
      exact hK m (hfb m hm).1 (hfb m hm).2
    · have hpos : 0 < sets.length := List.length_pos_iff.mpr hnil
      refine ifT (by rw [decide_eq_false hnil]; rfl) ?_
      refine ⟨_, rfl, _, rfl, _, rfl, sa, _, rfl, .inr (fr03.tup hsa), _, _, rfl, rfl, by show (0 : Int) < _; rw [List.length_map]; omega, ?_⟩
      rw [List.length_map]
      obtain ⟨v, hv, mv⟩ := atI_ints (ns := sets) (r := at' % (sets.length : Nat)) (Int.emod_nonneg _ (by omega)) (Int.emod_lt_of_pos _ (by omega))
      exact ⟨sa, _, _, .int v, rfl, rfl, fr03.tup hsa, hv, hK v (hsb v mv).1 (hsb v mv).2⟩
  case rest =>
    intro b hb1 hb2
    refine ⟨_, rfl, t, 30, N + 1 + 1, rfl, ht3, by omega, by omega, by omega, fun r5 H4 d0 d1 fr4 ht4 => ⟨_, _, rfl, rfl, _, _, rfl, rfl, ?_⟩⟩
    have fr04 := fr03.trans fr4
    -- spot
    refine ⟨_, rfl, _, rfl, rb, ls, rfl, .inr (fr04.tup r2), _, _, rfl, rfl, t, _, N + 1 + 1 + 1, rfl, ht4, by omega, by omega, by omega, fun sp H5 e0 e1 fr5 ht5 => ?_⟩
    have fr05 := fr04.trans fr5
    have hnear : ∃ near, near = b + r5 - 9 ∧ -(Bd + 100) ≤ near ∧ near ≤ Bd + 100 := ⟨_, rfl, by omega, by omega⟩
    obtain ⟨near, hnear, n1, n2⟩ := hnear
    have hsa5 := fr05.tup hsa
    -- the way
    have tst : ∀ Q : Bool → Hp → Prop, Q (decide (way < 4) && decide (((sets.length : Nat) : Int) < 30)) H5 → tAnd (tTest (tOp (rI0 fun i j => .bl (decide (i < j))) (tVar 6) (tC (.int 4)))) (tTest (tOp (rI0 fun i j => .bl (decide (i < j))) (tCB (fun xs H Q => ∃ p ys, xs = [.ref p] ∧ (SqL K H p ys ∨ SqT K H p ys) ∧ Q (.int ys.length) H) (tCons (tVar 4) tNil)) (tC (.int 30))))
        [some (.ref t), some (.ref pg), some (.ref rb), some (.ref rc), some (.ref sa), some xx, some (.int way), some (.int at'), some (.int (b + r5 - 9)), some (.int sp), none] H5 Q := by
      intro Q q
      refine ⟨_, rfl, _, _, rfl, rfl, _, rfl, ?_⟩
      by_cases w4 : way < 4
      · rw [decide_eq_true w4] at q
        refine ifT (decide_eq_true w4) ?_
        refine ⟨_, rfl, sa, _, rfl, .inr hsa5, _, _, rfl, rfl, _, rfl, ?_⟩
        rw [List.length_map]
        exact q
      · rw [decide_eq_false w4] at q
        exact ifF (decide_eq_false w4) q
    refine tst _ ?_
    by_cases wc : (decide (way < 4) && decide (((sets.length : Nat) : Int) < 30)) = true
    · -- send
      refine ifT wc ?_
      refine ⟨_, rfl, (by show 3 ≤ sizeLine; decide), fun l1 nl1 => ?_⟩
      have f6 : Fr [t] H5 (upd H5 l1 (.lst ([3, 40, 90].map V.int))) := Fr.new nl1
      have ht6 := ht5.upd (o := .lst ([3, 40, 90].map V.int)) (ht5.ne nl1)
      have hl1t := (ht5.ne nl1).symm
      refine ⟨_, rfl, t, 3, _, rfl, ht6, by omega, by omega, by omega, fun r3 H7 b0 b1 fr7 ht7 => ?_⟩
      obtain ⟨m0, hm0, mm0⟩ := atI_ints (ns := [3, 40, 90]) b0 b1
      refine ⟨l1, _, _, _, rfl, rfl, SqL.of (fr7.keep _ _ upd_same (by simpa using hl1t)), hm0, ?_⟩
      have bm0 : 1 ≤ m0 ∧ m0 ≤ 90 := by
        simp only [List.mem_cons, List.not_mem_nil, or_false] at mm0
        omega
      refine ⟨t, m0, _, rfl, ht7, by omega, by omega, by omega, fun r6 H8 b2 b3 fr8 ht8 => ?_⟩
      refine ⟨_, rfl, t, 8, _, rfl, ht8, by omega, by omega, by omega, fun r7 H9 b4 b5 fr9 ht9 => ?_⟩
      refine ⟨rfl, .inr ⟨_, rfl, _, _, rfl, rfl, ?_⟩⟩
      have fr09 := (((fr05.trans f6).trans fr7).trans fr8).trans fr9
      have hone := b01' (decide (V.int r7 = V.int 0))
      have hone2 : (if decide (V.int r7 = V.int 0) = true then (1 : Int) else 0) ≤ 1 := by split <;> omega
      generalize (if decide (V.int r7 = V.int 0) = true then (1 : Int) else 0) = on at hone hone2 ⊢
      refine ⟨_, rfl, _, rfl, _, rfl, _, rfl, sa, _, rfl, fr09.tup hsa, fun t1 HA sA htA => ?_⟩
      rw [RhR.cutV_last, List.length_map, ← List.map_drop] at htA
      refine ⟨rc, t1, _, _, rfl, rfl, Same.tup sA (fr09.tup r4), htA, by rw [List.length_map, List.length_map, List.length_drop]; omega, fun t2 HB sB htB => ?_⟩
      rw [← List.map_append] at htB
      refine ⟨t2, rd.2 ++ sets.drop (sets.length - 1), rfl, htB, fun z => by have h0 := (List.append_eq_nil_iff.mp z).1; have h1 : rd.2.length = 0 := (by rw [h0]; rfl); omega, fun mx hmx _ => ?_⟩
      have bmx : -Bd ≤ mx ∧ mx ≤ Bd := by
        rcases List.mem_append.mp hmx with z | z
        · exact hfb _ z
        · exact hsb _ (List.mem_of_mem_drop z)
      refine ⟨_, rfl, _, _, rfl, rfl, (by show 2 ≤ sizeLine; decide), fun t3 nt3 => ?_⟩
      have sC := Same.upd (o := .tup [V.str "send", V.int (mx + (r6 - on))]) nt3
      have sAC := (sA.trans sB).trans sC
      exact k t3 (.send (mx + (r6 - on))) _ (fr09.trans (Fr.of sAC)) (.tup (SqT.of upd_same) (.cons (.str _) (.cons (.int _) .nil))) ⟨by omega, by omega⟩ ((ht9.same sAC).mono (by omega))
    · refine ifF (by simpa using wc) ?_
      refine ⟨_, rfl, _, _, rfl, rfl, _, rfl, ?_⟩
      by_cases w7 : way < 7
      · -- move
        refine ifT (decide_eq_true w7) ?_
        refine ⟨_, rfl, _, rfl, t, 9, _, rfl, ht5, by omega, by omega, by omega, fun r7 H9 b4 b5 fr9 ht9 => ?_⟩
        refine ⟨rfl, .inr ⟨_, rfl, _, _, rfl, rfl, ?_⟩⟩
        refine ⟨_, rfl, (by show 3 ≤ sizeLine; decide), fun t3 nt3 => ?_⟩
        refine k t3 (.move (at' - (if decide (V.int r7 = V.int 0) = true then (1 : Int) else 0)) (b + r5 - 9)) _ ((fr05.trans fr9).trans (Fr.new nt3)) (.tup (SqT.of upd_same) (.cons (.str _) (.cons (.int _) (.cons (.int _) .nil)))) ⟨by omega, by omega⟩ ((ht9.upd (ht9.ne nt3)).mono (by omega))
      · refine ifF (decide_eq_false w7) ?_
        refine ⟨_, rfl, rfl, _, rfl, ?_⟩
        by_cases we : way = 7
        · refine ifT (eq_int we) ?_
          refine ⟨_, rfl, (by show 2 ≤ sizeLine; decide), fun t3 nt3 => ?_⟩
          exact k t3 (.strike at') _ (fr05.trans (Fr.new nt3)) (.tup (SqT.of upd_same) (.cons (.str _) (.cons (.int _) .nil))) trivial ((ht5.upd (ht5.ne nt3)).mono (by omega))
        · refine ifF (ne_int we) ?_
          refine ⟨_, rfl, rfl, _, rfl, ?_⟩
          by_cases w8 : way = 8
          · refine ifT (eq_int w8) ?_
            have hfl : rd.2.length = ls.length := by omega
            obtain ⟨v, hv, mv⟩ := atI_ints (ns := rd.2) (r := sp % (ls.length : Nat)) (Int.emod_nonneg _ (by omega)) (by rw [hfl]; exact Int.emod_lt_of_pos _ (by omega))
            have bv := hfb v mv
            refine ⟨_, rfl, _, rfl, _, rfl, _, rfl, rb, ls, rfl, .inr (fr05.tup r2), _, _, rfl, rfl, by show (0 : Int) < _; omega, rc, _, _, .int v, rfl, rfl, fr05.tup r4, hv, ?_⟩
            refine ⟨_, rfl, t, 60, _, rfl, ht5, by omega, by omega, by omega, fun r7 H9 b4 b5 fr9 ht9 => ⟨_, _, rfl, rfl, _, _, rfl, rfl, (by show 3 ≤ sizeLine; decide), fun t3 nt3 => ?_⟩⟩
            exact k t3 (.first sp (v + r7 - 30)) _ ((fr05.trans fr9).trans (Fr.new nt3)) (.tup (SqT.of upd_same) (.cons (.str _) (.cons (.int _) (.cons (.int _) .nil)))) ⟨by omega, by omega⟩ ((ht9.upd (ht9.ne nt3)).mono (by omega))
          · refine ifF (ne_int w8) ?_
            refine ⟨_, rfl, _, rfl, t, _, rfl, ht5, by omega, fun a g H9 fr9 dg og ht9 => ⟨(by show 3 ≤ sizeLine; decide), fun t3 nt3 => ?_⟩⟩
            have sC := Same.upd (o := .tup [V.str "leg", V.int sp, V.ref a]) nt3
            exact k t3 (.leg sp g) _ ((fr05.trans fr9).trans (Fr.of sC)) (.tup (SqT.of upd_same) (.cons (.str _) (.cons (.int _) (.cons (Dp.same sC dg) .nil)))) og ((ht9.same sC).mono (by omega))
end
end Rh
end RhL5_
section RhL6_
set_option Elab.async false
set_option linter.all false
set_option maxRecDepth 100000
set_option maxHeartbeats 4000000
/-! Deeds asked for; refusals named. -/
namespace RhR
open PySem PySem.Spec PyProof.Rows L2
section
variable {X : Cx} {CX : CXT} {k : Nat} {f C : Addr} {fd : FuncData} {ps : List Str} {sp : Sp} {E : L2.St → XK} {m : Str} {pos apos : Pos} {e o : Expr} {es : List Expr} {ta : TE} {t : TA} {pl : Sem Bool} {ds : List Value} {dvs : List V}
theorem run_fnSD {pins : List (Addr × Obj)} {σ : L2.St} {H : Hp} {s : Shared} {Q : VK} {us : List Value} {vs : List V} (F : FnOk X.prog X.w X.K X.mg X.base CX k f fd ps sp) (hr : Room k X.A) (hb : L2.Binds X.K fd ps ds) (hd : Vals dvs ds) (hx : PassesAt CX X σ (E σ))
    (I : Inv X pins σ H s) (r : Vals vs us) (h : sp (vs ++ dvs) H Q (E σ)) : wpAny (model X.prog X.w) X.A (call (.ref f) us) (EP X pins σ Q) X.xe s := by
  have r2 : Vals (vs ++ dvs) (us ++ ds) := r.append hd
  have hl : (us ++ ds).length = ps.length := by rw [← r2.length]; exact F.len _ _ _ _ h
  have b := hb s us I.kIn hl
  refine wpAny_call (codeAny_mono (F.run X.A X.stack s H ⟨us, []⟩ (us ++ ds) (vs ++ dvs) Q (E σ) hr I.env0 b r2 h) fun r s' hq => ?_)
  cases r with
  | error e => exact hx pins H s e s' I hq
  | ok fl =>
    cases fl with
    | ret u => exact I.after hq
    | next => exact False.elim hq
    | brk => exact False.elim hq
    | cont => exact False.elim hq
/-- o.m(e, ..), the rest by defaults -/
def tMethSD (C : Addr) (m : Str) (sp : Sp) (dvs : List V) (E : L2.St → XK) (ta : TE) (t : TA) : TE := fun σ H Q => ta σ H fun x H1 => ∃ a dx fs, x = .ref a ∧ H1 a = some (.ins C dx fs) ∧ fs.lookup m = none ∧ t σ H1 fun vs H2 => sp ((x :: vs) ++ dvs) H2 Q (E σ)
theorem pe_methSD (he : PE X o ta) (c : Cls X.K C) (hm : Meth X.K C m f)
    (F : FnOk X.prog X.w X.K X.mg X.base CX k f fd ps sp) (hr : Room k X.A) (hb : L2.Binds X.K fd ps ds) (hd : Vals dvs ds) (hx : ∀ σ, PassesAt CX X σ (E σ)) (ha : PA X (e :: es) t)
    (hst : starEach (e :: es) X.env = (false, eval e X.env) :: starEach es X.env := by rfl) (hpl : (backTo pos (starEach es X.env)).any (·.1) = false := by rfl)
    (ht : eval (.Call (.Attribute o m apos) (e :: es) [] pos) X.env = (do
      let ov ← eval o X.env
      standAt apos.atName
      let (f, first) ← holding [ov] (getMethod ov m pl)
      callWith pos f first (backTo pos (starEach (e :: es) X.env)) (backToKw pos (keywordEach [] X.env))) := by rfl) :
    PE X (.Call (.Attribute o m apos) (e :: es) [] pos) (tMethSD C m sp dvs E ta t) := by
  refine ⟨fun pins s σ H Q I h => ?_⟩
  refine PySem.W.methodCall_KW (pl := pl) (thn (he.run pins s σ H _ I h) fun u s1 ⟨x, H1, I1, rx, a, dx, fs, ex, ea, l, q⟩ => ?_) ht
  subst ex
  obtain rfl : u = Value.ref a := rx
  refine getmeth_ok I1 ea c hm l ?_
  refine PySem.W.callWith_K (first := [.ref a]) (h₀ := X.base) I.ok.mod.kin hm.kp (thn (ha.run pos pins s1 σ H1 _ I1 q) fun us s2 ⟨vs, H2, I2, r, q2⟩ => ⟨I2.kIn, ?_⟩) hst hpl
  exact run_fnSD (us := .ref a :: us) (vs := .ref a :: vs) F hr hb hd (hx σ) I2 (.cons rfl r) q2
end
end RhR
namespace Rh
open PySem PySem.Spec PyProof.Rows L2
section
variable {P : Program} {w : World} {K : PySem.W.Frag} {mg : Str → Option Value} {base : Heap} {C : Addr}
def Ex.isRt : Ex → Bool
  | .early => true
  | .late => true
  | _ => false
instance : DecidableEq Ex := fun a b => by cases a <;> cases b <;> first | exact isTrue rfl | exact isFalse (fun h => by cases h)
/-- what the top tells of the four classes of refusals -/
structure X4 (K : PySem.W.Frag) (mg : Str → Option Value) (cx : Ex → Addr) : Prop where
  c : ∀ k, ExcC K (cx k)
  no : ∀ k, PySem.W.findIn K (.ref (cx k)) k.fld = some none
  gE : mg "Early" = some (.ref (cx .early))
  gL : mg "Late" = some (.ref (cx .late))
  gR : mg "NoRider" = some (.ref (cx .rider))
  gS : mg "NoStation" = some (.ref (cx .station))
  one : ∀ k j, PySem.W.kitOne K (.ref (cx k)) (.ref (cx j)) = some (decide (k = j))
  rt : ∀ k, PySem.W.kitOne K (.ref (cx k)) (.type "RuntimeError") = some k.isRt
  lk : ∀ k, PySem.W.kitOne K (.ref (cx k)) (.type "LookupError") = some (!k.isRt)
  exm : ∀ k, PySem.W.exmAny K (.ref (cx k)) [.ref (cx .early), .ref (cx .late), .ref (cx .rider), .ref (cx .station)] = some true
def spNamed (K : PySem.W.Frag) (cx : Ex → Addr) : Sp := fun vs H Q _ => ∃ (a dd : Addr) (k : Ex) (y : V), vs = [.ref a] ∧ H a = some (RhX.exk a (.ref (cx k)) (some dd)) ∧ H dd = some (.xd [(k.fld, y)]) ∧ ∀ p z x H', Same H H' → H' p = some (.tup [.str z, x]) → z ≠ "told" → Q (.ref p) H'
theorem ok_named {cx : Ex → Addr} (B : Bn mg) (T : X4 K mg cx) (D : Dfn K mg "_law_named" s_law_named ["_law_caught"]) : Cal P w K mg base CX0 "_law_named" 1 ["_law_caught"] (spNamed K cx) := by
  have nd := s_law_named_sc.nd
  refine D.cal s_law_named_sc (fun vs H Q E ⟨a, dd, k, y, e, _⟩ => by rw [e]; rfl) (fun f cdv A outer s H vs Q E hr h => ?_)
  obtain ⟨a, dd, k, y, rfl, ha, hd, kk⟩ := h
  refine ⟨_, PSs.nox (pss_cons (ps_set (i := 1) nd rfl (.inl rfl) (pe_lst (pa_cons (pe_callB RhX.call_isX (by rfl) B.isi (by decide +kernel) (pa_cons (pv 0) (pa_cons (pe_glob (v := .ref (cx .early)) rfl T.gE rfl) pa_nil))) (pa_cons (pe_callB RhX.call_isX (by rfl) B.isi (by decide +kernel) (pa_cons (pv 0) (pa_cons (pe_glob (v := .ref (cx .late)) rfl T.gL rfl) pa_nil))) (pa_cons (pe_callB RhX.call_isX (by rfl) B.isi (by decide +kernel) (pa_cons (pv 0) (pa_cons (pe_glob (v := .ref (cx .rider)) rfl T.gR rfl) pa_nil))) pa_nil)))))
      (pss_cons (ps_expr (pe_bm PySem.F.plainAttrs_list PySem.F.slot_list_append PySem.F.type_list_append mt_append (pv 1) (pa_cons (pe_callB RhX.call_isX (by rfl) B.isi (by decide +kernel) (pa_cons (pv 0) (pa_cons (pe_glob (v := .ref (cx .station)) rfl T.gS rfl) pa_nil))) pa_nil)))
      (pss_cons (ps_if (PW.pt (pw_or (pt_cmpR op_ne (pe_bm PySem.F.plainAttrs_list PySem.F.slot_list_count PySem.F.type_list_count RhR.mt_countF (pv 1) (pa_cons pe_bl pa_nil)) pe_int (nomark _)) (pw_or1 (pt_cmpR op_ne (pe_callB RhX.call_isX (by rfl) B.isi (by decide +kernel) (pa_cons (pv 0) (pa_cons (pe_bltn (v := .ty "RuntimeError") (by rfl) B.runtimeE (by decide +kernel) rfl) pa_nil))) (pe_cmpR op_lt (pe_bm PySem.F.plainAttrs_list PySem.F.slot_list_index PySem.F.type_list_index mt_index (pv 1) (pa_cons pe_bl pa_nil)) pe_int (nomark _)) (nomark _))))) (pss_one (ps_ret (pe_tup (pa_cons pe_str (pa_cons pe_non pa_nil))))) pss_nil)
      (pss_cons (ps_if (pt_val (pe_callB RhX.call_isX (by rfl) B.isi (by decide +kernel) (pa_cons (pv 0) (pa_cons (pe_glob (v := .ref (cx .early)) rfl T.gE rfl) pa_nil)))) (pss_one (ps_ret (pe_tup (pa_cons pe_str (pa_cons (RhX.pe_fldX (pv 0)) pa_nil))))) pss_nil)
      (pss_cons (ps_if (pt_val (pe_callB RhX.call_isX (by rfl) B.isi (by decide +kernel) (pa_cons (pv 0) (pa_cons (pe_glob (v := .ref (cx .late)) rfl T.gL rfl) pa_nil)))) (pss_one (ps_ret (pe_tup (pa_cons pe_str (pa_cons (RhX.pe_fldX (pv 0)) pa_nil))))) pss_nil)
      (pss_cons (ps_if (pt_not (pt_val (pe_callB RhX.call_isX (by rfl) B.isi (by decide +kernel) (pa_cons (pv 0) (pa_cons (pe_bltn (v := .ty "LookupError") (by rfl) B.lookupE (by decide +kernel) rfl) pa_nil))))) (pss_one (ps_ret (pe_tup (pa_cons pe_str (pa_cons pe_non pa_nil))))) pss_nil)
      (pss_one (ps_ret (pe_ifExp (pt_val (pe_callB RhX.call_isX (by rfl) B.isi (by decide +kernel) (pa_cons (pv 0) (pa_cons (pe_glob (v := .ref (cx .rider)) rfl T.gR rfl) pa_nil)))) (pe_tup (pa_cons pe_str (pa_cons (RhX.pe_fldX (pv 0)) pa_nil))) (pe_tup (pa_cons pe_str (pa_cons (RhX.pe_fldX (pv 0)) pa_nil)))))))))))), ?_⟩
  refine ⟨_, rfl, a, cx k, dd, _, _, _, _, rfl, .own _, T.c k, ha, hd, T.one k .early, _, rfl, a, cx k, dd, _, _, _, _, rfl, .own _, T.c k, ha, hd, T.one k .late, _, rfl, a, cx k, dd, _, _, _, _, rfl, .own _, T.c k, ha, hd, T.one k .rider, (by show 3 ≤ sizeLine; decide), fun L nL => ?_⟩
  have s1 := Same.upd (o := .lst [V.bl (decide (k = .early)), V.bl (decide (k = .late)), V.bl (decide (k = .rider))]) nL
  have ha1 := s1 _ _ ha
  have hd1 := s1 _ _ hd
  have eL1 : upd H L (.lst [V.bl (decide (k = .early)), V.bl (decide (k = .late)), V.bl (decide (k = .rider))]) L = some (.lst [V.bl (decide (k = .early)), V.bl (decide (k = .late)), V.bl (decide (k = .rider))]) := upd_same
  refine ⟨_, rfl, .inl ⟨rfl, _, SqL.of eL1⟩, _, rfl, a, cx k, dd, _, _, _, _, rfl, .own _, T.c k, ha1, hd1, T.one k .station, L, _, _, rfl, rfl, eL1, by rw [sizeLine_eq]; simp, ?_⟩
  have s2 : Same H (upd (upd H L (.lst [V.bl (decide (k = .early)), V.bl (decide (k = .late)), V.bl (decide (k = .rider))])) L (.lst ([V.bl (decide (k = .early)), V.bl (decide (k = .late)), V.bl (decide (k = .rider))] ++ [V.bl (decide (k = .station))]))) := fun b o e => by
    rw [upd_ne (ne_of_none e nL)]
    exact s1 _ _ e
  have eL : upd (upd H L (.lst [V.bl (decide (k = .early)), V.bl (decide (k = .late)), V.bl (decide (k = .rider))])) L (.lst ([V.bl (decide (k = .early)), V.bl (decide (k = .late)), V.bl (decide (k = .rider))] ++ [V.bl (decide (k = .station))])) L = some (.lst [V.bl (decide (k = .early)), V.bl (decide (k = .late)), V.bl (decide (k = .rider)), V.bl (decide (k = .station))]) := upd_same
  generalize (upd (upd H L (.lst [V.bl (decide (k = .early)), V.bl (decide (k = .late)), V.bl (decide (k = .rider))])) L (.lst ([V.bl (decide (k = .early)), V.bl (decide (k = .late)), V.bl (decide (k = .rider))] ++ [V.bl (decide (k = .station))]))) = H2 at s2 eL ⊢
  have ha2 := s2 _ _ ha
  have hd2 := s2 _ _ hd
  cases k with
  | rider =>
    have eL' : H2 L = some (.lst [V.bl false, V.bl false, V.bl true, V.bl false]) := eL
    refine ⟨_, rfl, .inl ⟨rfl, _, SqL.of eL'⟩, L, _, _, rfl, rfl, SqL.of eL', rfl, rfl, rfl, _, rfl, ?_⟩
    refine ifF (by rfl) ?_
    refine ⟨_, rfl, a, cx .rider, dd, _, _, _, _, rfl, .ty "RuntimeError", T.c _, ha2, hd2, T.rt _, _, rfl, .inl ⟨rfl, _, SqL.of eL'⟩, L, _, _, 2, .bl true, rfl, rfl, SqL.of eL', rfl, rfl, rfl, rfl, fun m z' hm hz => ?_, _, _, rfl, rfl, rfl, _, rfl, ?_⟩
    · match m, hm with
      | 0, _ => rw [← Option.some.inj hz]; rfl
      | 1, _ => rw [← Option.some.inj hz]; rfl
    refine ifF (by rfl) ?_
    refine ⟨_, rfl, a, cx .rider, dd, _, _, _, _, rfl, .own _, T.c _, ha2, hd2, T.one _ .early, _, rfl, ?_⟩
    refine ifF (by rfl) ?_
    refine ⟨_, rfl, a, cx .rider, dd, _, _, _, _, rfl, .own _, T.c _, ha2, hd2, T.one _ .late, _, rfl, ?_⟩
    refine ifF (by rfl) ?_
    refine ⟨_, rfl, a, cx .rider, dd, _, _, _, _, rfl, .ty "LookupError", T.c _, ha2, hd2, T.lk _, _, rfl, ?_⟩
    refine ifF (by rfl) ?_
    refine ⟨_, rfl, a, cx .rider, dd, _, _, _, _, rfl, .own _, T.c _, ha2, hd2, T.one _ .rider, _, rfl, ?_⟩
    refine ifT (by rfl) ?_
    exact ⟨_, rfl, a, cx .rider, dd, _, y, rfl, T.c _, T.no .rider, ha2, hd2, lk_here, (by show 2 ≤ sizeLine; decide), fun p np => kk p "NoRider" y _ (s2.trans (Same.upd np)) upd_same (by decide +kernel)⟩
  | station =>
    have eL' : H2 L = some (.lst [V.bl false, V.bl false, V.bl false, V.bl true]) := eL
    refine ⟨_, rfl, .inl ⟨rfl, _, SqL.of eL'⟩, L, _, _, rfl, rfl, SqL.of eL', rfl, rfl, rfl, _, rfl, ?_⟩
    refine ifF (by rfl) ?_
    refine ⟨_, rfl, a, cx .station, dd, _, _, _, _, rfl, .ty "RuntimeError", T.c _, ha2, hd2, T.rt _, _, rfl, .inl ⟨rfl, _, SqL.of eL'⟩, L, _, _, 3, .bl true, rfl, rfl, SqL.of eL', rfl, rfl, rfl, rfl, fun m z' hm hz => ?_, _, _, rfl, rfl, rfl, _, rfl, ?_⟩
    · match m, hm with
      | 0, _ => rw [← Option.some.inj hz]; rfl
      | 1, _ => rw [← Option.some.inj hz]; rfl
      | 2, _ => rw [← Option.some.inj hz]; rfl
    refine ifF (by rfl) ?_
    refine ⟨_, rfl, a, cx .station, dd, _, _, _, _, rfl, .own _, T.c _, ha2, hd2, T.one _ .early, _, rfl, ?_⟩
    refine ifF (by rfl) ?_
    refine ⟨_, rfl, a, cx .station, dd, _, _, _, _, rfl, .own _, T.c _, ha2, hd2, T.one _ .late, _, rfl, ?_⟩
    refine ifF (by rfl) ?_
    refine ⟨_, rfl, a, cx .station, dd, _, _, _, _, rfl, .ty "LookupError", T.c _, ha2, hd2, T.lk _, _, rfl, ?_⟩
    refine ifF (by rfl) ?_
    refine ⟨_, rfl, a, cx .station, dd, _, _, _, _, rfl, .own _, T.c _, ha2, hd2, T.one _ .rider, _, rfl, ?_⟩
    refine ifF (by rfl) ?_
    exact ⟨_, rfl, a, cx .station, dd, _, y, rfl, T.c _, T.no .station, ha2, hd2, lk_here, (by show 2 ≤ sizeLine; decide), fun p np => kk p "NoStation" y _ (s2.trans (Same.upd np)) upd_same (by decide +kernel)⟩
  | early =>
    have eL' : H2 L = some (.lst [V.bl true, V.bl false, V.bl false, V.bl false]) := eL
    refine ⟨_, rfl, .inl ⟨rfl, _, SqL.of eL'⟩, L, _, _, rfl, rfl, SqL.of eL', rfl, rfl, rfl, _, rfl, ?_⟩
    refine ifF (by rfl) ?_
    refine ⟨_, rfl, a, cx .early, dd, _, _, _, _, rfl, .ty "RuntimeError", T.c _, ha2, hd2, T.rt _, _, rfl, .inl ⟨rfl, _, SqL.of eL'⟩, L, _, _, 0, .bl true, rfl, rfl, SqL.of eL', rfl, rfl, rfl, rfl, fun m z' hm hz => ?_, _, _, rfl, rfl, rfl, _, rfl, ?_⟩
    · omega
    refine ifF (by rfl) ?_
    refine ⟨_, rfl, a, cx .early, dd, _, _, _, _, rfl, .own _, T.c _, ha2, hd2, T.one _ .early, _, rfl, ?_⟩
    refine ifT (by rfl) ?_
    exact ⟨_, rfl, a, cx .early, dd, _, y, rfl, T.c _, T.no .early, ha2, hd2, lk_here, (by show 2 ≤ sizeLine; decide), fun p np => kk p "Early" y _ (s2.trans (Same.upd np)) upd_same (by decide +kernel)⟩
  | late =>
    have eL' : H2 L = some (.lst [V.bl false, V.bl true, V.bl false, V.bl false]) := eL
    refine ⟨_, rfl, .inl ⟨rfl, _, SqL.of eL'⟩, L, _, _, rfl, rfl, SqL.of eL', rfl, rfl, rfl, _, rfl, ?_⟩
    refine ifF (by rfl) ?_
    refine ⟨_, rfl, a, cx .late, dd, _, _, _, _, rfl, .ty "RuntimeError", T.c _, ha2, hd2, T.rt _, _, rfl, .inl ⟨rfl, _, SqL.of eL'⟩, L, _, _, 1, .bl true, rfl, rfl, SqL.of eL', rfl, rfl, rfl, rfl, fun m z' hm hz => ?_, _, _, rfl, rfl, rfl, _, rfl, ?_⟩
    · match m, hm with
      | 0, _ => rw [← Option.some.inj hz]; rfl
    refine ifF (by rfl) ?_
    refine ⟨_, rfl, a, cx .late, dd, _, _, _, _, rfl, .own _, T.c _, ha2, hd2, T.one _ .early, _, rfl, ?_⟩
    refine ifF (by rfl) ?_
    refine ⟨_, rfl, a, cx .late, dd, _, _, _, _, rfl, .own _, T.c _, ha2, hd2, T.one _ .late, _, rfl, ?_⟩
    refine ifT (by rfl) ?_
    exact ⟨_, rfl, a, cx .late, dd, _, y, rfl, T.c _, T.no .late, ha2, hd2, lk_here, (by show 2 ≤ sizeLine; decide), fun p np => kk p "Late" y _ (s2.trans (Same.upd np)) upd_same (by decide +kernel)⟩
end
end Rh
end RhL6_
section RhL7_
set_option Elab.async false
set_option linter.all false
set_option maxRecDepth 100000
set_option maxHeartbeats 4000000
/-! Deeds asked for; rows. -/
namespace Rh
open PySem PySem.Spec PyProof.Rows L2
section
variable {P : Program} {w : World} {K : PySem.W.Frag} {mg : Str → Option Value} {base : Heap} {C : Addr}
def spAsked (K : PySem.W.Frag) (C : Addr) : Sp := fun vs H Q _ => ∃ (h l : Addr) (ps : List Page) (n : Int) (p : Page) (m : Nat) (d : Deed) (v : V), vs = [.ref h, v] ∧ Dp K H v (deedD d) ∧ HouseAt K C H h l ps n ∧ ps.getLast? = some p ∧ ps.length ≤ 100000 ∧ HOk m p n ∧
  (refus p.1 p.2.1 d = none → ∀ H' t x, Fr [h, l] H H' → HouseAt K C H' h l (ps ++ [applyP p n d]) (applyN n d) → H' t = some (.tup [.str "told", x]) → Q (.ref t) H') ∧
  ((∃ k, refus p.1 p.2.1 d = some k) → ∀ H' t z x, Same H H' → H' t = some (.tup [.str z, x]) → z ≠ "told" → Q (.ref t) H')
/-- the try's body -/
def tAskB (K : PySem.W.Frag) (C : Addr) (cx : Ex → Addr) (W : WX) : TS :=
  let d (i : Int) : TE := tOp (rIxT K) (tVar 1) (tC (.int i))
  let q (z : Str) : TT := tTest (tOp rEq (tVar 4) (tC (.str z)))
  tIfS (q "send") (tAsg (RhR.tMethS C "send" (spDeed K C cx isSend) (WE W) (tVar 0) (tCons (d 1) tNil)) (gName 3))
  (tIfS (q "move") (tAsg (RhR.tMethK C "move" 2 1 (spDeed K C cx isMove) (fun us ws => us ++ ws) (WE W) (tVar 0) (tCons (d 1) tNil) (tCons (d 2) tNil)) (gName 3))
  (tIfS (q "strike") (tAsg (RhR.tMethS C "strike" (spDeed K C cx isStrike) (WE W) (tVar 0) (tCons (d 1) tNil)) (gName 3))
  (tIfS (q "first") (tAsg (RhR.tMethS C "first" (spDeed K C cx isFirst) (WE W) (tVar 0) (tCons (d 1) (tCons (d 2) tNil))) (gName 3))
  (tAsg (RhR.tMethS C "leg" (spDeed K C cx isLeg) (WE W) (tVar 0) (tCons (d 1) (tCons (d 2) tNil))) (gName 3)))))
theorem ok_asked {cx : Ex → Addr} (T : HT K mg C) (T4 : X4 K mg cx) (D : Dfn K mg "_law_asked" s_law_asked ["_law_house", "_law_deed_here"]) (F5 : Five P w K mg base C cx) (h1 : Cal P w K mg base CX0 "_law_named" 1 ["_law_caught"] (spNamed K cx)) :
    Cal P w K mg base CX0 "_law_asked" 10 ["_law_house", "_law_deed_here"] (spAsked K C) := by
  have nd := s_law_asked_sc.nd
  obtain ⟨⟨f1, fd1, G1, m1, b1⟩, ⟨f2, fd2, G2, m2, kb1, kb2⟩, ⟨f3, fd3, G3, m3, b3⟩, ⟨f4, fd4, G4, m4, b4⟩, ⟨f5, fd5, G5, m5, b5⟩⟩ := F5
  obtain ⟨f6, fd6, G6, g6, k6, b6⟩ := h1
  refine D.cal s_law_asked_sc (fun vs H Q E ⟨h, l, ps, n, p, m, d, v, e, _⟩ => by rw [e]; rfl) (fun f cdv A outer s H vs Q E hr h => ?_)
  obtain ⟨h, l, ps, n, p, m, d, v, rfl, hv, ha, hp, hpl, hok, k1, k2⟩ := h
  obtain ⟨a, xs, rfl, hx, hd⟩ := Dp.tupI hv
  obtain ⟨dx, vs, e1, e2, e3⟩ := id ha
  refine ⟨_, PSs.nox (pss_cons (ps_par3 (i := 2) (j := 3) (l := 4) rfl nd rfl rfl rfl (by decide) (by decide) (by decide) rfl rfl rfl (pa_cons pe_non (pa_cons pe_non (pa_cons (pe_ix ix_tup (pv 1) pe_int (fun _ _ => rfl)) pa_nil))) (by rfl))
      (pss_cons (RhX.ps_try_keep (i := 5) (j := 2) (tb := tAskB K C cx) rfl rfl rfl nd rfl rfl ⟨rfl, by decide, .inl T4.gE⟩ ⟨rfl, by decide, .inl T4.gL⟩ ⟨rfl, by decide, .inl T4.gR⟩ ⟨rfl, by decide, .inl T4.gS⟩
      (fun W pn xe tk po => (pss_one (ps_if (pt_cmpR op_eq (pv 4) pe_str (nomark _)) (pss_one (ps_set (i := 3) nd rfl (.inl rfl) (RhR.pe_methS (pv 0) T.cl m1 G1 (hr.mono (by decide)) b1 (fun σ => passAt tk σ) (pa_cons (pe_ix ix_tup (pv 1) pe_int (fun _ _ => rfl)) pa_nil)))) (pss_one (ps_if (pt_cmpR op_eq (pv 4) pe_str (nomark _)) (pss_one (ps_set (i := 3) nd rfl (.inl rfl) (RhR.pe_methK (pv 0) T.cl m2 G2 (hr.mono (by decide)) kb1 (fun σ => passAt tk σ) (pa_cons (pe_ix ix_tup (pv 1) pe_int (fun _ _ => rfl)) pa_nil) (pk_cons (pe_ix ix_tup (pv 1) pe_int (fun _ _ => rfl)) pk_nil)))) (pss_one (ps_if (pt_cmpR op_eq (pv 4) pe_str (nomark _)) (pss_one (ps_set (i := 3) nd rfl (.inl rfl) (RhR.pe_methS (pv 0) T.cl m3 G3 (hr.mono (by decide)) b3 (fun σ => passAt tk σ) (pa_cons (pe_ix ix_tup (pv 1) pe_int (fun _ _ => rfl)) pa_nil)))) (pss_one (ps_if (pt_cmpR op_eq (pv 4) pe_str (nomark _)) (pss_one (ps_set (i := 3) nd rfl (.inl rfl) (RhR.pe_methS (pv 0) T.cl m4 G4 (hr.mono (by decide)) b4 (fun σ => passAt tk σ) (pa_cons (pe_ix ix_tup (pv 1) pe_int (fun _ _ => rfl)) (pa_cons (pe_ix ix_tup (pv 1) pe_int (fun _ _ => rfl)) pa_nil))))) (pss_one (ps_set (i := 3) nd rfl (.inl rfl) (RhR.pe_methS (pv 0) T.cl m5 G5 (hr.mono (by decide)) b5 (fun σ => passAt tk σ) (pa_cons (pe_ix ix_tup (pv 1) pe_int (fun _ _ => rfl)) (pa_cons (pe_ix ix_tup (pv 1) pe_int (fun _ _ => rfl)) pa_nil))))))))))))))
      (fun _ _ _ => pss_one (ps_set (i := 2) nd rfl (.inl rfl) (pv 5))))
      (pss_one (ps_ret (pe_ifExp (pt_cmpR op_isN (pv 2) pe_non (nomark _)) (pe_tup (pa_cons pe_str (pa_cons (pv 3) pa_nil))) (pe_call G6 (hr.mono (by decide)) (by rfl) g6 k6 b6 .nil pass0 (pa_cons (pv 2) pa_nil))))))), ?_⟩
  have nS : (hF l n).lookup ("send" : Str) = none := hF_no l n (by decide +kernel) (by decide +kernel)
  have nM : (hF l n).lookup ("move" : Str) = none := hF_no l n (by decide +kernel) (by decide +kernel)
  have nT : (hF l n).lookup ("strike" : Str) = none := hF_no l n (by decide +kernel) (by decide +kernel)
  have nF : (hF l n).lookup ("first" : Str) = none := hF_no l n (by decide +kernel) (by decide +kernel)
  have nL : (hF l n).lookup ("leg" : Str) = none := hF_no l n (by decide +kernel) (by decide +kernel)
  cases hd with
  | @cons x0 ws _ _ dw das =>
    cases dw
    refine ⟨_, rfl, a, _, 0, _, rfl, rfl, hx, atI_nat (j := 0) rfl, _, _, _, rfl, ?_⟩
    have fin : refus p.1 p.2.1 d = none → ∀ (told : V) (H' : Hp), Fr [h, l] H H' → HouseAt K C H' h l (ps ++ [applyP p n d]) (applyN n d) →
        tRet (tIf (tTest (tOp (fun x y H Q => y = .non ∧ Q (.bl (decide (x = .non))) H) (tVar 2) (tC .non))) (tTup (tCons (tC (.str "told")) (tCons (tVar 3) tNil))) (tCall (spNamed K cx) [] E0 (tCons (tVar 2) tNil))) { nx := fun _ H' => Q .non H', rt := Q } [some (.ref h), some (.ref a), some .non, some told, some (.str d.word), none] H' := fun hn told H' fr a' => by
      refine ⟨_, rfl, rfl, _, rfl, ?_⟩
      refine ifT (by rfl) ?_
      refine ⟨_, rfl, (by show 2 ≤ sizeLine; decide), fun t nt => ?_⟩
      exact k1 hn _ t told (fr.trans (Fr.new nt)) (a'.same (Same.upd nt)) upd_same
    have bad : ∀ (k : Ex) (y : Int), refus p.1 p.2.1 d = some (k, y) → ∀ (sl : Option V), Rf (cx k) k.fld y H (fun cls dd H' => RhX.wKp K [.ref (cx .early), .ref (cx .late), .ref (cx .rider), .ref (cx .station)] 5 2 { nx := tRet (tIf (tTest (tOp (fun x y H Q => y = .non ∧ Q (.bl (decide (x = .non))) H) (tVar 2) (tC .non))) (tTup (tCons (tC (.str "told")) (tCons (tVar 3) tNil))) (tCall (spNamed K cx) [] E0 (tCons (tVar 2) tNil))) { nx := fun _ H' => Q .non H', rt := Q }, rt := Q } cls dd [some (.ref h), some (.ref a), some .non, sl, some (.str d.word), none] H') := fun k y hs sl d0 H' s1 nd0 hd0 => by
      refine ⟨T4.exm k, fun a0 na0 => ?_⟩
      refine ⟨_, rfl, rfl, _, rfl, ?_⟩
      refine ifF (by rfl) ?_
      have h0 : d0 ≠ a0 := fun z => by rw [z, na0] at hd0; cases hd0
      exact ⟨_, rfl, a0, d0, k, .int y, rfl, upd_same, by rw [upd_ne h0]; exact hd0, fun p' z x H'' s2 hp' hz => k2 ⟨_, hs⟩ H'' p' z x ((s1.trans (Same.upd na0)).trans s2) hp' hz⟩
    cases d with
    | send b =>
      obtain ⟨v1, rfl, d1⟩ := DpAll.one das
      refine ⟨_, rfl, rfl, _, rfl, ifT word_eq ?_⟩
      exact ⟨_, rfl, h, dx, _, rfl, e1, nS, _, rfl, a, _, 1, _, rfl, rfl, hx, rfl, h, l, ps, n, p, m, .send b, _, rfl, ⟨b, rfl⟩, das, ha, hp, hpl, hok, fun hn H1 fr a1 => fin hn _ _ fr a1, fun k y hs => bad k y hs _⟩
    | move r b =>
      obtain ⟨v1, v2, rfl, d1, d2⟩ := DpAll.two das
      refine ⟨_, rfl, rfl, _, rfl, ifF (word_ne (a := "move") (by decide +kernel)) ?_⟩
      refine ⟨_, rfl, rfl, _, rfl, ifT word_eq ?_⟩
      exact ⟨_, rfl, h, dx, _, rfl, e1, nM, _, rfl, a, _, 1, _, rfl, rfl, hx, rfl, _, rfl, a, _, 2, _, rfl, rfl, hx, rfl, rfl, rfl, h, l, ps, n, p, m, .move r b, _, rfl, ⟨r, b, rfl⟩, das, ha, hp, hpl, hok, fun hn H1 fr a1 => fin hn _ _ fr a1, fun k y hs => bad k y hs _⟩
    | strike r =>
      obtain ⟨v1, rfl, d1⟩ := DpAll.one das
      refine ⟨_, rfl, rfl, _, rfl, ifF (word_ne (a := "strike") (by decide +kernel)) ?_⟩
      refine ⟨_, rfl, rfl, _, rfl, ifF (word_ne (a := "strike") (by decide +kernel)) ?_⟩
      refine ⟨_, rfl, rfl, _, rfl, ifT word_eq ?_⟩
      exact ⟨_, rfl, h, dx, _, rfl, e1, nT, _, rfl, a, _, 1, _, rfl, rfl, hx, rfl, h, l, ps, n, p, m, .strike r, _, rfl, ⟨r, rfl⟩, das, ha, hp, hpl, hok, fun hn H1 fr a1 => fin hn _ _ fr a1, fun k y hs => bad k y hs _⟩
    | first r b =>
      obtain ⟨v1, v2, rfl, d1, d2⟩ := DpAll.two das
      refine ⟨_, rfl, rfl, _, rfl, ifF (word_ne (a := "first") (by decide +kernel)) ?_⟩
      refine ⟨_, rfl, rfl, _, rfl, ifF (word_ne (a := "first") (by decide +kernel)) ?_⟩
      refine ⟨_, rfl, rfl, _, rfl, ifF (word_ne (a := "first") (by decide +kernel)) ?_⟩
      refine ⟨_, rfl, rfl, _, rfl, ifT word_eq ?_⟩
      exact ⟨_, rfl, h, dx, _, rfl, e1, nF, _, rfl, a, _, 1, _, rfl, rfl, hx, rfl, _, rfl, a, _, 2, _, rfl, rfl, hx, rfl, h, l, ps, n, p, m, .first r b, _, rfl, ⟨r, b, rfl⟩, das, ha, hp, hpl, hok, fun hn H1 fr a1 => fin hn _ _ fr a1, fun k y hs => bad k y hs _⟩
    | leg r g =>
      obtain ⟨v1, v2, rfl, d1, d2⟩ := DpAll.two das
      refine ⟨_, rfl, rfl, _, rfl, ifF (word_ne (a := "leg") (by decide +kernel)) ?_⟩
      refine ⟨_, rfl, rfl, _, rfl, ifF (word_ne (a := "leg") (by decide +kernel)) ?_⟩
      refine ⟨_, rfl, rfl, _, rfl, ifF (word_ne (a := "leg") (by decide +kernel)) ?_⟩
      refine ⟨_, rfl, rfl, _, rfl, ifF (word_ne (a := "leg") (by decide +kernel)) ?_⟩
      exact ⟨_, rfl, h, dx, _, rfl, e1, nL, _, rfl, a, _, 1, _, rfl, rfl, hx, rfl, _, rfl, a, _, 2, _, rfl, rfl, hx, rfl, h, l, ps, n, p, m, .leg r g, _, rfl, ⟨r, g, rfl⟩, das, ha, hp, hpl, hok, fun hn H1 fr a1 => fin hn _ _ fr a1, fun k y hs => bad k y hs _⟩
end
end Rh
end RhL7_
section RhL8_
set_option Elab.async false
set_option linter.all false
set_option maxRecDepth 100000
set_option maxHeartbeats 4000000
/-! Rows of deeds; all that a house tells; comings apart. -/
namespace Rh
open PySem PySem.Spec PyProof.Rows L2
section
variable {P : Program} {w : World} {K : PySem.W.Frag} {mg : Str → Option Value} {base : Heap} {C : Addr}
/-! ### _law_row(house, deeds) -/
def spRow (K : PySem.W.Frag) (C : Addr) : Sp := fun vs H Q _ => ∃ (h l dl : Addr) (S : HSt) (m B : Nat) (ds : List Deed) (vds : List V), vs = [.ref h, .ref dl] ∧ H dl = some (.lst vds) ∧ DpAll K H vds (ds.map deedD) ∧ dl ≠ l ∧ HouseAt K C H h l S.1 S.2 ∧ HInv m S B ∧ B + ds.length ≤ 900 ∧
  (∀ S', runD S ds = some S' → ∀ H', Fr [h, l] H H' → HouseAt K C H' h l S'.1 S'.2 → Q (.ref dl) H') ∧
  (runD S ds = none → ∀ l' n' q H', S.2 ≤ n' → Fr [h, l] H H' → H l' = none → HouseAt K C H' h l' S.1 n' → H' q = some (.lst []) → Q (.ref q) H')
theorem ok_row {cx : Ex → Addr} (T : HT K mg C) (T4 : X4 K mg cx) (D : Dfn K mg "_law_row" s_law_row ["_law_house", "_law_deeds"]) (h1 : DoCal P w K mg base C 11 (spDoRow K C cx)) : Cal P w K mg base CX0 "_law_row" 12 ["_law_house", "_law_deeds"] (spRow K C) := by
  have nd := s_law_row_sc.nd
  obtain ⟨f1, fd1, dv, G1, m1, hdv, b1⟩ := h1
  refine D.cal s_law_row_sc (fun vs H Q E ⟨h, l, dl, S, m, B, ds, vds, e, _⟩ => by rw [e]; rfl) (fun f cdv A outer s H vs Q E hr h => ?_)
  obtain ⟨h, l, dl, S, m, B, ds, vds, rfl, hdl, hdd, hne, ha, hinv, hB, kS, kN⟩ := h
  obtain ⟨dx, vs, e1, e2, e3⟩ := id ha
  refine ⟨_, PSs.nox (pss_cons (ps_set (i := 2) nd rfl (.inl rfl) pe_non)
      (pss_cons (RhX.ps_try_keep (i := 3) (j := 2) (tb := fun W => tDrop (RhR.tMethSD C "do" (spDoRow K C cx) [.bl true] (WE W) (tVar 0) (tCons (tVar 1) tNil))) rfl rfl rfl nd rfl rfl ⟨rfl, by decide, .inl T4.gE⟩ ⟨rfl, by decide, .inl T4.gL⟩ ⟨rfl, by decide, .inl T4.gR⟩ ⟨rfl, by decide, .inl T4.gS⟩
      (fun W pn xe tk po => (pss_one (ps_expr (RhR.pe_methSD (pv 0) T.cl m1 G1 (hr.mono (by decide)) b1 hdv (fun σ => passAt tk σ) (pa_cons (pv 1) pa_nil)))))
      (fun _ _ _ => pss_one (ps_set (i := 2) nd rfl (.inl rfl) (pv 3))))
      (pss_one (ps_ret (pe_ifExp (pt_cmpR op_isN (pv 2) pe_non (nomark _)) (pv 1) (pe_lst pa_nil)))))), ?_⟩
  have nD : (hF l S.2).lookup ("do" : Str) = none := hF_no l S.2 (by decide +kernel) (by decide +kernel)
  refine ⟨_, rfl, h, dx, _, rfl, e1, nD, _, rfl, h, l, dl, S, m, B, ds, vds, rfl, hdl, hdd, hne, ha, hinv, hB, fun S' hr1 H' q fr nq a' => ?_, fun hr1 k y d0 l' n' H' hn' fr nl' a' nd0 hd0 => ?_⟩
  · refine ⟨_, rfl, rfl, _, rfl, ?_⟩
    refine ifT (by rfl) ?_
    exact ⟨_, rfl, kS S' hr1 H' fr a'⟩
  · refine ⟨T4.exm k, fun a0 na0 => ?_⟩
    refine ⟨_, rfl, rfl, _, rfl, ?_⟩
    refine ifF (by rfl) ?_
    have s1 := Same.upd (o := RhX.exk a0 (.ref (cx k)) (some d0)) na0
    refine ⟨Nat.zero_le _, fun q nq => ?_⟩
    have s2 := Same.upd (o := .lst []) nq
    have fr2 := fr.trans (Fr.of (s1.trans s2) (S := [h, l]))
    exact kN hr1 l' n' q _ hn' fr2 nl' (a'.same (s1.trans s2)) upd_same
/-! ### _law_all(house) -/
def allD (rd : Road) (sets : List Int) (k : Int) : PyData := .list ([roadD rd, setsD sets, .int k] ++ (booksM rd.1 rd.2 sets).map rowD)
def spAll (K : PySem.W.Frag) (C : Addr) : Sp := fun vs H Q _ => ∃ (h l : Addr) (ps : List Page) (n : Int) (p : Page) (m : Nat), vs = [.ref h] ∧ HouseAt K C H h l ps n ∧ ps.getLast? = some p ∧ PgOk m p ∧ ∀ q H', Same H H' → Dp K H' (.ref q) (allD p.1 p.2.1 ((ps.length : Nat) - 1)) → Q (.ref q) H'
abbrev nAll : List Str := ["_law_house", "_law_at"]
theorem sc_all : FnScope nAll ["_law_house"] (defScope s_law_all) := ⟨rfl, rfl, rfl, by decide +kernel, rfl, by decide +kernel, by decide +kernel⟩
theorem fm_rows {α β : Type} (f : α → β) (d : α) : ∀ (l : List α) {n : Nat}, n = l.length → (List.range n).filterMap (fun i => some (f (l.getD i d))) = l.map f
  | [], _, h => by subst h; rfl
  | a :: l, _, h => by
    subst h
    rw [List.length_cons, List.range_succ_eq_map, List.filterMap_cons, List.filterMap_map]
    exact congrArg (f a :: ·) (fm_rows f d l rfl)
theorem ok_all (B : Bn mg) (T : HT K mg C) (D : Dfn K mg "_law_all" s_law_all ["_law_house"]) (h1 : MCal P w K mg base C CX0 "road" 1 ["self"] (spHRoad K C)) (h2 : MCal P w K mg base C CX0 "sets" 1 ["self"] (spHSets K C)) (h3 : MCal P w K mg base C CX0 "deeds" 1 ["self"] (spHDeeds K C))
    (h4 : MCal P w K mg base C CX0 "book" 6 ["self", "station"] (spBook K C)) : Cal P w K mg base CX0 "_law_all" 7 ["_law_house"] (spAll K C) := by
  have nd := sc_all.nd
  obtain ⟨f1, fd1, G1, m1, b1⟩ := h1
  obtain ⟨f2, fd2, G2, m2, b2⟩ := h2
  obtain ⟨f3, fd3, G3, m3, b3⟩ := h3
  obtain ⟨f4, fd4, G4, m4, b4⟩ := h4
  refine D.cal sc_all (fun vs H Q E ⟨h, l, ps, n, p, m, e, _⟩ => by rw [e]; rfl) (fun f cdv A outer s H vs Q E hr h => ?_)
  obtain ⟨h, l, ps, n, p, m, rfl, ha, hp, ok, k⟩ := h
  obtain ⟨dx, vs, e1, e2, e3⟩ := id ha
  have nR : (hF l n).lookup ("road" : Str) = none := hF_no l n (by decide +kernel) (by decide +kernel)
  have nS : (hF l n).lookup ("sets" : Str) = none := hF_no l n (by decide +kernel) (by decide +kernel)
  have nD : (hF l n).lookup ("deeds" : Str) = none := hF_no l n (by decide +kernel) (by decide +kernel)
  have nB : (hF l n).lookup ("book" : Str) = none := hF_no l n (by decide +kernel) (by decide +kernel)
  refine ⟨_, PSs.nox (pss_one (ps_ret (pe_op op_cat (pe_lst (pa_cons (pe_meth0 (pv 0) T.cl m1 G1 (hr.mono (by decide)) b1 .nil pass0) (pa_cons (pe_meth0 (pv 0) T.cl m2 G2 (hr.mono (by decide)) b2 .nil pass0) (pa_cons (pe_meth0 (pv 0) T.cl m3 G3 (hr.mono (by decide)) b3 .nil pass0) pa_nil)))) (pe_lc (own := [("_law_at", 1)]) (g := gName 1) (te := tMeth C "book" (spBook K C) [] E0 (tVar 0) (tCons (tVar 1) tNil)) rfl nd (pi_range1 (by rfl) B.range (pa_cons (pe_op op_add (pe_callB call_len_seq (by rfl) B.len PySem.boot_len (pa_cons (pe_ix ix_tup (pe_meth0 (pv 0) T.cl m1 G1 (hr.mono (by decide)) b1 .nil pass0) pe_int (fun _ _ => rfl)) pa_nil)) pe_int) pa_nil)) (blkOk_by (N := nAll) (sc := defScope s_law_all) (by decide +kernel)) (fun _ _ _ _ _ => (pg_name (i := 1) nd rfl (.inl rfl))) (fun _ _ _ _ _ => pts_nil) (fun _ _ _ _ _ => (pe_meth (pv 0) T.cl m4 G4 (hr.mono (by decide)) b4 .nil pass0 (pa_cons (pv 1) pa_nil))))))), ?_⟩
  refine ⟨_, rfl, h, dx, _, rfl, e1, nR, h, l, ps, n, p, rfl, ha, hp, fun v hv => ?_⟩
  refine ⟨_, rfl, h, dx, _, rfl, e1, nS, h, l, ps, n, p, rfl, ha, hp, fun u hu => ?_⟩
  refine ⟨_, rfl, h, dx, _, rfl, e1, nD, h, l, ps, n, rfl, ha, (by show 3 ≤ sizeLine; decide), fun L nL => ?_⟩
  have s1 := Same.upd (o := .lst [v, u, .int ((ps.length : Nat) - 1)]) nL
  have hlf : p.1.1.length = p.1.2.length := by rw [ok.legs, ok.firsts]
  have hbl : (booksM p.1.1 p.1.2 p.2.1).length = m + 1 := by rw [len_books _ _ _ hlf, ok.legs]
  refine ⟨_, rfl, h, dx, _, rfl, s1 _ _ e1, nR, h, l, ps, n, p, rfl, ha.same s1, hp, fun v2 hv2 => ?_⟩
  obtain ⟨ra, rb, rc, ls, rfl, r1, r2, r3, r4⟩ := Dp.roadI hv2
  have hlen : ls.length = m := by rw [DpAll.length r3, List.length_map, ok.legs]
  have hfew := ok.few
  refine ⟨ra, _, 0, _, rfl, rfl, r1, rfl, rb, ls, rfl, .inr r2, _, _, rfl, rfl, ?_⟩
  rw [hlen]
  refine ⟨_, rfl, by omega, by omega, ?_⟩
  intro D0 nD0
  refine lc_dp (K := K) (n := m + 1) (walk_range (lo := 0) (n := m + 1)) (fun i => some (rowD ((booksM p.1.1 p.1.2 p.2.1).getD i []))) nD0 (by omega) (fun _ _ => trivial) (fun i x H2 H3 Qy Qn acc hi s2 eD y qy qn => ?_) (fun H2 ys s2 h2 hd => ?_)
  · obtain ⟨rfl, rfl⟩ := y
    have s12 := s1.trans s2
    refine ⟨rfl, ?_⟩
    refine ⟨_, rfl, h, dx, _, rfl, s12 _ _ e1, nB, _, rfl, h, l, ps, n, p, m, i, (by show [V.ref h, V.int (0 + (i : Nat))] = _; rw [Int.zero_add]), ha.same s12, hp, ok, by omega, fun q H4 s4 nq hq => ?_⟩
    refine qy _ _ _ rfl (Dp.ofInts (SqL.of ?_)) s4
    rw [hide_ne (fun z => by rw [z, eD] at nq; cases nq)]
    exact hq
  · rw [fm_rows rowD [] _ (by rw [hbl])] at hd
    have hl := DpAll.length hd
    rw [List.length_map, hbl] at hl
    refine ⟨L, D0, _, _, rfl, rfl, s2 _ _ upd_same, h2, by rw [sizeLine_eq, hl]; simp; omega, fun q nq => ?_⟩
    have s3 := Same.upd (o := .lst ([v, u, .int ((ps.length : Nat) - 1)] ++ ys)) nq
    have s13 := (s1.trans s2).trans s3
    refine k q _ s13 (.lst (SqL.of upd_same) (DpAll.app (.cons (Dp.same s13 hv) (.cons (Dp.same s13 hu) (.cons (.int _) .nil))) (DpAll.same s3 (DpAll.same hide_same hd))))
/-! ### _law_apart(house, twin, at) -/
def bkM (p : Page) (s : Nat) : List Int := (booksM p.1.1 p.1.2 p.2.1).getD s []
/-- how many comings are apart but for rider i's -/
def apartM (m : Nat) (p q : Page) (i : Nat) : Int := ((List.range (m + 1)).map fun s => diffs ((bkM p s).take i ++ (bkM p s).drop (i + 1)) (bkM q s)).sum
def spApart (K : PySem.W.Frag) (C : Addr) : Sp := fun vs H Q _ => ∃ (h l h' l' : Addr) (ps ps' : List Page) (n n' : Int) (p p' : Page) (m i : Nat), vs = [.ref h, .ref h', .int i] ∧ HouseAt K C H h l ps n ∧ ps.getLast? = some p ∧ PgOk m p ∧ HouseAt K C H h' l' ps' n' ∧ ps'.getLast? = some p' ∧ PgOk m p' ∧ i < p.2.1.length ∧ p'.2.1.length + 1 = p.2.1.length ∧
  ∀ H', Same H H' → Q (.int (apartM m p p' i)) H'
abbrev nApart : List Str := ["_law_house", "_law_twin", "_law_at", "_law_many", "_law_station", "_law_mine", "_law_one", "_law_other"]
theorem sc_apart : FnScope nApart ["_law_house", "_law_twin", "_law_at"] (defScope s_law_apart) := ⟨rfl, rfl, rfl, by decide +kernel, rfl, by decide +kernel, by decide +kernel⟩
theorem bk_len {m : Nat} {p : Page} (ok : PgOk m p) {s : Nat} (hs : s ≤ m) : (bkM p s).length = p.2.1.length := by
  have hlf : p.1.1.length = p.1.2.length := by rw [ok.legs, ok.firsts]
  have hlt : s < (booksM p.1.1 p.1.2 p.2.1).length := by rw [len_books _ _ _ hlf, ok.legs]; omega
  unfold bkM
  rw [List.getD_eq_getElem?_getD, List.getElem?_eq_getElem hlt]
  exact books_rows _ _ _ _ (List.getElem_mem hlt)
theorem ok_apart (B : Bn mg) (T : HT K mg C) (D : Dfn K mg "_law_apart" s_law_apart ["_law_house", "_law_twin", "_law_at"]) (h1 : MCal P w K mg base C CX0 "road" 1 ["self"] (spHRoad K C)) (h4 : MCal P w K mg base C CX0 "book" 6 ["self", "station"] (spBook K C)) :
    Cal P w K mg base CX0 "_law_apart" 7 ["_law_house", "_law_twin", "_law_at"] (spApart K C) := by
  have nd := sc_apart.nd
  obtain ⟨f1, fd1, G1, m1, b1⟩ := h1
  obtain ⟨f4, fd4, G4, m4, b4⟩ := h4
  refine D.cal sc_apart (fun vs H Q E ⟨h, l, h', l', ps, ps', n, n', p, p', m, i, e, _⟩ => by rw [e]; rfl) (fun f cdv A outer s H vs Q E hr h => ?_)
  obtain ⟨h, l, h', l', ps, ps', n, n', p, p', m, i, rfl, ha, hp, ok, ha', hp', ok', hi, hlen', k⟩ := h
  obtain ⟨dx, vs, e1, e2, e3⟩ := id ha
  obtain ⟨dx', vs', e1', e2', e3'⟩ := id ha'
  have nR : (hF l n).lookup ("road" : Str) = none := hF_no l n (by decide +kernel) (by decide +kernel)
  have nB : (hF l n).lookup ("book" : Str) = none := hF_no l n (by decide +kernel) (by decide +kernel)
  have nB' : (hF l' n').lookup ("book" : Str) = none := hF_no l' n' (by decide +kernel) (by decide +kernel)
  refine ⟨_, PSs.nox (pss_cons (ps_set (i := 3) nd rfl (.inl rfl) pe_int)
      (pss_cons (ps_for PassesOwn.never rfl (pi_range1 (by rfl) B.range (pa_cons (pe_op op_add (pe_callB call_len_seq (by rfl) B.len PySem.boot_len (pa_cons (pe_ix ix_tup (pe_meth0 (pv 0) T.cl m1 G1 (hr.mono (by decide)) b1 .nil pass0) pe_int (fun _ _ => rfl)) pa_nil)) pe_int) pa_nil)) (pg_name (i := 4) nd rfl (.inl rfl)) (pss_cons (ps_set (i := 5) nd rfl (.inl rfl) (pe_meth (pv 0) T.cl m4 G4 (hr.mono (by decide)) b4 .nil pass0 (pa_cons (pv 4) pa_nil)))
      (pss_one (ps_set (i := 3) nd rfl (.inl rfl) (pe_op op_add (pv 3) (pe_callB call_len_seq (by rfl) B.len PySem.boot_len (pa_cons (pe_lc (own := [("_law_one", 6), ("_law_other", 7)]) (g := gTup K 2 (gCons (gName 6) (gCons (gName 7) gNil))) rfl nd (RZ.pi_zipA (by rfl) B.zip (pa_cons (pe_op op_cat (pe_slice sl_list (pv 5) po_none (po_some (pv 2))) (pe_slice sl_list (pv 5) (po_some (pe_op op_add (pv 2) pe_int)) po_none)) (pa_cons (pe_meth (pv 1) T.cl m4 G4 (hr.mono (by decide)) b4 .nil pass0 (pa_cons (pv 4) pa_nil)) pa_nil))) (blkOk_by (N := nApart) (sc := defScope s_law_apart) (by decide +kernel)) (fun _ _ _ _ _ => (pg_tup rfl (pgs_cons (pg_name (i := 6) nd rfl (.inl rfl)) (pgs_cons (pg_name (i := 7) nd rfl (.inl rfl)) pgs_nil)))) (fun _ _ _ _ _ => pts_one (pt_cmpR op_ne (pv 6) (pv 7) (nomark _))) (fun _ _ _ _ _ => pe_int)) pa_nil)))))))
      (pss_one (ps_ret (pv 3))))), ?_⟩
  have hfew := ok.few
  have hsl := ok.sets
  refine ⟨_, rfl, h, dx, _, rfl, e1, nR, h, l, ps, n, p, rfl, ha, hp, fun v2 hv2 => ?_⟩
  obtain ⟨ra, rb, rc, ls, rfl, r1, r2, r3, r4⟩ := Dp.roadI hv2
  have hlen : ls.length = m := by rw [DpAll.length r3, List.length_map, ok.legs]
  refine ⟨ra, _, 0, _, rfl, rfl, r1, rfl, rb, ls, rfl, .inr r2, _, _, rfl, rfl, ?_⟩
  rw [hlen]
  refine ⟨_, rfl, by omega, by omega, ?_⟩
  refine for_it (walk_range (lo := 0) (n := m + 1)) (fun j σ H' => (∃ x y, σ = [some (.ref h), some (.ref h'), some (.int i), some (.int (((List.range (m + 1)).map fun s => diffs ((bkM p s).take i ++ (bkM p s).drop (i + 1)) (bkM p' s)).take j).sum), x, y, none, none]) ∧ Same H H')
    ⟨⟨none, none, rfl⟩, Same.refl _⟩ (fun _ _ _ _ _ => trivial) (fun j x σ H1 H2 hj q y => ?_) (fun σ H1 q => ?_)
  · obtain ⟨⟨x1, y1, rfl⟩, s1⟩ := q
    obtain ⟨rfl, rfl⟩ := y
    have hj' : ((List.range (m + 1)).map fun s => diffs ((bkM p s).take i ++ (bkM p s).drop (i + 1)) (bkM p' s))[j]? = some (diffs ((bkM p j).take i ++ (bkM p j).drop (i + 1)) (bkM p' j)) := at_map (List.getElem?_range hj)
    have hsum := L2.sum_take hj'
    refine ⟨_, rfl, h, dx, _, rfl, s1 _ _ e1, nB, _, rfl, h, l, ps, n, p, m, j, (by show [V.ref h, V.int (0 + (j : Nat))] = _; rw [Int.zero_add]), ha.same s1, hp, ok, by omega, fun q H3 s3 nq hq => ?_⟩
    have lq := bk_len ok (s := j) (by omega)
    have lq' := bk_len ok' (s := j) (by omega)
    refine ⟨_, rfl, ?_⟩
    refine ⟨_, rfl, _, rfl, _, rfl, q, _, rfl, SqL.of hq, fun c1 nc1 => ?_⟩
    have s4 := Same.upd (o := .lst (cutV ((bkM p j).map V.int) none (some (i : Int)))) nc1
    refine ⟨_, rfl, _, rfl, _, _, rfl, rfl, _, rfl, q, _, rfl, SqL.of (s4 _ _ hq), fun c2 nc2 => ?_⟩
    have s5 := Same.upd (o := .lst (cutV ((bkM p j).map V.int) (some ((i : Int) + 1)) none)) nc2
    have hbk1000 : (bkM p j).length ≤ 1000 := by omega
    have hx1 : (cutV ((bkM p j).map V.int) none (some (i : Int))).length ≤ 1000 := by
      rw [RhR.cutV_take, List.length_take, List.length_map]
      omega
    have hz1 : (cutV ((bkM p j).map V.int) (some ((i : Int) + 1)) none).length ≤ 1000 := by
      rw [show ((i : Int) + 1) = ((i + 1 : Nat) : Int) from rfl, RhR.cutV_drop, List.length_drop, List.length_map]
      omega
    refine ⟨c1, c2, cutV ((bkM p j).map V.int) none (some (i : Int)), cutV ((bkM p j).map V.int) (some ((i : Int) + 1)) none, rfl, rfl, s5 _ _ upd_same, upd_same, by rw [sizeLine_eq]; omega, fun c3 nc3 => ?_⟩
    · have e3c : cutV ((bkM p j).map V.int) none (some (i : Int)) ++ cutV ((bkM p j).map V.int) (some ((i : Int) + 1)) none = ((bkM p j).take i ++ (bkM p j).drop (i + 1)).map V.int := by
        rw [show ((i : Int) + 1) = ((i + 1 : Nat) : Int) from rfl, RhR.cutV_take, RhR.cutV_drop, ← List.map_take, ← List.map_drop, ← List.map_append]
      rw [e3c]
      have s6 := Same.upd (o := .lst (((bkM p j).take i ++ (bkM p j).drop (i + 1)).map V.int)) nc3
      have s16 := ((s3.trans s4).trans s5).trans s6
      have s06 := s1.trans s16
      have lA : ((bkM p j).take i ++ (bkM p j).drop (i + 1)).length = (bkM p' j).length := by rw [List.length_append, List.length_take, List.length_drop, lq, lq']; omega
      refine ⟨_, rfl, h', dx', _, rfl, s06 _ _ e1', nB', _, rfl, h', l', ps', n', p', m, j, (by show [V.ref h', V.int (0 + (j : Nat))] = _; rw [Int.zero_add]), ha'.same s06, hp', ok', by omega, fun q2 H7 s7 nq2 hq2 => ?_⟩
      have ec3 := s7 _ _ (upd_same (H := upd (upd H3 c1 (.lst (cutV ((bkM p j).map V.int) none (some (i : Int))))) c2 (.lst (cutV ((bkM p j).map V.int) (some ((i : Int) + 1)) none))) (a := c3) (o := .lst (((bkM p j).take i ++ (bkM p j).drop (i + 1)).map V.int)))
      refine ⟨c3, q2, _, _, rfl, .inl ⟨SqL.of ec3, SqL.of hq2, fun D2 nD2 => ?_⟩⟩
      have hzl : (((bkM p j).take i ++ (bkM p j).drop (i + 1)).zip (bkM p' j)).length = (bkM p' j).length := by rw [List.length_zip, lA, Nat.min_self]
      refine lc_fm (walk_zip (n := (bkM p' j).length) (by rw [List.length_map, lA]; show _ = min _ ((bkM p' j).map V.int).length; rw [List.length_map, Nat.min_self])) (fun t => ((((bkM p j).take i ++ (bkM p j).drop (i + 1)).zip (bkM p' j))[t]?).bind fun z => if z.1 ≠ z.2 then some (V.int 1) else none) nD2 (by omega) (fun H' s' => ⟨SqL.of (s' _ _ ec3), SqL.of (s' _ _ hq2)⟩) (fun t x H8 H9 Qy Qn ht s8 y qy qn => ?_) (fun H8 s8 h8 => ?_)
      · obtain ⟨T, x, z, rfl, nT, rfl, x1', x2'⟩ := y
        obtain ⟨c, hc, rfl⟩ := map_at x1'
        obtain ⟨d, hd, rfl⟩ := map_at (l := bkM p' j) x2'
        have s9 := Same.upd (o := .tup [V.int c, V.int d]) nT
        have ez : (((bkM p j).take i ++ (bkM p j).drop (i + 1)).zip (bkM p' j))[t]? = some (c, d) := by
          rw [List.getElem?_zip_eq_some]
          exact ⟨hc, hd⟩
        refine ⟨T, _, rfl, SqT.of upd_same, rfl, _, _, rfl, _, _, rfl, rfl, rfl, ?_⟩
        refine ⟨_, rfl, _, rfl, rfl, _, rfl, ?_⟩
        by_cases hcd : c = d
        · refine ifF (by rw [eq_int hcd]; rfl) (qn _ ?_ s9)
          show (_[t]?).bind _ = none
          rw [ez, Option.bind_some, if_neg (fun z => z hcd)]
        · refine ifT (by rw [ne_int hcd]; rfl) (qy _ _ ?_ s9)
          show (_[t]?).bind _ = _
          rw [ez, Option.bind_some, if_pos hcd]
      · have hcount : ((((bkM p j).take i ++ (bkM p j).drop (i + 1)).zip (bkM p' j)).filterMap fun z => if z.1 ≠ z.2 then some (V.int 1) else none).length = ((((bkM p j).take i ++ (bkM p j).drop (i + 1)).zip (bkM p' j)).filter fun z => decide (z.1 ≠ z.2)).length := by
          induction ((bkM p j).take i ++ (bkM p j).drop (i + 1)).zip (bkM p' j) with
          | nil => rfl
          | cons a l ih =>
            by_cases h : a.1 = a.2
            · rw [List.filterMap_cons, if_neg (fun z => z h), List.filter_cons, if_neg (by simpa using h)]
              exact ih
            · rw [List.filterMap_cons, if_pos h, List.filter_cons, if_pos (by simpa using h), List.length_cons, List.length_cons]
              exact congrArg Nat.succ ih
        rw [fm_bind _ _ _ hzl.symm] at h8
        refine ⟨D2, _, rfl, .inl (SqL.of h8), _, _, rfl, rfl, ⟨some (.int (0 + (j : Nat))), some (.ref q), ?_⟩, s06.trans (s7.trans s8)⟩
        rw [hsum, hcount]
        rfl
  · obtain ⟨⟨x1, y1, rfl⟩, s1⟩ := q
    refine ⟨_, rfl, ?_⟩
    rw [List.take_of_length_le (by rw [List.length_map, List.length_range]; exact Nat.le_refl _)]
    exact k _ s1
end
end Rh
end RhL8_
section RhMath_
set_option Elab.async false
set_option linter.all false
set_option maxRecDepth 100000
/-! Plain laws: who is struck, who is moved there and back. -/
namespace Rh
theorem next_take (g : Leg) : ∀ (i : Nat) (f : Int) (cs : List Int), (nextM g f cs).take i = nextM g f (cs.take i)
  | 0, _, _ => rfl
  | _ + 1, _, [] => rfl
  | i + 1, f, c :: cs => by
    rw [List.take_succ_cons, nextM, nextM, List.take_succ_cons, next_take g i c cs]
theorem books_mtake (i : Nat) : ∀ (gs : List Leg) (fs b : List Int), (booksM gs fs b).map (List.take i) = booksM gs fs (b.take i)
  | [], fs, b => by cases fs <;> rfl
  | _ :: _, [], b => rfl
  | g :: gs, f :: fs, b => by rw [booksM, booksM, List.map_cons, books_mtake i gs fs, next_take]
theorem getD_mtake (i s : Nat) (l : List (List Int)) : (l.getD s []).take i = (l.map (List.take i)).getD s [] := by
  rw [List.getD_eq_getElem?_getD, List.getD_eq_getElem?_getD, List.getElem?_map]
  cases l[s]? <;> simp
theorem take_erase {α : Type} (l : List α) (i : Nat) : (l.eraseIdx i).take i = l.take i := by
  induction l generalizing i with
  | nil => rfl
  | cons a l ih => cases i with
    | zero => rfl
    | succ i => rw [List.eraseIdx_cons_succ, List.take_succ_cons, List.take_succ_cons, ih]
theorem diffs_sum : ∀ (n : Nat) (xs ys : List Int), xs.length = n → ys.length = n → diffs xs ys = ((List.range n).map fun t => if xs.getD t 0 ≠ ys.getD t 0 then (1 : Int) else 0).sum
  | 0, [], [], _, _ => rfl
  | n + 1, x :: xs, y :: ys, h1, h2 => by
    have ih := diffs_sum n xs ys (by simpa using h1) (by simpa using h2)
    rw [List.range_succ_eq_map, List.map_cons, List.map_map, List.sum_cons]
    have e : ((List.range n).map ((fun t => if (x :: xs).getD t 0 ≠ (y :: ys).getD t 0 then (1 : Int) else 0) ∘ Nat.succ)) = ((List.range n).map fun t => if xs.getD t 0 ≠ ys.getD t 0 then (1 : Int) else 0) := List.map_congr_left fun t _ => rfl
    rw [e, ← ih]
    unfold diffs
    rw [List.zip_cons_cons, List.filter_cons]
    by_cases h : x = y
    · rw [if_neg (by simpa using h), if_neg (by simpa using h)]
      omega
    · rw [if_pos (by simpa using h), if_pos (by simpa using h), List.length_cons]
      omega
theorem diffs_comm (xs ys : List Int) : diffs xs ys = diffs ys xs := by
  unfold diffs
  induction xs generalizing ys with
  | nil => simp
  | cons x xs ih => cases ys with
    | nil => simp
    | cons y ys =>
      rw [List.zip_cons_cons, List.zip_cons_cons, List.filter_cons, List.filter_cons]
      by_cases h : x = y
      · rw [if_neg (by simpa using h), if_neg (by simpa using h.symm)]
        exact ih ys
      · rw [if_pos (by simpa using h), if_pos (by simpa using fun z => h z.symm), List.length_cons, List.length_cons]
        have := ih ys
        omega
theorem sum_add (l : List Nat) (f g : Nat → Int) : (l.map fun t => f t + g t).sum = (l.map f).sum + (l.map g).sum := by
  induction l with
  | nil => rfl
  | cons a l ih => rw [List.map_cons, List.map_cons, List.map_cons, List.sum_cons, List.sum_cons, List.sum_cons, ih]; omega
theorem sum_zero (l : List Nat) : (l.map fun _ => (0 : Int)).sum = 0 := by
  induction l with
  | nil => rfl
  | cons a l ih => rw [List.map_cons, List.sum_cons, ih]; rfl
theorem sum_swap (F : Nat → Nat → Int) (l k : List Nat) : (l.map fun s => (k.map fun t => F s t).sum).sum = (k.map fun t => (l.map fun s => F s t).sum).sum := by
  induction l with
  | nil => exact (sum_zero k).symm
  | cons a l ih => rw [List.map_cons, List.sum_cons, ih, ← sum_add]; rfl
theorem lookup_zipL : ∀ {ks : List Int} {bs : List (List Int)} {j : Nat} {x : Int} {b : List Int}, ks.Nodup → ks[j]? = some x → bs[j]? = some b → (ks.zip bs).lookup x = some b
  | [], _, _, _, _, _, h, _ => by simp at h
  | _ :: _, [], _, _, _, _, _, h => by simp at h
  | k :: ks, b0 :: bs, 0, x, b, _, h, h' => by
    simp at h h'
    subst h; subst h'
    rw [List.zip_cons_cons, List.lookup_cons, BEq.rfl]
  | k :: ks, b0 :: bs, j + 1, x, b, nd, h, h' => by
    rw [List.getElem?_cons_succ] at h h'
    have hne : (x == k) = false := by
      rw [beq_eq_false_iff_ne]
      intro z
      subst z
      exact (List.nodup_cons.mp nd).1 (List.mem_of_getElem? h)
    rw [List.zip_cons_cons, List.lookup_cons, hne]
    exact lookup_zipL (List.nodup_cons.mp nd).2 h h'
theorem lookup_noneL : ∀ {ks : List Int} {bs : List (List Int)} {x : Int}, x ∉ ks → (ks.zip bs).lookup x = none
  | [], _, _, _ => rfl
  | _ :: _, [], _, _ => rfl
  | k :: ks, b :: bs, x, h => by
    have hne : (x == k) = false := by
      rw [beq_eq_false_iff_ne]
      exact fun z => h (by rw [z]; exact List.mem_cons_self)
    rw [List.zip_cons_cons, List.lookup_cons, hne]
    exact lookup_noneL fun z => h (List.mem_cons_of_mem _ z)
def gainL (ks : List Int) (bs : List (List Int)) (kr : Int × List Int) : Int := match (ks.zip bs).lookup kr.1 with
  | some r => diffs kr.2 r
  | none => 0
theorem gain_sum {ks : List Int} {as bs : List (List Int)} (nd : ks.Nodup) (ha : as.length = ks.length) (hb : bs.length = ks.length) : ((ks.zip as).map (gainL ks bs)).sum = ((List.range ks.length).map fun t => diffs (as.getD t []) (bs.getD t [])).sum := by
  congr 1
  refine List.ext_getElem (by rw [List.length_map, List.length_map, List.length_zip, List.length_range, ha, Nat.min_self]) fun j h1 h2 => ?_
  rw [List.length_map, List.length_range] at h2
  rw [List.getElem_map, List.getElem_map, List.getElem_zip, List.getElem_range]
  unfold gainL
  rw [lookup_zipL nd (List.getElem?_eq_getElem h2) (List.getElem?_eq_getElem (by omega))]
  show diffs as[j] bs[j] = _
  rw [List.getD_eq_getElem?_getD, List.getD_eq_getElem?_getD, List.getElem?_eq_getElem (by omega), List.getElem?_eq_getElem (by omega)]
  rfl
theorem zip_erase {α β : Type} : ∀ (ks : List α) (as : List β) (i : Nat), (ks.zip as).eraseIdx i = (ks.eraseIdx i).zip (as.eraseIdx i)
  | [], _, _ => by simp
  | k :: ks, [], i => by cases i <;> simp
  | k :: ks, a :: as, 0 => rfl
  | k :: ks, a :: as, i + 1 => by rw [List.zip_cons_cons, List.eraseIdx_cons_succ, List.eraseIdx_cons_succ, List.eraseIdx_cons_succ, List.zip_cons_cons, zip_erase ks as i]
theorem sum_erase {α : Type} (f : α → Int) : ∀ (l : List α) (i : Nat) (x : α), l[i]? = some x → (l.map f).sum = ((l.eraseIdx i).map f).sum + f x
  | [], i, x, h => by simp at h
  | a :: l, 0, x, h => by
    simp at h
    subst h
    rw [List.map_cons, List.sum_cons, List.eraseIdx_cons_zero]
    omega
  | a :: l, i + 1, x, h => by
    rw [List.getElem?_cons_succ] at h
    rw [List.map_cons, List.sum_cons, List.eraseIdx_cons_succ, List.map_cons, List.sum_cons, sum_erase f l i x h]
    omega
theorem len_comM (p : Page) : (comM p.1 p.2.1).length = p.2.1.length := by unfold comM; rw [List.length_map, List.length_range]
theorem chg_gain (p q : Page) : chg p q = ((p.2.2.zip (comM p.1 p.2.1)).map (gainL q.2.2 (comM q.1 q.2.1))).sum := by
  unfold chg
  congr 1
theorem chg_back {m : Nat} {p q : Page} (ok : PgOk m p) (ok' : PgOk m q) (e : p.2.2 = q.2.2) : chg p q = chg q p := by
  rw [chg_gain, chg_gain]
  have e1 := ok.persons
  have e2 := ok'.persons
  rw [e]
  have h1 : (comM p.1 p.2.1).length = q.2.2.length := by rw [len_comM, ← e1, e]
  have h2 : (comM q.1 q.2.1).length = q.2.2.length := by rw [len_comM, ← e2]
  rw [gain_sum ok'.nd h1 h2, gain_sum ok'.nd h2 h1]
  congr 1
  exact List.map_congr_left fun t _ => diffs_comm _ _
theorem erase_getD {l : List Int} {i t : Nat} : (l.eraseIdx i).getD t 0 = l.getD (if t < i then t else t + 1) 0 := by
  rw [List.getD_eq_getElem?_getD, List.getD_eq_getElem?_getD, List.getElem?_eraseIdx]
  split <;> rfl
theorem comM_at {p : Page} {r : Nat} (h : r < p.2.1.length) : (comM p.1 p.2.1)[r]? = some (colM (booksM p.1.1 p.1.2 p.2.1) r) := by
  unfold comM
  rw [List.getElem?_map, List.getElem?_range h]
  rfl
theorem col_at {bs : List (List Int)} {r s : Nat} (h : s < bs.length) : (colM bs r).getD s 0 = (bs.getD s []).getD r 0 := by
  unfold colM
  rw [List.getD_eq_getElem?_getD, List.getElem?_map, List.getElem?_eq_getElem h]
  rw [List.getD_eq_getElem?_getD (l := bs), List.getElem?_eq_getElem h]
  rfl
theorem books_prefix {i s : Nat} {p : Page} {n : Int} : (bkM (applyP p n (.strike (i : Int))) s).take i = (bkM p s).take i := by
  show ((booksM p.1.1 p.1.2 (p.2.1.eraseIdx (i : Int).toNat)).getD s []).take i = ((booksM p.1.1 p.1.2 p.2.1).getD s []).take i
  rw [Int.toNat_natCast, getD_mtake, getD_mtake, books_mtake, books_mtake, take_erase]
theorem strike_apart {m i : Nat} {p : Page} {n : Int} (ok : HOk m p n) (hi : i < p.2.1.length) : chg p (applyP p n (.strike (i : Int))) = apartM m p (applyP p n (.strike (i : Int))) i := by
  have okp := ok.pg
  have okq : PgOk m (applyP p n (.strike (i : Int))) := ok.next
  have lk := okp.persons
  have e1 : (applyP p n (.strike (i : Int))).2.2 = p.2.2.eraseIdx i := rfl
  have e2 : (applyP p n (.strike (i : Int))).2.1 = p.2.1.eraseIdx i := rfl
  have lE : (p.2.1.eraseIdx i).length + 1 = p.2.1.length := by rw [List.length_eraseIdx, if_pos hi]; omega
  generalize hq : applyP p n (.strike (i : Int)) = q at okq e1 e2 ⊢
  have ndk : (p.2.2.eraseIdx i).Nodup := okp.nd.sublist (List.eraseIdx_sublist ..)
  have lke : (p.2.2.eraseIdx i).length = (p.2.1.eraseIdx i).length := by rw [List.length_eraseIdx, List.length_eraseIdx, lk]
  have lA : (comM p.1 p.2.1).length = p.2.1.length := len_comM p
  have lB : (comM q.1 q.2.1).length = (p.2.1.eraseIdx i).length := by rw [len_comM, e2]
  have hlp : (booksM p.1.1 p.1.2 p.2.1).length = m + 1 := by rw [len_books _ _ _ (by rw [okp.legs, okp.firsts]), okp.legs]
  have hlq : (booksM q.1.1 q.1.2 q.2.1).length = m + 1 := by rw [len_books _ _ _ (by rw [okq.legs, okq.firsts]), okq.legs]
  have hk : p.2.2[i]? = some (p.2.2[i]'(by omega)) := List.getElem?_eq_getElem (by omega)
  have hz : (p.2.2.zip (comM p.1 p.2.1))[i]? = some (p.2.2[i]'(by omega), (comM p.1 p.2.1)[i]'(by omega)) := by
    rw [List.getElem?_zip_eq_some]
    exact ⟨hk, List.getElem?_eq_getElem (by omega)⟩
  have hnot : p.2.2[i]'(by omega) ∉ p.2.2.eraseIdx i := fun hm => by
    obtain ⟨j, hj⟩ := List.mem_iff_getElem?.mp hm
    rw [List.getElem?_eraseIdx] at hj
    split at hj
    · rename_i hji
      obtain ⟨hj1, hj2⟩ := List.getElem?_eq_some_iff.mp hj
      have := (List.getElem_inj okp.nd).mp hj2
      omega
    · rename_i hji
      obtain ⟨hj1, hj2⟩ := List.getElem?_eq_some_iff.mp hj
      have := (List.getElem_inj okp.nd).mp hj2
      omega
  have hzero : gainL q.2.2 (comM q.1 q.2.1) (p.2.2[i]'(by omega), (comM p.1 p.2.1)[i]'(by omega)) = 0 := by
    unfold gainL
    rw [lookup_noneL (by rw [e1]; exact hnot)]
  rw [chg_gain, sum_erase _ _ _ _ hz, hzero, Int.add_zero, zip_erase, e1, gain_sum ndk (by rw [List.length_eraseIdx, lA, if_pos hi, lke]; omega) (by rw [lB, lke]), lke]
  have step1 : ((List.range (p.2.1.eraseIdx i).length).map fun t => diffs (((comM p.1 p.2.1).eraseIdx i).getD t []) ((comM q.1 q.2.1).getD t [])) = ((List.range (p.2.1.eraseIdx i).length).map fun t => ((List.range (m + 1)).map fun s => if ((bkM p s).eraseIdx i).getD t 0 ≠ (bkM q s).getD t 0 then (1 : Int) else 0).sum) := by
    refine List.map_congr_left fun t ht => ?_
    have ht' := List.mem_range.mp ht
    have c1 : ((comM p.1 p.2.1).eraseIdx i).getD t [] = colM (booksM p.1.1 p.1.2 p.2.1) (if t < i then t else t + 1) := by
      rw [List.getD_eq_getElem?_getD, List.getElem?_eraseIdx]
      split
      · rw [comM_at (by omega)]; rfl
      · rw [comM_at (by omega)]; rfl
    have c2 : (comM q.1 q.2.1).getD t [] = colM (booksM q.1.1 q.1.2 q.2.1) t := by
      rw [List.getD_eq_getElem?_getD, comM_at (by rw [e2]; exact ht')]; rfl
    rw [c1, c2, diffs_sum (m + 1) _ _ (by unfold colM; rw [List.length_map, hlp]) (by unfold colM; rw [List.length_map, hlq])]
    congr 1
    refine List.map_congr_left fun s hs => ?_
    have hs' := List.mem_range.mp hs
    rw [col_at (by omega), col_at (by omega), erase_getD]
    rfl
  have step2 : apartM m p q i = ((List.range (m + 1)).map fun s => ((List.range (p.2.1.eraseIdx i).length).map fun t => if ((bkM p s).eraseIdx i).getD t 0 ≠ (bkM q s).getD t 0 then (1 : Int) else 0).sum).sum := by
    unfold apartM
    congr 1
    refine List.map_congr_left fun s hs => ?_
    have hs' := List.mem_range.mp hs
    have l1 := bk_len okp (s := s) (by omega)
    have l2 := bk_len okq (s := s) (by omega)
    rw [← List.eraseIdx_eq_take_drop_succ]
    exact diffs_sum _ _ _ (by rw [List.length_eraseIdx, List.length_eraseIdx, l1]) (by rw [l2, e2])
  rw [step1, step2]
  exact (sum_swap (fun s t => if ((bkM p s).eraseIdx i).getD t 0 ≠ (bkM q s).getD t 0 then (1 : Int) else 0) _ _).symm
end Rh
end RhMath_
section RhL9_
set_option Elab.async false
set_option linter.all false
set_option maxRecDepth 100000
set_option maxHeartbeats 4000000
/-! What a house tells, by its road and setting-outs. -/
namespace Rh
open PySem PySem.Spec PyProof.Rows L2
section
variable {P : Program} {w : World} {K : PySem.W.Frag} {mg : Str → Option Value} {base : Heap} {C : Addr}
theorem wts_ints : ∀ ns : List Int, weightOks (ns.map PyData.int) = true
  | [] => rfl
  | n :: ns => by simp [weightOks, weightOk, wts_ints ns]
theorem wts_rows : ∀ bs : List (List Int), (∀ b ∈ bs, b.length ≤ 100000) → weightOks (bs.map rowD) = true
  | [], _ => rfl
  | b :: bs, h => by
    have h1 := h b List.mem_cons_self
    simp [weightOks, weightOk, rowD, wts_ints, wts_rows bs fun x hx => h x (List.mem_cons_of_mem _ hx), h1]
theorem wt_rows {bs : List (List Int)} (h0 : bs.length ≤ 100000) (h : ∀ b ∈ bs, b.length ≤ 100000) : weightOk (rowsD bs) = true := by
  simp [rowsD, weightOk, wts_rows bs h, h0]
theorem wts_tri : ∀ bs : List (Int × Int × Int), weightOks (bs.map RhR.triD) = true
  | [] => rfl
  | b :: bs => by simp [weightOks, weightOk, RhR.triD, wts_tri bs]
theorem lay_tri : ∀ bs : List (Int × Int × Int), PyData.canLayAll0 (bs.map RhR.triD) = true
  | [] => rfl
  | b :: bs => by simp [PyData.canLayAll0, PyData.canLay0, RhR.triD, lay_tri bs]
theorem dep_tri : ∀ bs : List (Int × Int × Int), PyData.depthAll (bs.map RhR.triD) ≤ 1
  | [] => by simp [PyData.depthAll]
  | b :: bs => by
    have := dep_tri bs
    simp only [List.map_cons, PyData.depthAll, PyData.depth, RhR.triD]
    omega
theorem shaped_tris (bs : List (Int × Int × Int)) : SeqAt.shaped (.list (bs.map RhR.triD)) = true := by
  unfold SeqAt.shaped
  rw [Bool.and_eq_true]
  refine ⟨by simp [PyData.canLay0, lay_tri], decide_eq_true ?_⟩
  have := dep_tri bs
  simp only [PyData.depth]
  omega
theorem shaped_rows (bs : List (List Int)) : SeqAt.shaped (rowsD bs) = true := by
  unfold SeqAt.shaped
  rw [Bool.and_eq_true]
  refine ⟨by simp [rowsD, PyData.canLay0, lay_rows], decide_eq_true ?_⟩
  have := dep_rows bs
  simp only [rowsD, PyData.depth]
  omega
theorem shaped_row (b : List Int) : SeqAt.shaped (rowD b) = true := by
  unfold SeqAt.shaped
  rw [Bool.and_eq_true]
  refine ⟨by simp [rowD, PyData.canLay0, lay_ints], decide_eq_true ?_⟩
  simp only [rowD, PyData.depth, dep_ints]
  omega
def spSeen (K : PySem.W.Frag) (C : Addr) : Sp := fun vs H Q _ => ∃ (t h l : Addr) (ps : List Page) (n : Int) (p : Page) (m : Nat) (N : Int), vs = [.ref t, .ref h] ∧ TapeAt H t N ∧ N ≤ 800000 ∧ t ≠ l ∧ HouseAt K C H h l ps n ∧ ps.getLast? = some p ∧ PgOk m p ∧ 1 ≤ m ∧ p.2.1.length ≤ 900 ∧ (∀ g ∈ p.1.1, LegOk g) ∧
  ∀ H', Fr [t] H H' → TapeAt H' t (N + 10) → Q (.bl true) H'
theorem chain_head (rd : Road) (sets : List Int) (s r : Nat) (hl : rd.1.length = rd.2.length) : ∃ a b c rest, chainM rd sets (booksM rd.1 rd.2 sets) s (some r) = .tuple [a, b, c, .int (((booksM rd.1 rd.2 sets).getD s []).getD r 0)] :: rest := by
  cases s with
  | zero =>
    have e : (booksM rd.1 rd.2 sets).getD 0 [] = sets := by
      obtain ⟨gs, fs⟩ := rd
      cases gs with
      | nil => cases fs <;> rfl
      | cons g gs => cases fs with
        | nil => simp at hl
        | cons f fs => rfl
    rw [e]
    exact ⟨_, _, _, _, rfl⟩
  | succ s => exact ⟨_, _, _, _, rfl⟩
abbrev nSeen : List Str := ["_law_tape_here", "_law_house", "_law_road_here", "_law_sets", "_law_books_here", "_law_at", "_law_book", "_law_last", "_law_due", "_law_station", "_law_found", "_law_word", "_law_who", "_law_beat"]
theorem sc_seen : FnScope nSeen ["_law_tape_here", "_law_house"] (defScope s_law_seen_right) := ⟨rfl, rfl, rfl, by decide +kernel, rfl, by decide +kernel, by decide +kernel⟩
theorem ok_seen (B : Bn mg) (T : HT K mg C) (D : Dfn K mg "_law_seen_right" s_law_seen_right ["_law_tape_here", "_law_house"]) (h1 : MCal P w K mg base C CX0 "road" 1 ["self"] (spHRoad K C)) (h2 : MCal P w K mg base C CX0 "sets" 1 ["self"] (spHSets K C))
    (h3 : MCal P w K mg base C CX0 "book" 6 ["self", "station"] (spBook K C)) (h4 : Cal P w K mg base CX0 "_law_books" 1 ["_law_road_here", "_law_sets"] (spLBooks K)) (h5 : Cal P w K mg base CX0 "_law_same" 9 ["_law_found", "_law_due"] (spSame K 8))
    (h6 : Cal P w K mg base CX0 "comings" 6 ["road", "sets"] (spComings K)) (h7 : Cal P w K mg base CX0 "_law_draw" 1 ["_law_tape_here", "_law_many"] spDraw) (h8 : Cal P w K mg base CX0 "events" 6 ["road", "sets", "beat"] (spEvents K))
    (h9 : Cal P w K mg base CX0 "chain" 6 ["road", "sets", "rider", "station"] (spChain K)) (h10 : Cal P w K mg base CX0 "shows_chain" 6 ["road", "sets", "rider", "station", "thing"] (spShows K)) (h11 : MCal P w K mg base C CX0 "coming" 7 ["self", "rider", "station"] (spComing K C))
    (h12 : Cal P w K mg base CX0 "root" 7 ["road", "sets", "rider", "station"] (spRoot K)) : Cal P w K mg base CX0 "_law_seen_right" 10 ["_law_tape_here", "_law_house"] (spSeen K C) := by
  have nd := sc_seen.nd
  obtain ⟨f1, fd1, G1, m1, b1⟩ := h1
  obtain ⟨f2, fd2, G2, m2, b2⟩ := h2
  obtain ⟨f3, fd3, G3, m3, b3⟩ := h3
  obtain ⟨f4, fd4, G4, g4, k4, b4⟩ := h4
  obtain ⟨f5, fd5, G5, g5, k5, b5⟩ := h5
  obtain ⟨f6, fd6, G6, g6, k6, b6⟩ := h6
  obtain ⟨f7, fd7, G7, g7, k7, b7⟩ := h7
  obtain ⟨f8, fd8, G8, g8, k8, b8⟩ := h8
  obtain ⟨f9, fd9, G9, g9, k9, b9⟩ := h9
  obtain ⟨f10, fd10, G10, g10, k10, b10⟩ := h10
  obtain ⟨f11, fd11, G11, m11, b11⟩ := h11
  obtain ⟨f12, fd12, G12, g12, k12, b12⟩ := h12
  refine D.cal sc_seen (fun vs H Q E ⟨t, h, l, ps, n, p, m, N, e, _⟩ => by rw [e]; rfl) (fun f cdv A outer s H vs Q E hr h => ?_)
  obtain ⟨t, h, l, ps, n, p, m, N, rfl, ht, hN, htl, ha, hp, ok, hm1, hsl, hok, k⟩ := h
  obtain ⟨dx, vs, e1, e2, e3⟩ := id ha
  refine ⟨_, PSs.nox (pss_cons (ps_par (i := 2) (j := 3) rfl nd rfl rfl (by decide) rfl rfl (pa_cons (pe_meth0 (pv 1) T.cl m1 G1 (hr.mono (by decide)) b1 .nil pass0) (pa_cons (pe_meth0 (pv 1) T.cl m2 G2 (hr.mono (by decide)) b2 .nil pass0) pa_nil)) (by rfl))
      (pss_cons (ps_if (pt_cmpR (op_eqD hr.units) (pv 3) (pe_tup pa_nil) (nomark _)) (pss_one (ps_ret (pe_cmpR (op_eqD hr.units) (pe_meth (pv 1) T.cl m3 G3 (hr.mono (by decide)) b3 .nil pass0 (pa_cons pe_int pa_nil)) (pe_lst pa_nil) (nomark _)))) pss_nil)
      (pss_cons (ps_set (i := 4) nd rfl (.inr rfl) (pe_call G4 (hr.mono (by decide)) (by rfl) g4 k4 b4 .nil pass0 (pa_cons (pv 2) (pa_cons (pv 3) pa_nil))))
      (pss_cons (ps_if (pt_not (pt_val (pe_call G5 (hr.mono (by decide)) (by rfl) g5 k5 b5 .nil pass0 (pa_cons (pe_call G6 (hr.mono (by decide)) (by rfl) g6 k6 b6 .nil pass0 (pa_cons (pv 2) (pa_cons (pv 3) pa_nil))) (pa_cons (pe_lc (own := [("_law_at", 5)]) (g := gName 5) (te := tLc (iList K (tVar 4)) (gName 6) tYes (tOp (rIxL K) (tVar 6) (tVar 5)) [6]) rfl nd (pi_range1 (by rfl) B.range (pa_cons (pe_callB call_len_seq (by rfl) B.len PySem.boot_len (pa_cons (pv 3) pa_nil)) pa_nil)) (blkOk_by (N := nSeen) (sc := defScope s_law_seen_right) (by decide +kernel)) (fun _ _ _ _ _ => (pg_name (i := 5) nd rfl (.inr rfl))) (fun _ _ _ _ _ => pts_nil)
      (fun _ _ _ _ _ => pe_lc (own := [("_law_book", 6)]) (g := gName 6) (te := tOp (rIxL K) (tVar 6) (tVar 5)) rfl nd (pi_list (pv 4)) (blkOk_by (N := nSeen) (sc := mkSc [(".0", .local), ("_law_at", .cell), ("_law_books_here", .cell)]) (by decide +kernel)) (fun _ _ _ _ _ => (pg_name (i := 6) nd rfl (.inl rfl))) (fun _ _ _ _ _ => pts_nil) (fun _ _ _ _ _ => (pe_ix ix_list (pv 6) (pv 5) (fun _ _ => rfl))))) pa_nil))))) (pss_one (ps_ret pe_bl)) pss_nil)
      (pss_cons (ps_set (i := 7) nd rfl (.inr rfl) (pe_ix ix_list (pe_ix ix_list (pv 4) (pe_un un_neg pe_int) (fun _ _ => rfl)) (pe_call G7 (hr.mono (by decide)) (by rfl) g7 k7 b7 .nil pass0 (pa_cons (pv 0) (pa_cons (pe_callB call_len_seq (by rfl) B.len PySem.boot_len (pa_cons (pv 3) pa_nil)) pa_nil))) (fun _ _ => rfl)))
      (pss_cons (ps_set (i := 8) nd rfl (.inl rfl) (pe_lst pa_nil))
      (pss_cons (ps_for PassesOwn.never rfl (pi_enum (by rfl) B.enum (pa_cons (pv 4) pa_nil)) (pg_tup rfl (pgs_cons (pg_name (i := 9) nd rfl (.inr rfl)) (pgs_cons (pg_name (i := 6) nd rfl (.inl rfl)) pgs_nil))) (pss_one (ps_set (i := 8) nd rfl (.inl rfl) (pe_op op_cat (pv 8) (pe_lc (own := [("_law_at", 5), ("_law_beat", 13)]) (g := gTup K 2 (gCons (gName 5) (gCons (gName 13) gNil))) rfl nd (pi_enum (by rfl) B.enum (pa_cons (pv 6) pa_nil)) (blkOk_by (N := nSeen) (sc := defScope s_law_seen_right) (by decide +kernel)) (fun _ _ _ _ _ => (pg_tup rfl (pgs_cons (pg_name (i := 5) nd rfl (.inl rfl)) (pgs_cons (pg_name (i := 13) nd rfl (.inl rfl)) pgs_nil)))) (fun _ _ _ _ _ => pts_one (pt_cmpR op_le (pv 13) (pv 7) (nomark _))) (fun _ _ _ _ _ => (pe_tup (pa_cons (pv 13) (pa_cons (pv 9) (pa_cons (pv 5) pa_nil))))))))))
      (pss_cons (ps_if (pt_not (pt_val (pe_call G5 (hr.mono (by decide)) (by rfl) g5 k5 b5 .nil pass0 (pa_cons (pe_call G8 (hr.mono (by decide)) (by rfl) g8 k8 b8 .nil pass0 (pa_cons (pv 2) (pa_cons (pv 3) (pa_cons (pv 7) pa_nil)))) (pa_cons (pe_callB (RhR.cr_sortedD hr.units) (by rfl) B.sorted (by decide +kernel) (pa_cons (pv 8) pa_nil)) pa_nil))))) (pss_one (ps_ret pe_bl)) pss_nil)
      (pss_cons (ps_asg (pe_tup (pa_cons (pe_call G7 (hr.mono (by decide)) (by rfl) g7 k7 b7 .nil pass0 (pa_cons (pv 0) (pa_cons (pe_callB call_len_seq (by rfl) B.len PySem.boot_len (pa_cons (pv 3) pa_nil)) pa_nil))) (pa_cons (pe_call G7 (hr.mono (by decide)) (by rfl) g7 k7 b7 .nil pass0 (pa_cons (pv 0) (pa_cons (pe_callB call_len_seq (by rfl) B.len PySem.boot_len (pa_cons (pv 4) pa_nil)) pa_nil))) pa_nil))) (pg_tup rfl (pgs_cons (pg_name (i := 5) nd rfl (.inl rfl)) (pgs_cons (pg_name (i := 9) nd rfl (.inr rfl)) pgs_nil))))
      (pss_cons (ps_set (i := 10) nd rfl (.inl rfl) (pe_call G9 (hr.mono (by decide)) (by rfl) g9 k9 b9 .nil pass0 (pa_cons (pv 2) (pa_cons (pv 3) (pa_cons (pv 5) (pa_cons (pv 9) pa_nil))))))
      (pss_cons (ps_if (PW.pt (pw_or (pt_not (pt_val (pe_call G10 (hr.mono (by decide)) (by rfl) g10 k10 b10 .nil pass0 (pa_cons (pv 2) (pa_cons (pv 3) (pa_cons (pv 5) (pa_cons (pv 9) (pa_cons (pv 10) pa_nil)))))))) (pw_or1 (pt_cmpR op_ne (pe_ix ix_tup (pe_ix ix_list (pv 10) pe_int (fun _ _ => rfl)) pe_int (fun _ _ => rfl)) (pe_meth (pv 1) T.cl m11 G11 (hr.mono (by decide)) b11 .nil pass0 (pa_cons (pv 5) (pa_cons (pv 9) pa_nil))) (nomark _))))) (pss_one (ps_ret pe_bl)) pss_nil)
      (pss_cons (ps_asg (pe_call G12 (hr.mono (by decide)) (by rfl) g12 k12 b12 .nil pass0 (pa_cons (pv 2) (pa_cons (pv 3) (pa_cons (pv 5) (pa_cons (pv 9) pa_nil))))) (pg_tup rfl (pgs_cons (pg_name (i := 11) nd rfl (.inl rfl)) (pgs_cons (pg_name (i := 12) nd rfl (.inl rfl)) pgs_nil))))
      (pss_one (ps_ret (pe_and (pe_cmpR op_eq (pv 11) (pe_ix ix_tup (pe_ix ix_list (pv 10) (pe_un un_neg pe_int) (fun _ _ => rfl)) pe_int (fun _ _ => rfl)) (nomark _)) (pe_one (pe_cmpR op_eq (pv 12) (pe_ifExp (pt_cmpR op_eq (pv 11) pe_str (nomark _)) (pe_ix ix_tup (pe_ix ix_list (pv 10) (pe_un un_neg pe_int) (fun _ _ => rfl)) pe_int (fun _ _ => rfl)) (pe_ix ix_tup (pe_ix ix_list (pv 10) (pe_un un_neg pe_int) (fun _ _ => rfl)) pe_int (fun _ _ => rfl))) (nomark _)))))))))))))))))), ?_⟩
  have nR : (hF l n).lookup ("road" : Str) = none := hF_no l n (by decide +kernel) (by decide +kernel)
  have nS : (hF l n).lookup ("sets" : Str) = none := hF_no l n (by decide +kernel) (by decide +kernel)
  have nB : (hF l n).lookup ("book" : Str) = none := hF_no l n (by decide +kernel) (by decide +kernel)
  have nC : (hF l n).lookup ("coming" : Str) = none := hF_no l n (by decide +kernel) (by decide +kernel)
  have hlf : p.1.1.length = p.1.2.length := by rw [ok.legs, ok.firsts]
  have hfew := ok.few
  have hml : p.1.1.length = m := ok.legs
  have hbl : (booksM p.1.1 p.1.2 p.2.1).length = m + 1 := by rw [len_books _ _ _ hlf, hml]
  have hrows : ∀ b ∈ booksM p.1.1 p.1.2 p.2.1, b.length = p.2.1.length := books_rows _ _ _
  refine ⟨_, rfl, h, dx, _, rfl, e1, nR, h, l, ps, n, p, rfl, ha, hp, fun v hv => ?_⟩
  refine ⟨_, rfl, h, dx, _, rfl, e1, nS, h, l, ps, n, p, rfl, ha, hp, fun u hu => ⟨_, _, rfl, ?_⟩⟩
  obtain ⟨sa, rfl, hsa⟩ := Dp.setsI hu
  -- no riders
  refine ⟨_, rfl, Nat.zero_le _, fun et net => ?_⟩
  have s1 := Same.upd (o := .tup []) net
  refine ⟨setsD p.2.1, .tuple [], Dp.same s1 hu, .tup (SqT.of upd_same) .nil, shaped_sets _, by decide +kernel, _, rfl, ?_⟩
  rw [eqv_nil]
  by_cases hnil : p.2.1 = []
  · refine ifT (decide_eq_true hnil) ?_
    refine ⟨_, rfl, h, dx, _, rfl, s1 _ _ e1, nB, h, l, ps, n, p, m, 0, rfl, ha.same s1, hp, ok, Nat.zero_le _, fun q H2 s2 nq hq => ?_⟩
    have e0 : (booksM p.1.1 p.1.2 p.2.1).getD 0 [] = [] := by
      have hz : ((booksM p.1.1 p.1.2 p.2.1).getD 0 []).length = p.2.1.length := hrows _ (List.mem_of_getElem? (getD_some (l := booksM p.1.1 p.1.2 p.2.1) (i := 0) (d := []) (by omega)))
      exact List.length_eq_zero_iff.mp (by rw [hz, hnil]; rfl)
    rw [e0] at hq
    refine ⟨Nat.zero_le _, fun z nz => ?_⟩
    have s3 := Same.upd (o := .lst []) nz
    refine ⟨.list [], .list [], .lst (SqL.of (s3 _ _ hq)) .nil, .lst (SqL.of upd_same) .nil, by decide +kernel, by decide +kernel, ?_⟩
    exact k _ (Fr.of ((s1.trans s2).trans s3)) ((ht.same ((s1.trans s2).trans s3)).mono (by omega))
  have hpos : 0 < p.2.1.length := List.length_pos_iff.mpr hnil
  refine ifF (decide_eq_false hnil) ?_
  -- the books
  have hv1 := Dp.same s1 hv
  have hu1 := Dp.same s1 hu
  have ht1 := ht.same s1
  generalize hHx : upd H et (.tup []) = Hx at s1 hv1 hu1 ht1 ⊢
  refine ⟨_, rfl, _, rfl, v, .ref sa, p.1, p.2.1, rfl, hv1, hu1, hlf, by omega, by omega, hok, fun bp H2 s2 hb => ?_⟩
  have s02 := s1.trans s2
  have hv2 := Dp.same s02 hv
  have hu2 := Dp.same s02 hu
  have hsa2 := Same.tup s02 hsa
  -- comings
  refine ⟨_, rfl, _, rfl, v, .ref sa, p.1, p.2.1, rfl, hv2, hu2, hlf, by omega, by omega, fun cp H3 s3 hc => ?_⟩
  have hb3 := hb.same s3
  obtain ⟨bvs, eb3, nbp, rwb⟩ := id hb3
  have hbvl : bvs.length = m + 1 := by rw [rwb.1, hbl]
  refine ⟨_, rfl, sa, _, rfl, .inr (Same.tup s3 hsa2), ?_⟩
  rw [List.length_map]
  refine ⟨_, rfl, by omega, by omega, ?_⟩
  intro D0 nD0
  refine lc_rel (n := p.2.1.length) (walk_range (lo := 0) (n := p.2.1.length)) (fun i y H' => ∃ q, y = .ref q ∧ True ∧ IL H' q (colM (booksM p.1.1 p.1.2 p.2.1) i)) (fun i y H' H'' s' ⟨q, x1, x2, x3⟩ => ⟨q, x1, x2, s' _ _ x3⟩) nD0 (by omega) (fun _ _ => trivial) (fun i x H4 H5 Qy Qn acc hi s4 eD y qy => ?_) (fun H4 ys s4 h4 hlen hR => ?_)
  · obtain ⟨rfl, rfl⟩ := y
    refine ⟨rfl, ?_⟩
    refine ⟨_, rfl, bp, rfl, ⟨bvs, SqL.of (s4 _ _ eb3)⟩, fun D2 nD2 => ?_⟩
    have hDD : D2 ≠ D0 := fun z => by rw [z, eD] at nD2; cases nD2
    refine lc_fm (walk_list (xs := bvs)) (fun j => ((colM (booksM p.1.1 p.1.2 p.2.1) i).map V.int)[j]?) nD2 (by omega) (fun H' s' => SqL.of (s' _ _ (s4 _ _ eb3))) (fun j x H6 H7 Qy2 Qn2 hj s6 y qy2 qn2 => ?_) (fun H6 s6 h6 => ?_)
    · obtain ⟨rfl, ex⟩ := y
      obtain ⟨q, bk, rfl, hbk, nq, hq⟩ := rwb.at ex
      have hlen : bk.length = p.2.1.length := hrows _ (List.mem_of_getElem? hbk)
      refine ⟨rfl, _, rfl, _, rfl, q, _, _, .int (bk.getD i 0), rfl, rfl, SqL.of (s6 _ _ (s4 _ _ hq)), ?_, ?_⟩
      · rw [Int.zero_add]
        refine atI_nat ?_
        rw [List.getElem?_map, List.getElem?_eq_getElem (by omega), List.getD_eq_getElem?_getD, List.getElem?_eq_getElem (by omega)]
        rfl
      · refine qy2 _ _ ?_ (Same.refl _)
        rw [List.getElem?_map]
        show Option.map _ ((List.map _ _)[j]?) = _
        rw [List.getElem?_map, hbk]
        rfl
    · refine qy _ _ ⟨D2, rfl, trivial, ?_⟩ s6
      show hide D0 H6 D2 = _
      rw [hide_ne hDD, h6, fm_get (by rw [List.length_map]; show _ = (List.map _ _).length; rw [List.length_map, rwb.1])]
  -- alike
  have hcm : ∀ b ∈ comM p.1 p.2.1, b.length ≤ 100000 := fun b hb => by
    obtain ⟨i, _, rfl⟩ := List.mem_map.mp hb
    unfold colM
    rw [List.length_map, hbl]
    omega
  have hcml : (comM p.1 p.2.1).length ≤ 100000 := by unfold comM; rw [List.length_map, List.length_range]; omega
  have hdue : Rows (fun _ => True) H4 D0 (comM p.1 p.2.1) := rows_of (N := fun _ => True) h4 trivial hlen (fun i y e => by obtain ⟨q, x1, _, x3⟩ := hR i y e; exact ⟨q, x1, trivial, x3⟩)
  refine ⟨.ref cp, .ref D0, rowsD (comM p.1 p.2.1), rfl, (hc.same s4).dp, hdue.dp, shaped_rows _, ?_, wt_rows hcml hcm, fun H5 s5 => ⟨_, rfl, ?_⟩⟩
  · have := dep_rows (comM p.1 p.2.1)
    simp only [rowsD, PyData.depth]
    omega
  refine iteF ?_
  have s25 := (s3.trans s4).trans s5
  have s05 := s02.trans s25
  have hb5 := hb.same s25
  have ht5 := ht.same s05
  have hsa5 := Same.tup s05 hsa
  have hv5 := Dp.same s05 hv
  have hu5 := Dp.same s05 hu
  have ha5 := ha.same s05
  have hN5 : ∀ q, Hx q = none → q ∉ [t] := fun q hq hm => by
    rw [List.mem_singleton.mp hm] at hq
    obtain ⟨x0, x1, x2, e, _⟩ := ht1
    rw [e] at hq
    cases hq
  clear s25 hR h4 hlen hdue hc hb3 eb3 nbp rwb
  -- the last beat
  obtain ⟨bvs, eb, nbp, rwb⟩ := id hb5
  obtain ⟨lst, hlst⟩ : ∃ lst, (booksM p.1.1 p.1.2 p.2.1).getLast? = some lst := ⟨_, List.getLast?_eq_some_getLast (fun z => by rw [z] at hbl; simp at hbl)⟩
  have hlstl : lst.length = p.2.1.length := hrows _ (List.mem_of_getLast? hlst)
  obtain ⟨lq, hlq, nlq, ilq⟩ := rwb.last hlst
  refine ⟨_, rfl, _, rfl, bp, bvs, _, _, rfl, rfl, SqL.of eb, atI_m1 hlq, ?_⟩
  refine ⟨_, rfl, _, rfl, sa, _, rfl, .inr hsa5, ?_⟩
  rw [List.length_map]
  refine ⟨t, _, N, rfl, ht5, by omega, by omega, by omega, fun r1 H6 c0 c1 fr6 ht6 => ?_⟩
  obtain ⟨beat, hbeat, _⟩ := atI_ints (ns := lst) c0 (by rw [hlstl]; exact c1)
  have hlqt : lq ∉ [t] := hN5 _ nlq.1
  refine ⟨lq, _, _, .int beat, rfl, rfl, SqL.of (fr6.keep _ _ ilq hlqt), hbeat, ?_⟩
  have hb6 := hb5.fr fr6 hN5
  have fr06 : Fr [t] H H6 := (Fr.of s05).trans fr6
  -- what's due
  refine ⟨Nat.zero_le _, fun DU nDU => ?_⟩
  have s7 := Same.upd (o := .lst []) nDU
  have eDU : upd H6 DU (.lst []) DU = some (.lst []) := upd_same
  have hb7 := hb6.same s7
  generalize (upd H6 DU (.lst [])) = H7 at s7 eDU hb7 ⊢
  obtain ⟨bvs, eb, nbp, rwb⟩ := id hb7
  have hbvl : bvs.length = m + 1 := by rw [rwb.1, hbl]
  have hmul : ∀ i, i ≤ m + 1 → (evM (booksM p.1.1 p.1.2 p.2.1) beat i).length ≤ 90900 := fun i hi => by
    have h1 := len_evM (booksM p.1.1 p.1.2 p.2.1) beat p.2.1.length (fun x hx => Nat.le_of_eq (hrows x hx)) i
    have h2 : i * p.2.1.length ≤ 101 * 900 := Nat.mul_le_mul (by omega) hsl
    omega
  refine ⟨_, rfl, bp, bvs, rfl, SqL.of eb, ?_⟩
  refine for_it walk_enum (fun i σ H' => ∃ x y z ws, σ = [some (.ref t), some (.ref h), some v, some (.ref sa), some (.ref bp), none, x, some (.int beat), some (.ref y), z, none, none, none, none] ∧ Same H7 H' ∧ H' y = some (.lst ws) ∧ DpAll K H' ws ((evM (booksM p.1.1 p.1.2 p.2.1) beat i).map RhR.triD))
    ⟨none, DU, none, [], rfl, Same.refl _, eDU, .nil⟩ (fun i σ H' _ ⟨_, _, _, _, _, s', _⟩ => SqL.of (s' _ _ eb)) (fun i x σ H8 H9 hi q y => ?_) (fun σ H8 q => ?_)
  · obtain ⟨x0, y0, z0, ws, rfl, s8, ew, dw⟩ := q
    obtain ⟨Tt, x, z, rfl, nT, rfl, ex1, ex2⟩ := y
    have ex : x = .int (i : Nat) := (Option.some.inj ex1).symm
    subst ex
    obtain ⟨q, row, rfl, hr1, nq, hq⟩ := rwb.at ex2
    have hrl : row.length = p.2.1.length := hrows _ (List.mem_of_getElem? hr1)
    have s9 : Same H8 (upd H8 Tt (.tup [V.int (i : Nat), V.ref q])) := Same.upd nT
    have hq9 := s9 _ _ (s8 _ _ hq)
    refine ⟨Tt, _, rfl, SqT.of upd_same, rfl, _, _, rfl, _, _, rfl, rfl, ?_⟩
    refine ⟨_, rfl, _, rfl, q, _, rfl, SqL.of hq9, fun D1 nD1 => ?_⟩
    refine lc_dp (K := K) walk_enum (fun (r : Nat) => ((row[r]?).bind fun c => if c ≤ beat then some (c, Int.ofNat i, Int.ofNat r) else none).map RhR.triD) nD1 (by rw [List.length_map]; omega) (fun H' s' => SqL.of (s' _ _ hq9)) (fun mm x H5' H6' Qy Qn acc hm s5' eD y qy qn => ?_) (fun H5' ys s5' h5 hdp => ?_)
    · obtain ⟨T2, x, z, rfl, nT2, rfl, x1, x2⟩ := y
      have ex : x = .int (mm : Nat) := (Option.some.inj x1).symm
      subst ex
      obtain ⟨c, hc, rfl⟩ := map_at x2
      have s6' := Same.upd (o := .tup [V.int (mm : Nat), V.int c]) nT2
      refine ⟨T2, _, rfl, SqT.of upd_same, rfl, _, _, rfl, _, _, rfl, rfl, rfl, ?_⟩
      refine ⟨_, rfl, _, rfl, _, _, rfl, rfl, _, rfl, ?_⟩
      by_cases hcb : c ≤ beat
      · refine ifT (decide_eq_true hcb) ?_
        refine ⟨_, rfl, _, rfl, _, rfl, (by show 3 ≤ sizeLine; decide), fun tt nt => ?_⟩
        refine qy _ _ (RhR.triD (c, Int.ofNat i, Int.ofNat mm)) ?_ (.tup (SqT.of ?_) (.cons (.int c) (.cons (.int _) (.cons (.int _) .nil)))) (s6'.trans (Same.upd nt))
        · show Option.map _ ((row[mm]?).bind _) = _
          rw [hc, Option.bind_some, if_pos hcb]
          rfl
        · have htD : tt ≠ D1 := fun z => by
            rw [z] at nt
            have := s6' _ _ eD
            rw [this] at nt
            cases nt
          rw [hide_ne htD, upd_same]
          rfl
      · refine ifF (decide_eq_false hcb) (qn _ ?_ s6')
        show Option.map _ ((row[mm]?).bind _) = _
        rw [hc, Option.bind_some, if_neg hcb]
        rfl
    · have s95 := s9.trans s5'
      have ew5 := s95 _ _ ew
      have hdp' := DpAll.same hide_same hdp
      have e3' : (List.range (row.map V.int).length).filterMap (fun (r : Nat) => ((row[r]?).bind fun c => if c ≤ beat then some (c, Int.ofNat i, Int.ofNat r) else none).map RhR.triD) = (evB row i beat).map RhR.triD := by
        unfold evB
        rw [fm_map, List.length_map]
      rw [e3'] at hdp'
      have l1 : ws.length ≤ 90900 := by rw [DpAll.length dw, List.length_map]; exact hmul i (by rw [hbvl] at hi; omega)
      have l2 : ys.length ≤ 900 := by
        rw [DpAll.length hdp', List.length_map]
        have := len_evB row i beat
        omega
      refine ⟨y0, D1, ws, ys, rfl, rfl, ew5, h5, by rw [sizeLine_eq]; omega, fun nw nnw => ?_⟩
      have s10 := Same.upd (o := .lst (ws ++ ys)) nnw
      refine ⟨some (.ref q), nw, some (.int (i : Nat)), ws ++ ys, rfl, (s8.trans s95).trans s10, upd_same, ?_⟩
      have eg : (booksM p.1.1 p.1.2 p.2.1).getD i [] = row := by rw [List.getD_eq_getElem?_getD, hr1]; rfl
      rw [evM_succ, eg, List.map_append]
      exact DpAll.same s10 (DpAll.app (DpAll.same s95 dw) hdp')
  obtain ⟨x0, DU2, z0, ws, rfl, s8, ew, dw⟩ := q
  rw [hbvl] at dw
  have fr08 : Fr [t] H H8 := fr06.trans (Fr.of (s7.trans s8))
  have hv8 := Dp.fr fr08 (noL_road _) hv
  have hu8 := Dp.fr fr08 (noL_sets _) hu
  have ht8 := ht6.same (s7.trans s8)
  have hb8 := hb7.same s8
  have eevs : evS p.1 p.2.1 beat = evM (booksM p.1.1 p.1.2 p.2.1) beat (m + 1) := by unfold evS; rw [hml]
  refine ⟨_, rfl, _, rfl, _, rfl, v, .ref sa, p.1, p.2.1, beat, rfl, hv8, hu8, hlf, by omega, hsl, fun ep H9 s9 nep hep => ?_⟩
  refine ⟨_, rfl, DU2, ws, _, rfl, SqL.of (s9 _ _ ew), DpAll.same s9 dw, by have := hmul _ (Nat.le_refl _); omega, fun sp ys nsp hys => ?_⟩
  have s10 := Same.upd (o := .lst ys) nsp
  refine ⟨.ref ep, .ref sp, .list ((sortE (evS p.1 p.2.1 beat)).map RhR.triD), rfl, Dp.same s10 hep, ?_, shaped_tris _, ?_, ?_, fun H11 s11 => ⟨_, rfl, ?_⟩⟩
  · rw [eevs]
    exact .lst (SqL.of upd_same) (DpAll.same s10 hys)
  · have := dep_tri (sortE (evS p.1 p.2.1 beat))
    simp only [PyData.depth]
    omega
  · have hsl' : (sortE (evS p.1 p.2.1 beat)).length ≤ 100000 := by
      unfold sortE
      rw [List.length_mergeSort, eevs]
      have := hmul _ (Nat.le_refl _)
      omega
    simp [weightOk, wts_tri, hsl']
  refine iteF ?_
  have s811 := (s9.trans s10).trans s11
  have ht11 := ht8.same s811
  have fr11 := fr08.trans (Fr.of s811)
  have hb11 := hb8.same s811
  obtain ⟨bvs, eb, nbp, rwb⟩ := id hb11
  have hbvl : bvs.length = m + 1 := by rw [rwb.1, hbl]
  -- a rider, a station
  refine ⟨_, rfl, _, rfl, sa, _, rfl, .inr (fr11.tup hsa), ?_⟩
  rw [List.length_map]
  refine ⟨t, _, N + 1, rfl, ht11, by omega, by omega, by omega, fun R H12 a0 a1 fr12 ht12 => ?_⟩
  refine ⟨_, rfl, _, rfl, bp, bvs, rfl, .inl (SqL.of (fr12.keep _ _ eb (hN5 _ nbp))), ?_⟩
  rw [hbvl]
  refine ⟨t, _, N + 1 + 1, rfl, ht12, by omega, by omega, by omega, fun S H13 a2 a3 fr13 ht13 => ⟨(by show 2 ≤ sizeLine; decide), fun tp ntp => ?_⟩⟩
  have s14 := Same.upd (o := .tup [V.int R, V.int S]) ntp
  refine ⟨tp, _, rfl, SqT.of upd_same, rfl, _, _, rfl, _, _, rfl, rfl, ?_⟩
  have fr14 : Fr [t] H (upd H13 tp (.tup [V.int R, V.int S])) := ((fr11.trans fr12).trans fr13).trans (Fr.of s14)
  have ht14 := ht13.same s14
  generalize (upd H13 tp (.tup [V.int R, V.int S])) = H14 at s14 fr14 ht14 ⊢
  obtain ⟨Rn, rfl, hRn⟩ := (⟨R.toNat, by omega, by omega⟩ : ∃ j : Nat, R = (j : Int) ∧ j < p.2.1.length)
  obtain ⟨Sn, rfl, hSn⟩ := (⟨S.toNat, by omega, by omega⟩ : ∃ j : Nat, S = (j : Int) ∧ j ≤ m)
  have hv14 := Dp.fr fr14 (noL_road _) hv
  have hu14 := Dp.fr fr14 (noL_sets _) hu
  have hht : h ≠ t := fun z => by obtain ⟨x0, x1, x2, e, _⟩ := ht; rw [← z, e1] at e; cases e
  have ha14 : HouseAt K C H14 h l ps n := ha.fr fr14 (by simpa using hht) (by simpa using htl.symm)
  -- the chain
  refine ⟨_, rfl, _, rfl, _, rfl, _, rfl, v, .ref sa, p.1, p.2.1, Rn, Sn, rfl, hv14, hu14, hlf, by omega, by omega, hRn, by omega, fun fp H15 s15 nfp hfp => ?_⟩
  have hv15 := Dp.same s15 hv14
  have hu15 := Dp.same s15 hu14
  refine ⟨_, rfl, _, rfl, _, rfl, _, rfl, _, rfl, v, .ref sa, .ref fp, p.1, p.2.1, Rn, Sn, rfl, hv15, hu15, hlf, by omega, by omega, hRn, by omega, hfp, fun H16 s16 => ⟨_, rfl, ?_⟩⟩
  refine iteF ?_
  have fr16 : Fr [t] H H16 := fr14.trans (Fr.of (s15.trans s16))
  have ht16 := ht14.same (s15.trans s16)
  have ha16 := ha14.same (s15.trans s16)
  have hfp16 := Dp.same s16 hfp
  have hb16 : Rows (fun q => Hx q = none) H16 bp (booksM p.1.1 p.1.2 p.2.1) := ((hb11.fr (fr12.trans fr13) hN5).same s14).same (s15.trans s16)
  obtain ⟨fpa, xs, e, hx, hd⟩ := Dp.lstI hfp16
  cases e
  obtain ⟨dw, da, db, rest, hch⟩ := chain_head p.1 p.2.1 Sn Rn hlf
  obtain ⟨z, hz, dz⟩ := DpAll.at hd (i := 0) (by rw [hch]; rfl)
  obtain ⟨z0, zs, rfl, hz0, dzs⟩ := Dp.tupI dz
  cases dzs with | cons d1 dzs => cases dzs with | cons d2 dzs => cases dzs with | cons d3 dzs => cases dzs with | cons d4 dzs =>
  cases dzs
  cases d4
  have hz' : xs[0]? = some (.ref z0) := hz
  refine ⟨_, rfl, fp, xs, _, _, rfl, rfl, hx, atI_nat (j := 0) hz', z0, _, _, _, rfl, rfl, hz0, atI_nat (j := 3) rfl, ?_⟩
  obtain ⟨dx16, vs16, e16, _, _⟩ := id ha16
  refine ⟨_, rfl, h, dx16, _, rfl, e16, nC, _, rfl, _, rfl, h, l, ps, n, p, m, Rn, Sn, rfl, ha16, hp, ok, hSn, hRn, fun H17 s17 => ?_⟩
  refine ⟨rfl, ?_⟩
  refine ⟨_, rfl, ?_⟩
  refine ifF (by rw [decide_eq_true rfl]; rfl) ?_
  have hv17 := Dp.same s17 (Dp.same s16 hv15)
  have hu17 := Dp.same s17 (Dp.same s16 hu15)
  refine ⟨_, rfl, _, rfl, _, rfl, _, rfl, v, .ref sa, p.1, p.2.1, Rn, Sn, rfl, hv17, hu17, hlf, by omega, by omega, hRn, by omega, fun rt rr s' H18 hlast s18 hrt => ?_⟩
  have hfp18 := Dp.same (s17.trans s18) hfp16
  obtain ⟨fpb, xs, e, hx, hd⟩ := Dp.lstI hfp18
  cases e
  rw [List.getLast?_eq_getElem?] at hlast
  obtain ⟨z, hz, dz⟩ := DpAll.at hd hlast
  have hz' : xs.getLast? = some z := by rw [List.getLast?_eq_getElem?, DpAll.length hd]; exact hz
  have fin : ∀ H', Fr [t] H16 H' → True := fun _ _ => trivial
  have fr18 : Fr [t] H H18 := fr16.trans (Fr.of (s17.trans s18))
  have ht18 := ht16.same (s17.trans s18)
  cases rr with
  | none =>
    obtain ⟨a, ys, rfl, ha, da⟩ := Dp.tupI dz
    obtain ⟨a2, ys2, e2, ha2, da2⟩ := Dp.tupI hrt
    cases e2
    cases da with | cons d1 da => cases da with | cons d2 da => cases da with | cons d3 da => cases da with | cons d4 da =>
    cases da; cases d1; cases d2; cases d3; cases d4
    cases da2 with | cons d1 da2 => cases da2 with | cons d2 da2 =>
    cases da2; cases d1; cases d2
    refine ⟨rt, _, rfl, ha2, rfl, _, _, rfl, _, _, rfl, rfl, ?_⟩
    refine ⟨_, rfl, _, rfl, _, rfl, fp, xs, _, _, rfl, rfl, hx, atI_m1 hz', a, _, _, _, rfl, rfl, ha, atI_nat (j := 0) rfl, rfl, ?_⟩
    refine ⟨_, rfl, ?_⟩
    refine ifT (by rw [decide_eq_true rfl]) ?_
    refine ⟨_, rfl, _, rfl, rfl, _, rfl, ?_⟩
    refine ifF (by rfl) ?_
    refine ⟨_, rfl, _, rfl, fp, xs, _, _, rfl, rfl, hx, atI_m1 hz', a, _, _, _, rfl, rfl, ha, atI_nat (j := 2) rfl, rfl, ?_⟩
    rw [decide_eq_true rfl]
    exact k _ fr18 (ht18.mono (by omega))
  | some r =>
    obtain ⟨a, ys, rfl, ha, da⟩ := Dp.tupI dz
    obtain ⟨a2, ys2, e2, ha2, da2⟩ := Dp.tupI hrt
    cases e2
    cases da with | cons d1 da => cases da with | cons d2 da => cases da with | cons d3 da => cases da with | cons d4 da =>
    cases da; cases d1; cases d2; cases d3; cases d4
    cases da2 with | cons d1 da2 => cases da2 with | cons d2 da2 =>
    cases da2; cases d1; cases d2
    refine ⟨rt, _, rfl, ha2, rfl, _, _, rfl, _, _, rfl, rfl, ?_⟩
    refine ⟨_, rfl, _, rfl, _, rfl, fp, xs, _, _, rfl, rfl, hx, atI_m1 hz', a, _, _, _, rfl, rfl, ha, atI_nat (j := 0) rfl, rfl, ?_⟩
    refine ⟨_, rfl, ?_⟩
    refine ifT (by rw [decide_eq_true rfl]) ?_
    refine ⟨_, rfl, _, rfl, rfl, _, rfl, ?_⟩
    refine ifT (by rfl) ?_
    refine ⟨_, rfl, _, rfl, fp, xs, _, _, rfl, rfl, hx, atI_m1 hz', a, _, _, _, rfl, rfl, ha, atI_nat (j := 1) rfl, rfl, ?_⟩
    rw [decide_eq_true rfl]
    exact k _ fr18 (ht18.mono (by omega))
end
end Rh
end RhL9_
section RhL10_
set_option Elab.async false
set_option linter.all false
set_option maxRecDepth 100000
set_option maxHeartbeats 4000000
/-! A house struck and set right again. -/
namespace Rh
open PySem PySem.Spec PyProof.Rows L2
section
variable {P : Program} {w : World} {K : PySem.W.Frag} {mg : Str → Option Value} {base : Heap} {C : Addr}
/-- in order, none before a first -/
structure InOrder (p : Page) : Prop where
  le : p.2.1.Pairwise (· ≤ ·)
  first : ∀ x ∈ p.2.1, ∀ f ∈ p.1.2, f ≤ x
def spStruck (K : PySem.W.Frag) (C : Addr) : Sp := fun vs H Q _ => ∃ (t h l : Addr) (ps : List Page) (n : Int) (p : Page) (m : Nat) (N B : Int), vs = [.ref t, .ref h] ∧ TapeAt H t N ∧ N ≤ 800000 ∧ t ≠ l ∧ HouseAt K C H h l ps n ∧ ps.getLast? = some p ∧ HOk m p n ∧ ps.length ≤ 5000 ∧ InOrder p ∧
  0 ≤ B ∧ B ≤ 100000000 ∧ (∀ x ∈ p.2.1, -B ≤ x ∧ x ≤ B) ∧ ∀ H', Fr [t] H H' → TapeAt H' t (N + 10) → Q (.bl true) H'
/-! ### plain laws -/
theorem mem_lastOf {x : Int} {l : List Int} (h : x ∈ lastOf l) : x ∈ l := List.mem_of_mem_drop h
theorem send_ok {rd : Road} {L : List Int} {j : Nat} {b : Int} (hs : L.Pairwise (· ≤ ·)) (hf : ∀ x ∈ L, ∀ f ∈ rd.2, f ≤ x) (e : L[j]? = some b) : refus rd (L.take j) (.send b) = none := by
  refine if_pos fun x hx => ?_
  rcases List.mem_append.mp hx with h | h
  · obtain ⟨k, hk, rfl⟩ := List.mem_iff_getElem.mp (mem_lastOf h)
    rw [List.length_take] at hk
    obtain ⟨hj, rfl⟩ := List.getElem?_eq_some_iff.mp e
    rw [List.getElem_take]
    exact (List.pairwise_iff_getElem.mp hs) k j (by omega) hj (by omega)
  · exact hf b (List.mem_of_getElem? e) x h
theorem hok_next {m : Nat} {p : Page} {n : Int} {d : Deed} (h : HOk m p n) (hf : (applyP p n d).2.1.length ≤ 900) : HOk m (applyP p n d) (applyN n d) := by
  refine ⟨h.next, fun x hx => ?_, hf⟩
  have hle := h.le
  cases d with
  | send b =>
    rcases List.mem_append.mp (show x ∈ p.2.2 ++ [n + 1] from hx) with h | h
    · have := hle x h
      show x ≤ n + 1
      omega
    · rw [List.mem_singleton.mp h]
      exact Int.le_refl _
  | strike r => exact hle x (List.mem_of_mem_eraseIdx hx)
  | move r b => exact hle x hx
  | first r b => exact hle x hx
  | leg r b => exact hle x hx
def Tw (m : Nat) (R : Road) (S : List Int) (ps : List Page) (n : Int) (b : Nat) : Prop := ps.length ≤ b ∧ ∃ q, ps.getLast? = some q ∧ q.1 = R ∧ q.2.1 = S ∧ HOk m q n
theorem Tw.next {m : Nat} {R R' : Road} {S S' : List Int} {ps : List Page} {n : Int} {b : Nat} {d : Deed} {q : Page} (h : Tw m R S ps n b) (hq : ps.getLast? = some q) (e : applyS R S d = (R', S')) (hl : S'.length ≤ 900) : Tw m R' S' (ps ++ [applyP q n d]) (applyN n d) (b + 1) := by
  obtain ⟨hb, q', hq', rfl, rfl, ok⟩ := h
  rw [hq] at hq'
  cases hq'
  refine ⟨by rw [List.length_append]; exact Nat.succ_le_succ hb, _, List.getLast?_concat, ?_, ?_, hok_next ok ?_⟩
  · show (applyS q.1 q.2.1 d).1 = R'
    rw [e]
  · show (applyS q.1 q.2.1 d).2 = S'
    rw [e]
  · show (applyS q.1 q.2.1 d).2.length ≤ 900
    rw [e]
    exact hl
theorem deed_ok {cx : Ex → Addr} {isK : Deed → Prop} {H1 Hc : Hp} {x l : Addr} {ps : List Page} {n : Int} {m b : Nat} {R : Road} {S : List Int} {d : Deed} {as : List V} {Q : VK} {E : XK} (hd : isK d) (da : DpAll K Hc as d.args) (a : HouseAt K C Hc x l ps n) (h : Tw m R S ps n b) (hb : b ≤ 100000)
    (hr : refus R S d = none) (s : Same H1 Hc) (n1 : H1 x = none) (n2 : H1 l = none)
    (k : ∀ q H', ps.getLast? = some q → Same H1 H' → Fr [x, l] Hc H' → HouseAt K C H' x l (ps ++ [applyP q n d]) (applyN n d) → Q (.int (chg q (applyP q n d))) H') : spDeed K C cx isK (.ref x :: as) Hc Q E := by
  obtain ⟨hl, q, hq, rfl, rfl, ok⟩ := h
  refine ⟨x, l, ps, n, q, m, d, as, rfl, hd, da, a, hq, by omega, ok, fun _ H' fr a' => k q H' hq (Fr.beside s fr fun z hz => ?_) fr a', fun k y e => ?_⟩
  · rcases List.mem_cons.mp hz with rfl | hz
    · exact n1
    · rw [List.mem_singleton.mp hz]; exact n2
  · rw [hr] at e
    cases e
theorem tw_new {m : Nat} {p : Page} (ok : PgOk m p) : Tw m p.1 [] [(p.1, [], [])] 0 1 :=
  ⟨Nat.le_refl _, (p.1, [], []), rfl, rfl, rfl, ⟨ok.legs, ok.firsts, ok.few, Nat.zero_le _, rfl, List.nodup_nil⟩, fun x hx => absurd hx List.not_mem_nil, Nat.zero_le _⟩
theorem Tw.last {m : Nat} {R : Road} {S : List Int} {ps : List Page} {n : Int} {b : Nat} (h : Tw m R S ps n b) : ∃ q, ps.getLast? = some q ∧ q.1 = R ∧ q.2.1 = S ∧ HOk m q n := h.2
theorem take_snoc {l : List Int} {j : Nat} {c : Int} (e : l[j]? = some c) : l.take j ++ [c] = l.take (j + 1) := by rw [List.take_succ, e]; rfl
theorem take_pop {l : List Int} {k : Nat} : (l.take (k + 1)).eraseIdx k = l.take k := by
  rw [List.eraseIdx_eq_take_drop_succ, List.take_take, Nat.min_eq_left (Nat.le_succ k), List.drop_eq_nil_of_le (by rw [List.length_take]; omega), List.append_nil]
theorem move_ok {R : Road} {S : List Int} {i : Nat} {b : Int} (hi : i < S.length) (h1 : ∀ x ∈ S.take i, x ≤ b) (h2 : ∀ f ∈ R.2, f ≤ b) (h3 : ∀ x ∈ S.drop (i + 1), b ≤ x) : refus R S (.move (i : Int) b) = none := by
  have e1 : ∀ x ∈ lastOf (S.take (i : Int).toNat) ++ R.2, x ≤ b := by
    rw [Int.toNat_natCast]
    intro x hx
    rcases List.mem_append.mp hx with h | h
    · exact h1 x (mem_lastOf h)
    · exact h2 x h
  have e2 : ∀ x ∈ S.drop ((i : Int).toNat + 1), b ≤ x := by
    rw [Int.toNat_natCast]
    exact h3
  exact (if_neg (fun z => z ⟨by omega, by omega⟩)).trans ((if_neg (fun z => z e1)).trans (if_neg (fun z => z e2)))
abbrev nStruck : List Str := ["_law_tape_here", "_law_house", "_law_road_here", "_law_sets", "_law_at", "_law_twin", "_law_told", "_law_without", "_law_beat", "_law_k", "_law_a_to", "_law_told_so"]
theorem sc_struck : FnScope nStruck ["_law_tape_here", "_law_house"] (defScope s_law_struck_right) := ⟨rfl, rfl, rfl, by decide +kernel, rfl, by decide +kernel, by decide +kernel⟩
theorem ok_struck {cx : Ex → Addr} (B : Bn mg) (T : HT K mg C) (D : Dfn K mg "_law_struck_right" s_law_struck_right ["_law_tape_here", "_law_house"]) (h1 : MCal P w K mg base C CX0 "road" 1 ["self"] (spHRoad K C)) (h2 : MCal P w K mg base C CX0 "sets" 1 ["self"] (spHSets K C))
    (h3 : MCal P w K mg base C CX0 "book" 6 ["self", "station"] (spBook K C)) (h4 : MCal P w K mg base C CX0 "twin" 4 ["self"] (spTwin K C)) (h5 : MCal P w K mg base C (L2.CX P w) "strike" 9 ["self", "rider"] (spDeed K C cx isStrike))
    (h6 : MCal P w K mg base C (L2.CX P w) "send" 9 ["self", "beat"] (spDeed K C cx isSend)) (h7 : Cal P w K mg base CX0 "_law_draw" 1 ["_law_tape_here", "_law_many"] spDraw) (h8 : Cal P w K mg base CX0 "_law_apart" 7 ["_law_house", "_law_twin", "_law_at"] (spApart K C))
    (h9 : MCal P w K mg base C CX0 "__eq__" 2 ["self", "other"] (spHEq K C)) (h10 : MvCal P w K mg base C (L2.CX P w) 9 (spDeed K C cx isMove)) (h11 : MCal P w K mg base C CX0 "__len__" 2 ["self"] (spHLen K C))
    (h12 : MCal P w K mg base C CX0 "__init__" 1 ["self", "road"] (spHInit K C)) : Cal P w K mg base CX0 "_law_struck_right" 10 ["_law_tape_here", "_law_house"] (spStruck K C) := by
  have nd := sc_struck.nd
  obtain ⟨f1, fd1, G1, m1, b1⟩ := h1
  obtain ⟨f2, fd2, G2, m2, b2⟩ := h2
  obtain ⟨f3, fd3, G3, m3, b3⟩ := h3
  obtain ⟨f4, fd4, G4, m4, b4⟩ := h4
  obtain ⟨f5, fd5, G5, m5, b5⟩ := h5
  obtain ⟨f6, fd6, G6, m6, b6⟩ := h6
  obtain ⟨f7, fd7, G7, g7, k7, b7⟩ := h7
  obtain ⟨f8, fd8, G8, g8, k8, b8⟩ := h8
  obtain ⟨f9, fd9, G9, m9, b9⟩ := h9
  obtain ⟨f10, fd10, G10, m10, kb1, kb2⟩ := h10
  obtain ⟨f11, fd11, G11, m11, b11⟩ := h11
  obtain ⟨f12, fd12, G12, m12, b12⟩ := h12
  have TE9 : RhR.EqC K C f9 := ⟨m9.at_, T.ne, m9.fn, T.ob⟩
  refine D.cal sc_struck (fun vs H Q E ⟨t, h, l, ps, n, p, m, N, B, e, _⟩ => by rw [e]; rfl) (fun f cdv A outer s H vs Q E hr h => ?_)
  obtain ⟨t, h, l, ps, n, p, m, N, B0, rfl, ht, hN, htl, ha, hp, ok, hpl, ord, hB0, hB1, hB, k⟩ := h
  obtain ⟨dx, vs, e1, e2, e3⟩ := id ha
  refine ⟨_, PSs.nox (pss_cons (ps_par (i := 2) (j := 3) rfl nd rfl rfl (by decide) rfl rfl (pa_cons (pe_meth0 (pv 1) T.cl m1 G1 (hr.mono (by decide)) b1 .nil pass0) (pa_cons (pe_meth0 (pv 1) T.cl m2 G2 (hr.mono (by decide)) b2 .nil pass0) pa_nil)) (by rfl))
      (pss_cons (ps_if (pt_not (pt_chain op_lt op_lt pe_int (pe_callB call_len_seq (by rfl) B.len PySem.boot_len (pa_cons (pv 3) pa_nil)) pe_int)) (pss_one (ps_ret pe_bl)) pss_nil)
      (pss_cons (ps_asg (pe_tup (pa_cons (pe_call G7 (hr.mono (by decide)) (by rfl) g7 k7 b7 .nil pass0 (pa_cons (pv 0) (pa_cons (pe_callB call_len_seq (by rfl) B.len PySem.boot_len (pa_cons (pv 3) pa_nil)) pa_nil))) (pa_cons (pe_meth0 (pv 1) T.cl m4 G4 (hr.mono (by decide)) b4 .nil pass0) pa_nil))) (pg_tup rfl (pgs_cons (pg_name (i := 4) nd rfl (.inr rfl)) (pgs_cons (pg_name (i := 5) nd rfl (.inr rfl)) pgs_nil))))
      (pss_cons (ps_par (i := 6) (j := 7) rfl nd rfl rfl (by decide) rfl rfl (pa_cons (pe_meth (pv 5) T.cl m5 G5 (hr.mono (by decide)) b5 .nil passL (pa_cons (pv 4) pa_nil)) (pa_cons (pe_make ⟨T.mks, m12.at_, m12.fn, T.kp⟩ G12 (hr.mono (by decide)) (by rfl) T.g b12 .nil pass0 (pa_cons (pv 2) pa_nil)) pa_nil)) (by rfl))
      (pss_cons (ps_for PassesOwn.never rfl (pi_tup (pe_op RhR.op_catW (pe_slice RhR.sl_tupW (pv 3) po_none (po_some (pv 4))) (pe_slice RhR.sl_tupW (pv 3) (po_some (pe_op op_add (pv 4) pe_int)) po_none))) (pg_name (i := 8) nd rfl (.inl rfl)) (pss_one (ps_expr (pe_meth (pv 7) T.cl m6 G6 (hr.mono (by decide)) b6 .nil passL (pa_cons (pv 8) pa_nil)))))
      (pss_cons (ps_if (PW.pt (pw_or (pt_cmpR (RhR.op_neO TE9 G9 (hr.mono (by decide)) b9 pass0) (pv 5) (pv 7) (nomark _)) (pw_or1 (pt_cmpR op_ne (pv 6) (pe_call G8 (hr.mono (by decide)) (by rfl) g8 k8 b8 .nil pass0 (pa_cons (pv 1) (pa_cons (pv 5) (pa_cons (pv 4) pa_nil)))) (nomark _))))) (pss_one (ps_ret pe_bl)) pss_nil)
      (pss_cons (ps_if (pt_cmpR (op_neD hr.units) (pe_lc (own := [("_law_k", 9)]) (g := gName 9) (te := L2.tSl (rSlL K) (tMeth C "book" (spBook K C) [] E0 (tVar 5) (tCons (tVar 9) tNil)) tNoPart (tPart (tVar 4))) rfl nd (pi_range1 (by rfl) B.range (pa_cons (pe_op op_add (pe_callB call_len_seq (by rfl) B.len PySem.boot_len (pa_cons (pe_ix ix_tup (pv 2) pe_int (fun _ _ => rfl)) pa_nil)) pe_int) pa_nil)) (blkOk_by (N := nStruck) (sc := defScope s_law_struck_right) (by decide +kernel)) (fun _ _ _ _ _ => (pg_name (i := 9) nd rfl (.inl rfl))) (fun _ _ _ _ _ => pts_nil) (fun _ _ _ _ _ => (pe_slice sl_list (pe_meth (pv 5) T.cl m3 G3 (hr.mono (by decide)) b3 .nil pass0 (pa_cons (pv 9) pa_nil)) po_none (po_some (pv 4))))) (pe_lc (own := [("_law_k", 9)]) (g := gName 9) (te := L2.tSl (rSlL K) (tMeth C "book" (spBook K C) [] E0 (tVar 1) (tCons (tVar 9) tNil)) tNoPart (tPart (tVar 4))) rfl nd (pi_range1 (by rfl) B.range (pa_cons (pe_op op_add (pe_callB call_len_seq (by rfl) B.len PySem.boot_len (pa_cons (pe_ix ix_tup (pv 2) pe_int (fun _ _ => rfl)) pa_nil)) pe_int) pa_nil)) (blkOk_by (N := nStruck) (sc := defScope s_law_struck_right) (by decide +kernel)) (fun _ _ _ _ _ => (pg_name (i := 9) nd rfl (.inl rfl))) (fun _ _ _ _ _ => pts_nil) (fun _ _ _ _ _ => (pe_slice sl_list (pe_meth (pv 1) T.cl m3 G3 (hr.mono (by decide)) b3 .nil pass0 (pa_cons (pv 9) pa_nil)) po_none (po_some (pv 4))))) (nomark _)) (pss_one (ps_ret pe_bl)) pss_nil)
      (pss_cons (ps_for PassesOwn.never rfl (pi_range1 (by rfl) B.range (pa_cons (pe_op op_sub (pe_op op_sub (pe_callB call_len_seq (by rfl) B.len PySem.boot_len (pa_cons (pv 3) pa_nil)) pe_int) (pv 4)) pa_nil)) (pg_name (i := 9) nd rfl (.inl rfl)) (pss_one (ps_expr (pe_meth (pv 5) T.cl m5 G5 (hr.mono (by decide)) b5 .nil passL (pa_cons (pe_op op_sub (pe_callB (RhR.call_lenO m11.at_ m11.fn G11 (hr.mono (by decide)) b11 pass0) (by rfl) B.len PySem.boot_len (pa_cons (pv 5) pa_nil)) pe_int) pa_nil)))))
      (pss_cons (ps_for PassesOwn.never rfl (pi_tup (pe_slice RhR.sl_tupW (pv 3) (po_some (pv 4)) po_none)) (pg_name (i := 8) nd rfl (.inl rfl)) (pss_one (ps_expr (pe_meth (pv 5) T.cl m6 G6 (hr.mono (by decide)) b6 .nil passL (pa_cons (pv 8) pa_nil)))))
      (pss_cons (ps_if (pt_cmpR (RhR.op_neO TE9 G9 (hr.mono (by decide)) b9 pass0) (pv 5) (pv 1) (nomark _)) (pss_one (ps_ret pe_bl)) pss_nil)
      (pss_cons (ps_set (i := 10) nd rfl (.inl rfl) (pe_op op_add (pe_ix ix_tup (pv 3) (pv 4) (fun _ _ => rfl)) (pe_call G7 (hr.mono (by decide)) (by rfl) g7 k7 b7 .nil pass0 (pa_cons (pv 0) (pa_cons (pe_op op_add pe_int (pe_ifExp (pt_cmpR op_lt (pe_op op_add (pv 4) pe_int) (pe_callB call_len_seq (by rfl) B.len PySem.boot_len (pa_cons (pv 3) pa_nil)) (nomark _)) (pe_op op_sub (pe_ix ix_tup (pv 3) (pe_op op_add (pv 4) pe_int) (fun _ _ => rfl)) (pe_ix ix_tup (pv 3) (pv 4) (fun _ _ => rfl))) pe_int)) pa_nil)))))
      (pss_cons (ps_set (i := 11) nd rfl (.inl rfl) (RhR.pe_methK (E := fun _ => E0) (pv 5) T.cl m10 G10 (hr.mono (by decide)) kb1 (fun σ => fun pins => passL pins σ) (pa_cons (pv 4) pa_nil) (pk_cons (pv 10) pk_nil)))
      (pss_one (ps_ret (pe_and (pe_cmpR op_eq (pv 11) (RhR.pe_methK0 (E := fun _ => E0) (pv 5) T.cl m10 G10 (hr.mono (by decide)) kb2 (fun σ => fun pins => passL pins σ) (pk_cons (pe_ix ix_tup (pv 3) (pv 4) (fun _ _ => rfl)) (pk_cons (pv 4) pk_nil))) (nomark _)) (pe_one (pe_cmpR (RhR.op_eqO TE9 G9 (hr.mono (by decide)) b9 pass0) (pv 5) (pv 1) (nomark _)))))))))))))))))), ?_⟩
  have nR : (hF l n).lookup ("road" : Str) = none := hF_no l n (by decide +kernel) (by decide +kernel)
  have nS : (hF l n).lookup ("sets" : Str) = none := hF_no l n (by decide +kernel) (by decide +kernel)
  have nT : (hF l n).lookup ("twin" : Str) = none := hF_no l n (by decide +kernel) (by decide +kernel)
  have okg := ok.pg
  have hfew := ok.few
  have hm100 : m ≤ 100 := okg.few
  have hlf : p.1.1.length = p.1.2.length := by rw [okg.legs, okg.firsts]
  refine ⟨_, rfl, h, dx, _, rfl, e1, nR, h, l, ps, n, p, rfl, ha, hp, fun v hv => ?_⟩
  refine ⟨_, rfl, h, dx, _, rfl, e1, nS, h, l, ps, n, p, rfl, ha, hp, fun u hu => ⟨_, _, rfl, ?_⟩⟩
  obtain ⟨sa, rfl, hsa⟩ := Dp.setsI hu
  refine ⟨_, rfl, sa, _, rfl, .inr hsa, _, _, rfl, rfl, _, rfl, ?_⟩
  rw [List.length_map]
  have exit : Q (V.bl true) H := k H (Fr.of (Same.refl _)) (ht.mono (by omega))
  by_cases c0 : ¬ (0 : Int) < (p.2.1.length : Nat)
  · refine ifF (decide_eq_false c0) ⟨_, rfl, ?_⟩
    refine iteT ?_
    exact exit
  refine ifT (decide_eq_true (by omega)) ?_
  refine ⟨_, _, rfl, rfl, _, rfl, ?_⟩
  by_cases c1 : ¬ ((p.2.1.length : Nat) : Int) < 11
  · rw [decide_eq_false c1]
    refine iteT ?_
    exact exit
  rw [decide_eq_true (by omega : ((p.2.1.length : Nat) : Int) < 11)]
  refine iteF ?_
  have hpos : 0 < p.2.1.length := by omega
  have hlt : p.2.1.length < 11 := by omega
  clear c0 c1 exit
  -- a rider, a twin
  refine ⟨_, rfl, _, rfl, sa, _, rfl, .inr hsa, ?_⟩
  rw [List.length_map]
  refine ⟨t, _, N, rfl, ht, by omega, by omega, by omega, fun r1 H1 a0 a1 fr1 ht1 => ?_⟩
  obtain ⟨i, rfl, hi⟩ := (⟨r1.toNat, by omega, by omega⟩ : ∃ j : Nat, r1 = (j : Int) ∧ j < p.2.1.length)
  have hht : h ≠ t := fun z => by obtain ⟨x0, x1, x2, e, _⟩ := ht; rw [← z, e1] at e; cases e
  have ha1 : HouseAt K C H1 h l ps n := ha.fr fr1 (by simpa using hht) (by simpa using htl.symm)
  have hv1 := Dp.fr fr1 (noL_road _) hv
  have hsa1 := fr1.tup hsa
  have e11 : H1 h = _ := fr1.keep _ _ e1 (by simpa using hht)
  clear ha e2 e3 hv hu hsa ht
  refine ⟨_, rfl, h, dx, _, rfl, e11, nT, h, l, ps, n, p, rfl, ha1, hp, fun x lx H2 s2 nx nlx hx => ⟨(by show 2 ≤ sizeLine; decide), fun tp ntp => ?_⟩⟩
  have s3 := Same.upd (o := .tup [V.int (i : Nat), V.ref x]) ntp
  refine ⟨tp, _, rfl, SqT.of upd_same, rfl, _, _, rfl, _, _, rfl, rfl, ?_⟩
  have hx3 := hx.same s3
  have s13 := s2.trans s3
  generalize (upd H2 tp (.tup [V.int (i : Nat), V.ref x])) = H3 at s3 s13 hx3 ⊢
  clear s2 s3 hx ntp
  -- the strike
  have nStr : ∀ l n, (hF l n).lookup ("strike" : Str) = none := fun l n => hF_no l n (by decide +kernel) (by decide +kernel)
  have nSnd : ∀ l n, (hF l n).lookup ("send" : Str) = none := fun l n => hF_no l n (by decide +kernel) (by decide +kernel)
  have nBk : ∀ l n, (hF l n).lookup ("book" : Str) = none := fun l n => hF_no l n (by decide +kernel) (by decide +kernel)
  have nMv : ∀ l n, (hF l n).lookup ("move" : Str) = none := fun l n => hF_no l n (by decide +kernel) (by decide +kernel)
  obtain ⟨dy, ws, y1, y2, y3⟩ := id hx3
  have tw0 : Tw m p.1 p.2.1 ps n 5000 := ⟨hpl, p, hp, rfl, rfl, ok⟩
  refine ⟨_, rfl, x, dy, _, rfl, y1, nStr _ _, _, rfl, ?_⟩
  delta tNil
  refine (id ?_ : spDeed K C cx isStrike [.ref x, .int (i : Nat)] _ _ _)
  refine deed_ok (d := .strike (i : Int)) (H1 := H1) ⟨_, rfl⟩ (.cons (.int _) .nil) hx3 tw0 (by omega) (if_neg fun z => z ⟨by omega, by omega⟩) s13 nx nlx fun q H4 hq s14 fr4 hx4 => ?_
  rw [hp] at hq
  cases hq
  have tw1 := tw0.next (d := .strike (i : Int)) hp (R' := p.1) (S' := p.2.1.eraseIdx i) rfl (by rw [List.length_eraseIdx]; split <;> omega)
  have hv4 := Dp.same s14 hv1
  refine ⟨_, rfl, ?_⟩
  intro y dyy ny ndy hne
  have sd := Same.upd (o := .own y) ndy
  have hv5 : Dp K (upd (upd H4 dyy (.own y)) y (.ins C dyy [])) v (roadD p.1) := Dp.same (fun b o e => by rw [upd_ne (ne_of_none e ny)]; exact sd _ _ e) hv4
  refine ⟨y, dyy, v, p.1, rfl, upd_same, hv5, fun ly H5 kp nly hy5 => ⟨rfl, ?_⟩⟩
  have s45 : Same H4 H5 := Same.made ny ndy kp
  have s15 := s14.trans s45
  have hx5 := hx4.same s45
  refine ⟨_, _, rfl, ?_⟩
  have up : ∀ b o, H4 b = some o → upd (upd H4 dyy (.own y)) y (.ins C dyy []) b = some o := fun b o e => by rw [upd_ne (ne_of_none e ny)]; exact sd _ _ e
  have neY : ∀ b o, H4 b = some o → y ≠ b := fun b o e z => by rw [← z, ny] at e; cases e
  have neL : ∀ b o, H4 b = some o → ly ≠ b := fun b o e z => by have e' := up _ _ e; rw [← z, nly] at e'; cases e'
  obtain ⟨hyx, hylx, hlyx, hlylx⟩ : y ≠ x ∧ y ≠ lx ∧ ly ≠ x ∧ ly ≠ lx := by
    obtain ⟨_, _, q1, q2, _⟩ := id hx4
    exact ⟨neY _ _ q1, neY _ _ q2, neL _ _ q1, neL _ _ q2⟩
  have ny1 : H1 y = none := by
    cases e : H1 y with
    | none => rfl
    | some o => exact absurd rfl (neY _ _ (s14 _ _ e))
  have nly1 : H1 ly = none := by
    cases e : H1 ly with
    | none => rfl
    | some o => exact absurd rfl (neL _ _ (s14 _ _ e))
  clear up neY neL hv5 sd nly kp
  -- the others are sent to a house made anew
  refine ⟨_, rfl, _, rfl, _, rfl, sa, _, rfl, Same.tup s15 hsa1, fun t1 H6 s6 h6 => ?_⟩
  rw [RhR.cutV_take] at h6
  refine ⟨_, rfl, _, rfl, _, _, rfl, rfl, _, rfl, sa, _, rfl, Same.tup (s15.trans s6) hsa1, fun t2 H7 s7 h7 => ?_⟩
  rw [show ((i : Int) + 1) = ((i + 1 : Nat) : Int) from rfl, RhR.cutV_drop] at h7
  refine ⟨t1, t2, _, _, rfl, rfl, Same.tup s7 h6, h7, by rw [List.length_take, List.length_drop, List.length_map]; omega, fun t3 H8 s8 h8 => ?_⟩
  have s58 := (s6.trans s7).trans s8
  have e8 : (p.2.1.map V.int).take i ++ (p.2.1.map V.int).drop (i + 1) = (p.2.1.eraseIdx i).map V.int := by rw [← List.map_take, ← List.map_drop, ← List.map_append, ← List.eraseIdx_eq_take_drop_succ]
  rw [e8] at h8
  have s18 := s15.trans s58
  have hx8 := hx5.same s58
  have hy8 := hy5.same s58
  have lE : (p.2.1.eraseIdx i).length + 1 = p.2.1.length := by rw [List.length_eraseIdx, if_pos hi]; omega
  have srtE : (p.2.1.eraseIdx i).Pairwise (· ≤ ·) := ord.le.sublist (List.eraseIdx_sublist ..)
  have fstE : ∀ x ∈ p.2.1.eraseIdx i, ∀ f ∈ p.1.2, f ≤ x := fun x hx => ord.first x (List.mem_of_mem_eraseIdx hx)
  clear e8 h6 h7
  refine ⟨t3, rfl, ⟨_, h8⟩, ?_⟩
  refine for_it walk_tup (fun j σ H' => ∃ z qs nn, σ = [some (.ref t), some (.ref h), some v, some (.ref sa), some (.int (i : Nat)), some (.ref x), some (.int (chg p (applyP p n (.strike (i : Int))))), some (.ref y), z, none, none, none] ∧ SqT K H' t3 ((p.2.1.eraseIdx i).map V.int) ∧ Same H1 H' ∧ HouseAt K C H' x lx (ps ++ [applyP p n (.strike (i : Int))]) (applyN n (.strike (i : Int))) ∧ HouseAt K C H' y ly qs nn ∧ Tw m p.1 ((p.2.1.eraseIdx i).take j) qs nn (j + 1))
    ⟨none, _, _, rfl, h8, s18, hx8, hy8, tw_new okg⟩ (fun j σ H' _ ⟨_, _, _, _, s', _⟩ => s') (fun j z σ H9 H10 hj q yy => ?_) (fun σ H9 q => ?_)
  · obtain ⟨z0, qs, nn, rfl, h9, s19, hx9, hy9, tw9⟩ := q
    obtain ⟨rfl, ex⟩ := yy
    obtain ⟨c, hc, rfl⟩ := map_at ex
    have hjl : j < (p.2.1.eraseIdx i).length := (List.getElem?_eq_some_iff.mp hc).1
    obtain ⟨dY, wY, q1, q2, q3⟩ := id hy9
    refine ⟨_, rfl, y, dY, _, rfl, q1, nSnd _ _, _, rfl, ?_⟩
    try delta tNil
    refine (id ?_ : spDeed K C cx isSend [.ref y, .int c] _ _ _)
    refine deed_ok (d := .send c) (H1 := H1) ⟨_, rfl⟩ (.cons (.int _) .nil) hy9 tw9 (by omega) (send_ok srtE fstE hc) s19 ny1 nly1 fun q H11 hq s11 fr11 hy11 => ?_
    refine ⟨some (.int c), _, _, rfl, fr11.tup h9, s11, hx9.fr fr11 (by simp [hyx.symm, hlyx.symm]) (by simp [hylx.symm, hlylx.symm]), hy11, ?_⟩
    have := tw9.next (d := .send c) hq (R' := p.1) (S' := (p.2.1.eraseIdx i).take (j + 1)) (by rw [← take_snoc hc]; rfl) (by rw [List.length_take]; omega)
    exact this
  obtain ⟨z0, qs, nn, rfl, h9, s19, hx9, hy9, tw9⟩ := q
  rw [List.length_map, List.take_length] at tw9
  obtain ⟨qY, hqY, eY1, eY2, okY⟩ := tw9.last
  clear h9 tw9 h8
  -- the same as the twin
  obtain ⟨dX, wX, x1, x2, x3⟩ := id hx9
  obtain ⟨dY, wY, y1', y2', y3'⟩ := id hy9
  obtain ⟨qX, hqX, eX1, eX2, okX⟩ := tw1.last
  obtain rfl : applyP p n (.strike (i : Int)) = qX := by rw [List.getLast?_concat] at hqX; exact Option.some.inj hqX
  refine ⟨_, rfl, _, rfl, x, y, dX, dY, _, _, rfl, rfl, x1, y1', x, lx, y, ly, _, _, _, _, _, qY, rfl, hx9, hqX, hy9, hqY, eX1.trans eY1.symm, eX2.trans eY2.symm, fun H10 s10 => ⟨true, rfl, ?_⟩⟩
  refine ⟨_, rfl, ?_⟩
  refine ifF rfl ?_
  have s1a := s19.trans s10
  have hx10 := hx9.same s10
  refine ⟨_, rfl, _, rfl, _, rfl, _, rfl, h, l, x, lx, ps, _, n, _, p, _, m, i, rfl, ha1.same s1a, hp, okg, hx10, hqX, okX.pg, hi, lE, fun H11 s11 => ⟨rfl, _, rfl, ?_⟩⟩
  refine ifF (by rw [strike_apart ok hi, decide_eq_true rfl]; rfl) ?_
  have s1b := s1a.trans s11
  have s9b := s10.trans s11
  have hx11 := hx10.same s11
  have ha11 := ha1.same s1b
  clear hx10
  -- ahead of who is struck nobody comes at other beats
  obtain ⟨ra, rb, rc, ls, rfl, r1, r2, r3, r4⟩ := Dp.roadI hv1
  have hlsm : ls.length = m := by rw [DpAll.length r3, List.length_map, okg.legs]
  refine ⟨_, rfl, ra, _, 0, _, rfl, rfl, Same.tup s1b r1, rfl, rb, ls, rfl, .inr (Same.tup s1b r2), _, _, rfl, rfl, ?_⟩
  rw [hlsm]
  refine ⟨_, rfl, by omega, by omega, fun D1 nD1 => ?_⟩
  refine lc_rel (n := m + 1) (walk_range (lo := 0) (n := m + 1)) (fun j y H' => ∃ q, y = .ref q ∧ True ∧ IL H' q ((bkM (applyP p n (.strike (i : Int))) j).take i)) (fun i y H' H'' s' ⟨q, x1, x2, x3⟩ => ⟨q, x1, x2, s' _ _ x3⟩) nD1 (by omega) (fun _ _ => trivial) (fun j z Ha Hb Qy Qn acc hj sa' eD w qy => ?_) (fun H12 ys12 s12 h12 hlen12 hR12 => ?_)
  · obtain ⟨rfl, rfl⟩ := w
    have sHH := sa'
    refine ⟨rfl, _, rfl, x, dX, _, rfl, sHH _ _ (s9b _ _ x1), nBk _ _, _, rfl, x, lx, _, _, (applyP p n (.strike (i : Int))), m, j, (by show [V.ref x, V.int (0 + (j : Nat))] = _; rw [Int.zero_add]), hx11.same sHH, hqX, okX.pg, by omega, fun q Hc sc nq hq => ?_⟩
    refine ⟨_, rfl, _, rfl, q, _, rfl, SqL.of hq, fun D2 nD2 => ?_⟩
    have s2 := Same.upd (o := .lst (cutV ((bkM (applyP p n (.strike (i : Int))) j).map V.int) none (some (i : Int)))) nD2
    refine qy _ _ ⟨D2, rfl, trivial, ?_⟩ (sc.trans s2)
    have hD1 : D2 ≠ D1 := fun z => by rw [z] at nD2; have := sc _ _ eD; rw [this] at nD2; cases nD2
    show hide D1 (upd Hc D2 _) D2 = _
    rw [hide_ne hD1, upd_same]
    show some (HO.lst (cutV ((bkM (applyP p n (.strike (i : Int))) j).map V.int) none (some (i : Int)))) = some (HO.lst (((bkM (applyP p n (.strike (i : Int))) j).take i).map V.int))
    rw [RhR.cutV_take, List.map_take]
  have rwX : Rows (fun _ => True) H12 D1 ((List.range (m + 1)).map fun s => (bkM (applyP p n (.strike (i : Int))) s).take i) := rows_of (N := fun _ => True) h12 trivial hlen12 (fun i y e => by obtain ⟨q, x1, _, x3⟩ := hR12 i y e; exact ⟨q, x1, trivial, x3⟩)
  refine ⟨_, rfl, ra, _, 0, _, rfl, rfl, Same.tup (s1b.trans s12) r1, rfl, rb, ls, rfl, .inr (Same.tup (s1b.trans s12) r2), _, _, rfl, rfl, ?_⟩
  rw [hlsm]
  refine ⟨_, rfl, by omega, by omega, fun D3 nD3 => ?_⟩
  refine lc_rel (n := m + 1) (walk_range (lo := 0) (n := m + 1)) (fun j y H' => ∃ q, y = .ref q ∧ True ∧ IL H' q ((bkM p j).take i)) (fun i y H' H'' s' ⟨q, x1, x2, x3⟩ => ⟨q, x1, x2, s' _ _ x3⟩) nD3 (by omega) (fun _ _ => trivial) (fun j z Ha Hb Qy Qn acc hj sa2 eD w qy => ?_) (fun H13 ys13 s13 h13 hlen13 hR13 => ?_)
  · obtain ⟨rfl, rfl⟩ := w
    have sKK := sa2
    refine ⟨rfl, _, rfl, h, dx, _, rfl, sKK _ _ ((s1b.trans s12) _ _ e11), nBk _ _, _, rfl, h, l, _, _, p, m, j, (by show [V.ref h, V.int (0 + (j : Nat))] = _; rw [Int.zero_add]), (ha11.same s12).same sKK, hp, okg, by omega, fun q Hc sc nq hq => ?_⟩
    refine ⟨_, rfl, _, rfl, q, _, rfl, SqL.of hq, fun D2 nD2 => ?_⟩
    have s2 := Same.upd (o := .lst (cutV ((bkM p j).map V.int) none (some (i : Int)))) nD2
    refine qy _ _ ⟨D2, rfl, trivial, ?_⟩ (sc.trans s2)
    have hD3 : D2 ≠ D3 := fun z => by rw [z] at nD2; have := sc _ _ eD; rw [this] at nD2; cases nD2
    show hide D3 (upd Hc D2 _) D2 = _
    rw [hide_ne hD3, upd_same]
    show some (HO.lst (cutV ((bkM p j).map V.int) none (some (i : Int)))) = some (HO.lst (((bkM p j).take i).map V.int))
    rw [RhR.cutV_take, List.map_take]
  have rwH : Rows (fun _ => True) H13 D3 ((List.range (m + 1)).map fun s => (bkM p s).take i) := rows_of (N := fun _ => True) h13 trivial hlen13 (fun i y e => by obtain ⟨q, x1, _, x3⟩ := hR13 i y e; exact ⟨q, x1, trivial, x3⟩)
  refine ⟨rowsD ((List.range (m + 1)).map fun s => (bkM (applyP p n (.strike (i : Int))) s).take i), rowsD ((List.range (m + 1)).map fun s => (bkM p s).take i), Dp.same s13 rwX.dp, rwH.dp, shaped_rows _, shaped_rows _, _, rfl, ?_⟩
  have erows : ((List.range (m + 1)).map fun s => (bkM (applyP p n (.strike (i : Int))) s).take i) = ((List.range (m + 1)).map fun s => (bkM p s).take i) := List.map_congr_left fun s hs => books_prefix
  rw [erows, eqv_self (shaped_rows _)]
  refine ifF rfl ?_
  have sB := (s1b.trans s12).trans s13
  have hx14 := (hx11.same s12).same s13
  clear rwX rwH h12 h13 hlen12 hlen13 hR12 hR13 s9b hx11 ha11 hx9 hy9 eX1 eX2
  -- the riders behind are struck, from the end
  refine ⟨_, rfl, sa, _, rfl, .inr (Same.tup sB hsa1), _, _, rfl, rfl, _, rfl, _, _, rfl, rfl, ?_⟩
  rw [List.length_map]
  refine ⟨((p.2.1.length - 1 - i : Nat) : Int), congrArg (fun z : Int => [V.int z]) (show ((p.2.1.length : Nat) : Int) - 1 - (i : Nat) = ((p.2.1.length - 1 - i : Nat) : Int) by omega), by omega, by omega, ?_⟩
  have tw1' : Tw m p.1 ((p.2.1.eraseIdx i).take (p.2.1.length - 1 - 0)) (ps ++ [applyP p n (.strike (i : Int))]) (applyN n (.strike (i : Int))) (5001 + 0) := by
    rw [List.take_of_length_le (by omega)]
    exact tw1
  refine for_it (walk_range (lo := 0) (n := p.2.1.length - 1 - i)) (fun j σ H' => ∃ z1 z2 qs nn, σ = [some (.ref t), some (.ref h), some (.ref ra), some (.ref sa), some (.int (i : Nat)), some (.ref x), some (.int (chg p (applyP p n (.strike (i : Int))))), some (.ref y), z1, z2, none, none] ∧ Same H1 H' ∧ HouseAt K C H' x lx qs nn ∧ Tw m p.1 ((p.2.1.eraseIdx i).take (p.2.1.length - 1 - j)) qs nn (5001 + j))
    ⟨_, _, _, _, rfl, sB, hx14, tw1'⟩ (fun _ _ _ _ _ => trivial) (fun j z σ H15 H16 hj q yy => ?_) (fun σ H15 q => ?_)
  · obtain ⟨z1, z2, qs, nn, rfl, s15', hx15, tw15⟩ := q
    obtain ⟨rfl, rfl⟩ := yy
    obtain ⟨dX, wX, x1, x2, x3⟩ := id hx15
    obtain ⟨q, hq, q1, q2, q3⟩ := tw15.last
    have hql : q.2.1.length = p.2.1.length - 1 - j := by rw [q2, List.length_take]; omega
    refine ⟨_, rfl, x, dX, _, rfl, x1, nStr _ _, _, rfl, x, dX, _, rfl, x1, x, lx, qs, nn, q, rfl, hx15, hq, _, rfl, by omega, _, _, rfl, rfl, ?_⟩
    rw [hql]
    refine (id ?_ : spDeed K C cx isStrike [.ref x, .int (((p.2.1.length - 1 - j : Nat) : Int) - 1)] _ _ _)
    obtain ⟨k0, hk0⟩ : ∃ k0, p.2.1.length - 1 - j = k0 + 1 := ⟨p.2.1.length - 1 - j - 1, by omega⟩
    rw [hk0] at tw15 ⊢
    refine deed_ok (d := .strike (((k0 + 1 : Nat) : Int) - 1)) (H1 := H1) ⟨_, rfl⟩ (.cons (.int _) .nil) hx15 tw15 (by omega) (if_neg fun z => z ⟨by omega, by rw [List.length_take]; omega⟩) s15' nx nlx fun q H17 hq' s17 fr17 hx17 => ?_
    refine ⟨_, _, _, _, rfl, s17, hx17, ?_⟩
    have := tw15.next (d := .strike (((k0 + 1 : Nat) : Int) - 1)) hq' (R' := p.1) (S' := (p.2.1.eraseIdx i).take k0) (by
      show (p.1, ((p.2.1.eraseIdx i).take (k0 + 1)).eraseIdx (((k0 + 1 : Nat) : Int) - 1).toNat) = _
      rw [show (((k0 + 1 : Nat) : Int) - 1).toNat = k0 by omega, take_pop]) (by rw [List.length_take]; omega)
    rw [show p.2.1.length - 1 - (j + 1) = k0 by omega]
    exact this
  obtain ⟨z1, z2, qs, nn, rfl, s15', hx15, tw15⟩ := q
  have eS : (p.2.1.eraseIdx i).take (p.2.1.length - 1 - (p.2.1.length - 1 - i)) = p.2.1.take (i + 0) := by
    rw [show p.2.1.length - 1 - (p.2.1.length - 1 - i) = i by omega, List.eraseIdx_eq_take_drop_succ, List.take_append_of_le_length (by rw [List.length_take]; omega), List.take_take, Nat.min_self]
    rfl
  rw [eS] at tw15
  clear hx14 sB
  -- .. and sent again
  refine ⟨_, rfl, _, rfl, _, rfl, sa, _, rfl, Same.tup s15' hsa1, fun t4 H16 s16 h16 => ?_⟩
  rw [RhR.cutV_drop] at h16
  refine ⟨t4, rfl, ⟨_, h16⟩, ?_⟩
  refine for_it walk_tup (fun j σ H' => ∃ z1 z2 qs nn, σ = [some (.ref t), some (.ref h), some (.ref ra), some (.ref sa), some (.int (i : Nat)), some (.ref x), some (.int (chg p (applyP p n (.strike (i : Int))))), some (.ref y), z1, z2, none, none] ∧ SqT K H' t4 ((p.2.1.map V.int).drop i) ∧ Same H1 H' ∧ HouseAt K C H' x lx qs nn ∧ Tw m p.1 (p.2.1.take (i + j)) qs nn (6001 + j))
    ⟨_, _, _, _, rfl, h16, s15'.trans s16, hx15.same s16, ⟨by have := tw15.1; omega, tw15.2⟩⟩ (fun _ _ _ _ ⟨_, _, _, _, _, s', _⟩ => s') (fun j z σ H17 H18 hj q yy => ?_) (fun σ H17 q => ?_)
  · obtain ⟨z1, z2, qs, nn, rfl, h17, s17, hx17, tw17⟩ := q
    obtain ⟨rfl, ex⟩ := yy
    rw [List.getElem?_drop] at ex
    obtain ⟨c, hc, rfl⟩ := map_at ex
    obtain ⟨dX, wX, x1, x2, x3⟩ := id hx17
    have hjl : i + j < p.2.1.length := (List.getElem?_eq_some_iff.mp hc).1
    refine ⟨_, rfl, x, dX, _, rfl, x1, nSnd _ _, _, rfl, ?_⟩
    refine (id ?_ : spDeed K C cx isSend [.ref x, .int c] _ _ _)
    refine deed_ok (d := .send c) (H1 := H1) ⟨_, rfl⟩ (.cons (.int _) .nil) hx17 tw17 (by omega) (send_ok ord.le ord.first hc) s17 nx nlx fun q H19 hq s19 fr19 hx19 => ?_
    refine ⟨_, _, _, _, rfl, fr19.tup h17, s19, hx19, ?_⟩
    exact tw17.next (d := .send c) hq (R' := p.1) (S' := p.2.1.take (i + j + 1)) (by rw [← take_snoc hc]; rfl) (by rw [List.length_take]; omega)
  obtain ⟨z1, z2, qs, nn, rfl, h17, s17, hx17, tw17⟩ := q
  rw [List.length_drop, List.length_map, show i + (p.2.1.length - i) = p.2.1.length by omega, List.take_length] at tw17
  clear h16 h17 s16 hx15 tw15 tw1' s15'
  -- the same as the house
  obtain ⟨dX, wX, x1, x2, x3⟩ := id hx17
  obtain ⟨q, hq, q1, q2, q3⟩ := tw17.last
  have ha17 := ha1.same s17
  refine ⟨_, rfl, _, rfl, x, h, dX, dx, _, _, rfl, rfl, x1, s17 _ _ e11, x, lx, h, l, _, _, _, _, q, p, rfl, hx17, hq, ha17, hp, q1, q2, fun H18 s18 => ⟨true, rfl, ?_⟩⟩
  refine ⟨_, rfl, ?_⟩
  refine ifF rfl ?_
  have s18' := s17.trans s18
  have hx18 := hx17.same s18
  have ht18 := ht1.same s18'
  have hsa18 := Same.tup s18' hsa1
  -- to another beat
  have hat : ∀ {k : Nat}, k < p.2.1.length → (p.2.1.map V.int)[k]? = some (.int (p.2.1.getD k 0)) := fun hk => at_map (getD_some hk)
  have hbd : ∀ {k : Nat}, k < p.2.1.length → -B0 ≤ p.2.1.getD k 0 ∧ p.2.1.getD k 0 ≤ B0 := fun hk => hB _ (List.mem_of_getElem? (getD_some hk))
  have hdr : ∀ y ∈ p.2.1.drop (i + 1), p.2.1.getD i 0 ≤ y := fun y hy => by
    obtain ⟨k0, hk, rfl⟩ := List.mem_iff_getElem.mp hy
    rw [List.length_drop] at hk
    rw [List.getElem_drop, List.getD_eq_getElem?_getD, List.getElem?_eq_getElem hi]
    exact (List.pairwise_iff_getElem.mp ord.le) i (i + 1 + k0) hi (by omega) (by omega)
  have hbef : ∀ y ∈ p.2.1.take i, y ≤ p.2.1.getD i 0 := fun y hy => by
    obtain ⟨k0, hk, rfl⟩ := List.mem_iff_getElem.mp hy
    rw [List.length_take] at hk
    rw [List.getElem_take, List.getD_eq_getElem?_getD, List.getElem?_eq_getElem hi]
    exact (List.pairwise_iff_getElem.mp ord.le) k0 i (by omega) hi (by omega)
  have hfst : ∀ f ∈ p.1.2, f ≤ p.2.1.getD i 0 := ord.first _ (List.mem_of_getElem? (getD_some hi))
  refine ⟨_, rfl, _, rfl, sa, _, _, .int (p.2.1.getD i 0), rfl, rfl, hsa18, atI_nat (hat hi), _, rfl, _, rfl, _, _, rfl, rfl, _, rfl, sa, _, rfl, .inr hsa18, ?_⟩
  rw [List.length_map]
  refine ⟨_, _, rfl, rfl, _, rfl, ?_⟩
  have hxt : x ≠ t := fun z => by obtain ⟨x0, x1, x2, e, _⟩ := ht1; rw [← z, nx] at e; cases e
  have hlxt : lx ≠ t := fun z => by obtain ⟨x0, x1, x2, e, _⟩ := ht1; rw [← z, nlx] at e; cases e
  have back : ∀ z, z ≠ t → H1 z = none → H z = none := fun z hz e => by
    cases e' : H z with
    | none => rfl
    | some o => have := fr1.keep _ _ e' (by simpa using hz); rw [e] at this; cases this
  obtain ⟨g, M, hg0, hg1, hg2, hM, hcase⟩ : ∃ g M : Int, 0 ≤ g ∧ g ≤ 300000000 ∧ (∀ y ∈ p.2.1.drop (i + 1), p.2.1.getD i 0 + g ≤ y) ∧ M = 1 + g ∧ (if i + 1 < p.2.1.length then g = p.2.1.getD (i + 1) 0 - p.2.1.getD i 0 else g = 50) := by
    by_cases h' : i + 1 < p.2.1.length
    · have hn : p.2.1.getD (i + 1) 0 ∈ p.2.1.drop (i + 1) := by
        rw [List.mem_iff_getElem?]
        exact ⟨0, by rw [List.getElem?_drop]; exact getD_some h'⟩
      refine ⟨p.2.1.getD (i + 1) 0 - p.2.1.getD i 0, _, by have := hdr _ hn; omega, by have := hbd hi; have := hbd h'; omega, fun y hy => ?_, rfl, by rw [if_pos h']⟩
      obtain ⟨k0, hk, rfl⟩ := List.mem_iff_getElem.mp hy
      rw [List.length_drop] at hk
      have hle : p.2.1.getD (i + 1) 0 ≤ (p.2.1.drop (i + 1))[k0] := by
        rw [List.getElem_drop, List.getD_eq_getElem?_getD, List.getElem?_eq_getElem h']
        rcases Nat.eq_zero_or_pos k0 with rfl | hk0
        · exact Int.le_refl _
        · exact (List.pairwise_iff_getElem.mp ord.le) (i + 1) (i + 1 + k0) h' (by omega) (by omega)
      omega
    · refine ⟨50, _, by omega, by omega, fun y hy => ?_, rfl, by rw [if_neg h']⟩
      rw [List.drop_eq_nil_of_le (by omega)] at hy
      cases hy
  refine (?main : ∀ K' : VK, K' (.int g) H18 → (if decide ((i : Int) + 1 < (p.2.1.length : Nat)) = true then tOp (rI0 fun i j => .int (i - j)) (tOp (rIxT K) (tVar 3) (tOp (rI0 fun i j => .int (i + j)) (tVar 4) (tC (.int 1)))) (tOp (rIxT K) (tVar 3) (tVar 4)) [some (V.ref t), some (V.ref h), some (V.ref ra), some (V.ref sa), some (V.int (i : Nat)), some (V.ref x), some (V.int (chg p (applyP p n (Deed.strike (i : Int))))), some (V.ref y), z1, z2, none, none] H18 K' else tC (.int 50) [some (V.ref t), some (V.ref h), some (V.ref ra), some (V.ref sa), some (V.int (i : Nat)), some (V.ref x), some (V.int (chg p (applyP p n (Deed.strike (i : Int))))), some (V.ref y), z1, z2, none, none] H18 K')) _ ?rest
  case main =>
    intro K' q
    by_cases h' : i + 1 < p.2.1.length
    · rw [if_pos h'] at hcase
      refine ifT (decide_eq_true (by omega)) ?_
      refine ⟨_, rfl, _, rfl, _, _, rfl, rfl, sa, _, _, .int (p.2.1.getD (i + 1) 0), rfl, rfl, hsa18, ?_, _, rfl, _, rfl, sa, _, _, .int (p.2.1.getD i 0), rfl, rfl, hsa18, atI_nat (hat hi), _, _, rfl, rfl, ?_⟩
      · exact atI_nat (j := i + 1) (hat h')
      · rw [hcase] at q
        exact q
    · rw [if_neg h'] at hcase
      refine ifF (decide_eq_false (by omega)) ?_
      rw [hcase] at q
      exact q
  case rest =>
    refine ⟨_, _, rfl, rfl, ?_⟩
    refine (id ?_ : spDraw [.ref t, .int (1 + g)] _ _ _)
    refine ⟨t, _, _, rfl, ht18, by omega, by omega, by omega, fun r H19 b0 b1 fr19 ht19 => ?_⟩
    refine ⟨_, _, rfl, rfl, ?_⟩
    have hx19 := hx18.fr fr19 (by simpa using hxt) (by simpa using hlxt)
    have ha19 := (ha1.same s18').fr fr19 (by simpa using hht) (by simpa using htl.symm)
    have hsa19 := fr19.tup hsa18
    have fr019 : Fr [t] H H19 := (fr1.trans (Fr.of s18')).trans fr19
    clear hx18 ht18 hsa18 hx17 ha17
    obtain ⟨dX, wX, x1, x2, x3⟩ := id hx19
    refine ⟨_, rfl, x, dX, _, rfl, x1, nMv _ _, _, rfl, _, rfl, rfl, rfl, ?_⟩
    refine (id ?_ : spDeed K C cx isMove (.ref x :: [.int (i : Nat), .int (p.2.1.getD i 0 + r)]) _ _ _)
    refine deed_ok (d := .move (i : Int) (p.2.1.getD i 0 + r)) (H1 := fun _ => none) ⟨_, _, rfl⟩ (.cons (.int _) (.cons (.int _) .nil)) hx19 tw17 (by omega) (move_ok hi (fun y hy => by have := hbef y hy; omega) (fun f hf => by have := hfst f hf; omega) fun y hy => by have := hg2 y hy; omega) (fun _ _ e => by cases e) rfl rfl fun q' H20 hq' _ fr20 hx20 => ?_
    rw [hq] at hq'
    cases hq'
    have hhx : h ≠ x := fun z => by rw [z, nx] at e11; cases e11
    have hhlx : h ≠ lx := fun z => by rw [z, nlx] at e11; cases e11
    obtain ⟨hlx', hllx⟩ : l ≠ x ∧ l ≠ lx := by
      obtain ⟨_, _, _, e, _⟩ := id ha1
      exact ⟨fun z => (by rw [z, nx] at e; cases e), fun z => (by rw [z, nlx] at e; cases e)⟩
    have ha20 := ha19.fr fr20 (by simp [hhx, hhlx]) (by simp [hlx', hllx])
    have hsa20 := fr20.tup hsa19
    have ht20 := ht19.fr fr20 (by simp [hxt.symm, hlxt.symm])
    have fr020 : Fr [t] H H20 := fr019.past fr20 fun z hz => .inr (by
      rcases List.mem_cons.mp hz with rfl | hz
      · exact back _ hxt nx
      · rw [List.mem_singleton.mp hz]; exact back _ hlxt nlx)
    have tw20 := tw17.next (d := .move (i : Int) (p.2.1.getD i 0 + r)) hq (R' := p.1) (S' := p.2.1.set i (p.2.1.getD i 0 + r)) rfl (by rw [List.length_set]; omega)
    obtain ⟨dX, wX, x1, x2, x3⟩ := id hx20
    -- and back
    refine ⟨_, rfl, _, rfl, x, dX, _, rfl, x1, nMv _ _, _, rfl, _, rfl, sa, _, _, .int (p.2.1.getD i 0), rfl, rfl, hsa20, atI_nat (hat hi), _, rfl, rfl, rfl, ?_⟩
    refine (id ?_ : spDeed K C cx isMove (.ref x :: [.int (i : Nat), .int (p.2.1.getD i 0)]) _ _ _)
    refine deed_ok (d := .move (i : Int) (p.2.1.getD i 0)) (H1 := fun _ => none) ⟨_, _, rfl⟩ (.cons (.int _) (.cons (.int _) .nil)) hx20 tw20 (by omega) (move_ok (by rw [List.length_set]; exact hi) (fun y hy => hbef y (by rwa [List.take_set_of_le (Nat.le_refl _)] at hy)) hfst fun y hy => hdr y (by rwa [List.drop_set_of_lt (Nat.lt_succ_self _)] at hy)) (fun _ _ e => by cases e) rfl rfl fun q' H21 hq' _ fr21 hx21 => ?_
    rw [List.getLast?_concat] at hq'
    cases hq'
    have eq2 : applyP (applyP q nn (.move (i : Int) (p.2.1.getD i 0 + r))) (applyN nn (.move (i : Int) (p.2.1.getD i 0 + r))) (.move (i : Int) (p.2.1.getD i 0)) = q := by
      obtain ⟨qa, qb, qc⟩ := q
      show (qa, ((qb.set i _).set i _), qc) = (qa, qb, qc)
      have e : (qb.set i (p.2.1.getD i 0 + r)).set i (p.2.1.getD i 0) = qb := by
        rw [List.set_set]
        have q2' : qb = p.2.1 := q2
        rw [q2']
        exact List.ext_getElem? fun j => by
          by_cases hj : i = j
          · subst hj; rw [List.getElem?_set_self hi, getD_some hi]
          · rw [List.getElem?_set_ne hj]
      rw [e]
    rw [eq2] at hx21 ⊢
    rw [chg_back q3.pg (q3.next (d := .move (i : Int) (p.2.1.getD i 0 + r))) rfl]
    have ha21 := ha20.fr fr21 (by simp [hhx, hhlx]) (by simp [hlx', hllx])
    have ht21 := ht20.fr fr21 (by simp [hxt.symm, hlxt.symm])
    have fr021 : Fr [t] H H21 := fr020.past fr21 fun z hz => .inr (by
      rcases List.mem_cons.mp hz with rfl | hz
      · exact back _ hxt nx
      · rw [List.mem_singleton.mp hz]; exact back _ hlxt nlx)
    refine ⟨rfl, _, rfl, ?_⟩
    refine ifT (by rw [decide_eq_true rfl]) ?_
    obtain ⟨dX, wX, x1, x2, x3⟩ := id hx21
    obtain ⟨dh, wh, h1, h2, h3⟩ := id ha21
    refine ⟨_, rfl, _, rfl, x, h, dX, dh, _, _, rfl, rfl, x1, h1, x, lx, h, l, _, _, _, _, q, p, rfl, hx21, List.getLast?_concat, ha21, hp, q1, q2, fun H22 s22 => ⟨true, rfl, ?_⟩⟩
    exact k _ (fr021.trans (Fr.of s22)) ((ht21.same s22).mono (by omega))
end
end Rh
end RhL10_
section RhMath2_
set_option Elab.async false
set_option linter.all false
set_option maxRecDepth 100000
/-! Plain laws: what stands after deeds that were not refused. -/
namespace Rh
structure Good (m : Nat) (B : Int) (rd : Road) (S : List Int) : Prop where
  legs : rd.1.length = m
  firsts : rd.2.length = m
  ok : ∀ g ∈ rd.1, LegOk g
  lo : ∀ x ∈ rd.2, -B ≤ x ∧ x ≤ B
  sets : ∀ x ∈ S, -B ≤ x ∧ x ≤ B
  le : S.Pairwise (· ≤ ·)
  first : ∀ x ∈ S, ∀ f ∈ rd.2, f ≤ x
theorem of_ite {α : Type} {c : Prop} {_ : Decidable c} {a : α} (h : (if c then none else some a) = none) : c := by
  by_cases hc : c
  · exact hc
  · rw [if_neg hc] at h; cases h
theorem of_ite_not {α : Type} {c : Prop} {_ : Decidable c} {a : α} {x : Option α} (h : (if ¬ c then some a else x) = none) : c ∧ x = none := by
  by_cases hc : c
  · rw [if_neg (fun z => z hc)] at h; exact ⟨hc, h⟩
  · rw [if_pos hc] at h; cases h
theorem last_le {L : List Int} {b : Int} (hs : L.Pairwise (· ≤ ·)) (h : ∀ x ∈ lastOf L, x ≤ b) : ∀ x ∈ L, x ≤ b := fun x hx => by
  obtain ⟨k, hk, rfl⟩ := List.mem_iff_getElem.mp hx
  have hl : L[L.length - 1]'(by omega) ∈ lastOf L := by
    unfold lastOf
    rw [List.mem_iff_getElem?]
    exact ⟨0, by rw [List.getElem?_drop, List.getElem?_eq_getElem (by omega)]; rfl⟩
  have h1 := h _ hl
  rcases Nat.lt_or_eq_of_le (show k ≤ L.length - 1 by omega) with h2 | h2
  · exact Int.le_trans ((List.pairwise_iff_getElem.mp hs) k (L.length - 1) hk (by omega) h2) h1
  · subst h2
    exact h1
theorem set_sorted {S : List Int} {i : Nat} {b : Int} (hs : S.Pairwise (· ≤ ·)) (h1 : ∀ x ∈ S.take i, x ≤ b) (h2 : ∀ x ∈ S.drop (i + 1), b ≤ x) : (S.set i b).Pairwise (· ≤ ·) := by
  rw [List.pairwise_iff_getElem] at hs ⊢
  intro j k hj hk hjk
  rw [List.length_set] at hj hk
  rw [List.getElem_set, List.getElem_set]
  by_cases e1 : i = j
  · rw [if_pos e1]
    by_cases e2 : i = k
    · omega
    · rw [if_neg e2]
      refine h2 _ ?_
      rw [List.mem_iff_getElem?]
      exact ⟨k - (i + 1), by rw [List.getElem?_drop, show i + 1 + (k - (i + 1)) = k by omega, List.getElem?_eq_getElem hk]⟩
  · rw [if_neg e1]
    by_cases e2 : i = k
    · rw [if_pos e2]
      refine h1 _ ?_
      rw [List.mem_iff_getElem?]
      exact ⟨j, by rw [List.getElem?_take, if_pos (by omega), List.getElem?_eq_getElem hj]⟩
    · rw [if_neg e2]
      exact hs j k hj hk hjk
theorem Good.mono {m : Nat} {B B' : Int} {rd : Road} {S : List Int} (h : Good m B rd S) (e : B ≤ B') : Good m B' rd S :=
  ⟨h.legs, h.firsts, h.ok, fun x hx => by have := h.lo x hx; omega, fun x hx => by have := h.sets x hx; omega, h.le, h.first⟩
theorem Good.next {m : Nat} {B : Int} {rd : Road} {S : List Int} {d : Deed} (g : Good m B rd S) (h : refus rd S d = none) (hd : DeedOk (B + 100) d) : Good m (B + 100) (applyS rd S d).1 (applyS rd S d).2 := by
  have g' := g.mono (B' := B + 100) (by omega)
  cases d with
  | send b =>
    have hc : ∀ x ∈ lastOf S ++ rd.2, x ≤ b := of_ite h
    have hl := last_le g.le fun x hx => hc x (List.mem_append_left _ hx)
    refine ⟨g.legs, g.firsts, g.ok, g'.lo, fun x hx => ?_, ?_, fun x hx f hf => ?_⟩
    · rcases List.mem_append.mp (show x ∈ S ++ [b] from hx) with z | z
      · exact g'.sets x z
      · rw [List.mem_singleton.mp z]; exact hd
    · show (S ++ [b]).Pairwise (· ≤ ·)
      rw [List.pairwise_append]
      exact ⟨g.le, List.pairwise_singleton _ _, fun x hx y hy => by rw [List.mem_singleton.mp hy]; exact hl x hx⟩
    · rcases List.mem_append.mp (show x ∈ S ++ [b] from hx) with z | z
      · exact g.first x z f hf
      · rw [List.mem_singleton.mp z]; exact hc f (List.mem_append_right _ hf)
  | move r b =>
    obtain ⟨h0, h⟩ := of_ite_not h
    obtain ⟨h1, h⟩ := of_ite_not h
    obtain ⟨h2, _⟩ := of_ite_not h
    have hl := last_le (g.le.sublist (List.take_sublist r.toNat S)) fun x hx => h1 x (List.mem_append_left _ hx)
    refine ⟨g.legs, g.firsts, g.ok, g'.lo, fun x hx => ?_, set_sorted g.le hl h2, fun x hx f hf => ?_⟩
    · rcases List.mem_or_eq_of_mem_set (show x ∈ S.set r.toNat b from hx) with z | z
      · exact g'.sets x z
      · rw [z]; exact hd
    · rcases List.mem_or_eq_of_mem_set (show x ∈ S.set r.toNat b from hx) with z | z
      · exact g.first x z f hf
      · rw [z]; exact h1 f (List.mem_append_right _ hf)
  | strike r =>
    exact ⟨g.legs, g.firsts, g.ok, g'.lo, fun x hx => g'.sets x (List.mem_of_mem_eraseIdx hx), g.le.sublist (List.eraseIdx_sublist ..), fun x hx => g.first x (List.mem_of_mem_eraseIdx hx)⟩
  | first s b =>
    obtain ⟨h0, h⟩ := of_ite_not h
    obtain ⟨h1, _⟩ := of_ite_not h
    refine ⟨g.legs, (List.length_set ..).trans g.firsts, g.ok, fun x hx => ?_, g'.sets, g.le, fun x hx f hf => ?_⟩
    · rcases List.mem_or_eq_of_mem_set (show x ∈ rd.2.set s.toNat b from hx) with z | z
      · exact g'.lo x z
      · rw [z]; exact hd
    · rcases List.mem_or_eq_of_mem_set (show f ∈ rd.2.set s.toNat b from hf) with z | z
      · exact g.first x hx f z
      · rw [z]; exact h1 x hx
  | leg s l =>
    refine ⟨(List.length_set ..).trans g.legs, g.firsts, fun x hx => ?_, g'.lo, g'.sets, g.le, g.first⟩
    rcases List.mem_or_eq_of_mem_set (show x ∈ rd.1.set s.toNat l from hx) with z | z
    · exact g.ok x z
    · rw [z]; exact hd
structure Stood (m : Nat) (rd0 : Road) (ps : List Page) (ds : List Deed) : Prop where
  len : ps.length = ds.length + 1
  zero : ∃ p, ps[0]? = some p ∧ p.1 = rd0 ∧ p.2.1 = []
  step : ∀ (i : Nat) (d : Deed) (p q : Page), ds[i]? = some d → ps[i]? = some p → ps[i + 1]? = some q → refus p.1 p.2.1 d = none ∧ applyS p.1 p.2.1 d = (q.1, q.2.1)
  good : ∀ (i : Nat) (p : Page), ps[i]? = some p → Good m (1001000 + 100 * i) p.1 p.2.1
theorem Stood.new {m : Nat} {rd : Road} (h : RdOk rd m 1001000) : Stood m rd [(rd, [], [])] [] := by
  refine ⟨rfl, ⟨_, rfl, rfl, rfl⟩, fun i d p q h => by simp at h, fun i p e => ?_⟩
  cases i with
  | succ i => simp at e
  | zero =>
    simp at e
    subst e
    exact ⟨h.legs, h.firsts, h.ok, fun x hx => (by have := h.lo x hx; omega), fun x hx => absurd hx List.not_mem_nil, List.Pairwise.nil, fun x hx => absurd hx List.not_mem_nil⟩
theorem Stood.last {m : Nat} {rd0 : Road} {ps : List Page} {ds : List Deed} {p : Page} (h : Stood m rd0 ps ds) (hp : ps.getLast? = some p) : ps[ds.length]? = some p := by
  rw [List.getLast?_eq_getElem?, h.len] at hp
  exact hp
theorem Stood.snoc {m : Nat} {rd0 : Road} {ps : List Page} {ds : List Deed} {p : Page} {d : Deed} {n B : Int} (h : Stood m rd0 ps ds) (hp : ps.getLast? = some p) (hr : refus p.1 p.2.1 d = none) (hd : DeedOk B d) (hB : B ≤ 1001000 + 100 * ds.length + 100) : Stood m rd0 (ps ++ [applyP p n d]) (ds ++ [d]) := by
  have hl := h.last hp
  have hd' : DeedOk (1001000 + 100 * ds.length + 100) d := by
    cases d with
    | send b => exact ⟨by have := hd.1; omega, by have := hd.2; omega⟩
    | move r b => exact ⟨by have := hd.1; omega, by have := hd.2; omega⟩
    | strike r => trivial
    | first r b => exact ⟨by have := hd.1; omega, by have := hd.2; omega⟩
    | leg r b => exact hd
  refine ⟨by rw [List.length_append, List.length_append, h.len]; rfl, ?_, fun i e q r h1 h2 h3 => ?_, fun i q e => ?_⟩
  · obtain ⟨z, hz, z1, z2⟩ := h.zero
    exact ⟨z, by rw [List.getElem?_append_left (by have := h.len; omega)]; exact hz, z1, z2⟩
  · have hi : i < ds.length + 1 := by have := (List.getElem?_eq_some_iff.mp h1).1; simpa using this
    rw [List.getElem?_append_left (by have := h.len; omega)] at h2
    by_cases e' : i = ds.length
    · subst e'
      rw [hl] at h2
      cases h2
      rw [List.getElem?_concat_length] at h1
      cases h1
      rw [← h.len, List.getElem?_concat_length] at h3
      cases h3
      exact ⟨hr, rfl⟩
    · rw [List.getElem?_append_left (by omega)] at h1
      rw [List.getElem?_append_left (by have := h.len; omega)] at h3
      exact h.step i e q r h1 h2 h3
  · by_cases e' : i = ps.length
    · subst e'
      rw [List.getElem?_concat_length] at e
      cases e
      have := (h.good _ _ hl).next hr hd'
      rw [h.len]
      exact this.mono (by omega)
    · have hi : i < ps.length + 1 := by have := (List.getElem?_eq_some_iff.mp e).1; simpa using this
      rw [List.getElem?_append_left (by omega)] at e
      exact h.good i q e
theorem Stood.undo {m : Nat} {rd0 : Road} {pre : List Page} {p : Page} {ds : List Deed} (h : Stood m rd0 (pre ++ [p]) ds) (hne : pre ≠ []) : Stood m rd0 pre (ds.take (ds.length - 1)) := by
  have hl := h.len
  have hpos := List.length_pos_iff.mpr hne
  rw [List.length_append, List.length_singleton] at hl
  have hin : ∀ {i : Nat} {q : Page}, pre[i]? = some q → (pre ++ [p])[i]? = some q := fun {i q} e => by
    rw [List.getElem?_append_left (List.getElem?_eq_some_iff.mp e).1]; exact e
  refine ⟨by rw [List.length_take]; omega, ?_, fun i d q r h1 h2 h3 => ?_, fun i q e => h.good i q (hin e)⟩
  · obtain ⟨z, hz, z1, z2⟩ := h.zero
    exact ⟨z, by rw [List.getElem?_append_left hpos] at hz; exact hz, z1, z2⟩
  · rw [List.getElem?_take] at h1
    split at h1
    · exact h.step i d q r h1 (hin h2) (hin h3)
    · cases h1
theorem HInv.pre {m B : Nat} {pre : List Page} {p : Page} {n : Int} (h : HInv m (pre ++ [p], n) B) (hne : pre ≠ []) : HInv m (pre, n) B :=
  ⟨hne, fun q hq => h.ok q (List.mem_append_left _ hq), h.le, by have := h.len; rw [List.length_append, List.length_singleton] at this; show pre.length ≤ _; omega⟩
theorem HInv.mono {m B B' : Nat} {ps : List Page} {n n' : Int} (h : HInv m (ps, n) B) (hn : n ≤ n') (hB : B ≤ B') (hB' : B' ≤ 900) : HInv m (ps, n') B' :=
  ⟨h.ne, fun q hq => by obtain ⟨h1, h2, h3⟩ := h.ok q hq; exact ⟨h1, fun x hx => Int.le_trans (h2 x hx) hn, by omega⟩, hB', by have := h.len; show ps.length ≤ _; have : ps.length ≤ B + 1000 := this; omega⟩
theorem HInv.new {m : Nat} {rd : Road} (h : RdOk rd m 1001000) : HInv m ([(rd, [], [])], 0) 0 :=
  ⟨by simp, fun q hq => by
    rw [List.mem_singleton.mp hq]
    exact ⟨⟨h.legs, h.firsts, (by have := h.few; omega), Nat.zero_le _, rfl, List.nodup_nil⟩, fun x hx => absurd hx List.not_mem_nil, Nat.le_refl _⟩, by omega, by simp⟩
end Rh
end RhMath2_
section RhL11_
set_option Elab.async false
set_option linter.all false
set_option maxRecDepth 100000
set_option maxHeartbeats 4000000
/-! A house after fourteen laps. -/
namespace Rh
open PySem PySem.Spec PyProof.Rows L2
section
variable {P : Program} {w : World} {K : PySem.W.Frag} {mg : Str → Option Value} {base : Heap} {C : Addr}
def spRight (K : PySem.W.Frag) : Sp := fun vs H Q _ => ∃ (t : Addr), vs = [.ref t] ∧ TapeAt H t 0 ∧ ∀ H', Fr [t] H H' → Q (.bl true) H'
theorem all_depth (rd : Road) (sets : List Int) (k : Int) : (allD rd sets k).depth ≤ 8 := by
  have h1 := dep_legs rd.1
  have h2 := dep_rows (booksM rd.1 rd.2 sets)
  simp only [allD, roadD, setsD, List.cons_append, List.nil_append, PyData.depth, PyData.depthAll, dep_ints]
  omega
theorem all_shaped (rd : Road) (sets : List Int) (k : Int) : SeqAt.shaped (allD rd sets k) = true := by
  have h := all_depth rd sets k
  unfold SeqAt.shaped
  rw [Bool.and_eq_true]
  refine ⟨by simp [allD, roadD, setsD, PyData.canLay0, PyData.canLayAll0, lay_legs, lay_ints, lay_rows], decide_eq_true ?_⟩
  omega
theorem wts_legs : ∀ ls : List Leg, weightOks (ls.map legD) = true
  | [] => rfl
  | l :: ls => by simp [weightOks, weightOk, legD, wts_legs ls]
theorem all_weight {m : Nat} {p : Page} (ok : PgOk m p) (k : Int) : weightOk (allD p.1 p.2.1 k) = true := by
  have h1 := ok.legs
  have h2 := ok.firsts
  have h3 := ok.few
  have h4 := ok.sets
  have hl : (booksM p.1.1 p.1.2 p.2.1).length = m + 1 := by rw [len_books _ _ _ (by rw [h1, h2]), h1]
  have hr : weightOks ((booksM p.1.1 p.1.2 p.2.1).map rowD) = true := wts_rows _ fun b hb => by rw [books_rows _ _ _ b hb]; omega
  have q1 : p.1.1.length ≤ 100000 := by omega
  have q2 : p.1.2.length ≤ 100000 := by omega
  have q3 : p.2.1.length ≤ 100000 := by omega
  have q4 : (booksM p.1.1 p.1.2 p.2.1).length + 3 ≤ 100000 := by omega
  simp [allD, roadD, setsD, weightOk, weightOks, wts_legs, wts_ints, hr, q1, q2, q3]
  omega
theorem runD_ok {S : HSt} {p : Page} {d : Deed} {ds : List Deed} (hp : S.1.getLast? = some p) (h : refus p.1 p.2.1 d = none) : runD S (d :: ds) = runD (S.1 ++ [applyP p S.2 d], applyN S.2 d) ds := by
  rw [runD]
  simp only [hp, h]
theorem runD_no {S : HSt} {p : Page} {d : Deed} {ds : List Deed} {z : Ex × Int} (hp : S.1.getLast? = some p) (h : refus p.1 p.2.1 d = some z) : runD S (d :: ds) = none := by
  rw [runD]
  simp only [hp, h]
theorem noLs_deeds : ∀ ds : List Deed, noLs (ds.map deedD) = true
  | [] => rfl
  | d :: ds => by rw [List.map_cons, noLs, noL_deed d, noLs_deeds ds]; rfl
abbrev nRight : List Str := ["_law_tape_here", "_law_road_here", "_law_house", "_law_stood", "_law_lap", "_law_page", "_law_deed_here", "_law_way", "_law_told", "_law_anew"]
theorem sc_right : FnScope nRight ["_law_tape_here"] (defScope s_law_right) := ⟨rfl, rfl, rfl, by decide +kernel, rfl, by decide +kernel, by decide +kernel⟩
theorem ok_right (B : Bn mg) (T : HT K mg C) (D : Dfn K mg "_law_right" s_law_right ["_law_tape_here"]) (h1 : MCal P w K mg base C CX0 "road" 1 ["self"] (spHRoad K C)) (h2 : MCal P w K mg base C CX0 "sets" 1 ["self"] (spHSets K C))
    (h3 : Cal P w K mg base CX0 "_law_road" 3 ["_law_tape_here", "_law_most"] (spLRoad K)) (h4 : Cal P w K mg base CX0 "_law_deed" 3 ["_law_tape_here", "_law_page"] (spLDeed K)) (h5 : MCal P w K mg base C CX0 "undo" 2 ["self"] (spUndo K C))
    (h6 : Cal P w K mg base CX0 "_law_row" 12 ["_law_house", "_law_deeds"] (spRow K C)) (h7 : Cal P w K mg base CX0 "_law_draw" 1 ["_law_tape_here", "_law_many"] spDraw) (h8 : Cal P w K mg base CX0 "_law_asked" 10 ["_law_house", "_law_deed_here"] (spAsked K C))
    (h9 : MCal P w K mg base C CX0 "__eq__" 2 ["self", "other"] (spHEq K C)) (h10 : Cal P w K mg base CX0 "_law_all" 7 ["_law_house"] (spAll K C)) (h11 : Cal P w K mg base CX0 "_law_same" 9 ["_law_found", "_law_due"] (spSame K 8))
    (h12 : MCal P w K mg base C CX0 "__init__" 1 ["self", "road"] (spHInit K C)) (h13 : Cal P w K mg base CX0 "_law_seen_right" 10 ["_law_tape_here", "_law_house"] (spSeen K C)) (h14 : Cal P w K mg base CX0 "_law_struck_right" 10 ["_law_tape_here", "_law_house"] (spStruck K C)) :
    Cal P w K mg base CX0 "_law_right" 13 ["_law_tape_here"] (spRight K) := by
  have nd := sc_right.nd
  obtain ⟨f1, fd1, G1, m1, b1⟩ := h1
  obtain ⟨f2, fd2, G2, m2, b2⟩ := h2
  obtain ⟨f3, fd3, G3, g3, k3, b3⟩ := h3
  obtain ⟨f4, fd4, G4, g4, k4, b4⟩ := h4
  obtain ⟨f5, fd5, G5, m5, b5⟩ := h5
  obtain ⟨f6, fd6, G6, g6, k6, b6⟩ := h6
  obtain ⟨f7, fd7, G7, g7, k7, b7⟩ := h7
  obtain ⟨f8, fd8, G8, g8, k8, b8⟩ := h8
  obtain ⟨f9, fd9, G9, m9, b9⟩ := h9
  obtain ⟨f10, fd10, G10, g10, k10, b10⟩ := h10
  obtain ⟨f11, fd11, G11, g11, k11, b11⟩ := h11
  obtain ⟨f12, fd12, G12, m12, b12⟩ := h12
  obtain ⟨f13, fd13, G13, g13, k13, b13⟩ := h13
  obtain ⟨f14, fd14, G14, g14, k14, b14⟩ := h14
  have TE9 : RhR.EqC K C f9 := ⟨m9.at_, T.ne, m9.fn, T.ob⟩
  refine D.cal sc_right (fun vs H Q E ⟨t, e, _⟩ => by rw [e]; rfl) (fun f cdv A outer s H vs Q E hr h => ?_)
  obtain ⟨t, rfl, ht, k⟩ := h
  refine ⟨_, PSs.nox (pss_cons (ps_set (i := 1) nd rfl (.inl rfl) (pe_call G3 (hr.mono (by decide)) (by rfl) g3 k3 b3 .nil pass0 (pa_cons (pv 0) (pa_cons pe_int pa_nil))))
      (pss_cons (ps_par (i := 2) (j := 3) rfl nd rfl rfl (by decide) rfl rfl (pa_cons (pe_make ⟨T.mks, m12.at_, m12.fn, T.kp⟩ G12 (hr.mono (by decide)) (by rfl) T.g b12 .nil pass0 (pa_cons (pv 1) pa_nil)) (pa_cons (pe_lst pa_nil) pa_nil)) (by rfl))
      (pss_cons (ps_for PassesOwn.never rfl (pi_range1 (by rfl) B.range (pa_cons pe_int pa_nil)) (pg_name (i := 4) nd rfl (.inl rfl)) (pss_cons (ps_set (i := 5) nd rfl (.inl rfl) (pe_tup (pa_cons (pe_meth0 (pv 2) T.cl m1 G1 (hr.mono (by decide)) b1 .nil pass0) (pa_cons (pe_meth0 (pv 2) T.cl m2 G2 (hr.mono (by decide)) b2 .nil pass0) (pa_cons (pe_tup pa_nil) pa_nil)))))
      (pss_cons (ps_par (i := 6) (j := 7) rfl nd rfl rfl (by decide) rfl rfl (pa_cons (pe_call G4 (hr.mono (by decide)) (by rfl) g4 k4 b4 .nil pass0 (pa_cons (pv 0) (pa_cons (pv 5) pa_nil))) (pa_cons (pe_call G7 (hr.mono (by decide)) (by rfl) g7 k7 b7 .nil pass0 (pa_cons (pv 0) (pa_cons pe_int pa_nil))) pa_nil)) (by rfl))
      (pss_one (ps_if (pt_cmpR op_eq (pv 7) pe_int (nomark _)) (pss_one (ps_set (i := 3) nd rfl (.inl rfl) (pe_slice sl_list (pv 3) po_none (po_some (pe_op op_sub (pe_callB call_len_seq (by rfl) B.len PySem.boot_len (pa_cons (pv 3) pa_nil)) (pe_callTy call_int1 (by rfl) B.int (by decide +kernel) (pa_cons (pe_meth0 (pv 2) T.cl m5 G5 (hr.mono (by decide)) b5 .nil pass0) pa_nil))))))) (pss_one (ps_if (pt_cmpR op_eq (pv 7) pe_int (nomark _)) (pss_cons (ps_set (i := 8) nd rfl (.inl rfl) (pe_call G6 (hr.mono (by decide)) (by rfl) g6 k6 b6 .nil pass0 (pa_cons (pv 2) (pa_cons (pe_lst (pa_cons (pv 6) (pa_cons (pe_call G4 (hr.mono (by decide)) (by rfl) g4 k4 b4 .nil pass0 (pa_cons (pv 0) (pa_cons (pv 5) pa_nil))) pa_nil))) pa_nil))))
      (pss_one (ps_set (i := 3) nd rfl (.inl rfl) (pe_op op_cat (pv 3) (pv 8))))) (pss_one (ps_if (pt_cmpR op_eq (pe_ix ix_tup (pe_call G8 (hr.mono (by decide)) (by rfl) g8 k8 b8 .nil pass0 (pa_cons (pv 2) (pa_cons (pv 6) pa_nil))) pe_int (fun _ _ => rfl)) pe_str (nomark _)) (pss_one (ps_set (i := 3) nd rfl (.inl rfl) (pe_op op_cat (pv 3) (pe_lst (pa_cons (pv 6) pa_nil))))) pss_nil)))))))))
      (pss_cons (ps_set (i := 9) nd rfl (.inl rfl) (pe_make ⟨T.mks, m12.at_, m12.fn, T.kp⟩ G12 (hr.mono (by decide)) (by rfl) T.g b12 .nil pass0 (pa_cons (pv 1) pa_nil)))
      (pss_cons (ps_for PassesOwn.never rfl (pi_list (pv 3)) (pg_name (i := 6) nd rfl (.inl rfl)) (pss_one (ps_if (pt_cmpR op_ne (pe_ix ix_tup (pe_call G8 (hr.mono (by decide)) (by rfl) g8 k8 b8 .nil pass0 (pa_cons (pv 9) (pa_cons (pv 6) pa_nil))) pe_int (fun _ _ => rfl)) pe_str (nomark _)) (pss_one (ps_ret pe_bl)) pss_nil)))
      (pss_cons (ps_if (PW.pt (pw_or (pt_cmpR (RhR.op_neO TE9 G9 (hr.mono (by decide)) b9 pass0) (pv 9) (pv 2) (nomark _)) (pw_or1 (pt_not (pt_val (pe_call G11 (hr.mono (by decide)) (by rfl) g11 k11 b11 .nil pass0 (pa_cons (pe_call G10 (hr.mono (by decide)) (by rfl) g10 k10 b10 .nil pass0 (pa_cons (pv 9) pa_nil)) (pa_cons (pe_call G10 (hr.mono (by decide)) (by rfl) g10 k10 b10 .nil pass0 (pa_cons (pv 2) pa_nil)) pa_nil)))))))) (pss_one (ps_ret pe_bl)) pss_nil)
      (pss_one (ps_ret (pe_and (pe_call G13 (hr.mono (by decide)) (by rfl) g13 k13 b13 .nil pass0 (pa_cons (pv 0) (pa_cons (pv 2) pa_nil))) (pe_one (pe_call G14 (hr.mono (by decide)) (by rfl) g14 k14 b14 .nil pass0 (pa_cons (pv 0) (pa_cons (pv 2) pa_nil))))))))))))), ?_⟩
  refine ⟨_, rfl, t, 0, rfl, ht, by omega, fun v rd m H1 fr1 hv okr ht1 => ?_⟩
  refine ⟨_, rfl, ?_⟩
  intro h dh nh ndh hne
  have sd := Same.upd (o := .own h) ndh
  have hv2 : Dp K (upd (upd H1 dh (.own h)) h (.ins C dh [])) v (roadD rd) := Dp.same (fun b o e => by rw [upd_ne (ne_of_none e nh)]; exact sd _ _ e) hv
  refine ⟨h, dh, v, rd, rfl, upd_same, hv2, fun l H2 kp nl ha2 => ⟨rfl, Nat.zero_le _, fun st nst => ⟨_, _, rfl, ?_⟩⟩⟩
  have s12 : Same H1 H2 := Same.made nh ndh kp
  have s2 := Same.upd (o := .lst []) nst
  have up : ∀ b o, H1 b = some o → upd (upd H1 dh (.own h)) h (.ins C dh []) b = some o := fun b o e => by rw [upd_ne (ne_of_none e nh)]; exact sd _ _ e
  have ha3 := ha2.same s2
  have fr03 : Fr [t] H _ := fr1.trans (Fr.of (s12.trans s2))
  have ht3 := ht1.same (s12.trans s2)
  have hv3 := Dp.same (s12.trans s2) hv
  have est : upd H2 st (.lst []) st = some (.lst []) := upd_same
  have hstl : st ≠ l := fun z => by obtain ⟨_, _, _, e, _⟩ := ha2; rw [← z, nst] at e; cases e
  have hstt : st ≠ t := fun z => by obtain ⟨_, _, _, e, _⟩ := ht1.same s12; rw [← z, nst] at e; cases e
  have nl0 : ∀ z, H1 z = none → H z = none ∨ z = t := fun z e => by
    by_cases hz : z = t
    · exact .inr hz
    · cases e' : H z with
      | none => exact .inl rfl
      | some o => have := fr1.keep _ _ e' (by simpa using hz); rw [e] at this; cases this
  have nh0 : H h = none := by
    rcases nl0 h nh with z | z
    · exact z
    · obtain ⟨_, _, _, e, _⟩ := ht1; rw [← z, nh] at e; cases e
  have nll0 : H l = none := by
    cases e : H1 l with
    | some o => rw [up _ _ e] at nl; cases nl
    | none =>
      rcases nl0 l e with z | z
      · exact z
      · obtain ⟨_, _, _, e', _⟩ := ht1; rw [← z, e] at e'; cases e'
  generalize (upd H2 st (.lst [])) = H3 at s2 ha3 fr03 ht3 hv3 est ⊢
  clear s2 nst ha2 kp nl hv2 sd up
  refine ⟨_, rfl, by omega, by omega, ?_⟩
  refine for_it (walk_range (lo := 0) (n := 14)) (fun j σ H' => ∃ z4 z5 z6 z7 z8 l ps n st vds ds, σ = [some (.ref t), some v, some (.ref h), some (.ref st), z4, z5, z6, z7, z8, none] ∧ Fr [t] H H' ∧ TapeAt H' t (100 + 100 * j) ∧ Dp K H' v (roadD rd) ∧ HouseAt K C H' h l ps n ∧ H l = none ∧ H' st = some (.lst vds) ∧ DpAll K H' vds (ds.map deedD) ∧ st ≠ l ∧ st ≠ t ∧ Stood m rd ps ds ∧ HInv m (ps, n) (2 * j) ∧ ds.length ≤ 2 * j)
    ⟨none, none, none, none, none, l, _, _, st, [], [], rfl, fr03, ht3, hv3, ha3, nll0, est, .nil, hstl, hstt, Stood.new okr, HInv.new okr, Nat.le_refl _⟩ (fun _ _ _ _ _ => trivial) (fun j z σ H4 H5 hj q yy => ?_) (fun σ H4 q => ?_)
  · obtain ⟨z4, z5, z6, z7, z8, l, ps, n, st, vds, ds, rfl, fr4, ht4, hv4, ha4, nl4, est4, dds4, hstl4, hstt4, sto, inv, hdl⟩ := q
    obtain ⟨rfl, rfl⟩ := yy
    have hN : (j : Int) < 14 := by omega
    obtain ⟨x0, x1, x2, et4, _⟩ := id ht4
    obtain ⟨dx, vs, e1, e2, e3⟩ := id ha4
    have hht : h ≠ t := fun z => by rw [z] at e1; rw [e1] at et4; cases et4
    have htH : H t ≠ none := fun z => by obtain ⟨_, _, _, e, _⟩ := ht; rw [z] at e; cases e
    have hlt : l ≠ t := fun z => htH (z ▸ nl4)
    have hsth : st ≠ h := fun z => by rw [z, e1] at est4; cases est4
    have hhl : h ≠ l := fun z => by rw [z, e2] at e1; cases e1
    obtain ⟨p, hp⟩ : ∃ p, ps.getLast? = some p := ⟨_, List.getLast?_eq_some_getLast inv.ne⟩
    have hok := inv.hok hp
    have gd := sto.good _ _ (sto.last hp)
    have hm8 := okr.few
    have hm1 := okr.pos
    have nR : (hF l n).lookup ("road" : Str) = none := hF_no l n (by decide +kernel) (by decide +kernel)
    have nS : (hF l n).lookup ("sets" : Str) = none := hF_no l n (by decide +kernel) (by decide +kernel)
    have nU : (hF l n).lookup ("undo" : Str) = none := hF_no l n (by decide +kernel) (by decide +kernel)
    refine ⟨_, rfl, h, dx, _, rfl, e1, nR, h, l, ps, n, p, rfl, ha4, hp, fun u hu => ?_⟩
    refine ⟨_, rfl, h, dx, _, rfl, e1, nS, h, l, ps, n, p, rfl, ha4, hp, fun w hw => ⟨Nat.zero_le _, fun e0 ne0 => ⟨(by show 3 ≤ sizeLine; decide), fun pg npg => ?_⟩⟩⟩
    have s5 := (Same.upd (o := .tup []) ne0).trans (Same.upd (o := .tup [u, w, .ref e0]) npg)
    have epg : SqT K (upd (upd H5 e0 (.tup [])) pg (.tup [u, w, .ref e0])) pg [u, w, .ref e0] := SqT.of upd_same
    generalize (upd (upd H5 e0 (.tup [])) pg (.tup [u, w, .ref e0])) = H6 at s5 epg ⊢
    have hu6 := Dp.same s5 hu
    have hw6 := Dp.same s5 hw
    have hset : p.2.1.length ≤ 900 := hok.few
    have dl1 : p.1.1.length = p.1.2.length := by rw [gd.legs, gd.firsts]
    have hB1 : (0 : Int) ≤ 1001000 + 100 * ds.length := by omega
    have hB2 : (1001000 + 100 * ds.length : Int) ≤ 100000000 := by omega
    refine ⟨_, rfl, _, rfl, t, pg, _, _, u, w, .ref e0, p.1, p.2.1, rfl, ht4.same s5, by omega, epg, hu6, hw6, dl1, by rw [gd.legs]; omega, by rw [gd.legs]; omega, hset, hB1, hB2, gd.lo, gd.sets, fun a1 d1 H7 fr7 hd1 okd1 ht7 => ?_⟩
    refine ⟨_, rfl, t, _, _, rfl, ht7, by omega, by omega, by omega, fun way H8 w0 w1 fr8 ht8 => ⟨_, _, rfl, ?_⟩⟩
    have fr48 : Fr [t] H5 H8 := ((Fr.of s5).trans fr7).trans fr8
    have ha8 := ha4.fr fr48 (by simpa using hht) (by simpa using hlt)
    have hv8 := Dp.fr fr48 (noL_road _) hv4
    have hd8 := Dp.fr fr8 (noL_deed _) hd1
    have est8 := fr48.keep _ _ est4 (by simpa using hstt4)
    have dds8 := DpAll.fr fr48 (noLs_deeds _) dds4
    have fr08 := fr4.trans fr48
    have epg8 := (fr7.trans fr8).tup epg
    have hu8 := Dp.fr (fr7.trans fr8) (noL_road _) hu6
    have hw8 := Dp.fr (fr7.trans fr8) (noL_sets _) hw6
    have hvl : vds.length = ds.length := by rw [DpAll.length dds4, List.length_map]
    clear hd1 epg hu hw hu6 hw6 ht4 ha4 hv4 e2 e3 et4 ht7 est4 dds4 fr48 fr4 s5
    obtain ⟨dx8, vs8, e18, e28, e38⟩ := id ha8
    refine ⟨_, rfl, rfl, _, rfl, ?_⟩
    by_cases w00 : way = 0
    · refine ifT (eq_int w00) ?_
      obtain ⟨pre, rfl⟩ : ∃ pre, ps = pre ++ [p] := List.getLast?_eq_some_iff.mp hp
      refine ⟨_, rfl, _, rfl, st, _, rfl, .inl (SqL.of est8), _, rfl, h, dx8, _, rfl, e18, nU, h, l, pre, p, n, rfl, ha8, fun e => ?_, fun e H9 fr9 ha9 => ?_⟩
      · subst e
        have hz : ds.length = 0 := by have := sto.len; simpa using this.symm
        refine .inr ⟨_, rfl, _, _, rfl, rfl, _, rfl, st, _, rfl, SqL.of est8, fun q nq => ?_⟩
        have ec : cutV vds none (some ((vds.length : Int) - (if false = true then 1 else 0))) = vds := by
          rw [show ((vds.length : Int) - (if false = true then 1 else 0)) = ((vds.length : Nat) : Int) by simp, RhR.cutV_take, List.take_length]
        have sq := Same.upd (o := .lst (cutV vds none (some ((vds.length : Int) - (if false = true then 1 else 0))))) nq
        have hqt : q ≠ t := fun z => by obtain ⟨_, _, _, e, _⟩ := ht8; rw [← z, nq] at e; cases e
        have hql : q ≠ l := fun z => by rw [← z, nq] at e28; cases e28
        refine ⟨_, _, _, _, _, l, _, n, q, vds, ds, rfl, fr08.trans (Fr.of sq), (ht8.same sq).mono (by omega), Dp.same sq hv8, ha8.same sq, nl4, ?_, DpAll.same sq dds8, hql, hqt, sto, inv.mono (Int.le_refl _) (by omega) (by omega), by omega⟩
        rw [upd_same, ec]
      · refine .inr ⟨_, rfl, _, _, rfl, rfl, _, rfl, st, _, rfl, SqL.of (fr9.keep _ _ est8 (by simp [hsth, hstl4])), fun q nq => ?_⟩
        have ec : cutV vds none (some ((vds.length : Int) - (if true = true then 1 else 0))) = vds.take (ds.length - 1) := by
          have hlen := sto.len
          have hpos := List.length_pos_iff.mpr e
          rw [List.length_append, List.length_singleton] at hlen
          rw [show ((vds.length : Int) - (if true = true then 1 else 0)) = ((ds.length - 1 : Nat) : Int) by simp; omega, RhR.cutV_take]
        have sq := Same.upd (o := .lst (cutV vds none (some ((vds.length : Int) - (if true = true then 1 else 0))))) nq
        have ht9 := ht8.fr fr9 (by simp [hht.symm, hlt.symm])
        obtain ⟨dx9, vs9, e19, e29, e39⟩ := id ha9
        have hqt : q ≠ t := fun z => by obtain ⟨_, _, _, e, _⟩ := ht9; rw [← z, nq] at e; cases e
        have hql : q ≠ l := fun z => by rw [← z, nq] at e29; cases e29
        have fr09 : Fr [t] H H9 := fr08.past fr9 (by simp [nh0, nl4])
        refine ⟨_, _, _, _, _, l, _, n, q, vds.take (ds.length - 1), ds.take (ds.length - 1), rfl, fr09.trans (Fr.of sq), (ht9.same sq).mono (by omega), Dp.same sq (Dp.fr fr9 (noL_road _) hv8), ha9.same sq, nl4, ?_, ?_, hql, hqt, sto.undo e, (inv.pre e).mono (Int.le_refl _) (by omega) (by omega), by rw [List.length_take]; omega⟩
        · rw [upd_same, ec]
        · rw [List.map_take]
          exact DpAll.take _ (DpAll.same sq (DpAll.fr fr9 (noLs_deeds _) dds8))
    refine ifF (ne_int w00) ?_
    refine ⟨_, rfl, rfl, _, rfl, ?_⟩
    by_cases w11 : way = 1
    · refine ifT (eq_int w11) ?_
      refine ⟨_, rfl, _, rfl, _, rfl, _, rfl, t, pg, _, _, u, w, .ref e0, p.1, p.2.1, rfl, ht8, by omega, epg8, hu8, hw8, dl1, by rw [gd.legs]; omega, by rw [gd.legs]; omega, hset, hB1, hB2, gd.lo, gd.sets, fun a2 d2 H9 fr9 hd2 okd2 ht9 => ⟨(by show 2 ≤ sizeLine; decide), fun dl ndl => ?_⟩⟩
      have sd := Same.upd (o := .lst [.ref a1, .ref a2]) ndl
      have edl : upd H9 dl (.lst [.ref a1, .ref a2]) dl = some (.lst [.ref a1, .ref a2]) := upd_same
      have fr8d : Fr [t] H8 _ := fr9.trans (Fr.of sd)
      have had := ha8.fr fr8d (by simpa using hht) (by simpa using hlt)
      have hvd := Dp.fr fr8d (noL_road _) hv8
      have hdl1 := Dp.fr fr8d (noL_deed _) hd8
      have hdl2 := Dp.same sd hd2
      have estd := fr8d.keep _ _ est8 (by simpa using hstt4)
      have ddsd := DpAll.fr fr8d (noLs_deeds _) dds8
      have fr0d := fr08.trans fr8d
      have htd := ht9.same sd
      obtain ⟨_, _, edh, edl', _⟩ := id had
      have hdll : dl ≠ l := fun z => by
        have e := fr9.keep _ _ e28 (by simpa using hlt)
        rw [← z, ndl] at e
        cases e
      generalize (upd H9 dl (.lst [.ref a1, .ref a2])) = Hd at sd edl fr8d had hvd hdl1 hdl2 estd ddsd fr0d htd edh edl' ⊢
      have hdlh : dl ≠ h := fun z => by rw [z, edh] at edl; cases edl
      refine ⟨h, l, dl, (ps, n), m, 2 * j, [d1, d2], [.ref a1, .ref a2], rfl, edl, .cons hdl1 (.cons hdl2 .nil), hdll, had, inv, by show 2 * j + 2 ≤ 900; omega, fun S' e H10 fr10 ha10 => ?_, fun e l' n' q H10 hn fr10 nl' ha10 hq => ?_⟩
      · -- both stood
        have hl0 := sto.len
        cases r1 : refus p.1 p.2.1 d1 with
        | some z => rw [runD_no (S := (ps, n)) hp r1] at e; cases e
        | none =>
          rw [runD_ok (S := (ps, n)) hp r1] at e
          have hp2 : (ps ++ [applyP p n d1]).getLast? = some (applyP p n d1) := List.getLast?_concat
          cases r2 : refus (applyP p n d1).1 (applyP p n d1).2.1 d2 with
          | some z => rw [runD_no (S := (ps ++ [applyP p n d1], applyN n d1)) hp2 r2] at e; cases e
          | none =>
            rw [runD_ok (S := (ps ++ [applyP p n d1], applyN n d1)) hp2 r2] at e
            obtain rfl : (ps ++ [applyP p n d1] ++ [applyP (applyP p n d1) (applyN n d1) d2], applyN (applyN n d1) d2) = S' := Option.some.inj e
            have sto1 := sto.snoc (n := n) hp r1 okd1 (by omega)
            have sto2 := sto1.snoc (n := applyN n d1) hp2 r2 okd2 (by rw [List.length_append, List.length_singleton]; omega)
            have inv1 := inv.next (d := d1) hp (by omega)
            have inv2 := inv1.next (d := d2) hp2 (by omega)
            have est10 := fr10.keep _ _ estd (by simp [hsth, hstl4])
            have edl10 := fr10.keep _ _ edl (by simp [hdlh, hdll])
            have fr010 : Fr [t] H H10 := fr0d.past fr10 (by simp [nh0, nl4])
            have ht10 := htd.fr fr10 (by simp [hht.symm, hlt.symm])
            obtain ⟨_, _, _, e210, _⟩ := id ha10
            refine ⟨_, rfl, _, rfl, st, dl, vds, [.ref a1, .ref a2], rfl, rfl, est10, edl10, by show vds.length + 2 ≤ sizeLine; rw [sizeLine_eq]; omega, fun D nD => ?_⟩
            have sD := Same.upd (o := .lst (vds ++ [.ref a1, .ref a2])) nD
            have hDt : D ≠ t := fun z => by obtain ⟨_, _, _, e, _⟩ := ht10; rw [← z, nD] at e; cases e
            have hDl : D ≠ l := fun z => by rw [← z, nD] at e210; cases e210
            refine ⟨_, _, _, _, _, l, _, _, D, vds ++ [.ref a1, .ref a2], ds ++ [d1] ++ [d2], rfl, fr010.trans (Fr.of sD), (ht10.same sD).mono (by omega), Dp.same sD (Dp.fr fr10 (noL_road _) hvd), ha10.same sD, nl4, upd_same, ?_, hDl, hDt, sto2, inv2.mono (Int.le_refl _) (by omega) (by omega), by rw [List.length_append, List.length_append, List.length_singleton, List.length_singleton]; omega⟩
            rw [List.map_append, List.map_append, List.append_assoc]
            exact DpAll.same sD (DpAll.app (DpAll.fr fr10 (noLs_deeds _) ddsd) (.cons (Dp.fr fr10 (noL_deed _) hdl1) (.cons (Dp.fr fr10 (noL_deed _) hdl2) .nil)))
      · -- refused whole
        have est10 := fr10.keep _ _ estd (by simp [hsth, hstl4])
        have fr010 : Fr [t] H H10 := fr0d.past fr10 (by simp [nh0, nl4])
        have ht10 := htd.fr fr10 (by simp [hht.symm, hlt.symm])
        obtain ⟨_, _, _, e210, _⟩ := id ha10
        have nl'0 : H l' = none := by
          cases e : H l' with
          | none => rfl
          | some o =>
            by_cases z : l' = t
            · obtain ⟨_, _, _, e', _⟩ := htd; rw [← z, nl'] at e'; cases e'
            · have := fr0d.keep _ _ e (by simpa using z); rw [nl'] at this; cases this
        refine ⟨_, rfl, _, rfl, st, q, vds, [], rfl, rfl, est10, hq, by show vds.length + 0 ≤ sizeLine; rw [sizeLine_eq]; omega, fun D nD => ?_⟩
        have sD := Same.upd (o := .lst (vds ++ [])) nD
        have hDt : D ≠ t := fun z => by obtain ⟨_, _, _, e, _⟩ := ht10; rw [← z, nD] at e; cases e
        have hDl : D ≠ l' := fun z => by rw [← z, nD] at e210; cases e210
        refine ⟨_, _, _, _, _, l', ps, n', D, vds ++ [], ds, rfl, fr010.trans (Fr.of sD), (ht10.same sD).mono (by omega), Dp.same sD (Dp.fr fr10 (noL_road _) hvd), ha10.same sD, nl'0, upd_same, ?_, hDl, hDt, sto, inv.mono hn (by omega) (by omega), by omega⟩
        rw [List.append_nil]
        exact DpAll.same (by rw [List.append_nil] at sD; exact sD) (DpAll.fr fr10 (noLs_deeds _) ddsd)
    refine ifF (ne_int w11) ?_
    have hi11 : ps.length ≤ 100000 := by have := sto.len; omega
    refine ⟨_, rfl, _, rfl, h, l, ps, n, p, m, d1, .ref a1, rfl, hd8, ha8, hp, hi11, hok, fun hno H9 t' x fr9 ha9 ht' => ?_, fun hyes H9 t' z x s9 ht' hne => ?_⟩
    · refine ⟨t', _, _, _, rfl, rfl, SqT.of ht', atI_nat (j := 0) rfl, rfl, _, rfl, ?_⟩
      refine ifT (by rw [decide_eq_true rfl]) ?_
      refine ⟨_, rfl, _, rfl, Nat.succ_le_of_lt (by decide), fun q nq => ?_⟩
      have sq := Same.upd (o := .lst [.ref a1]) nq
      have est9 := fr9.keep _ _ est8 (by simp [hsth, hstl4])
      have fr09 : Fr [t] H H9 := fr08.past fr9 (by simp [nh0, nl4])
      have ht9 := ht8.fr fr9 (by simp [hht.symm, hlt.symm])
      obtain ⟨dx9, vs9, e19, e29, e39⟩ := id ha9
      refine ⟨st, q, vds, [.ref a1], rfl, rfl, sq _ _ est9, upd_same, by rw [List.length_singleton, sizeLine_eq]; omega, fun D nD => ?_⟩
      have sD := Same.upd (o := .lst (vds ++ [.ref a1])) nD
      have sqD := sq.trans sD
      have hDt : D ≠ t := fun z => by obtain ⟨_, _, _, e, _⟩ := ht9.same sq; rw [← z, nD] at e; cases e
      have hDl : D ≠ l := fun z => by have := sq _ _ e29; rw [← z, nD] at this; cases this
      refine ⟨_, _, _, _, _, l, _, _, D, vds ++ [.ref a1], ds ++ [d1], rfl, fr09.trans (Fr.of sqD), (ht9.same sqD).mono (by omega), Dp.same sqD (Dp.fr fr9 (noL_road _) hv8), ha9.same sqD, nl4, upd_same, ?_, hDl, hDt, sto.snoc hp hno okd1 (by omega), (inv.next hp (by omega)).mono (Int.le_refl _) (by omega) (by omega), by rw [List.length_append, List.length_singleton]; omega⟩
      rw [List.map_append]
      exact DpAll.same sqD (DpAll.app (DpAll.fr fr9 (noLs_deeds _) dds8) (.cons (Dp.fr fr9 (noL_deed _) hd8) .nil))
    · refine ⟨t', _, _, _, rfl, rfl, SqT.of ht', atI_nat (j := 0) rfl, rfl, _, rfl, ?_⟩
      refine ifF (decide_eq_false fun e => hne (by injection e)) ?_
      exact ⟨_, _, _, _, _, l, ps, n, st, vds, ds, rfl, fr08.trans (Fr.of s9), (ht8.same s9).mono (by omega), Dp.same s9 hv8, ha8.same s9, nl4, s9 _ _ est8, DpAll.same s9 dds8, hstl4, hstt4, sto, inv.mono (Int.le_refl _) (by omega) (by omega), by omega⟩
  obtain ⟨z4, z5, z6, z7, z8, l, ps, n, st, vds, ds, rfl, fr4, ht4, hv4, ha4, nl4, est4, dds4, hstl4, hstt4, sto, inv, hdl⟩ := q
  -- the same deeds on a house made anew
  refine ⟨_, rfl, ?_⟩
  intro y dy ny ndy hney
  have sd := Same.upd (o := .own y) ndy
  have up : ∀ b o, H4 b = some o → upd (upd H4 dy (.own y)) y (.ins C dy []) b = some o := fun b o e => by rw [upd_ne (ne_of_none e ny)]; exact sd _ _ e
  have hv5 : Dp K (upd (upd H4 dy (.own y)) y (.ins C dy [])) v (roadD rd) := Dp.same up hv4
  refine ⟨y, dy, v, rd, rfl, upd_same, hv5, fun ly H5 kp nly hy5 => ⟨rfl, ?_⟩⟩
  have s45 : Same H4 H5 := Same.made ny ndy kp
  have nly4 : H4 ly = none := by
    cases e : H4 ly with
    | none => rfl
    | some o => have := up _ _ e; rw [nly] at this; cases this
  clear up hv5 sd kp nly
  have hvl : vds.length = ds.length := by rw [DpAll.length dds4, List.length_map]
  refine ⟨_, rfl, st, rfl, ⟨vds, SqL.of (s45 _ _ est4)⟩, ?_⟩
  refine for_it walk_list (fun j σ H' => ∃ x6 psy nn q p, σ = [some (.ref t), some v, some (.ref h), some (.ref st), z4, z5, x6, z7, z8, some (.ref y)] ∧ Same H4 H' ∧ HouseAt K C H' y ly psy nn ∧ psy.getLast? = some q ∧ ps[j]? = some p ∧ q.1 = p.1 ∧ q.2.1 = p.2.1 ∧ HInv m (psy, nn) j ∧ psy.length = j + 1)
    (by
      obtain ⟨p0, h0, h1, h2⟩ := sto.zero
      exact ⟨_, _, _, (rd, [], []), p0, rfl, s45, hy5, rfl, h0, h1.symm, h2.symm, HInv.new okr, rfl⟩) (fun j σ H' _ ⟨_, _, _, _, _, _, s', _⟩ => SqL.of (s' _ _ est4)) (fun j z σ H6 H7 hj q yy => ?_) (fun σ H6 q => ?_)
  · obtain ⟨x6, psy, nn, q, p, rfl, s6, hy6, hq, hp, q1, q2, iv, hl6⟩ := q
    obtain ⟨rfl, ex⟩ := yy
    obtain ⟨dd, hdd, dz⟩ := DpAll.at' dds4 ex
    obtain ⟨d, hd, rfl⟩ := map_at hdd
    obtain ⟨p', hp'⟩ : ∃ p', ps[j + 1]? = some p' := ⟨_, List.getElem?_eq_getElem (by have := sto.len; omega)⟩
    obtain ⟨r1, r2⟩ := sto.step j d p p' hd hp hp'
    refine ⟨_, rfl, _, rfl, y, ly, psy, nn, q, m, d, z, rfl, Dp.same s6 dz, hy6, hq, by omega, iv.hok hq, fun hno H8 t' x fr8 hy8 ht' => ?_, fun ⟨kk, hk⟩ => ?_⟩
    · refine ⟨t', _, _, _, rfl, rfl, SqT.of ht', atI_nat (j := 0) rfl, rfl, _, rfl, ?_⟩
      refine ifF (by rw [decide_eq_true rfl]; rfl) ?_
      refine ⟨_, _, _, _, p', rfl, Fr.beside s6 fr8 (by simp [ny, nly4]), hy8, List.getLast?_concat, hp', ?_, ?_, iv.next hq (by omega), by rw [List.length_append, hl6]; rfl⟩
      · show (applyS q.1 q.2.1 d).1 = p'.1
        rw [q1, q2, r2]
      · show (applyS q.1 q.2.1 d).2 = p'.2.1
        rw [q1, q2, r2]
    · rw [q1, q2, r1] at hk
      cases hk
  obtain ⟨x6, psy, nn, q, p, rfl, s6, hy6, hq, hp, q1, q2, iv, hl6⟩ := q
  have hlast : ps.getLast? = some p := by
    rw [List.getLast?_eq_getElem?, sto.len, Nat.add_sub_cancel, ← hvl]
    exact hp
  have gd := sto.good _ _ (sto.last hlast)
  have hok := inv.hok hlast
  have hoky := iv.hok hq
  have hll := sto.len
  obtain ⟨x0, x1, x2, et4, _⟩ := id ht4
  obtain ⟨dH, wH, e1, e2, e3⟩ := id ha4
  have hht : h ≠ t := fun z => by rw [z] at e1; rw [e1] at et4; cases et4
  have htH : H t ≠ none := fun z => by obtain ⟨_, _, _, e, _⟩ := ht; rw [z] at e; cases e
  have hlt : l ≠ t := fun z => htH (z ▸ nl4)
  have ha6 := ha4.same s6
  obtain ⟨dY, wY, y1, y2, y3⟩ := id hy6
  refine ⟨_, rfl, _, rfl, y, h, dY, dH, _, _, rfl, rfl, y1, s6 _ _ e1, y, ly, h, l, psy, ps, nn, n, q, p, rfl, hy6, hq, ha6, hlast, q1, q2, fun H7 s7 => ⟨true, rfl, ?_⟩⟩
  refine ⟨_, rfl, ?_⟩
  refine ifF rfl ?_
  refine ⟨_, rfl, y, ly, psy, nn, q, m, rfl, hy6.same s7, hq, hoky.pg, fun qa H8 s8 hqa => ⟨_, rfl, h, l, ps, n, p, m, rfl, (ha6.same s7).same s8, hlast, hok.pg, fun qb H9 s9 hqb => ?_⟩⟩
  rw [q1, q2, hl6, hvl, ← hll] at hqa
  refine ⟨.ref qa, .ref qb, _, rfl, Dp.same s9 hqa, hqb, all_shaped _ _ _, all_depth _ _ _, all_weight hok.pg _, fun H10 s10 => ⟨_, rfl, ?_⟩⟩
  refine iteF ?_
  have s4t := (((s6.trans s7).trans s8).trans s9).trans s10
  have fr10 := fr4.trans (Fr.of s4t)
  have ha10 := ha4.same s4t
  have ht10 := ht4.same s4t
  refine ⟨_, rfl, _, rfl, t, h, l, ps, n, p, m, _, rfl, ht10, by omega, hlt.symm, ha10, hlast, hok.pg, okr.pos, hok.few, gd.ok, fun H11 fr11 ht11 => ⟨_, rfl, ?_⟩⟩
  refine ifT rfl ?_
  have ha11 := ha10.fr fr11 (by simpa using hht) (by simpa using hlt)
  exact ⟨_, rfl, _, rfl, t, h, l, ps, n, p, m, _, _, rfl, ht11, by omega, hlt.symm, ha11, hlast, hok, by omega, ⟨gd.le, gd.first⟩, by omega, by omega, gd.sets, fun H12 fr12 _ => k _ ((fr10.trans fr11).trans fr12)⟩
end
end Rh
end RhL11_
section RhL12_
set_option Elab.async false
set_option linter.all false
set_option maxRecDepth 100000
set_option maxHeartbeats 4000000
/-! law(script). -/
namespace Rh
open PySem PySem.Spec PyProof.Rows L2
section
variable {P : Program} {w : World} {K : PySem.W.Frag} {mg : Str → Option Value} {base : Heap} {C : Addr}
def spLaw (K : PySem.W.Frag) : Sp := fun vs H Q _ => ∃ (a : Addr) (ns : List Int), vs = [.ref a] ∧ SqL K H a (ns.map V.int) ∧ ns.length ≤ 63 ∧ ∀ H', Q (.bl true) H'
abbrev nLaw : List Str := ["_law_script", "_law_cells", "_law_k"]
theorem sc_law : FnScope nLaw ["_law_script"] (defScope s_law) := ⟨rfl, rfl, rfl, by decide +kernel, rfl, by decide +kernel, by decide +kernel⟩
theorem ok_law {f : Addr} {fd : FuncData} (B : Bn mg) (D : FunD K "law" "law" (defArgs s_law) (defBody s_law) (defScope s_law) [] [] f fd) (h1 : Cal P w K mg base CX0 "_law_folded" 1 ["_law_script", "_law_many"] (spFolded K)) (h2 : Cal P w K mg base CX0 "_law_right" 13 ["_law_tape_here"] (spRight K))
    (h3 : Cal P w K mg base CX0 "_law_tape" 1 ["_law_script", "_law_k"] spTape) : FnOk P w K mg base CX0 14 f fd ["_law_script"] (spLaw K) := by
  have nd := sc_law.nd
  obtain ⟨f1, fd1, G1, g1, k1, b1⟩ := h1
  obtain ⟨f2, fd2, G2, g2, k2, b2⟩ := h2
  obtain ⟨f3, fd3, G3, g3, k3, b3⟩ := h3
  refine D.ok sc_law (fun vs H Q E ⟨a, ns, e, _⟩ => by rw [e]; rfl) (fun cdv A outer s H vs Q E hr h => ?_)
  obtain ⟨a, ns, rfl, ha, hl, k⟩ := h
  refine ⟨_, PSs.nox (pss_cons (ps_set (i := 1) nd rfl (.inl rfl) (pe_ifExp (pt_cmpR (op_neD hr.units) (pv 0) (pe_lst pa_nil) (nomark _)) (pe_call G1 (hr.mono (by decide)) (by rfl) g1 k1 b1 .nil pass0 (pa_cons (pv 0) (pa_cons pe_int pa_nil))) (pe_lst (pa_cons pe_int pa_nil))))
      (pss_cons (ps_for PassesOwn.never rfl (pi_range1 (by rfl) B.range (pa_cons (pe_callB call_len_seq (by rfl) B.len PySem.boot_len (pa_cons (pv 1) pa_nil)) pa_nil)) (pg_name (i := 2) nd rfl (.inl rfl)) (pss_one (ps_if (pt_not (pt_val (pe_call G2 (hr.mono (by decide)) (by rfl) g2 k2 b2 .nil pass0 (pa_cons (pe_call G3 (hr.mono (by decide)) (by rfl) g3 k3 b3 .nil pass0 (pa_cons (pv 1) (pa_cons (pv 2) pa_nil))) pa_nil)))) (pss_one (ps_ret pe_bl)) pss_nil)))
      (pss_one (ps_ret pe_bl)))), ?_⟩
  refine ⟨_, rfl, Nat.zero_le _, fun e0 ne0 => ?_⟩
  have s1 := Same.upd (o := .lst []) ne0
  have sh1 : SeqAt.shaped (.list (ns.map PyData.int)) = true := shaped_row ns
  refine ⟨.list (ns.map .int), .list [], .lst (s1.seq ha) DpAll.ints, .lst (SqL.of upd_same) .nil, sh1, by decide +kernel, _, rfl, ?_⟩
  by_cases hns : ns = []
  · subst hns
    refine ifF (by decide +kernel) ?_
    refine ⟨(by show 1 ≤ sizeLine; decide), fun c nc => ?_⟩
    have hil : IL (upd (upd H e0 (.lst [])) c (.lst [V.int 0])) c [0] := upd_same
    have hl2 : ([0] : List Int).length ≤ 2 := by decide
    generalize (upd (upd H e0 (.lst [])) c (.lst [V.int 0])) = H2 at hil ⊢
    obtain ⟨cs, hcs⟩ : ∃ cs : List Int, cs = [0] := ⟨_, rfl⟩
    rw [← hcs] at hil hl2
    refine ⟨_, rfl, c, _, rfl, .inl (SqL.of hil), ?_⟩
    rw [List.length_map]
    refine ⟨_, rfl, by omega, by omega, ?_⟩
    refine for_it (walk_range (lo := 0) (n := cs.length)) (fun j σ H' => ∃ z2, σ = [some (.ref a), some (.ref c), z2] ∧ IL H' c cs) ⟨none, rfl, hil⟩ (fun _ _ _ _ _ => trivial) (fun j z σ H4 H5 hj q yy => ?_) (fun σ H4 q => ?_)
    · obtain ⟨z2, rfl, il4⟩ := q
      obtain ⟨rfl, rfl⟩ := yy
      refine ⟨_, rfl, _, rfl, c, cs, j, (by show [V.ref c, V.int (0 + (j : Nat))] = _; rw [Int.zero_add]), il4, hj, hl2, fun t H6 s6 nt ht => ?_⟩
      refine ⟨t, rfl, ht, fun H7 fr7 => ⟨_, rfl, ?_⟩⟩
      refine iteF ?_
      have hct : c ≠ t := fun z => by have il5 : _ = some (HO.lst _) := il4; rw [← z] at nt; rw [nt] at il5; cases il5
      exact ⟨_, rfl, fr7.keep _ _ (s6 _ _ il4) (by simpa using hct)⟩
    · exact k _
  · refine ifT (by
      cases ns with
      | nil => exact absurd rfl hns
      | cons n ns => rfl) ?_
    refine ⟨_, rfl, a, ns, rfl, s1.seq ha, hl, hns, fun c cs H2 s2 nc hil hc1 hl2 => ?_⟩
    refine ⟨_, rfl, c, _, rfl, .inl (SqL.of hil), ?_⟩
    rw [List.length_map]
    refine ⟨_, rfl, by omega, by omega, ?_⟩
    refine for_it (walk_range (lo := 0) (n := cs.length)) (fun j σ H' => ∃ z2, σ = [some (.ref a), some (.ref c), z2] ∧ IL H' c cs) ⟨none, rfl, hil⟩ (fun _ _ _ _ _ => trivial) (fun j z σ H4 H5 hj q yy => ?_) (fun σ H4 q => ?_)
    · obtain ⟨z2, rfl, il4⟩ := q
      obtain ⟨rfl, rfl⟩ := yy
      refine ⟨_, rfl, _, rfl, c, cs, j, (by show [V.ref c, V.int (0 + (j : Nat))] = _; rw [Int.zero_add]), il4, hj, hl2, fun t H6 s6 nt ht => ?_⟩
      refine ⟨t, rfl, ht, fun H7 fr7 => ⟨_, rfl, ?_⟩⟩
      refine iteF ?_
      have hct : c ≠ t := fun z => by have il5 : _ = some (HO.lst _) := il4; rw [← z] at nt; rw [nt] at il5; cases il5
      exact ⟨_, rfl, fr7.keep _ _ (s6 _ _ il4) (by simpa using hct)⟩
    · exact k _
end
end Rh
end RhL12_
section RhJoin_
set_option Elab.async false
set_option linter.all false
set_option maxRecDepth 100000
/-! From what the heap holds to law's promise. -/
namespace Rh
open PySem PySem.Spec PyProof.Rows L2
section
structure Fc (w : World) (K : PySem.W.Frag) (mg : Str → Option Value) (C : Addr) (cx : Ex → Addr) : Prop where
  B : Bn mg
  T : HT K mg C
  Z : Sizes w K mg
  W : Wd K mg
  X : X4 K mg cx
  eR : ExT K mg "NoRider" "rider" "LookupError" "LookupError.__new__" "LookupError.__init__" RhX.bmL s_NoRider_init "NoRider.__init__" (cx .rider)
  eS : ExT K mg "NoStation" "station" "LookupError" "LookupError.__new__" "LookupError.__init__" RhX.bmL s_NoStation_init "NoStation.__init__" (cx .station)
  eE : ExT K mg "Early" "beat" "RuntimeError" "RuntimeError.__new__" "RuntimeError.__init__" RhX.bmR s_Early_init "Early.__init__" (cx .early)
  eL : ExT K mg "Late" "beat" "RuntimeError" "RuntimeError.__new__" "RuntimeError.__init__" RhX.bmR s_Late_init "Late.__init__" (cx .late)
  mv : MvFn K C
  mdo : DoFn K C
  d_bounds_of : Dfn K mg "bounds_of" s_bounds_of ["leg"]
  d_held : Dfn K mg "held" s_held ["leg", "stand"]
  d_ride_of : Dfn K mg "ride_of" s_ride_of ["leg", "stand"]
  d_horses_at : Dfn K mg "horses_at" s_horses_at ["first", "comes"]
  d_comes_next : Dfn K mg "comes_next" s_comes_next ["leg", "first", "comes"]
  d_books_to : Dfn K mg "books_to" s_books_to ["road", "sets", "station"]
  d_comings : Dfn K mg "comings" s_comings ["road", "sets"]
  d_events : Dfn K mg "events" s_events ["road", "sets", "beat"]
  d_is_deed : Dfn K mg "is_deed" s_is_deed ["thing"]
  d_with_one : Dfn K mg "with_one" s_with_one ["some", "at", "one"]
  d_changed : Dfn K mg "changed" s_changed ["ahead", "behind"]
  d_three_by : Dfn K mg "three_by" s_three_by ["road", "books", "rider", "station"]
  d_word_of : Dfn K mg "word_of" s_word_of ["beats", "beat"]
  d_behind_step : Dfn K mg "behind_step" s_behind_step ["word", "rider", "station"]
  d_end_step : Dfn K mg "end_step" s_end_step ["road", "sets", "rider", "station"]
  d_chain : Dfn K mg "chain" s_chain ["road", "sets", "rider", "station"]
  d_is_step : Dfn K mg "is_step" s_is_step ["thing"]
  d_shows_chain : Dfn K mg "shows_chain" s_shows_chain ["road", "sets", "rider", "station", "thing"]
  d_root : Dfn K mg "root" s_root ["road", "sets", "rider", "station"]
  d_law_tape : Dfn K mg "_law_tape" s_law_tape ["_law_script", "_law_k"]
  d_law_draw : Dfn K mg "_law_draw" s_law_draw ["_law_tape_here", "_law_many"]
  d_law_folded : Dfn K mg "_law_folded" s_law_folded ["_law_script", "_law_many"]
  d_law_same : Dfn K mg "_law_same" s_law_same ["_law_found", "_law_due"]
  d_law_leg : Dfn K mg "_law_leg" s_law_leg ["_law_tape_here"]
  d_law_road : Dfn K mg "_law_road" s_law_road ["_law_tape_here", "_law_most"]
  d_law_books : Dfn K mg "_law_books" s_law_books ["_law_road_here", "_law_sets"]
  d_law_deed : Dfn K mg "_law_deed" s_law_deed ["_law_tape_here", "_law_page"]
  d_law_asked : Dfn K mg "_law_asked" s_law_asked ["_law_house", "_law_deed_here"]
  d_law_named : Dfn K mg "_law_named" s_law_named ["_law_caught"]
  d_law_all : Dfn K mg "_law_all" s_law_all ["_law_house"]
  d_law_seen_right : Dfn K mg "_law_seen_right" s_law_seen_right ["_law_tape_here", "_law_house"]
  d_law_struck_right : Dfn K mg "_law_struck_right" s_law_struck_right ["_law_tape_here", "_law_house"]
  d_law_apart : Dfn K mg "_law_apart" s_law_apart ["_law_house", "_law_twin", "_law_at"]
  d_law_right : Dfn K mg "_law_right" s_law_right ["_law_tape_here"]
  d_law_row : Dfn K mg "_law_row" s_law_row ["_law_house", "_law_deeds"]
  m_road : Mfn K C "road" "House.road" s_House_road ["self"]
  m_sets : Mfn K C "sets" "House.sets" s_House_sets ["self"]
  m_deeds : Mfn K C "deeds" "House.deeds" s_House_deeds ["self"]
  m_look_rider : Mfn K C "look_rider" "House.look_rider" s_House_look_rider ["self", "rider"]
  m_look_station : Mfn K C "look_station" "House.look_station" s_House_look_station ["self", "station", "most"]
  m_look_early : Mfn K C "look_early" "House.look_early" s_House_look_early ["self", "beat", "ahead"]
  m_done : Mfn K C "done" "House.done" s_House_done ["self", "road", "sets", "persons"]
  m_send : Mfn K C "send" "House.send" s_House_send ["self", "beat"]
  m_strike : Mfn K C "strike" "House.strike" s_House_strike ["self", "rider"]
  m_first : Mfn K C "first" "House.first" s_House_first ["self", "station", "beat"]
  m_leg : Mfn K C "leg" "House.leg" s_House_leg ["self", "station", "told"]
  m_init : Mfn K C "__init__" "House.__init__" s_House_init ["self", "road"]
  m_undo : Mfn K C "undo" "House.undo" s_House_undo ["self"]
  m_book : Mfn K C "book" "House.book" s_House_book ["self", "station"]
  m_coming : Mfn K C "coming" "House.coming" s_House_coming ["self", "rider", "station"]
  m_as_of : Mfn K C "as_of" "House.as_of" s_House_as_of ["self", "many"]
  m_twin : Mfn K C "twin" "House.twin" s_House_twin ["self"]
  m_eq : Mfn K C "__eq__" "House.__eq__" s_House_eq ["self", "other"]
  m_len : Mfn K C "__len__" "House.__len__" s_House_len ["self"]
  m_one_done : Mfn K C "one_done" "House.one_done" s_House_one_done ["self", "deed"]
theorem join {P : Program} {w : World} {K : PySem.W.Frag} {mg : Str → Option Value} {C f : Addr} {fd : FuncData} {cx : Ex → Addr} (F : Fc w K mg C cx) (L : FunD K "law" "law" (defArgs s_law) (defBody s_law) (defScope s_law) [] [] f fd) (base : Heap) : FnOk P w K mg base CX0 14 f fd ["_law_script"] (spLaw K) := by
  have B := F.B
  have T := F.T
  have bounds := ok_bounds (P := P) (w := w) (base := base) F.d_bounds_of
  have held := ok_held B F.d_held bounds
  have ride := ok_ride F.d_ride_of held
  have horses := ok_horses (P := P) (w := w) (base := base) F.d_horses_at
  have next := ok_next B F.d_comes_next horses ride
  have books := ok_books B F.d_books_to next
  have comings := ok_comings B F.d_comings books
  have events := ok_events B F.d_events books
  have isdeed := ok_isdeed (P := P) (base := base) B F.Z F.d_is_deed
  have withOne := ok_with (P := P) (w := w) (base := base) F.d_with_one
  have changed := ok_changed B F.d_changed comings
  have XRr : XR P w K mg base (cx .rider) := ex_noRider B F.eR
  have XSs : XS P w K mg base (cx .station) := ex_noStation B F.eS
  have XEe : XE' P w K mg base (cx .early) := ex_early B F.eE
  have XLl : XL P w K mg base (cx .late) := ex_late B F.eL
  have road := ok_hroad (P := P) (w := w) (base := base) T F.m_road
  have sets := ok_hsets (P := P) (w := w) (base := base) T F.m_sets
  have deeds := ok_hdeeds (P := P) (w := w) (base := base) B T F.m_deeds
  have lookr := ok_lookr B T XRr F.m_look_rider sets
  have looks := ok_looks XSs F.m_look_station
  have looke := ok_looke B T XEe F.m_look_early road
  have done := ok_done T F.m_done changed
  have send := ok_send (cx := cx) T F.m_send looke done
  have strike := ok_strike (cx := cx) T F.m_strike lookr done
  have first := ok_first (cx := cx) B T XLl F.m_first looks done withOne
  have leg := ok_leg (cx := cx) B T F.m_leg looks done withOne
  have move := ok_move (cx := cx) B T XLl F.mv lookr done withOne looke
  have F5 : Five P w K mg base C cx := ⟨send, move, strike, first, leg⟩
  have hinit := ok_hinit (P := P) (w := w) (base := base) T F.m_init
  have undo := ok_undo T F.m_undo deeds
  have book := ok_book B T F.m_book road sets looks books
  have coming := ok_coming T F.m_coming lookr book
  have asof := ok_asof T F.m_as_of deeds road hinit
  have twin := ok_twin T F.m_twin deeds asof
  have heq := ok_heq B T F.m_eq road sets
  have hlen := ok_hlen B T F.m_len sets
  have one := ok_one T F.m_one_done F5
  have doo := ok_do B T F.mdo isdeed one
  have three := ok_three F.d_three_by horses
  have word := ok_word (P := P) (w := w) (base := base) F.W F.d_word_of
  have behind := ok_behind (P := P) (w := w) (base := base) F.W F.d_behind_step
  have ende := ok_end (P := P) (w := w) (base := base) F.W F.d_end_step
  have chain := ok_chain B F.d_chain books word three behind ende
  have isstep := ok_isstep (P := P) (w := w) (base := base) B F.W F.d_is_step
  have shows_ := ok_shows B F.W F.d_shows_chain books isstep three behind ende
  have root := ok_root F.d_root chain
  have tape := ok_tape (P := P) (w := w) (base := base) B F.d_law_tape
  have draw := ok_draw (P := P) (w := w) (base := base) F.d_law_draw
  have folded := ok_folded (P := P) (w := w) (base := base) B F.d_law_folded
  have same := ok_same (P := P) (w := w) (base := base) B F.d_law_same 8
  have lleg := ok_lleg B F.d_law_leg draw
  have lroad := ok_lroad B F.d_law_road draw lleg
  have lbooks := ok_lbooks (P := P) (w := w) (base := base) B F.d_law_books
  have ldeed := ok_ldeed B F.d_law_deed draw lleg
  have named := ok_named (P := P) (w := w) (base := base) B F.X F.d_law_named
  have asked := ok_asked T F.X F.d_law_asked F5 named
  have row := ok_row T F.X F.d_law_row doo
  have all := ok_all B T F.d_law_all road sets deeds book
  have apart := ok_apart B T F.d_law_apart road book
  have seen := ok_seen B T F.d_law_seen_right road sets book lbooks same comings draw events chain shows_ coming root
  have struck := ok_struck B T F.d_law_struck_right road sets book twin strike send draw apart heq move hlen hinit
  have right := ok_right B T F.d_law_right road sets lroad ldeed undo row draw asked heq all same hinit seen struck
  exact ok_law B L folded right tape
end
end Rh
end RhJoin_
section RhEnd_
set_option Elab.async false
set_option linter.all false
set_option maxRecDepth 100000
/-! The facts from what the head's heap shows. -/
namespace Rh
open PySem PySem.Spec PyProof.Rows L2
section
variable {K : PySem.W.Frag} {mg : Str → Option Value} {C f : Addr} {oc kV dc pm cd ct : Value} {od an : Option Addr} {sl : Array (Option Value)} {x q : Str} {st : Stmt} {ps : List Str}
theorem fund_of (l : K.lookup f = some ⟨oc, od, .func (PySem.W.fnOf x q (defArgs st) (defBody st) (defScope st) .none kV dc pm an cd ct), sl⟩) (c : PySem.W.codeIn K cd q = true) (k : PySem.W.keepIn K (.ref f) = true) :
    FunD K x q (defArgs st) (defBody st) (defScope st) [] [] f (PySem.W.fnOf x q (defArgs st) (defBody st) (defScope st) .none kV dc pm an cd ct) :=
  ⟨⟨oc, od, .none, kV, dc, pm, an, cd, ct, sl, rfl, l, c, .inl ⟨rfl, rfl⟩, .inl rfl⟩, k⟩
abbrev Bnds (x q : Str) (st : Stmt) (ps : List Str) : Prop := ∀ (kV doc pm : Value) (an : Option Addr) (cdv ct : Value) (us : List Value), us.length = ps.length → bindArgs (PySem.W.fnOf x q (defArgs st) (defBody st) (defScope st) .none kV doc pm an cdv ct) ⟨us, []⟩ = pure (ps.zip us)
theorem dfn_of {h : Heap} (X : K.In h) (G : h.Ns mainGlobals mg) (a : PySem.W.nsIn K mainGlobals x = some (some (.ref f))) (l : K.lookup f = some ⟨oc, od, .func (PySem.W.fnOf x x (defArgs st) (defBody st) (defScope st) .none kV dc pm an cd ct), sl⟩) (c : PySem.W.codeIn K cd x = true) (k : PySem.W.keepIn K (.ref f) = true)
    (hb : Bnds x x st ps) : Dfn K mg x st ps := ⟨f, _, fund_of l c k, PySem.W.mg_of X G a, (fund_of l c k).bindsN hb⟩
theorem mfn_of (a : PySem.W.findIn K (.ref C) x = some (some (.ref f))) (i : PySem.W.isFn K (.ref f) = true) (l : K.lookup f = some ⟨oc, od, .func (PySem.W.fnOf x q (defArgs st) (defBody st) (defScope st) .none kV dc pm an cd ct), sl⟩) (c : PySem.W.codeIn K cd q = true) (k : PySem.W.keepIn K (.ref f) = true)
    (hb : Bnds x q st ps) : Mfn K C x q st ps := ⟨f, _, fund_of l c k, ⟨a, i, k⟩, (fund_of l c k).bindsN hb⟩
theorem bd_bounds_of : Bnds "bounds_of" "bounds_of" s_bounds_of ["leg"] := fun _ _ _ _ _ _ us hl => match us, hl with | [_], _ => rfl
theorem bd_held : Bnds "held" "held" s_held ["leg", "stand"] := fun _ _ _ _ _ _ us hl => match us, hl with | [_, _], _ => rfl
theorem bd_ride_of : Bnds "ride_of" "ride_of" s_ride_of ["leg", "stand"] := fun _ _ _ _ _ _ us hl => match us, hl with | [_, _], _ => rfl
theorem bd_horses_at : Bnds "horses_at" "horses_at" s_horses_at ["first", "comes"] := fun _ _ _ _ _ _ us hl => match us, hl with | [_, _], _ => rfl
theorem bd_comes_next : Bnds "comes_next" "comes_next" s_comes_next ["leg", "first", "comes"] := fun _ _ _ _ _ _ us hl => match us, hl with | [_, _, _], _ => rfl
theorem bd_books_to : Bnds "books_to" "books_to" s_books_to ["road", "sets", "station"] := fun _ _ _ _ _ _ us hl => match us, hl with | [_, _, _], _ => rfl
theorem bd_comings : Bnds "comings" "comings" s_comings ["road", "sets"] := fun _ _ _ _ _ _ us hl => match us, hl with | [_, _], _ => rfl
theorem bd_events : Bnds "events" "events" s_events ["road", "sets", "beat"] := fun _ _ _ _ _ _ us hl => match us, hl with | [_, _, _], _ => rfl
theorem bd_is_deed : Bnds "is_deed" "is_deed" s_is_deed ["thing"] := fun _ _ _ _ _ _ us hl => match us, hl with | [_], _ => rfl
theorem bd_with_one : Bnds "with_one" "with_one" s_with_one ["some", "at", "one"] := fun _ _ _ _ _ _ us hl => match us, hl with | [_, _, _], _ => rfl
theorem bd_changed : Bnds "changed" "changed" s_changed ["ahead", "behind"] := fun _ _ _ _ _ _ us hl => match us, hl with | [_, _], _ => rfl
theorem bd_three_by : Bnds "three_by" "three_by" s_three_by ["road", "books", "rider", "station"] := fun _ _ _ _ _ _ us hl => match us, hl with | [_, _, _, _], _ => rfl
theorem bd_word_of : Bnds "word_of" "word_of" s_word_of ["beats", "beat"] := fun _ _ _ _ _ _ us hl => match us, hl with | [_, _], _ => rfl
theorem bd_behind_step : Bnds "behind_step" "behind_step" s_behind_step ["word", "rider", "station"] := fun _ _ _ _ _ _ us hl => match us, hl with | [_, _, _], _ => rfl
theorem bd_end_step : Bnds "end_step" "end_step" s_end_step ["road", "sets", "rider", "station"] := fun _ _ _ _ _ _ us hl => match us, hl with | [_, _, _, _], _ => rfl
theorem bd_chain : Bnds "chain" "chain" s_chain ["road", "sets", "rider", "station"] := fun _ _ _ _ _ _ us hl => match us, hl with | [_, _, _, _], _ => rfl
theorem bd_is_step : Bnds "is_step" "is_step" s_is_step ["thing"] := fun _ _ _ _ _ _ us hl => match us, hl with | [_], _ => rfl
theorem bd_shows_chain : Bnds "shows_chain" "shows_chain" s_shows_chain ["road", "sets", "rider", "station", "thing"] := fun _ _ _ _ _ _ us hl => match us, hl with | [_, _, _, _, _], _ => rfl
theorem bd_root : Bnds "root" "root" s_root ["road", "sets", "rider", "station"] := fun _ _ _ _ _ _ us hl => match us, hl with | [_, _, _, _], _ => rfl
theorem bd_law_tape : Bnds "_law_tape" "_law_tape" s_law_tape ["_law_script", "_law_k"] := fun _ _ _ _ _ _ us hl => match us, hl with | [_, _], _ => rfl
theorem bd_law_draw : Bnds "_law_draw" "_law_draw" s_law_draw ["_law_tape_here", "_law_many"] := fun _ _ _ _ _ _ us hl => match us, hl with | [_, _], _ => rfl
theorem bd_law_folded : Bnds "_law_folded" "_law_folded" s_law_folded ["_law_script", "_law_many"] := fun _ _ _ _ _ _ us hl => match us, hl with | [_, _], _ => rfl
theorem bd_law_same : Bnds "_law_same" "_law_same" s_law_same ["_law_found", "_law_due"] := fun _ _ _ _ _ _ us hl => match us, hl with | [_, _], _ => rfl
theorem bd_law_leg : Bnds "_law_leg" "_law_leg" s_law_leg ["_law_tape_here"] := fun _ _ _ _ _ _ us hl => match us, hl with | [_], _ => rfl
theorem bd_law_road : Bnds "_law_road" "_law_road" s_law_road ["_law_tape_here", "_law_most"] := fun _ _ _ _ _ _ us hl => match us, hl with | [_, _], _ => rfl
theorem bd_law_books : Bnds "_law_books" "_law_books" s_law_books ["_law_road_here", "_law_sets"] := fun _ _ _ _ _ _ us hl => match us, hl with | [_, _], _ => rfl
theorem bd_law_deed : Bnds "_law_deed" "_law_deed" s_law_deed ["_law_tape_here", "_law_page"] := fun _ _ _ _ _ _ us hl => match us, hl with | [_, _], _ => rfl
theorem bd_law_asked : Bnds "_law_asked" "_law_asked" s_law_asked ["_law_house", "_law_deed_here"] := fun _ _ _ _ _ _ us hl => match us, hl with | [_, _], _ => rfl
theorem bd_law_named : Bnds "_law_named" "_law_named" s_law_named ["_law_caught"] := fun _ _ _ _ _ _ us hl => match us, hl with | [_], _ => rfl
theorem bd_law_all : Bnds "_law_all" "_law_all" s_law_all ["_law_house"] := fun _ _ _ _ _ _ us hl => match us, hl with | [_], _ => rfl
theorem bd_law_seen_right : Bnds "_law_seen_right" "_law_seen_right" s_law_seen_right ["_law_tape_here", "_law_house"] := fun _ _ _ _ _ _ us hl => match us, hl with | [_, _], _ => rfl
theorem bd_law_struck_right : Bnds "_law_struck_right" "_law_struck_right" s_law_struck_right ["_law_tape_here", "_law_house"] := fun _ _ _ _ _ _ us hl => match us, hl with | [_, _], _ => rfl
theorem bd_law_apart : Bnds "_law_apart" "_law_apart" s_law_apart ["_law_house", "_law_twin", "_law_at"] := fun _ _ _ _ _ _ us hl => match us, hl with | [_, _, _], _ => rfl
theorem bd_law_right : Bnds "_law_right" "_law_right" s_law_right ["_law_tape_here"] := fun _ _ _ _ _ _ us hl => match us, hl with | [_], _ => rfl
theorem bd_law_row : Bnds "_law_row" "_law_row" s_law_row ["_law_house", "_law_deeds"] := fun _ _ _ _ _ _ us hl => match us, hl with | [_, _], _ => rfl
theorem bd_law : Bnds "law" "law" s_law ["_law_script"] := fun _ _ _ _ _ _ us hl => match us, hl with | [_], _ => rfl
theorem bm_road : Bnds "road" "House.road" s_House_road ["self"] := fun _ _ _ _ _ _ us hl => match us, hl with | [_], _ => rfl
theorem bm_sets : Bnds "sets" "House.sets" s_House_sets ["self"] := fun _ _ _ _ _ _ us hl => match us, hl with | [_], _ => rfl
theorem bm_deeds : Bnds "deeds" "House.deeds" s_House_deeds ["self"] := fun _ _ _ _ _ _ us hl => match us, hl with | [_], _ => rfl
theorem bm_look_rider : Bnds "look_rider" "House.look_rider" s_House_look_rider ["self", "rider"] := fun _ _ _ _ _ _ us hl => match us, hl with | [_, _], _ => rfl
theorem bm_look_station : Bnds "look_station" "House.look_station" s_House_look_station ["self", "station", "most"] := fun _ _ _ _ _ _ us hl => match us, hl with | [_, _, _], _ => rfl
theorem bm_look_early : Bnds "look_early" "House.look_early" s_House_look_early ["self", "beat", "ahead"] := fun _ _ _ _ _ _ us hl => match us, hl with | [_, _, _], _ => rfl
theorem bm_done : Bnds "done" "House.done" s_House_done ["self", "road", "sets", "persons"] := fun _ _ _ _ _ _ us hl => match us, hl with | [_, _, _, _], _ => rfl
theorem bm_send : Bnds "send" "House.send" s_House_send ["self", "beat"] := fun _ _ _ _ _ _ us hl => match us, hl with | [_, _], _ => rfl
theorem bm_strike : Bnds "strike" "House.strike" s_House_strike ["self", "rider"] := fun _ _ _ _ _ _ us hl => match us, hl with | [_, _], _ => rfl
theorem bm_first : Bnds "first" "House.first" s_House_first ["self", "station", "beat"] := fun _ _ _ _ _ _ us hl => match us, hl with | [_, _, _], _ => rfl
theorem bm_leg : Bnds "leg" "House.leg" s_House_leg ["self", "station", "told"] := fun _ _ _ _ _ _ us hl => match us, hl with | [_, _, _], _ => rfl
theorem bm_init : Bnds "__init__" "House.__init__" s_House_init ["self", "road"] := fun _ _ _ _ _ _ us hl => match us, hl with | [_, _], _ => rfl
theorem bm_undo : Bnds "undo" "House.undo" s_House_undo ["self"] := fun _ _ _ _ _ _ us hl => match us, hl with | [_], _ => rfl
theorem bm_book : Bnds "book" "House.book" s_House_book ["self", "station"] := fun _ _ _ _ _ _ us hl => match us, hl with | [_, _], _ => rfl
theorem bm_coming : Bnds "coming" "House.coming" s_House_coming ["self", "rider", "station"] := fun _ _ _ _ _ _ us hl => match us, hl with | [_, _, _], _ => rfl
theorem bm_as_of : Bnds "as_of" "House.as_of" s_House_as_of ["self", "many"] := fun _ _ _ _ _ _ us hl => match us, hl with | [_, _], _ => rfl
theorem bm_twin : Bnds "twin" "House.twin" s_House_twin ["self"] := fun _ _ _ _ _ _ us hl => match us, hl with | [_], _ => rfl
theorem bm_eq : Bnds "__eq__" "House.__eq__" s_House_eq ["self", "other"] := fun _ _ _ _ _ _ us hl => match us, hl with | [_, _], _ => rfl
theorem bm_len : Bnds "__len__" "House.__len__" s_House_len ["self"] := fun _ _ _ _ _ _ us hl => match us, hl with | [_], _ => rfl
theorem bm_one_done : Bnds "one_done" "House.one_done" s_House_one_done ["self", "deed"] := fun _ _ _ _ _ _ us hl => match us, hl with | [_, _], _ => rfl
theorem mv_of (a : PySem.W.findIn K (.ref C) "move" = some (some (.ref f))) (i : PySem.W.isFn K (.ref f) = true) (l : K.lookup f = some ⟨oc, od, .func (PySem.W.fnOf "move" "House.move" (defArgs s_House_move) (defBody s_House_move) (defScope s_House_move) .none kV dc pm an cd ct), sl⟩) (c : PySem.W.codeIn K cd "House.move" = true) (k : PySem.W.keepIn K (.ref f) = true) : MvFn K C :=
  ⟨f, _, fund_of l c k, ⟨a, i, k⟩, ⟨fun s us ws _ h1 h2 => match us, ws, h1, h2 with | [_, _], [_], _, _ => .of_eq rfl, fun r rz => r.append rz⟩, ⟨fun s us ws _ h1 h2 => match us, ws, h1, h2 with | [_], [_, _], _, _ => .of_eq rfl, fun r rz => r.append rz.reverse⟩⟩
end
end Rh
end RhEnd_
section RhEnd3_
set_option Elab.async false
set_option linter.all false
set_option maxRecDepth 100000
namespace Rh
open PySem PySem.Spec PyProof.Rows L2
section
variable {K : PySem.W.Frag} {mg : Str → Option Value} {C f D : Addr} {oc dc pm cd ct : Value} {od an : Option Addr} {sl : Array (Option Value)}
theorem do_of (a : PySem.W.findIn K (.ref C) "do" = some (some (.ref f))) (i : PySem.W.isFn K (.ref f) = true) (l : K.lookup f = some ⟨oc, od, .func (PySem.W.fnOf "do" "House.do" (defArgs s_House_do) (defBody s_House_do) (defScope s_House_do) .none (.ref D) dc pm an cd ct), sl⟩) (c : PySem.W.codeIn K cd "House.do" = true) (k : PySem.W.keepIn K (.ref f) = true)
    (d : PySem.W.nsIn K D "whole" = some (some (.bool true))) : DoFn K C := by
  have F : FunD K "do" "House.do" (defArgs s_House_do) (defBody s_House_do) (defScope s_House_do) [] [("whole", .bl true)] f (PySem.W.fnOf "do" "House.do" (defArgs s_House_do) (defBody s_House_do) (defScope s_House_do) .none (.ref D) dc pm an cd ct) :=
    ⟨⟨oc, od, .none, .ref D, dc, pm, an, cd, ct, sl, rfl, l, c, .inl ⟨rfl, rfl⟩, .inr ⟨D, rfl, fun q hq => by rw [List.mem_singleton.mp hq]; exact ⟨_, d, rfl⟩⟩⟩, k⟩
  obtain ⟨ds, v, b⟩ := F.binds0 (ps := ["self", "deeds", "whole"]) 2 (by simp) rfl (fun D doc pm an cdv ct us ks h1 h2 => match us, ks, h1, h2 with | [_, _], [_], _, _ => ⟨_, _, _, _, _, _, rfl, rfl, rfl⟩)
  exact ⟨f, _, ds, F, ⟨a, i, k⟩, v, b⟩
end
end Rh
end RhEnd3_
section RhEnd4_
set_option Elab.async false
set_option linter.all false
set_option maxRecDepth 100000
namespace Rh
open PySem PySem.Spec PyProof.Rows L2
/-- the four classes' places -/
def cx4 (a b c d : Addr) : Ex → Addr
  | .rider => a
  | .station => b
  | .early => c
  | .late => d
section
variable {K : PySem.W.Frag} {mg : Str → Option Value} {h : Heap}
theorem kitA_cls {t : Value} {b : Addr} {v : Bool} (s : PySem.W.subIn K t (.ref b) = some v) (c : PySem.W.isClsIn K b = true) (y : PySem.W.typeIn K (.ref b) = some (.type "type")) : PySem.W.kitCls K t (.ref b) = some v := by
  have c' : (PySem.W.clsIn K b).isSome = true := c
  show (if ((PySem.W.clsIn K b).isSome && PySem.W.typeIn K (.ref b) == some (.type "type")) = true then PySem.W.subIn K t (.ref b) else none) = some v
  rw [if_pos (by rw [c', y] <;> rfl)]
  exact s
theorem kitA_ref {t : Value} {b : Addr} {v : Bool} (s : PySem.W.subIn K t (.ref b) = some v) (c : PySem.W.isClsIn K b = true) (y : PySem.W.typeIn K (.ref b) = some (.type "type")) (hv : t = .ref b → v = true) : PySem.W.kitOne K t (.ref b) = some v := by
  unfold PySem.W.kitOne
  split
  · rename_i e
    rw [hv (beq_iff_eq.mp e)]
  · exact kitA_cls s c y
theorem kitA_ty {a : Addr} {T : String} {v : Bool} (s : PySem.W.subIn K (.ref a) (.type T) = some v) (m : PySem.W.kitMeta T = true) : PySem.W.kitOne K (.ref a) (.type T) = some v := by
  unfold PySem.W.kitOne
  split
  · rename_i e
    exact nomatch beq_iff_eq.mp e
  · show (if PySem.W.kitMeta T = true then PySem.W.subIn K (.ref a) (.type T) else none) = some v
    rw [if_pos m]
    exact s
theorem kitA_self {a : Addr} : PySem.W.kitOne K (.ref a) (.ref a) = some true := by
  unfold PySem.W.kitOne
  exact if_pos (beq_iff_eq.mpr rfl)
theorem exmA {t : Value} {b : Addr} {v : Bool} (hs : PySem.W.subIn K (.ref b) (.type "BaseException") = some true) (s : PySem.W.kitCls K t (.ref b) = some v) : PySem.W.exmOne K t (.ref b) = some v := by
  unfold PySem.W.exmOne
  rw [if_pos (by rw [hs] <;> rfl)]
  exact s
theorem exmA_cons {cls c : Value} {r : List Value} {b d : Bool} (h1 : PySem.W.exmOne K cls c = some b) (h2 : PySem.W.exmAny K cls r = some d) : PySem.W.exmAny K cls (c :: r) = some (b || d) := by
  show (match PySem.W.exmOne K cls c, PySem.W.exmAny K cls r with
    | some b, some d => some (b || d)
    | _, _ => none) = some (b || d)
  rw [h1, h2]
theorem x4_of {cx : Ex → Addr} (hc : ∀ k, ExcC K (cx k)) (cl : ∀ k, PySem.W.isClsIn K (cx k) = true) (ty : ∀ k, PySem.W.typeIn K (.ref (cx k)) = some (.type "type"))
    (sb : ∀ k j, PySem.W.subIn K (.ref (cx k)) (.ref (cx j)) = some (decide (k = j))) (rt : ∀ k, PySem.W.subIn K (.ref (cx k)) (.type "RuntimeError") = some k.isRt) (lk : ∀ k, PySem.W.subIn K (.ref (cx k)) (.type "LookupError") = some (!k.isRt))
    (no : ∀ k, PySem.W.findIn K (.ref (cx k)) k.fld = some none)
    (gE : mg "Early" = some (.ref (cx .early))) (gL : mg "Late" = some (.ref (cx .late))) (gR : mg "NoRider" = some (.ref (cx .rider))) (gS : mg "NoStation" = some (.ref (cx .station))) : X4 K mg cx where
  c := hc
  no := no
  gE := gE
  gL := gL
  gR := gR
  gS := gS
  one := fun k j => kitA_ref (sb k j) (cl j) (ty j) fun e => by
    have e1 := sb k j
    have e2 := sb j j
    rw [e, e2] at e1
    exact (Option.some.inj e1).symm.trans (decide_eq_true rfl)
  rt := fun k => kitA_ty (rt k) (by kernel_rfl)
  lk := fun k => kitA_ty (lk k) (by kernel_rfl)
  exm := fun k => by
    have E : ∀ j, PySem.W.exmOne K (.ref (cx k)) (.ref (cx j)) = some (decide (k = j)) := fun j => exmA (hc j).hs (kitA_cls (sb k j) (cl j) (ty j))
    refine (exmA_cons (E .early) (exmA_cons (E .late) (exmA_cons (E .rider) (exmA_cons (E .station) rfl)))).trans ?_
    cases k <;> rfl
theorem words_of {a : Addr} {t1 t2 t3 : Tok} {n : Nat} {sl : Array (Option Value)} (X : K.In h) (G : h.Ns mainGlobals mg) (aW : PySem.W.nsIn K mainGlobals "WORDS" = some (some (.ref a)))
    (l : K.lookup a = some ⟨.type "tuple", none, .seq #[.str "least" t1, .str "horse" t2, .str "most" t3] n, sl⟩) :
    ∃ a, mg "WORDS" = some (.ref a) ∧ (∃ o, K.lookup a = some o ∧ o.cls = .type "tuple" ∧ o.dict = none) ∧ ∀ H, SqT K H a [V.str "least", V.str "horse", V.str "most"] :=
  ⟨a, PySem.W.mg_of X G aW, ⟨_, l, rfl, rfl⟩, fun H => .inr ⟨_, _, _, l, rfl, rfl, by show 3 ≤ sizeLine; decide, .cons ⟨_, rfl⟩ (.cons ⟨_, rfl⟩ (.cons ⟨_, rfl⟩ .nil))⟩⟩
theorem wd_of {t1 t2 t3 t4 t5 t6 : Tok} (X : K.In h) (G : h.Ns mainGlobals mg) (a1 : PySem.W.nsIn K mainGlobals "LEAST" = some (some (.str "least" t1))) (a2 : PySem.W.nsIn K mainGlobals "HORSE" = some (some (.str "horse" t2))) (a3 : PySem.W.nsIn K mainGlobals "MOST" = some (some (.str "most" t3)))
    (a4 : PySem.W.nsIn K mainGlobals "SET" = some (some (.str "set" t4))) (a5 : PySem.W.nsIn K mainGlobals "FIRST" = some (some (.str "first" t5))) (a6 : PySem.W.nsIn K mainGlobals "STEP_PARTS" = some (some (.int 4 t6)))
    (W : ∃ a, mg "WORDS" = some (.ref a) ∧ (∃ o, K.lookup a = some o ∧ o.cls = .type "tuple" ∧ o.dict = none) ∧ ∀ H, SqT K H a [V.str "least", V.str "horse", V.str "most"]) : Wd K mg :=
  ⟨⟨_, PySem.W.mg_of X G a1⟩, ⟨_, PySem.W.mg_of X G a2⟩, ⟨_, PySem.W.mg_of X G a3⟩, ⟨_, PySem.W.mg_of X G a4⟩, ⟨_, PySem.W.mg_of X G a5⟩, ⟨_, PySem.W.mg_of X G a6⟩, W⟩
theorem kl_cons {P : Params} {e : DictEntry} {r : List DictEntry} (a : ∃ x t, e.key = .str x t ∧ e.hash = PyData.keyHash P x) (b : PySem.W.KeysLit P r) : PySem.W.KeysLit P (e :: r) := ⟨a, b⟩
theorem kl_nil {P : Params} : PySem.W.KeysLit P [] := trivial
theorem sizes_of {w : World} {d : Addr} {es : Array DictEntry} {n : Nat} {t1 t2 t3 t4 t5 : Tok} (X : K.In h) (G : h.Ns mainGlobals mg) (aS : PySem.W.nsIn K mainGlobals "SIZES" = some (some (.ref d)))
    (l : K.lookup d = some ⟨.type "dict", none, .dict es n, #[]⟩) (lit : PySem.W.KeysLit w.params es.toList) (low : (d == sysModules) = false)
    (e1 : PySem.W.nsIn K d "send" = some (some (.int 2 t1))) (e2 : PySem.W.nsIn K d "move" = some (some (.int 3 t2))) (e3 : PySem.W.nsIn K d "strike" = some (some (.int 2 t3))) (e4 : PySem.W.nsIn K d "first" = some (some (.int 3 t4))) (e5 : PySem.W.nsIn K d "leg" = some (some (.int 3 t5))) : Sizes w K mg :=
  ⟨d, es, n, PySem.W.mg_of X G aS, ⟨l, lit, low⟩, fun e => match e with
    | .send _ => ⟨t1, e1⟩
    | .move _ _ => ⟨t2, e2⟩
    | .strike _ => ⟨t3, e3⟩
    | .first _ _ => ⟨t4, e4⟩
    | .leg _ _ => ⟨t5, e5⟩⟩
theorem be_NoRider : Bnds "__init__" "NoRider.__init__" s_NoRider_init ["self", "rider"] := fun _ _ _ _ _ _ us hl => match us, hl with | [_, _], _ => rfl
theorem be_NoStation : Bnds "__init__" "NoStation.__init__" s_NoStation_init ["self", "station"] := fun _ _ _ _ _ _ us hl => match us, hl with | [_, _], _ => rfl
theorem be_Early : Bnds "__init__" "Early.__init__" s_Early_init ["self", "beat"] := fun _ _ _ _ _ _ us hl => match us, hl with | [_, _], _ => rfl
theorem be_Late : Bnds "__init__" "Late.__init__" s_Late_init ["self", "beat"] := fun _ _ _ _ _ _ us hl => match us, hl with | [_, _], _ => rfl
/-- an own class of refusals -/
theorem exT_of {xC fld nm qn q : Str} {B newId initId : String} {bm : List Value} {st : Stmt} {C f N : Addr} {bs : List Value} {sn : List Str} {sub : List Value} {ab : Bool} {col : Option Bool} {dd : Option Addr} {m0 m1 m2 m3 m5 : Option Value}
    {oc kV dc pm cd ct : Value} {od an : Option Addr} {sl : Array (Option Value)} (X : K.In h) (G : h.Ns mainGlobals mg) (bb : RhX.Bas B newId initId bm) (vV : PySem.W.findCls K (.type B) (.type "type") "__init__" = some (.val (.builtin initId))) (hb : Bnds "__init__" q st ["self", fld]) (aC : PySem.W.nsIn K mainGlobals xC = some (some (.ref C)))
    (xL : K.lookup C = some (excClassObj nm qn C N bs bm true sn sub ab col dd m0 m1 m2 m3 m5 newId)) (sa : PySem.W.findIn K (.ref C) "__setattr__" = some (some (.builtin "object.__setattr__"))) (tyC : PySem.W.typeIn K (.ref C) = some (.type "type")) (kC : PySem.W.keepIn K (.ref C) = true)
    (c : ExcC K C) (no : PySem.W.findIn K (.ref C) fld = some none) (a1 : PySem.W.findIn K (.ref C) "__init__" = some (some (.ref f))) (t1 : PySem.W.typeIn K (.ref f) = some (.type "function"))
    (l1 : K.lookup f = some ⟨oc, od, .func (PySem.W.fnOf "__init__" q (defArgs st) (defBody st) (defScope st) .none kV dc pm an cd ct), sl⟩) (c1 : PySem.W.codeIn K cd q = true) (k1 : PySem.W.keepIn K (.ref f) = true) : ExT K mg xC fld B newId initId bm st q C :=
  ⟨bb, ⟨⟨nm, qn, N, bs, sn, sub, ab, col, dd, m0, m1, m2, m3, m5, xL⟩, sa, c.hs, tyC, kC⟩, c, PySem.W.mg_of X G aC, no, vV, ⟨f, _, fund_of l1 c1 k1, a1, t1, (fund_of l1 c1 k1).bindsN hb⟩⟩
theorem ht_of {C : Addr} (X : K.In h) (G : h.Ns mainGlobals mg) (g : PySem.W.nsIn K mainGlobals "House" = some (some (.ref C))) (pg : PySem.W.plainGet K C Str.empty = true) (hd : PySem.W.hasDictIn K C = true) (po : PySem.W.plainOver K C = true) (sa : PySem.W.findIn K (.ref C) "__setattr__" = some (some (.builtin "object.__setattr__")))
    (nP : PySem.W.findIn K (.ref C) "own_pages" = some none) (nS : PySem.W.findIn K (.ref C) "own_sent" = some none) (ca : PySem.W.findIn K (.ref C) "__class__" = some (some (.builtin "object.__class__"))) (cn : PySem.W.specialIn K (.builtin "object.__class__") "__get__" = some (some (.builtin "getset_descriptor.__get__")))
    (ct : PySem.W.takesIn K (.builtin "object.__class__") = some true) (cm : PySem.W.mroIn K C (.type "object") = some true) (mks : PySem.W.makesIn K C = true) (kp : PySem.W.keepIn K (.ref C) = true) (ne : PySem.W.findIn K (.ref C) "__ne__" = some (some (.builtin "object.__ne__"))) (ob : PySem.W.subIn K (.ref C) (.type "object") = some true) : HT K mg C :=
  ⟨⟨pg, hd, po, sa⟩, nP, nS, PySem.W.mg_of X G g, ca, cn, ct, cm, kitA_self, mks, kp, ne, ob⟩
/-- law's promise from all facts -/
theorem mk_all {P : Program} {w : World} {fa C cR cS cE cL f : Addr} {oc kV dc pm cd ct : Value} {od an : Option Addr} {sl : Array (Option Value)} (X : K.In h) (G : h.Ns mainGlobals mg) (hfa : mg "law" = some (.ref fa))
    (aC : PySem.W.nsIn K mainGlobals "House" = some (some (.ref C))) (aR : PySem.W.nsIn K mainGlobals "NoRider" = some (some (.ref cR))) (aS : PySem.W.nsIn K mainGlobals "NoStation" = some (some (.ref cS))) (aE : PySem.W.nsIn K mainGlobals "Early" = some (some (.ref cE))) (aL : PySem.W.nsIn K mainGlobals "Late" = some (some (.ref cL)))
    (a : PySem.W.nsIn K mainGlobals "law" = some (some (.ref f))) (l : K.lookup f = some ⟨oc, od, .func (PySem.W.fnOf "law" "law" (defArgs s_law) (defBody s_law) (defScope s_law) .none kV dc pm an cd ct), sl⟩) (c : PySem.W.codeIn K cd "law" = true) (k : PySem.W.keepIn K (.ref f) = true)
    (F : Fc w K mg C (cx4 cR cS cE cL)) :
    ∃ fd : FuncData, (∀ (s : Shared) (v : Value), BindsTo s fd ⟨[v], []⟩ [("_law_script", v)]) ∧ ∀ base : Heap, K.In base → base.Ns mainGlobals mg → FnOk P w K mg base CX0 14 fa fd ["_law_script"] (spLaw K) := by
  have e := hfa.symm.trans (PySem.W.mg_of X G a)
  cases e
  exact ⟨_, fun s v => .of_eq rfl, fun base _ _ => join F (fund_of l c k) base⟩
end
end Rh
end RhEnd4_
set_option Elab.async false
set_option linter.all false
set_option maxRecDepth 100000
open PySem PySem.W PyProof.Rows in
set_option maxRecDepth 100000 in
set_option maxHeartbeats 0 in
theorem PySem.Challenge.cw_restedhorses_k72_whole_a_house_made_anew_holds : PySem.Challenge.rw_restedhorses_k72_whole_a_house_made_anew.Holds := by
  w_on; o_law; k_head; (case hw => w_witness2)
  k_fill
  refine L2.walk_of (l := PySem.Challenge.rw_restedhorses_k72_whole_a_house_made_anew) (n := 63) (k := 14) (x := "_law_script") (CX := fun _ => L2.CX0) (sp := fun w => Rh.spLaw _) rfl (by decide) rfl ⟨rfl, by decide, by decide⟩ (fun w h Y => PySem.W.kIn_of Y) ?F (fun _ _ a ns hl _ hS => ⟨a, ns, rfl, hS, hl, fun _ => rfl⟩) fun _ _ _ _ _ z => z
  case F =>
    intro w mg fa h KX G hmg
    refine' Rh.mk_all KX G hmg ?aC_1 ?aR_1 ?aS_1 ?aE_1 ?aL_1 ?a_1 ?l_1 ?c_1 ?k_1 ?F
    (case aC_1 => k_is)
    (case aR_1 => k_is)
    (case aS_1 => k_is)
    (case aE_1 => k_is)
    (case aL_1 => k_is)
    (case a_1 => k_is)
    (case l_1 => k_is)
    (case c_1 => k_is)
    (case k_1 => k_is)
    case F =>
      refine' { B := ?B, T := ?T, Z := ?Z, W := ?W, X := ?X, eR := ?eR, eS := ?eS, eE := ?eE, eL := ?eL, mv := ?mv, mdo := ?mdo, d_bounds_of := ?d_bounds_of, d_held := ?d_held, d_ride_of := ?d_ride_of, d_horses_at := ?d_horses_at, d_comes_next := ?d_comes_next, d_books_to := ?d_books_to, d_comings := ?d_comings, d_events := ?d_events, d_is_deed := ?d_is_deed, d_with_one := ?d_with_one, d_changed := ?d_changed, d_three_by := ?d_three_by, d_word_of := ?d_word_of, d_behind_step := ?d_behind_step, d_end_step := ?d_end_step, d_chain := ?d_chain, d_is_step := ?d_is_step, d_shows_chain := ?d_shows_chain, d_root := ?d_root, d_law_tape := ?d_law_tape, d_law_draw := ?d_law_draw, d_law_folded := ?d_law_folded, d_law_same := ?d_law_same, d_law_leg := ?d_law_leg, d_law_road := ?d_law_road, d_law_books := ?d_law_books, d_law_deed := ?d_law_deed, d_law_asked := ?d_law_asked, d_law_named := ?d_law_named, d_law_all := ?d_law_all, d_law_seen_right := ?d_law_seen_right, d_law_struck_right := ?d_law_struck_right, d_law_apart := ?d_law_apart, d_law_right := ?d_law_right, d_law_row := ?d_law_row, m_road := ?m_road, m_sets := ?m_sets, m_deeds := ?m_deeds, m_look_rider := ?m_look_rider, m_look_station := ?m_look_station, m_look_early := ?m_look_early, m_done := ?m_done, m_send := ?m_send, m_strike := ?m_strike, m_first := ?m_first, m_leg := ?m_leg, m_init := ?m_init, m_undo := ?m_undo, m_book := ?m_book, m_coming := ?m_coming, m_as_of := ?m_as_of, m_twin := ?m_twin, m_eq := ?m_eq, m_len := ?m_len, m_one_done := ?m_one_done }
      case B =>
        constructor
        all_goals (refine PySem.W.mg_none_of KX G ?_; k_is)
      case T =>
        refine' Rh.ht_of KX G ?g_2 ?pg_2 ?hd_2 ?po_2 ?sa_2 ?nP_2 ?nS_2 ?ca_2 ?cn_2 ?ct_2 ?cm_2 ?mks_2 ?kp_2 ?ne_2 ?ob_2
        (case g_2 => k_is)
        (case pg_2 => k_is)
        (case hd_2 => k_is)
        (case po_2 => k_is)
        (case sa_2 => k_is)
        (case nP_2 => k_is)
        (case nS_2 => k_is)
        (case ca_2 => k_is)
        (case cn_2 => k_is)
        (case ct_2 => k_is)
        (case cm_2 => k_is)
        (case mks_2 => k_is)
        (case kp_2 => k_is)
        (case ne_2 => k_is)
        (case ob_2 => k_is)
      case Z =>
        refine' Rh.sizes_of KX G ?aS_3 ?l_3 ?lit_3 ?low_3 ?e1_3 ?e2_3 ?e3_3 ?e4_3 ?e5_3
        (case aS_3 => k_is)
        (case l_3 => k_is)
        (case lit_3 => exact Rh.kl_cons ⟨_, _, rfl, rfl⟩ (Rh.kl_cons ⟨_, _, rfl, rfl⟩ (Rh.kl_cons ⟨_, _, rfl, rfl⟩ (Rh.kl_cons ⟨_, _, rfl, rfl⟩ (Rh.kl_cons ⟨_, _, rfl, rfl⟩ Rh.kl_nil)))))
        (case low_3 => decide)
        (case e1_3 => k_is)
        (case e2_3 => k_is)
        (case e3_3 => k_is)
        (case e4_3 => k_is)
        (case e5_3 => k_is)
      case W =>
        refine' Rh.wd_of KX G ?a1_4 ?a2_4 ?a3_4 ?a4_4 ?a5_4 ?a6_4 ?W_4
        (case a1_4 => k_is)
        (case a2_4 => k_is)
        (case a3_4 => k_is)
        (case a4_4 => k_is)
        (case a5_4 => k_is)
        (case a6_4 => k_is)
        (case W_4 => refine' Rh.words_of KX G ?aW_4 ?l_4; (case aW_4 => k_is); (case l_4 => k_is))
      case X =>
        refine' Rh.x4_of ?hc_5 ?cl_5 ?ty_5 ?sb_5 ?rt_5 ?lk_5 ?no_5 ?gE_5 ?gL_5 ?gR_5 ?gS_5
        (case hc_5 => intro k; cases k <;> (dsimp only [Rh.cx4]; constructor <;> k_is))
        (case cl_5 => intro k; cases k <;> (dsimp only [Rh.cx4, Rh.Ex.fld, Rh.Ex.isRt]; k_is))
        (case ty_5 => intro k; cases k <;> (dsimp only [Rh.cx4, Rh.Ex.fld, Rh.Ex.isRt]; k_is))
        (case sb_5 => intro k j; cases k <;> cases j <;> (dsimp only [Rh.cx4]; k_is))
        (case rt_5 => intro k; cases k <;> (dsimp only [Rh.cx4, Rh.Ex.fld, Rh.Ex.isRt]; k_is))
        (case lk_5 => intro k; cases k <;> (dsimp only [Rh.cx4, Rh.Ex.fld, Rh.Ex.isRt]; k_is))
        (case no_5 => intro k; cases k <;> (dsimp only [Rh.cx4, Rh.Ex.fld, Rh.Ex.isRt]; k_is))
        (case gE_5 => refine PySem.W.mg_of KX G ?_; dsimp only [Rh.cx4]; k_is)
        (case gL_5 => refine PySem.W.mg_of KX G ?_; dsimp only [Rh.cx4]; k_is)
        (case gR_5 => refine PySem.W.mg_of KX G ?_; dsimp only [Rh.cx4]; k_is)
        (case gS_5 => refine PySem.W.mg_of KX G ?_; dsimp only [Rh.cx4]; k_is)
      case eR =>
        dsimp only [Rh.cx4]
        refine' Rh.exT_of KX G RhX.basL ?vV_6 Rh.be_NoRider ?aC_6 ?xL_6 ?sa_6 ?tyC_6 ?kC_6 ?c_6 ?no_6 ?a1_6 ?t1_6 ?l1_6 ?c1_6 ?k1_6
        (case vV_6 => k_is)
        (case aC_6 => k_is)
        (case xL_6 => k_is)
        (case sa_6 => k_is)
        (case tyC_6 => k_is)
        (case kC_6 => k_is)
        (case c_6 => constructor <;> k_is)
        (case no_6 => k_is)
        (case a1_6 => k_is)
        (case t1_6 => k_is)
        (case l1_6 => k_is)
        (case c1_6 => k_is)
        (case k1_6 => k_is)
      case eS =>
        dsimp only [Rh.cx4]
        refine' Rh.exT_of KX G RhX.basL ?vV_7 Rh.be_NoStation ?aC_7 ?xL_7 ?sa_7 ?tyC_7 ?kC_7 ?c_7 ?no_7 ?a1_7 ?t1_7 ?l1_7 ?c1_7 ?k1_7
        (case vV_7 => k_is)
        (case aC_7 => k_is)
        (case xL_7 => k_is)
        (case sa_7 => k_is)
        (case tyC_7 => k_is)
        (case kC_7 => k_is)
        (case c_7 => constructor <;> k_is)
        (case no_7 => k_is)
        (case a1_7 => k_is)
        (case t1_7 => k_is)
        (case l1_7 => k_is)
        (case c1_7 => k_is)
        (case k1_7 => k_is)
      case eE =>
        dsimp only [Rh.cx4]
        refine' Rh.exT_of KX G RhX.basR ?vV_8 Rh.be_Early ?aC_8 ?xL_8 ?sa_8 ?tyC_8 ?kC_8 ?c_8 ?no_8 ?a1_8 ?t1_8 ?l1_8 ?c1_8 ?k1_8
        (case vV_8 => k_is)
        (case aC_8 => k_is)
        (case xL_8 => k_is)
        (case sa_8 => k_is)
        (case tyC_8 => k_is)
        (case kC_8 => k_is)
        (case c_8 => constructor <;> k_is)
        (case no_8 => k_is)
        (case a1_8 => k_is)
        (case t1_8 => k_is)
        (case l1_8 => k_is)
        (case c1_8 => k_is)
        (case k1_8 => k_is)
      case eL =>
        dsimp only [Rh.cx4]
        refine' Rh.exT_of KX G RhX.basR ?vV_9 Rh.be_Late ?aC_9 ?xL_9 ?sa_9 ?tyC_9 ?kC_9 ?c_9 ?no_9 ?a1_9 ?t1_9 ?l1_9 ?c1_9 ?k1_9
        (case vV_9 => k_is)
        (case aC_9 => k_is)
        (case xL_9 => k_is)
        (case sa_9 => k_is)
        (case tyC_9 => k_is)
        (case kC_9 => k_is)
        (case c_9 => constructor <;> k_is)
        (case no_9 => k_is)
        (case a1_9 => k_is)
        (case t1_9 => k_is)
        (case l1_9 => k_is)
        (case c1_9 => k_is)
        (case k1_9 => k_is)
      case mv =>
        refine' Rh.mv_of ?a_10 ?i_10 ?l_10 ?c_10 ?k_10
        (case a_10 => k_is)
        (case i_10 => k_is)
        (case l_10 => k_is)
        (case c_10 => k_is)
        (case k_10 => k_is)
      case mdo =>
        refine' Rh.do_of ?a_11 ?i_11 ?l_11 ?c_11 ?k_11 ?d_11
        (case a_11 => k_is)
        (case i_11 => k_is)
        (case l_11 => k_is)
        (case c_11 => k_is)
        (case k_11 => k_is)
        (case d_11 => k_is)
      case d_bounds_of =>
        refine' Rh.dfn_of KX G ?a_12 ?l_12 ?c_12 ?k_12 Rh.bd_bounds_of
        (case a_12 => k_is)
        (case l_12 => k_is)
        (case c_12 => k_is)
        (case k_12 => k_is)
      case d_held =>
        refine' Rh.dfn_of KX G ?a_13 ?l_13 ?c_13 ?k_13 Rh.bd_held
        (case a_13 => k_is)
        (case l_13 => k_is)
        (case c_13 => k_is)
        (case k_13 => k_is)
      case d_ride_of =>
        refine' Rh.dfn_of KX G ?a_14 ?l_14 ?c_14 ?k_14 Rh.bd_ride_of
        (case a_14 => k_is)
        (case l_14 => k_is)
        (case c_14 => k_is)
        (case k_14 => k_is)
      case d_horses_at =>
        refine' Rh.dfn_of KX G ?a_15 ?l_15 ?c_15 ?k_15 Rh.bd_horses_at
        (case a_15 => k_is)
        (case l_15 => k_is)
        (case c_15 => k_is)
        (case k_15 => k_is)
      case d_comes_next =>
        refine' Rh.dfn_of KX G ?a_16 ?l_16 ?c_16 ?k_16 Rh.bd_comes_next
        (case a_16 => k_is)
        (case l_16 => k_is)
        (case c_16 => k_is)
        (case k_16 => k_is)
      case d_books_to =>
        refine' Rh.dfn_of KX G ?a_17 ?l_17 ?c_17 ?k_17 Rh.bd_books_to
        (case a_17 => k_is)
        (case l_17 => k_is)
        (case c_17 => k_is)
        (case k_17 => k_is)
      case d_comings =>
        refine' Rh.dfn_of KX G ?a_18 ?l_18 ?c_18 ?k_18 Rh.bd_comings
        (case a_18 => k_is)
        (case l_18 => k_is)
        (case c_18 => k_is)
        (case k_18 => k_is)
      case d_events =>
        refine' Rh.dfn_of KX G ?a_19 ?l_19 ?c_19 ?k_19 Rh.bd_events
        (case a_19 => k_is)
        (case l_19 => k_is)
        (case c_19 => k_is)
        (case k_19 => k_is)
      case d_is_deed =>
        refine' Rh.dfn_of KX G ?a_20 ?l_20 ?c_20 ?k_20 Rh.bd_is_deed
        (case a_20 => k_is)
        (case l_20 => k_is)
        (case c_20 => k_is)
        (case k_20 => k_is)
      case d_with_one =>
        refine' Rh.dfn_of KX G ?a_21 ?l_21 ?c_21 ?k_21 Rh.bd_with_one
        (case a_21 => k_is)
        (case l_21 => k_is)
        (case c_21 => k_is)
        (case k_21 => k_is)
      case d_changed =>
        refine' Rh.dfn_of KX G ?a_22 ?l_22 ?c_22 ?k_22 Rh.bd_changed
        (case a_22 => k_is)
        (case l_22 => k_is)
        (case c_22 => k_is)
        (case k_22 => k_is)
      case d_three_by =>
        refine' Rh.dfn_of KX G ?a_23 ?l_23 ?c_23 ?k_23 Rh.bd_three_by
        (case a_23 => k_is)
        (case l_23 => k_is)
        (case c_23 => k_is)
        (case k_23 => k_is)
      case d_word_of =>
        refine' Rh.dfn_of KX G ?a_24 ?l_24 ?c_24 ?k_24 Rh.bd_word_of
        (case a_24 => k_is)
        (case l_24 => k_is)
        (case c_24 => k_is)
        (case k_24 => k_is)
      case d_behind_step =>
        refine' Rh.dfn_of KX G ?a_25 ?l_25 ?c_25 ?k_25 Rh.bd_behind_step
        (case a_25 => k_is)
        (case l_25 => k_is)
        (case c_25 => k_is)
        (case k_25 => k_is)
      case d_end_step =>
        refine' Rh.dfn_of KX G ?a_26 ?l_26 ?c_26 ?k_26 Rh.bd_end_step
        (case a_26 => k_is)
        (case l_26 => k_is)
        (case c_26 => k_is)
        (case k_26 => k_is)
      case d_chain =>
        refine' Rh.dfn_of KX G ?a_27 ?l_27 ?c_27 ?k_27 Rh.bd_chain
        (case a_27 => k_is)
        (case l_27 => k_is)
        (case c_27 => k_is)
        (case k_27 => k_is)
      case d_is_step =>
        refine' Rh.dfn_of KX G ?a_28 ?l_28 ?c_28 ?k_28 Rh.bd_is_step
        (case a_28 => k_is)
        (case l_28 => k_is)
        (case c_28 => k_is)
        (case k_28 => k_is)
      case d_shows_chain =>
        refine' Rh.dfn_of KX G ?a_29 ?l_29 ?c_29 ?k_29 Rh.bd_shows_chain
        (case a_29 => k_is)
        (case l_29 => k_is)
        (case c_29 => k_is)
        (case k_29 => k_is)
      case d_root =>
        refine' Rh.dfn_of KX G ?a_30 ?l_30 ?c_30 ?k_30 Rh.bd_root
        (case a_30 => k_is)
        (case l_30 => k_is)
        (case c_30 => k_is)
        (case k_30 => k_is)
      case d_law_tape =>
        refine' Rh.dfn_of KX G ?a_31 ?l_31 ?c_31 ?k_31 Rh.bd_law_tape
        (case a_31 => k_is)
        (case l_31 => k_is)
        (case c_31 => k_is)
        (case k_31 => k_is)
      case d_law_draw =>
        refine' Rh.dfn_of KX G ?a_32 ?l_32 ?c_32 ?k_32 Rh.bd_law_draw
        (case a_32 => k_is)
        (case l_32 => k_is)
        (case c_32 => k_is)
        (case k_32 => k_is)
      case d_law_folded =>
        refine' Rh.dfn_of KX G ?a_33 ?l_33 ?c_33 ?k_33 Rh.bd_law_folded
        (case a_33 => k_is)
        (case l_33 => k_is)
        (case c_33 => k_is)
        (case k_33 => k_is)
      case d_law_same =>
        refine' Rh.dfn_of KX G ?a_34 ?l_34 ?c_34 ?k_34 Rh.bd_law_same
        (case a_34 => k_is)
        (case l_34 => k_is)
        (case c_34 => k_is)
        (case k_34 => k_is)
      case d_law_leg =>
        refine' Rh.dfn_of KX G ?a_35 ?l_35 ?c_35 ?k_35 Rh.bd_law_leg
        (case a_35 => k_is)
        (case l_35 => k_is)
        (case c_35 => k_is)
        (case k_35 => k_is)
      case d_law_road =>
        refine' Rh.dfn_of KX G ?a_36 ?l_36 ?c_36 ?k_36 Rh.bd_law_road
        (case a_36 => k_is)
        (case l_36 => k_is)
        (case c_36 => k_is)
        (case k_36 => k_is)
      case d_law_books =>
        refine' Rh.dfn_of KX G ?a_37 ?l_37 ?c_37 ?k_37 Rh.bd_law_books
        (case a_37 => k_is)
        (case l_37 => k_is)
        (case c_37 => k_is)
        (case k_37 => k_is)
      case d_law_deed =>
        refine' Rh.dfn_of KX G ?a_38 ?l_38 ?c_38 ?k_38 Rh.bd_law_deed
        (case a_38 => k_is)
        (case l_38 => k_is)
        (case c_38 => k_is)
        (case k_38 => k_is)
      case d_law_asked =>
        refine' Rh.dfn_of KX G ?a_39 ?l_39 ?c_39 ?k_39 Rh.bd_law_asked
        (case a_39 => k_is)
        (case l_39 => k_is)
        (case c_39 => k_is)
        (case k_39 => k_is)
      case d_law_named =>
        refine' Rh.dfn_of KX G ?a_40 ?l_40 ?c_40 ?k_40 Rh.bd_law_named
        (case a_40 => k_is)
        (case l_40 => k_is)
        (case c_40 => k_is)
        (case k_40 => k_is)
      case d_law_all =>
        refine' Rh.dfn_of KX G ?a_41 ?l_41 ?c_41 ?k_41 Rh.bd_law_all
        (case a_41 => k_is)
        (case l_41 => k_is)
        (case c_41 => k_is)
        (case k_41 => k_is)
      case d_law_seen_right =>
        refine' Rh.dfn_of KX G ?a_42 ?l_42 ?c_42 ?k_42 Rh.bd_law_seen_right
        (case a_42 => k_is)
        (case l_42 => k_is)
        (case c_42 => k_is)
        (case k_42 => k_is)
      case d_law_struck_right =>
        refine' Rh.dfn_of KX G ?a_43 ?l_43 ?c_43 ?k_43 Rh.bd_law_struck_right
        (case a_43 => k_is)
        (case l_43 => k_is)
        (case c_43 => k_is)
        (case k_43 => k_is)
      case d_law_apart =>
        refine' Rh.dfn_of KX G ?a_44 ?l_44 ?c_44 ?k_44 Rh.bd_law_apart
        (case a_44 => k_is)
        (case l_44 => k_is)
        (case c_44 => k_is)
        (case k_44 => k_is)
      case d_law_right =>
        refine' Rh.dfn_of KX G ?a_45 ?l_45 ?c_45 ?k_45 Rh.bd_law_right
        (case a_45 => k_is)
        (case l_45 => k_is)
        (case c_45 => k_is)
        (case k_45 => k_is)
      case d_law_row =>
        refine' Rh.dfn_of KX G ?a_46 ?l_46 ?c_46 ?k_46 Rh.bd_law_row
        (case a_46 => k_is)
        (case l_46 => k_is)
        (case c_46 => k_is)
        (case k_46 => k_is)
      case m_road =>
        refine' Rh.mfn_of ?a_47 ?i_47 ?l_47 ?c_47 ?k_47 Rh.bm_road
        (case a_47 => k_is)
        (case i_47 => k_is)
        (case l_47 => k_is)
        (case c_47 => k_is)
        (case k_47 => k_is)
      case m_sets =>
        refine' Rh.mfn_of ?a_48 ?i_48 ?l_48 ?c_48 ?k_48 Rh.bm_sets
        (case a_48 => k_is)
        (case i_48 => k_is)
        (case l_48 => k_is)
        (case c_48 => k_is)
        (case k_48 => k_is)
      case m_deeds =>
        refine' Rh.mfn_of ?a_49 ?i_49 ?l_49 ?c_49 ?k_49 Rh.bm_deeds
        (case a_49 => k_is)
        (case i_49 => k_is)
        (case l_49 => k_is)
        (case c_49 => k_is)
        (case k_49 => k_is)
      case m_look_rider =>
        refine' Rh.mfn_of ?a_50 ?i_50 ?l_50 ?c_50 ?k_50 Rh.bm_look_rider
        (case a_50 => k_is)
        (case i_50 => k_is)
        (case l_50 => k_is)
        (case c_50 => k_is)
        (case k_50 => k_is)
      case m_look_station =>
        refine' Rh.mfn_of ?a_51 ?i_51 ?l_51 ?c_51 ?k_51 Rh.bm_look_station
        (case a_51 => k_is)
        (case i_51 => k_is)
        (case l_51 => k_is)
        (case c_51 => k_is)
        (case k_51 => k_is)
      case m_look_early =>
        refine' Rh.mfn_of ?a_52 ?i_52 ?l_52 ?c_52 ?k_52 Rh.bm_look_early
        (case a_52 => k_is)
        (case i_52 => k_is)
        (case l_52 => k_is)
        (case c_52 => k_is)
        (case k_52 => k_is)
      case m_done =>
        refine' Rh.mfn_of ?a_53 ?i_53 ?l_53 ?c_53 ?k_53 Rh.bm_done
        (case a_53 => k_is)
        (case i_53 => k_is)
        (case l_53 => k_is)
        (case c_53 => k_is)
        (case k_53 => k_is)
      case m_send =>
        refine' Rh.mfn_of ?a_54 ?i_54 ?l_54 ?c_54 ?k_54 Rh.bm_send
        (case a_54 => k_is)
        (case i_54 => k_is)
        (case l_54 => k_is)
        (case c_54 => k_is)
        (case k_54 => k_is)
      case m_strike =>
        refine' Rh.mfn_of ?a_55 ?i_55 ?l_55 ?c_55 ?k_55 Rh.bm_strike
        (case a_55 => k_is)
        (case i_55 => k_is)
        (case l_55 => k_is)
        (case c_55 => k_is)
        (case k_55 => k_is)
      case m_first =>
        refine' Rh.mfn_of ?a_56 ?i_56 ?l_56 ?c_56 ?k_56 Rh.bm_first
        (case a_56 => k_is)
        (case i_56 => k_is)
        (case l_56 => k_is)
        (case c_56 => k_is)
        (case k_56 => k_is)
      case m_leg =>
        refine' Rh.mfn_of ?a_57 ?i_57 ?l_57 ?c_57 ?k_57 Rh.bm_leg
        (case a_57 => k_is)
        (case i_57 => k_is)
        (case l_57 => k_is)
        (case c_57 => k_is)
        (case k_57 => k_is)
      case m_init =>
        refine' Rh.mfn_of ?a_58 ?i_58 ?l_58 ?c_58 ?k_58 Rh.bm_init
        (case a_58 => k_is)
        (case i_58 => k_is)
        (case l_58 => k_is)
        (case c_58 => k_is)
        (case k_58 => k_is)
      case m_undo =>
        refine' Rh.mfn_of ?a_59 ?i_59 ?l_59 ?c_59 ?k_59 Rh.bm_undo
        (case a_59 => k_is)
        (case i_59 => k_is)
        (case l_59 => k_is)
        (case c_59 => k_is)
        (case k_59 => k_is)
      case m_book =>
        refine' Rh.mfn_of ?a_60 ?i_60 ?l_60 ?c_60 ?k_60 Rh.bm_book
        (case a_60 => k_is)
        (case i_60 => k_is)
        (case l_60 => k_is)
        (case c_60 => k_is)
        (case k_60 => k_is)
      case m_coming =>
        refine' Rh.mfn_of ?a_61 ?i_61 ?l_61 ?c_61 ?k_61 Rh.bm_coming
        (case a_61 => k_is)
        (case i_61 => k_is)
        (case l_61 => k_is)
        (case c_61 => k_is)
        (case k_61 => k_is)
      case m_as_of =>
        refine' Rh.mfn_of ?a_62 ?i_62 ?l_62 ?c_62 ?k_62 Rh.bm_as_of
        (case a_62 => k_is)
        (case i_62 => k_is)
        (case l_62 => k_is)
        (case c_62 => k_is)
        (case k_62 => k_is)
      case m_twin =>
        refine' Rh.mfn_of ?a_63 ?i_63 ?l_63 ?c_63 ?k_63 Rh.bm_twin
        (case a_63 => k_is)
        (case i_63 => k_is)
        (case l_63 => k_is)
        (case c_63 => k_is)
        (case k_63 => k_is)
      case m_eq =>
        refine' Rh.mfn_of ?a_64 ?i_64 ?l_64 ?c_64 ?k_64 Rh.bm_eq
        (case a_64 => k_is)
        (case i_64 => k_is)
        (case l_64 => k_is)
        (case c_64 => k_is)
        (case k_64 => k_is)
      case m_len =>
        refine' Rh.mfn_of ?a_65 ?i_65 ?l_65 ?c_65 ?k_65 Rh.bm_len
        (case a_65 => k_is)
        (case i_65 => k_is)
        (case l_65 => k_is)
        (case c_65 => k_is)
        (case k_65 => k_is)
      case m_one_done =>
        refine' Rh.mfn_of ?a_66 ?i_66 ?l_66 ?c_66 ?k_66 Rh.bm_one_done
        (case a_66 => k_is)
        (case i_66 => k_is)
        (case l_66 => k_is)
        (case c_66 => k_is)
        (case k_66 => k_is)
