import PyProof.Rows.All
import Wide.All
import OpenK.AllK
import Wide.FinOn
import KE.KStateDown
import Lean
import HandS.ForMost
import HandS.ForExc
import HandS.TupLe
import HandS.Deep
import HandS.FStr
import HandS.Flow
import HandS.Style
import HandS.Sort
import HandS.Property
import HandS.IsInst
import HandS.RaiseMore
import HandS.Conv
import HandS.DictComp
import HandS.Defaults
import HandS.SortKw
import HandS.Text
import HandS.Words
import HandS.Base
import HandS.Call
import HandS.Ends
import HandS.More
import HandS.WordsExc
import HandS.Head0
import HandS.Head1
import HandS.Head2
import HandS.HeadEnd
import HandS.HeadHook1
import HandS.HeadHook2
import HandS.TupAny
import PyProof.EqAt
import PyProof.EqKinds
import PyProof.TupleCall
import HandS.Strs
import KE.DatumOrd
import KE.SortData
import HandS.Iter
import KE.GoesEnum
import KE.GoesMore
import HandS.ExcOwn
import HandS.TryOnly
import PySem.Challenge.RW_risingbars_k83_whole_offices_and_texts
set_option Elab.async false
set_option linter.all false
set_option maxRecDepth 100000
set_option maxHeartbeats 4000000
/-! The text's places. -/
namespace RB
open PySem PySem.Spec PyProof.Rows L2
def top (i : Nat) : Stmt := PySem.Challenge.pw_risingbars_k83_whole_offices_and_texts.main.body.getD i (.Pass ⟨0, 0, 0, 0⟩)
end RB
/-! What is asked of the head: defs, properties, facts. -/
namespace RB
open PySem PySem.Spec PyProof.Rows L2
/-- the getter of the property m of the class named C -/
def pgA (K : PySem.W.Frag) (C m : Str) : Addr := match PySem.W.recIn K (He.ma K (He.ga K C) m) "property" with
  | some (.ref g :: _) => g
  | _ => 0
def pgB (K : PySem.W.Frag) (C m : Str) : Bool := decide (PySem.W.findIn K (.ref (He.ga K C)) m = some (some (.ref (He.ma K (He.ga K C) m)))) && (decide (PySem.W.specialIn K (.ref (He.ma K (He.ga K C) m)) "__get__" = some (some (.builtin "property.__get__"))) &&
  (decide (PySem.W.takesIn K (.ref (He.ma K (He.ga K C) m)) = some true) && match PySem.W.recIn K (He.ma K (He.ga K C) m) "property" with
    | some (.ref _ :: _) => true
    | _ => false))
theorem pgB_ok {K : PySem.W.Frag} {C m : Str} (h : pgB K C m = true) : PropOf K (He.ga K C) m (He.ma K (He.ga K C) m) (pgA K C m) := by
  unfold pgB at h
  simp only [Bool.and_eq_true, decide_eq_true_eq] at h
  obtain ⟨h1, h2, h3, h4⟩ := h
  refine ⟨h1, h2, h3, ?_⟩
  unfold pgA
  generalize PySem.W.recIn K (He.ma K (He.ga K C) m) "property" = r at h4
  rcases r with _ | _ | ⟨v, vs⟩
  · cases h4
  · cases h4
  · cases v <;> first
      | exact ⟨_, rfl⟩
      | cases h4
/-- what the object at a is, as a def -/
def fdA (K : PySem.W.Frag) (a : Addr) : He.FnW := match K.lookup a with
  | some ⟨_, _, .func fd, _⟩ => some (fd.name, fd.qualname, fd.params, fd.body, fd.scope, fd.globals, fd.closure, fd.builtins)
  | _ => none
def fdB (K : PySem.W.Frag) (a : Addr) (d : He.DefD) : Bool := PySem.W.keepIn K (.ref a) && match K.lookup a with
  | some ⟨_, _, .func fd, _⟩ => PySem.W.codeIn K fd.code d.qual && decide (fd.defaults = .none)
  | _ => false
theorem fdB_ok {K : PySem.W.Frag} {a : Addr} {d : He.DefD} (e : fdA K a = d.val) (h : fdB K a d = true) : ∃ fd, FunD K d.name d.qual d.params d.body d.scope [] [] a fd := by
  unfold fdB at h
  rw [Bool.and_eq_true] at h
  obtain ⟨kp, h⟩ := h
  unfold fdA at e
  generalize hl : K.lookup a = r at h e
  rcases r with _ | ⟨c1, c2, c3, c4⟩
  · cases h
  · cases c3 <;> first
      | cases h; done
      | (rename_i fd
         dsimp only at h e
         rw [Bool.and_eq_true, decide_eq_true_eq] at h
         obtain ⟨k1, k2⟩ := h
         unfold He.DefD.val at e
         injection e with e
         simp only [Prod.mk.injEq] at e
         obtain ⟨q1, q2, q3, q4, q5, q6, q7, q8⟩ := e
         rcases fd with ⟨n1, n2, n3, n4, n5, n6, n7, n8, n9, na, nb, nc, nd, ne, nf⟩
         dsimp only at q1 q2 q3 q4 q5 q6 q7 q8 k1 k2
         subst q1 q2 q3 q4 q5 q6 q7 q8 k2
         exact ⟨_, ⟨c1, c2, .none, n9, na, nb, nc, nd, ne, c4, rfl, hl, k1, .inl ⟨rfl, rfl⟩, .inl rfl⟩, kp⟩)
def fnsL0 : List He.DefD := [⟨("_law_row", none), "_law_row", "_law_row", defArgs (top 94), defBody (top 94), defScope (top 94), [], []⟩, ⟨("_law_numbers", none), "_law_numbers", "_law_numbers", defArgs (top 95), defBody (top 95), defScope (top 95), [], []⟩, ⟨("_law_parts", none), "_law_parts", "_law_parts", defArgs (top 96), defBody (top 96), defScope (top 96), [], []⟩, ⟨("is_drift", none), "is_drift", "is_drift", defArgs (top 40), defBody (top 40), defScope (top 40), [], []⟩, ⟨("is_name", none), "is_name", "is_name", defArgs (top 39), defBody (top 39), defScope (top 39), [], []⟩, ⟨("are_names", none), "are_names", "are_names", defArgs (top 41), defBody (top 41), defScope (top 41), [], []⟩, ⟨("is_event", none), "is_event", "is_event", defArgs (top 42), defBody (top 42), defScope (top 42), [], []⟩, ⟨("Log", some "__init__"), "__init__", "Log.__init__", defArgs (inClass (top 43) 0), defBody (inClass (top 43) 0), defScope (inClass (top 43) 0), [], []⟩]
def fnsL1 : List He.DefD := [⟨("_law_log", none), "_law_log", "_law_log", defArgs (top 97), defBody (top 97), defScope (top 97), [], []⟩, ⟨("_law_alone", none), "_law_alone", "_law_alone", defArgs (top 108), defBody (top 108), defScope (top 108), [], []⟩, ⟨("_law_links", none), "_law_links", "_law_links", defArgs (top 102), defBody (top 102), defScope (top 102), [], []⟩, ⟨("_law_worse", none), "_law_worse", "_law_worse", defArgs (top 103), defBody (top 103), defScope (top 103), [], []⟩, ⟨("_law_has_ring", none), "_law_has_ring", "_law_has_ring", defArgs (top 104), defBody (top 104), defScope (top 104), [], []⟩, ⟨("_law_pairs", none), "_law_pairs", "_law_pairs", defArgs (top 106), defBody (top 106), defScope (top 106), [], []⟩, ⟨("check_alike", none), "check_alike", "check_alike", defArgs (top 74), defBody (top 74), defScope (top 74), [], []⟩, ⟨("Log", some "is_answer"), "is_answer", "Log.is_answer", defArgs (inClass (top 43) 6), defBody (inClass (top 43) 6), defScope (inClass (top 43) 6), [], []⟩]
def fnsL2 : List He.DefD := [⟨("Log", some "answers"), "answers", "Log.answers", defArgs (inClass (top 43) 7), defBody (inClass (top 43) 7), defScope (inClass (top 43) 7), [], []⟩, ⟨("Log", some "answer_at"), "answer_at", "Log.answer_at", defArgs (inClass (top 43) 9), defBody (inClass (top 43) 9), defScope (inClass (top 43) 9), [], []⟩, ⟨("Log", some "item_at"), "item_at", "Log.item_at", defArgs (inClass (top 43) 11), defBody (inClass (top 43) 11), defScope (inClass (top 43) 11), [], []⟩, ⟨("Log", some "drift_of"), "drift_of", "Log.drift_of", defArgs (inClass (top 43) 5), defBody (inClass (top 43) 5), defScope (inClass (top 43) 5), [], []⟩, ⟨("Log", some "answers_of"), "answers_of", "Log.answers_of", defArgs (inClass (top 43) 8), defBody (inClass (top 43) 8), defScope (inClass (top 43) 8), [], []⟩, ⟨("Log", some "judge_at"), "judge_at", "Log.judge_at", defArgs (inClass (top 43) 10), defBody (inClass (top 43) 10), defScope (inClass (top 43) 10), [], []⟩, ⟨("Log", some "span_at"), "span_at", "Log.span_at", defArgs (inClass (top 43) 13), defBody (inClass (top 43) 13), defScope (inClass (top 43) 13), [], []⟩, ⟨("Log", some "stretch_at"), "stretch_at", "Log.stretch_at", defArgs (inClass (top 43) 14), defBody (inClass (top 43) 14), defScope (inClass (top 43) 14), [], []⟩]
def fnsL3 : List He.DefD := [⟨("Log", some "stretch_of"), "stretch_of", "Log.stretch_of", defArgs (inClass (top 43) 15), defBody (inClass (top 43) 15), defScope (inClass (top 43) 15), [], []⟩, ⟨("Log", some "stretches"), "stretches", "Log.stretches", defArgs (inClass (top 43) 16), defBody (inClass (top 43) 16), defScope (inClass (top 43) 16), [], []⟩, ⟨("Log", some "grade_at"), "grade_at", "Log.grade_at", defArgs (inClass (top 43) 12), defBody (inClass (top 43) 12), defScope (inClass (top 43) 12), [], []⟩, ⟨("links_in", none), "links_in", "links_in", defArgs (top 17), defBody (top 17), defScope (top 17), [], []⟩, ⟨("links_of", none), "links_of", "links_of", defArgs (top 18), defBody (top 18), defScope (top 18), [], []⟩, ⟨("ends_of_links", none), "ends_of", "ends_of", defArgs (top 19), defBody (top 19), defScope (top 19), [], []⟩, ⟨("reached", none), "reached", "reached", defArgs (top 23), defBody (top 23), defScope (top 23), [], []⟩, ⟨("better_by", none), "better_by", "better_by", defArgs (top 24), defBody (top 24), defScope (top 24), [], []⟩]
def fnsL4 : List He.DefD := [⟨("has_ring", none), "has_ring", "has_ring", defArgs (top 75), defBody (top 75), defScope (top 75), [], []⟩, ⟨("has_all", none), "has_all", "has_all", defArgs (top 76), defBody (top 76), defScope (top 76), [], []⟩, ⟨("says_all", none), "says_all", "says_all", defArgs (top 77), defBody (top 77), defScope (top 77), [], []⟩, ⟨("say_same", none), "say_same", "say_same", defArgs (top 78), defBody (top 78), defScope (top 78), [], []⟩, ⟨("check_offices", none), "check_offices", "check_offices", defArgs (top 48), defBody (top 48), defScope (top 48), [], []⟩, ⟨("names_in", none), "names_in", "names_in", defArgs (top 49), defBody (top 49), defScope (top 49), [], []⟩, ⟨("side_by_side", none), "side_by_side", "side_by_side", defArgs (top 50), defBody (top 50), defScope (top 50), [], []⟩, ⟨("joined", none), "joined", "joined", defArgs (top 51), defBody (top 51), defScope (top 51), [], []⟩]
def fnsL5 : List He.DefD := [⟨("lengths_to", none), "lengths_to", "lengths_to", defArgs (top 21), defBody (top 21), defScope (top 21), [], []⟩, ⟨("first_way", none), "first_way", "first_way", defArgs (top 22), defBody (top 22), defScope (top 22), [], []⟩, ⟨("ring_of", none), "ring_of", "ring_of", defArgs (top 27), defBody (top 27), defScope (top 27), [], []⟩, ⟨("ring_in", none), "ring_in", "ring_in", defArgs (top 52), defBody (top 52), defScope (top 52), [], []⟩, ⟨("read_grade", none), "read_grade", "read_grade", defArgs (top 68), defBody (top 68), defScope (top 68), [], []⟩, ⟨("read_event", none), "read_event", "read_event", defArgs (top 69), defBody (top 69), defScope (top 69), [], []⟩, ⟨("read_line", none), "read_line", "read_line", defArgs (top 70), defBody (top 70), defScope (top 70), [], []⟩, ⟨("made_log", none), "made_log", "made_log", defArgs (top 71), defBody (top 71), defScope (top 71), [], []⟩]
def fnsL6 : List He.DefD := [⟨("parse_log", none), "parse_log", "parse_log", defArgs (top 72), defBody (top 72), defScope (top 72), [], []⟩, ⟨("format_event", none), "format_event", "format_event", defArgs (top 66), defBody (top 66), defScope (top 66), [], []⟩, ⟨("format_log", none), "format_log", "format_log", defArgs (top 67), defBody (top 67), defScope (top 67), [], []⟩, ⟨("Desk", some "__init__"), "__init__", "Desk.__init__", defArgs (inClass (top 85) 0), defBody (inClass (top 85) 0), defScope (inClass (top 85) 0), [], []⟩, ⟨("Session", some "__init__"), "__init__", "Session.__init__", defArgs (inClass (top 92) 0), defBody (inClass (top 92) 0), defScope (inClass (top 92) 0), [], []⟩, ⟨("Log", some "told"), "told", "Log.told", defArgs (inClass (top 43) 34), defBody (inClass (top 43) 34), defScope (inClass (top 43) 34), [], []⟩, ⟨("Log", some "same_as"), "same_as", "Log.same_as", defArgs (inClass (top 43) 35), defBody (inClass (top 43) 35), defScope (inClass (top 43) 35), [], []⟩, ⟨("worse_than", none), "worse_than", "worse_than", defArgs (top 25), defBody (top 25), defScope (top 25), [], []⟩]
def fnsL7 : List He.DefD := [⟨("worse_in", none), "worse_in", "worse_in", defArgs (top 55), defBody (top 55), defScope (top 55), [], []⟩, ⟨("sure_pairs", none), "sure_pairs", "sure_pairs", defArgs (top 56), defBody (top 56), defScope (top 56), [], []⟩, ⟨("found_answer", none), "found_answer", "found_answer", defArgs (top 83), defBody (top 83), defScope (top 83), [], []⟩, ⟨("copied", none), "copied", "copied", defArgs (top 84), defBody (top 84), defScope (top 84), [], []⟩, ⟨("Desk", some "answer"), "answer", "Desk.answer", defArgs (inClass (top 85) 10), defBody (inClass (top 85) 10), defScope (inClass (top 85) 10), [], []⟩, ⟨("deed_of", none), "deed_of", "deed_of", defArgs (top 91), defBody (top 91), defScope (top 91), [], []⟩, ⟨("Session", some "told"), "told", "Session.told", defArgs (inClass (top 92) 7), defBody (inClass (top 92) 7), defScope (inClass (top 92) 7), [], []⟩, ⟨("Session", some "obeyed"), "obeyed", "Session.obeyed", defArgs (inClass (top 92) 3), defBody (inClass (top 92) 3), defScope (inClass (top 92) 3), [], []⟩]
def fnsL8 : List He.DefD := [⟨("Session", some "obey"), "obey", "Session.obey", defArgs (inClass (top 92) 1), defBody (inClass (top 92) 1), defScope (inClass (top 92) 1), [], []⟩, ⟨("check_explained", none), "check_explained", "check_explained", defArgs (top 45), defBody (top 45), defScope (top 45), [], []⟩, ⟨("pairs_of", none), "pairs_of", "pairs_of", defArgs (top 46), defBody (top 46), defScope (top 46), [], []⟩, ⟨("together", none), "together", "together", defArgs (top 53), defBody (top 53), defScope (top 53), [], []⟩, ⟨("law", none), "law", "law", defArgs (top 109), defBody (top 109), defScope (top 109), [], []⟩]
def fnsL : List He.DefD := fnsL0 ++ (fnsL1 ++ (fnsL2 ++ (fnsL3 ++ (fnsL4 ++ (fnsL5 ++ (fnsL6 ++ (fnsL7 ++ (fnsL8))))))))
def prsL : List (Str × Str × He.DefD) := [("Log", "item_names", ⟨("Log", some "item_names"), "item_names", "Log.item_names", defArgs (inClass (top 43) 1), defBody (inClass (top 43) 1), defScope (inClass (top 43) 1), [], []⟩), ("Log", "judges", ⟨("Log", some "judges"), "judges", "Log.judges", defArgs (inClass (top 43) 3), defBody (inClass (top 43) 3), defScope (inClass (top 43) 3), [], []⟩), ("Log", "grades", ⟨("Log", some "grades"), "grades", "Log.grades", defArgs (inClass (top 43) 2), defBody (inClass (top 43) 2), defScope (inClass (top 43) 2), [], []⟩), ("Log", "events", ⟨("Log", some "events"), "events", "Log.events", defArgs (inClass (top 43) 4), defBody (inClass (top 43) 4), defScope (inClass (top 43) 4), [], []⟩)]
def fasL0 : List He.Fa := [.free "len", .free "all", .free "any", .free "sum", .free "abs", .free "max", .free "min", .free "int", .free "str", .free "set", .free "list", .free "dict", .free "range", .free "enumerate", .free "sorted", .free "isinstance", .str "LETTERS" "abcdefghijklmnopqrstuvwxyz0123456789", .str "DIGITS" "0123456789", .str "RISES" "rises", .str "FALLS" "falls"]
def fasL1 : List He.Fa := [.str "STAYS" "stays", .str "ANSWER" "answer", .str "RESET" "reset", .int "MOST_ITEMS" 20, .int "MOST_JUDGES" 8, .int "MOST_EVENTS" 120, .int "MOST_GRADE" 9, .glo "SORTS", .cls "Log", .cls "Desk", .cls "Session", .noat "Log" "_items", .noat "Log" "_grades", .noat "Log" "_judges", .noat "Log" "_events", .noat "Desk" "state", .noat "Desk" "past", .noat "Desk" "future", .noat "Desk" "known", .noat "Session" "desk"]
def fasL2 : List He.Fa := [.mkr "Log", .mkr "Desk", .mkr "Session", .glo "Log", .glo "Desk", .glo "Session", .glo "Unexplained", .exc "Unexplained", .exm "Unexplained" "Unexplained" true, .glo "_law_row", .glo "_law_numbers", .glo "_law_parts", .glo "is_drift", .glo "is_name", .glo "are_names", .glo "is_event", .glo "_law_log", .glo "_law_alone", .glo "_law_links", .glo "_law_worse"]
def fasL3 : List He.Fa := [.glo "_law_has_ring", .glo "_law_pairs", .glo "check_alike", .meth "Log" "is_answer", .meth "Log" "answers", .meth "Log" "answer_at", .meth "Log" "item_at", .meth "Log" "drift_of", .meth "Log" "answers_of", .meth "Log" "judge_at", .meth "Log" "span_at", .meth "Log" "stretch_at", .meth "Log" "stretch_of", .meth "Log" "stretches", .meth "Log" "grade_at", .glo "links_in", .glo "links_of", .glo "ends_of_links", .glo "reached", .glo "better_by"]
def fasL4 : List He.Fa := [.glo "has_ring", .glo "has_all", .glo "says_all", .glo "say_same", .glo "check_offices", .glo "names_in", .glo "side_by_side", .glo "joined", .glo "lengths_to", .glo "first_way", .glo "ring_of", .glo "ring_in", .glo "read_grade", .glo "read_event", .glo "read_line", .glo "made_log", .glo "parse_log", .glo "format_event", .glo "format_log", .meth "Log" "told"]
def fasL5 : List He.Fa := [.meth "Log" "same_as", .glo "worse_than", .glo "worse_in", .glo "sure_pairs", .glo "found_answer", .glo "copied", .meth "Desk" "answer", .glo "deed_of", .meth "Session" "told", .meth "Session" "obeyed", .meth "Session" "obey", .glo "check_explained", .glo "pairs_of", .glo "together", .glo "law"]
def fasL : List He.Fa := fasL0 ++ (fasL1 ++ (fasL2 ++ (fasL3 ++ (fasL4 ++ (fasL5)))))
def namesL0 : List PySem.Str := ["_wall", "BarError", "InvalidLog", "InvalidDrift", "Unexplained", "UnlikeLogs", "TooLarge", "NothingToUndo", "NothingToRedo", "UnknownItem", "UnknownJudge", "NameTaken", "InvalidPlace", "InvalidGrade", "InvalidNotation"]
def namesL1 : List PySem.Str := ["links_in", "links_of", "ends_of", "ends_of_links", "lengths_to", "first_way", "reached", "better_by", "worse_than", "ring_of", "LETTERS", "RISES", "FALLS", "STAYS", "ANSWER"]
def namesL2 : List PySem.Str := ["RESET", "MOST_ITEMS", "MOST_JUDGES", "MOST_EVENTS", "MOST_GRADE", "is_name", "is_drift", "are_names", "is_event", "Log", "check_explained", "pairs_of", "check_offices", "names_in", "side_by_side"]
def namesL3 : List PySem.Str := ["joined", "ring_in", "together", "worse_in", "sure_pairs", "beside", "ends_of_grades", "least_and_greatest", "forecast", "DIGITS", "SORTS", "format_event", "format_log", "read_grade", "read_event"]
def namesL4 : List PySem.Str := ["read_line", "made_log", "parse_log", "check_alike", "has_ring", "has_all", "says_all", "say_same", "is_same_by", "needless_answers", "Trial", "found_answer", "copied", "Desk", "ring_line"]
def namesL5 : List PySem.Str := ["reply_to", "read_place", "deed_of", "Session", "_law_row", "_law_numbers", "_law_parts", "_law_log", "_law_told", "_law_drift", "_law_stretch_at", "_law_in_order", "_law_links", "_law_worse", "_law_has_ring"]
def namesL6 : List PySem.Str := ["_law_is_ring", "_law_pairs", "_law_can", "_law_alone"]
def namesL : List PySem.Str := namesL0 ++ (namesL1 ++ (namesL2 ++ (namesL3 ++ (namesL4 ++ (namesL5 ++ (namesL6))))))
end RB
set_option maxHeartbeats 0
/-! The head's run, in parts. -/
namespace RB
open PySem PySem.W PySem.Calls PyProof.Rows
abbrev Rw0 : OpenRow := OpenLaw.row PySem.Challenge.rw_risingbars_k83_whole_offices_and_texts
abbrev qv0 : Program := view Rw0.prog [109]
/-- the addresses that an object leads to -/
def refG (v : Value) : List Addr := match v with
  | .ref a => [a]
  | _ => []
def stepO (o : Obj) : List Addr := match o.data with
  | .func fd => refG fd.code
  | .cls cd => cd.ns :: cd.mro.flatMap refG
  | .dict es _ => es.toList.flatMap fun e => refG e.val
  | .fields vs => vs.toList.flatMap refG
  | _ => []
def stepP (o : Obj) : List Addr := match o.cls with
  | .type "code" => []
  | _ => stepO o
def nextG (g : Addr → Option Obj) (as : List Addr) : List Addr := as.flatMap fun a => match g a with
  | some o => stepP o
  | none => []
def asP (g : Addr → Option Obj) : List Addr :=
  let a1 := nextG g [mainGlobals]
  let a2 := nextG g a1
  let a3 := nextG g a2
  let a4 := nextG g a3
  let a5 := nextG g a4
  mainGlobals :: (a1 ++ (a2 ++ (a3 ++ (a4 ++ a5))))
def fragP (g : Addr → Option Obj) : Frag := He.frG g (asP g)
def sortsV : List He.Dv := [.str "item", .str "grades", .str "judge", .str "event"]
abbrev AlP : Type := He.AlD × (He.AlD × (List He.FnW × Bool))
def obsQ (K : Frag) : List He.FnW × Bool := (prsL.map fun p => fdA K (pgA K p.1 p.2.1), (prsL.all fun p => pgB K p.1 p.2.1 && fdB K (pgA K p.1 p.2.1) p.2.2) && He.lstB K "SORTS" sortsV)
def obsP (K : Frag) : AlP := (He.obsD fasL [] K, (He.obsD [] fnsL K, obsQ K))
def valQ : List He.FnW × Bool := (prsL.map fun p => p.2.2.val, true)
def valP : AlP := (He.valD [], (He.valD fnsL, valQ))
def hookP : Hook where
  α := AlP
  obs := fun s => obsP (fragP s.heap.get?)
  val := fun _ => valP
  says := fun _ h => ∃ K : Frag, K.In h ∧ obsP K = valP
  of := fun _ _ e => ⟨_, He.frG_in, e⟩
  keeps := fun _ _ _ x k => x.elim fun K y => ⟨K, Frag.In.keeps y.1 k, y.2⟩
def fragS (s : SharedT) : Frag := fragP (HandSHeadRun.getT s)
def obP (s : SharedT) : AlP := obsP (fragS s)
theorem obP_eq (s : SharedT) : obP s = hookP.obs s.abs := by
  have e : HandSHeadRun.getT s = s.abs.heap.get? := funext (HandSHeadRun.getT_eq s)
  show obsP (fragP (HandSHeadRun.getT s)) = obsP (fragP s.abs.heap.get?)
  rw [e]
/-- the end of the top, looked at by f -/
def EndIs {α : Type} (w : World) (f : SharedT → α) (v : α) : Prop := ∀ os : OsState, (HandSHeadRun.endF (HandSHeadRun.stepQ (HandSHeadRun.denQ HandSHeadRun.tabQ) Rw0.prog w) 40000 Rw0.prog w os).map f = some v
theorem EndIs.and {α β : Type} {w : World} {f : SharedT → α} {g : SharedT → β} {a : α} {b : β} (h : EndIs w f a) (k : EndIs w g b) : EndIs w (fun s => (f s, g s)) (a, b) := fun os => by
  have h1 := h os
  have h2 := k os
  generalize HandSHeadRun.endF (HandSHeadRun.stepQ (HandSHeadRun.denQ HandSHeadRun.tabQ) Rw0.prog w) 40000 Rw0.prog w os = r at h1 h2 ⊢
  cases r with
  | none => cases h1
  | some s =>
    have e1 : f s = a := Option.some.inj h1
    have e2 : g s = b := Option.some.inj h2
    show some (f s, g s) = some (a, b)
    rw [e1, e2]
theorem run1 (w : World) : EndIs w (fun s => HandSHeadRun.looksF Rw0.prog (boot_heap w.params) s.abs) true := by
  intro os
  kernel_rfl
theorem run2 (w : World) : EndIs w (fun s => HandSHeadRun.seenQ qv0 namesL (importedModules Rw0.prog.main.body) (fun s => xlAt qv0 [] s && recOk Rw0.toRowW.records s) s.abs) (openGood qv0 namesL) := by
  intro os
  kernel_rfl
theorem run3 (w : World) : EndIs w (fun s => He.obsD fasL [] (fragS s)) (He.valD []) := by
  intro os
  kernel_rfl
theorem run4 (w : World) : EndIs w (fun s => He.obsD [] fnsL (fragS s)) (He.valD fnsL) := by
  intro os
  kernel_rfl
theorem run5 (w : World) : EndIs w (fun s => obsQ (fragS s)) valQ := by
  intro os
  kernel_rfl
theorem runP (w : World) : HandSHeadRun.RunEq Rw0 qv0 hookP obP 40000 namesL w := (run1 w).and ((run2 w).and ((run3 w).and ((run4 w).and (run5 w))))
end RB
/-! What else the head asks, one by one. -/
namespace RB
open PySem PySem.W PySem.Calls PyProof.Rows
abbrev dLaw : DefRec := HandSHeadRun.topDef Rw0.prog 109
theorem h_open : opening Rw0.prog = plainProg Rw0.prog.main.scope.names := by kernel_rfl
theorem h_fence (s : Shared) : fenceModules? Rw0.prog s = some s := by kernel_rfl
theorem h_def : defOf qv0 Rw0.name = some (dLaw, []) := by kernel_rfl
theorem h_the : Rw0.prog.theDef Rw0.name = some (dLaw.params, dLaw.body, dLaw.scope) := by kernel_rfl
theorem h_kw : kwWritten? dLaw.params.kwonlyargs dLaw.params.kw_defaults = some [] := by kernel_rfl
theorem h_wr : (!Rw0.writes || Rw0.records.isEmpty) = true := by rfl
theorem h_ok : (chainsOk qv0 && opensWell Rw0.prog && (frees Rw0.toRowW && Rw0.within.isEmpty)) = true := by decide +kernel
theorem h_bare : Rw0.prog.bare := ⟨rfl, rfl, rfl, rfl, rfl, by decide +kernel⟩
/-- the end, given the walk of the law's def -/
theorem h_fin (call : WalkO qv0 namesL (XL qv0 []) hookP.says Rw0.toRowW dLaw [] fun f vs => PySem.call f vs) : PySem.Challenge.rw_risingbars_k83_whole_offices_and_texts.Holds := by
  w_on; o_law
  refine HandSHeadRun.head_any (r := Rw0) (q := qv0) (H := hookP) (ob := obP) (M := 40000) (loose := namesL) (d := dLaw) (kwd := []) obP_eq h_open h_fence runP h_def h_the h_kw h_wr (by first | assumption | decide +kernel) h_ok h_bare ?hw call
  w_witness2
end RB
set_option maxHeartbeats 4000000
/-! A layer of data over the hand layer: values as trees (D), the known heap B, cells for what is changed (Mu). -/
namespace L3
open PySem PySem.Spec PyProof.Rows L2

abbrev Fg := PySem.W.Frag

/-- a value with all that it holds; ref: an object by its address alone (a cell) -/
inductive D where
  | non
  | bl (b : Bool)
  | int (i : Int)
  | str (x : Str)
  | ty (n : String)
  | ref (a : Addr)
  | lst (xs : List D)
  | lsr (xs : List D)
  | tup (xs : List D)
  | dic (kvs : List (Key × D))
  | dit (kvs : List (List Key × D))
  | ins (C : Addr) (fs : List (Str × D))

mutual
inductive Rep (K : Fg) (B : Hp) : V → D → Prop
  | non : Rep K B .non .non
  | bl (b : Bool) : Rep K B (.bl b) (.bl b)
  | int (i : Int) : Rep K B (.int i) (.int i)
  | str (x : Str) : Rep K B (.str x) (.str x)
  | ty (n : String) : Rep K B (.ty n) (.ty n)
  | ref (a : Addr) : Rep K B (.ref a) (.ref a)
  | lst {a : Addr} {vs : List V} {ds : List D} (h : B a = some (.lst vs)) (r : Reps K B vs ds) : Rep K B (.ref a) (.lst ds)
  | lsr {a : Addr} {vs : List V} {ds : List D} (h : SqL K B a vs) (r : Reps K B vs ds) : Rep K B (.ref a) (.lsr ds)
  | tup {a : Addr} {vs : List V} {ds : List D} (h : B a = some (.tup vs)) (r : Reps K B vs ds) : Rep K B (.ref a) (.tup ds)
  | dic {a : Addr} {kvs : List (Key × V)} {kds : List (Key × D)} (h : Rd B a (.dK kvs)) (r : RepK K B kvs kds) : Rep K B (.ref a) (.dic kds)
  | dit {a : Addr} {kvs : List (List Key × V)} {kds : List (List Key × D)} (h : Rd B a (.dT kvs)) (r : RepT K B kvs kds) : Rep K B (.ref a) (.dit kds)
  | ins {a C dx : Addr} {fs : List (Str × V)} {fds : List (Str × D)} (h : B a = some (.ins C dx fs)) (r : RepF K B fs fds) : Rep K B (.ref a) (.ins C fds)
inductive Reps (K : Fg) (B : Hp) : List V → List D → Prop
  | nil : Reps K B [] []
  | cons {v : V} {d : D} {vs : List V} {ds : List D} (h : Rep K B v d) (r : Reps K B vs ds) : Reps K B (v :: vs) (d :: ds)
inductive RepK (K : Fg) (B : Hp) : List (Key × V) → List (Key × D) → Prop
  | nil : RepK K B [] []
  | cons {k : Key} {v : V} {d : D} {vs : List (Key × V)} {ds : List (Key × D)} (h : Rep K B v d) (r : RepK K B vs ds) : RepK K B ((k, v) :: vs) ((k, d) :: ds)
inductive RepT (K : Fg) (B : Hp) : List (List Key × V) → List (List Key × D) → Prop
  | nil : RepT K B [] []
  | cons {k : List Key} {v : V} {d : D} {vs : List (List Key × V)} {ds : List (List Key × D)} (h : Rep K B v d) (r : RepT K B vs ds) : RepT K B ((k, v) :: vs) ((k, d) :: ds)
inductive RepF (K : Fg) (B : Hp) : List (Str × V) → List (Str × D) → Prop
  | nil : RepF K B [] []
  | cons {k : Str} {v : V} {d : D} {vs : List (Str × V)} {ds : List (Str × D)} (h : Rep K B v d) (r : RepF K B vs ds) : RepF K B ((k, v) :: vs) ((k, d) :: ds)
end

/-- what B tells is told by B' too -/
structure Le (B B' : Hp) : Prop where
  ex : ∀ a u, (∀ o w, u ≠ .frz o w) → (∀ kvs, u ≠ .dK kvs) → (∀ kvs, u ≠ .dT kvs) → B a = some u → B' a = some u
  rd : ∀ a u, (∀ o w, u ≠ .frz o w) → Rd B a u → Rd B' a u
theorem Le.of {B B' : Hp} (h : ∀ a o, B a = some o → B' a = some o) : Le B B' := ⟨fun a u _ _ _ e => h a u e, fun a u _ r => by
  rcases r with r | ⟨o, r⟩
  · exact .inl (h a _ r)
  · exact .inr ⟨o, h a _ r⟩⟩
theorem Le.sq {K : Fg} {B B' : Hp} {a : Addr} {vs : List V} (l : Le B B') (h : SqL K B a vs) : SqL K B' a vs := by
  rcases h with h | h
  · refine .inl (l.rd _ _ ?_ h)
    intro o w z
    cases z
  · exact .inr h

theorem Le.lst {B B' : Hp} {a : Addr} {vs : List V} (l : Le B B') (h : B a = some (.lst vs)) : B' a = some (.lst vs) := by
  refine l.ex a _ ?_ ?_ ?_ h
  · intro o w z
    cases z
  · intro k z
    cases z
  · intro k z
    cases z
theorem Le.tup {B B' : Hp} {a : Addr} {vs : List V} (l : Le B B') (h : B a = some (.tup vs)) : B' a = some (.tup vs) := by
  refine l.ex a _ ?_ ?_ ?_ h
  · intro o w z
    cases z
  · intro k z
    cases z
  · intro k z
    cases z
theorem Le.ins {B B' : Hp} {a C dx : Addr} {fs : List (Str × V)} (l : Le B B') (h : B a = some (.ins C dx fs)) : B' a = some (.ins C dx fs) := by
  refine l.ex a _ ?_ ?_ ?_ h
  · intro o w z
    cases z
  · intro k z
    cases z
  · intro k z
    cases z
theorem Le.dK {B B' : Hp} {a : Addr} {vs : List (Key × V)} (l : Le B B') (h : Rd B a (.dK vs)) : Rd B' a (.dK vs) := by
  refine l.rd _ _ ?_ h
  intro o w z
  cases z
theorem Le.dT {B B' : Hp} {a : Addr} {vs : List (List Key × V)} (l : Le B B') (h : Rd B a (.dT vs)) : Rd B' a (.dT vs) := by
  refine l.rd _ _ ?_ h
  intro o w z
  cases z
mutual
theorem Rep.mono {K : Fg} {B B' : Hp} (l : Le B B') : ∀ {v : V} {d : D}, Rep K B v d → Rep K B' v d
  | _, _, .non => .non
  | _, _, .bl b => .bl b
  | _, _, .int b => .int b
  | _, _, .str b => .str b
  | _, _, .ty b => .ty b
  | _, _, .ref b => .ref b
  | _, _, .lst h r => .lst (l.lst h) (Reps.mono l r)
  | _, _, .lsr h r => .lsr (l.sq h) (Reps.mono l r)
  | _, _, .tup h r => .tup (l.tup h) (Reps.mono l r)
  | _, _, .dic h r => .dic (l.dK h) (RepK.mono l r)
  | _, _, .dit h r => .dit (l.dT h) (RepT.mono l r)
  | _, _, .ins h r => .ins (l.ins h) (RepF.mono l r)
theorem Reps.mono {K : Fg} {B B' : Hp} (l : Le B B') : ∀ {v : List V} {d : List D}, Reps K B v d → Reps K B' v d
  | _, _, .nil => .nil
  | _, _, .cons h r => .cons (Rep.mono l h) (Reps.mono l r)
theorem RepK.mono {K : Fg} {B B' : Hp} (l : Le B B') : ∀ {v : List (Key × V)} {d : List (Key × D)}, RepK K B v d → RepK K B' v d
  | _, _, .nil => .nil
  | _, _, .cons h r => .cons (Rep.mono l h) (RepK.mono l r)
theorem RepT.mono {K : Fg} {B B' : Hp} (l : Le B B') : ∀ {v : List (List Key × V)} {d : List (List Key × D)}, RepT K B v d → RepT K B' v d
  | _, _, .nil => .nil
  | _, _, .cons h r => .cons (Rep.mono l h) (RepT.mono l r)
theorem RepF.mono {K : Fg} {B B' : Hp} (l : Le B B') : ∀ {v : List (Str × V)} {d : List (Str × D)}, RepF K B v d → RepF K B' v d
  | _, _, .nil => .nil
  | _, _, .cons h r => .cons (Rep.mono l h) (RepF.mono l r)
end

section
variable {K : Fg} {B : Hp}
theorem Reps.length : ∀ {vs : List V} {ds : List D}, Reps K B vs ds → vs.length = ds.length
  | _, _, .nil => rfl
  | _, _, .cons _ r => by rw [List.length_cons, List.length_cons, Reps.length r]
theorem Reps.get : ∀ {vs : List V} {ds : List D} {i : Nat} {d : D}, Reps K B vs ds → ds[i]? = some d → ∃ v, vs[i]? = some v ∧ Rep K B v d
  | _, _, _, _, .nil, e => by simp at e
  | _, _, 0, _, .cons h _, e => by simp at e; subst e; exact ⟨_, rfl, h⟩
  | _, _, i + 1, d, .cons _ r, e => by
    obtain ⟨v, h1, h2⟩ := Reps.get (i := i) (d := d) r (by simpa using e)
    exact ⟨v, by simpa using h1, h2⟩
theorem Reps.getV : ∀ {vs : List V} {ds : List D} {i : Nat} {v : V}, Reps K B vs ds → vs[i]? = some v → ∃ d, ds[i]? = some d ∧ Rep K B v d
  | _, _, _, _, .nil, e => by simp at e
  | _, _, 0, _, .cons h _, e => by simp at e; subst e; exact ⟨_, rfl, h⟩
  | _, _, i + 1, d, .cons _ r, e => by
    obtain ⟨v, h1, h2⟩ := Reps.getV (i := i) (v := d) r (by simpa using e)
    exact ⟨v, by simpa using h1, h2⟩
theorem Reps.append : ∀ {xs ys : List V} {ds es : List D}, Reps K B xs ds → Reps K B ys es → Reps K B (xs ++ ys) (ds ++ es)
  | _, _, _, _, .nil, s => s
  | _, _, _, _, .cons h r, s => .cons h (Reps.append r s)
theorem Reps.take : ∀ {vs : List V} {ds : List D} (n : Nat), Reps K B vs ds → Reps K B (vs.take n) (ds.take n)
  | _, _, 0, _ => .nil
  | _, _, _ + 1, .nil => .nil
  | _, _, n + 1, .cons h r => .cons h (Reps.take n r)
theorem Reps.drop : ∀ {vs : List V} {ds : List D} (n : Nat), Reps K B vs ds → Reps K B (vs.drop n) (ds.drop n)
  | _, _, 0, r => r
  | _, _, _ + 1, .nil => .nil
  | _, _, n + 1, .cons _ r => Reps.drop n r
theorem Reps.one {v : V} {d : D} (h : Rep K B v d) : Reps K B [v] [d] := .cons h .nil
theorem Reps.erase : ∀ {vs : List V} {ds : List D} (n : Nat), Reps K B vs ds → Reps K B (vs.eraseIdx n) (ds.eraseIdx n)
  | _, _, _, .nil => .nil
  | _, _, 0, .cons _ r => r
  | _, _, n + 1, .cons h r => .cons h (Reps.erase n r)
/-- a list of ints, of texts, of bools -/
theorem Reps.ints : ∀ {vs : List V} {ns : List Int}, Reps K B vs (ns.map D.int) → vs = ns.map V.int
  | _, [], .nil => rfl
  | _, n :: ns, .cons h r => by
    cases h
    rw [List.map_cons, Reps.ints r]
theorem Reps.strs : ∀ {vs : List V} {ns : List Str}, Reps K B vs (ns.map D.str) → vs = ns.map V.str
  | _, [], .nil => rfl
  | _, n :: ns, .cons h r => by
    cases h
    rw [List.map_cons, Reps.strs r]
theorem Reps.bls : ∀ {vs : List V} {ns : List Bool}, Reps K B vs (ns.map D.bl) → vs = ns.map V.bl
  | _, [], .nil => rfl
  | _, n :: ns, .cons h r => by
    cases h
    rw [List.map_cons, Reps.bls r]
theorem Reps.ofInts : ∀ ns : List Int, Reps K B (ns.map V.int) (ns.map D.int)
  | [] => .nil
  | n :: ns => .cons (.int n) (Reps.ofInts ns)
theorem Reps.ofStrs : ∀ ns : List Str, Reps K B (ns.map V.str) (ns.map D.str)
  | [] => .nil
  | n :: ns => .cons (.str n) (Reps.ofStrs ns)
theorem RepK.length : ∀ {vs : List (Key × V)} {ds : List (Key × D)}, RepK K B vs ds → vs.length = ds.length
  | _, _, .nil => rfl
  | _, _, .cons _ r => by rw [List.length_cons, List.length_cons, RepK.length r]
theorem RepT.length : ∀ {vs : List (List Key × V)} {ds : List (List Key × D)}, RepT K B vs ds → vs.length = ds.length
  | _, _, .nil => rfl
  | _, _, .cons _ r => by rw [List.length_cons, List.length_cons, RepT.length r]
end

/-! ### tables of data -/
section
variable {κ : Type} [DecidableEq κ]
def getD (kvs : List (κ × D)) (k : κ) : Option D := (kvs.find? fun kv => decide (kv.1 = k)).map (·.2)
def setD (kvs : List (κ × D)) (k : κ) (v : D) : List (κ × D) :=
  if (kvs.any fun kv => decide (kv.1 = k)) = true then kvs.map (fun kv => if kv.1 = k then (kv.1, v) else kv) else kvs ++ [(k, v)]
end
def putFD (f : Str) (v : D) : List (Str × D) → List (Str × D)
  | [] => [(f, v)]
  | (g, x) :: r => if g = f then (g, v) :: r else (g, x) :: putFD f v r
section
variable {K : Fg} {B : Hp}
theorem RepK.at_ {k : Key} : ∀ {vs : List (Key × V)} {ds : List (Key × D)}, RepK K B vs ds → (getD ds k = none ∧ valV vs k = none) ∨ ∃ v d, getD ds k = some d ∧ valV vs k = some v ∧ Rep K B v d
  | _, _, .nil => .inl ⟨rfl, rfl⟩
  | _, _, .cons (k := j) (v := v) (d := d) (vs := vs) (ds := ds) h r => by
    by_cases e : j = k
    · refine .inr ⟨v, d, ?_, valV_pos (p := (j, v)) e, h⟩
      simp [getD, List.find?_cons, e]
    · have e1 : getD ((j, d) :: ds) k = getD ds k := by simp [getD, List.find?_cons, e]
      rw [e1, valV_neg (p := (j, v)) e]
      exact RepK.at_ r
theorem RepT.at_ {k : List Key} : ∀ {vs : List (List Key × V)} {ds : List (List Key × D)}, RepT K B vs ds → (getD ds k = none ∧ valV vs k = none) ∨ ∃ v d, getD ds k = some d ∧ valV vs k = some v ∧ Rep K B v d
  | _, _, .nil => .inl ⟨rfl, rfl⟩
  | _, _, .cons (k := j) (v := v) (d := d) (vs := vs) (ds := ds) h r => by
    by_cases e : j = k
    · refine .inr ⟨v, d, ?_, valV_pos (p := (j, v)) e, h⟩
      simp [getD, List.find?_cons, e]
    · have e1 : getD ((j, d) :: ds) k = getD ds k := by simp [getD, List.find?_cons, e]
      rw [e1, valV_neg (p := (j, v)) e]
      exact RepT.at_ r
theorem RepK.any {k : Key} : ∀ {vs : List (Key × V)} {ds : List (Key × D)}, RepK K B vs ds → (vs.any fun kv => decide (kv.1 = k)) = (ds.any fun kv => decide (kv.1 = k))
  | _, _, .nil => rfl
  | _, _, .cons h r => by rw [List.any_cons, List.any_cons, RepK.any r]
theorem RepK.map {k : Key} {v : V} {d : D} (h : Rep K B v d) : ∀ {vs : List (Key × V)} {ds : List (Key × D)}, RepK K B vs ds → RepK K B (vs.map fun kv => if kv.1 = k then (kv.1, v) else kv) (ds.map fun kv => if kv.1 = k then (kv.1, d) else kv)
  | _, _, .nil => .nil
  | _, _, .cons (k := j) h' r => by
    rw [List.map_cons, List.map_cons]
    by_cases e : j = k
    · rw [if_pos e, if_pos e]
      exact .cons h (RepK.map h r)
    · rw [if_neg e, if_neg e]
      exact .cons h' (RepK.map h r)
theorem RepK.snoc {k : Key} {v : V} {d : D} (h : Rep K B v d) : ∀ {vs : List (Key × V)} {ds : List (Key × D)}, RepK K B vs ds → RepK K B (vs ++ [(k, v)]) (ds ++ [(k, d)])
  | _, _, .nil => .cons h .nil
  | _, _, .cons h' r => .cons h' (RepK.snoc h r)
theorem RepK.put {k : Key} {v : V} {d : D} {vs : List (Key × V)} {ds : List (Key × D)} (r : RepK K B vs ds) (h : Rep K B v d) : RepK K B (putK vs k v) (setD ds k d) := by
  unfold putK setD
  rw [r.any]
  split
  · exact RepK.map h r
  · exact RepK.snoc h r
theorem RepT.any {k : List Key} : ∀ {vs : List (List Key × V)} {ds : List (List Key × D)}, RepT K B vs ds → (vs.any fun kv => decide (kv.1 = k)) = (ds.any fun kv => decide (kv.1 = k))
  | _, _, .nil => rfl
  | _, _, .cons h r => by rw [List.any_cons, List.any_cons, RepT.any r]
theorem RepT.map {k : List Key} {v : V} {d : D} (h : Rep K B v d) : ∀ {vs : List (List Key × V)} {ds : List (List Key × D)}, RepT K B vs ds → RepT K B (vs.map fun kv => if kv.1 = k then (kv.1, v) else kv) (ds.map fun kv => if kv.1 = k then (kv.1, d) else kv)
  | _, _, .nil => .nil
  | _, _, .cons (k := j) h' r => by
    rw [List.map_cons, List.map_cons]
    by_cases e : j = k
    · rw [if_pos e, if_pos e]
      exact .cons h (RepT.map h r)
    · rw [if_neg e, if_neg e]
      exact .cons h' (RepT.map h r)
theorem RepT.snoc {k : List Key} {v : V} {d : D} (h : Rep K B v d) : ∀ {vs : List (List Key × V)} {ds : List (List Key × D)}, RepT K B vs ds → RepT K B (vs ++ [(k, v)]) (ds ++ [(k, d)])
  | _, _, .nil => .cons h .nil
  | _, _, .cons h' r => .cons h' (RepT.snoc h r)
theorem RepT.put {k : List Key} {v : V} {d : D} {vs : List (List Key × V)} {ds : List (List Key × D)} (r : RepT K B vs ds) (h : Rep K B v d) : RepT K B (putK vs k v) (setD ds k d) := by
  unfold putK setD
  rw [r.any]
  split
  · exact RepT.map h r
  · exact RepT.snoc h r
theorem RepF.put {f : Str} {v : V} {d : D} (h : Rep K B v d) : ∀ {vs : List (Str × V)} {ds : List (Str × D)}, RepF K B vs ds → RepF K B (putF f v vs) (putFD f d ds)
  | _, _, .nil => .cons h .nil
  | _, _, .cons (k := j) h' r => by
    unfold putF putFD
    by_cases e : j = f
    · rw [if_pos e, if_pos e]
      exact .cons h r
    · rw [if_neg e, if_neg e]
      exact .cons h' (RepF.put h r)
theorem RepF.length : ∀ {vs : List (Str × V)} {ds : List (Str × D)}, RepF K B vs ds → vs.length = ds.length
  | _, _, .nil => rfl
  | _, _, .cons _ r => by rw [List.length_cons, List.length_cons, RepF.length r]
theorem RepF.look {f : Str} {d : D} : ∀ {vs : List (Str × V)} {ds : List (Str × D)}, RepF K B vs ds → ds.lookup f = some d → ∃ v, vs.lookup f = some v ∧ Rep K B v d
  | _, _, .nil, e => by cases e
  | _, _, .cons (k := j) (v := v) (d := d') (vs := vs) (ds := ds) h r, e => by
    cases hb : f == j with
    | true =>
      simp only [List.lookup, hb] at e ⊢
      cases e
      exact ⟨v, rfl, h⟩
    | false =>
      simp only [List.lookup, hb] at e ⊢
      exact RepF.look r e
theorem RepF.lookN {f : Str} : ∀ {vs : List (Str × V)} {ds : List (Str × D)}, RepF K B vs ds → ds.lookup f = none → vs.lookup f = none
  | _, _, .nil, e => rfl
  | _, _, .cons (k := j) (v := v) (d := d') (vs := vs) (ds := ds) h r, e => by
    cases hb : f == j with
    | true =>
      simp only [List.lookup, hb] at e
      cases e
    | false =>
      simp only [List.lookup, hb] at e ⊢
      exact RepF.lookN r e
end

/-! ### cells: what may be changed -/
inductive MO where
  | lst (ds : List D)
  | dK (kvs : List (Key × D))
  | dT (kvs : List (List Key × D))
  | ins (C : Addr) (fs : List (Str × D))
structure Mu where
  c : Addr → Option MO
  fz : List Addr
def RepM (K : Fg) (B H : Hp) (a : Addr) : MO → Prop
  | .lst ds => ∃ vs, H a = some (.lst vs) ∧ Reps K B vs ds
  | .dK kds => ∃ kvs, H a = some (.dK kvs) ∧ RepK K B kvs kds
  | .dT kds => ∃ kvs, H a = some (.dT kvs) ∧ RepT K B kvs kds
  | .ins C fds => ∃ dx fs, H a = some (.ins C dx fs) ∧ RepF K B fs fds
theorem RepM.some {K : Fg} {B H : Hp} {a : Addr} {m : MO} (h : RepM K B H a m) : ∃ o, H a = some o ∧ Mut (some o) := by
  cases m with
  | lst ds => obtain ⟨vs, e, _⟩ := h; exact ⟨_, e, True.intro⟩
  | dK ds => obtain ⟨vs, e, _⟩ := h; exact ⟨_, e, True.intro⟩
  | dT ds => obtain ⟨vs, e, _⟩ := h; exact ⟨_, e, True.intro⟩
  | ins C ds => obtain ⟨dx, vs, e, _⟩ := h; exact ⟨_, e, True.intro⟩
theorem RepM.mono {K : Fg} {B B' H H' : Hp} {a : Addr} {m : MO} (l : Le B B') (e : H' a = H a) (h : RepM K B H a m) : RepM K B' H' a m := by
  cases m with
  | lst ds => obtain ⟨vs, q, r⟩ := h; exact ⟨vs, e.trans q, r.mono l⟩
  | dK ds => obtain ⟨vs, q, r⟩ := h; exact ⟨vs, e.trans q, r.mono l⟩
  | dT ds => obtain ⟨vs, q, r⟩ := h; exact ⟨vs, e.trans q, r.mono l⟩
  | ins C ds => obtain ⟨dx, vs, q, r⟩ := h; exact ⟨dx, vs, e.trans q, r.mono l⟩
/-- the known part, the cells, the heap -/
structure Ok (K : Fg) (B H : Hp) (m : Mu) : Prop where
  ex : ∀ a o, B a = some o → H a = some o
  cl : ∀ a o, m.c a = some o → B a = none ∧ RepM K B H a o
  nf : ∀ a o u, B a = some (.frz o u) → (∀ kvs, u ≠ .dK kvs) ∨ a ∈ m.fz
/-- from one state to a later one -/
structure Tr (B H : Hp) (m : Mu) (B' H' : Hp) (m' : Mu) : Prop where
  b : ∀ a o, B a = some o → B' a = some o
  h : ∀ a o, H a = some o → m.c a = none → H' a = some o
  n : ∀ a o, H a = some o → B a = none → m.c a = none → B' a = none
  m : ∀ a o, H a = some o → m.c a = none → m'.c a = none
section
variable {K : Fg} {B H B1 H1 B2 H2 B' H' : Hp} {m m1 m2 m' : Mu}
theorem Tr.refl : Tr B H m B H m := ⟨fun _ _ e => e, fun _ _ e _ => e, fun _ _ _ e _ => e, fun _ _ _ e => e⟩
theorem Tr.trans (x : Tr B H m B1 H1 m1) (y : Tr B1 H1 m1 B2 H2 m2) : Tr B H m B2 H2 m2 where
  b := fun a o e => y.b a o (x.b a o e)
  h := fun a o e c => y.h a o (x.h a o e c) (x.m a o e c)
  n := fun a o e b c => y.n a o (x.h a o e c) (x.n a o e b c) (x.m a o e c)
  m := fun a o e c => y.m a o (x.h a o e c) (x.m a o e c)
theorem Tr.le (x : Tr B H m B1 H1 m1) : Le B B1 := Le.of x.b
theorem Ok.le (x : Ok K B H m) : Le B H := Le.of x.ex
theorem Ok.cfree (x : Ok K B H m) {p : Addr} (hp : H p = none) : m.c p = none := by
  cases e : m.c p with
  | none => rfl
  | some o =>
    obtain ⟨u, q, _⟩ := (x.cl p o e).2.some
    rw [hp] at q
    cases q
theorem Ok.bfree (x : Ok K B H m) {p : Addr} (hp : H p = none) : B p = none := by
  cases e : B p with
  | none => rfl
  | some o =>
    rw [x.ex p o e] at hp
    cases hp
/-- a new known object -/
theorem Ok.alloc (x : Ok K B H m) {p : Addr} {o : HO} (hp : H p = none) (hf : ∀ q u, o ≠ .frz q u := by intro _ _ z; cases z) : Ok K (upd B p o) (upd H p o) m where
  ex := fun a u e => by
    by_cases h : a = p
    · subst h
      rw [upd_same] at e ⊢
      exact e
    · rw [upd_ne h] at e ⊢
      exact x.ex a u e
  cl := fun a u e => by
    have h : a ≠ p := fun z => by
      rw [z, x.cfree hp] at e
      cases e
    obtain ⟨h1, h2⟩ := x.cl a u e
    refine ⟨by rw [upd_ne h]; exact h1, h2.mono (Le.of fun b v q => ?_) (upd_ne h)⟩
    rw [upd_ne (ne_of_none q (x.bfree hp))]
    exact q
  nf := fun a q u e => by
    by_cases h : a = p
    · subst h
      rw [upd_same] at e
      exact absurd (Option.some.inj e) (hf q u)
    · rw [upd_ne h] at e
      exact x.nf a q u e
theorem Ok.allocT (x : Ok K B H m) {p : Addr} {o : HO} (hp : H p = none) : Tr B H m (upd B p o) (upd H p o) m where
  b := fun a u e => by rw [upd_ne (ne_of_none e (x.bfree hp))]; exact e
  h := fun a u e _ => by rw [upd_ne (ne_of_none e hp)]; exact e
  n := fun a u e b _ => by rw [upd_ne (ne_of_none e hp)]; exact b
  m := fun _ _ _ e => e
def Mu.set (m : Mu) (a : Addr) (o : MO) : Mu := ⟨fun b => if b = a then some o else m.c b, m.fz⟩
def Mu.del (m : Mu) (a : Addr) : Mu := ⟨fun b => if b = a then none else m.c b, m.fz⟩
theorem Mu.set_same {a : Addr} {o : MO} : (m.set a o).c a = some o := if_pos rfl
theorem Mu.set_ne {a b : Addr} {o : MO} (h : b ≠ a) : (m.set a o).c b = m.c b := if_neg h
theorem Mu.del_same {a : Addr} : (m.del a).c a = none := if_pos rfl
theorem Mu.del_ne {a b : Addr} (h : b ≠ a) : (m.del a).c b = m.c b := if_neg h
/-- a new cell -/
theorem Ok.allocM (x : Ok K B H m) {p : Addr} {o : HO} {c : MO} (hp : H p = none) (hc : RepM K B (upd H p o) p c) : Ok K B (upd H p o) (m.set p c) where
  ex := fun a u e => by rw [upd_ne (ne_of_none (x.ex a u e) hp)]; exact x.ex a u e
  cl := fun a u e => by
    by_cases h : a = p
    · subst h
      rw [Mu.set_same] at e
      cases e
      exact ⟨x.bfree hp, hc⟩
    · rw [Mu.set_ne h] at e
      obtain ⟨h1, h2⟩ := x.cl a u e
      exact ⟨h1, h2.mono (Le.of fun _ _ q => q) (upd_ne h)⟩
  nf := x.nf
theorem Ok.allocMT (x : Ok K B H m) {p : Addr} {o : HO} {c : MO} (hp : H p = none) : Tr B H m B (upd H p o) (m.set p c) where
  b := fun _ _ e => e
  h := fun a u e _ => by rw [upd_ne (ne_of_none e hp)]; exact e
  n := fun _ _ _ e _ => e
  m := fun a u e c => by rw [Mu.set_ne (ne_of_none e hp)]; exact c
/-- a cell is changed -/
theorem Ok.write (x : Ok K B H m) {p : Addr} {o : HO} {c c' : MO} (hp : m.c p = some c) (hc : RepM K B (upd H p o) p c') : Ok K B (upd H p o) (m.set p c') where
  ex := fun a u e => by
    have h : a ≠ p := fun z => by
      rw [z, (x.cl p c hp).1] at e
      cases e
    rw [upd_ne h]
    exact x.ex a u e
  cl := fun a u e => by
    by_cases h : a = p
    · subst h
      rw [Mu.set_same] at e
      cases e
      exact ⟨(x.cl _ c hp).1, hc⟩
    · rw [Mu.set_ne h] at e
      obtain ⟨h1, h2⟩ := x.cl a u e
      exact ⟨h1, h2.mono (Le.of fun _ _ q => q) (upd_ne h)⟩
  nf := x.nf
theorem Ok.writeT (x : Ok K B H m) {p : Addr} {o : HO} {c c' : MO} (hp : m.c p = some c) : Tr B H m B (upd H p o) (m.set p c') where
  b := fun _ _ e => e
  h := fun a u e z => by
    have h : a ≠ p := fun q => by
      rw [q, hp] at z
      cases z
    rw [upd_ne h]
    exact e
  n := fun _ _ _ e _ => e
  m := fun a u e z => by
    have h : a ≠ p := fun q => by
      rw [q, hp] at z
      cases z
    rw [Mu.set_ne h]
    exact z
/-- a cell is known from now on -/
theorem Ok.freeze (x : Ok K B H m) {p : Addr} {o : HO} {c : MO} (hp : m.c p = some c) (ho : H p = some o) (hf : ∀ q u, o ≠ .frz q u := by intro _ _ z; cases z) : Ok K (upd B p o) H (m.del p) where
  ex := fun a u e => by
    by_cases h : a = p
    · subst h
      rw [upd_same] at e
      rw [ho]
      exact e
    · rw [upd_ne h] at e
      exact x.ex a u e
  cl := fun a u e => by
    by_cases h : a = p
    · subst h
      rw [Mu.del_same] at e
      cases e
    · rw [Mu.del_ne h] at e
      obtain ⟨h1, h2⟩ := x.cl a u e
      refine ⟨by rw [upd_ne h]; exact h1, h2.mono (Le.of fun b v q => ?_) rfl⟩
      rw [upd_ne (ne_of_none q (x.cl p c hp).1)]
      exact q
  nf := fun a q u e => by
    by_cases h : a = p
    · subst h
      rw [upd_same] at e
      exact absurd (Option.some.inj e) (hf q u)
    · rw [upd_ne h] at e
      exact x.nf a q u e
theorem Ok.freezeT (x : Ok K B H m) {p : Addr} {o : HO} {c : MO} (hp : m.c p = some c) (ho : H p = some o) : Tr B H m (upd B p o) H (m.del p) where
  b := fun a u e => by rw [upd_ne (ne_of_none e (x.cl p c hp).1)]; exact e
  h := fun _ _ e _ => e
  n := fun a u e b z => by
    have h : a ≠ p := fun q => by
      rw [q, hp] at z
      cases z
    rw [upd_ne h]
    exact b
  m := fun a u e z => by
    have h : a ≠ p := fun q => by
      rw [q, hp] at z
      cases z
    rw [Mu.del_ne h]
    exact z
/-- cells forgotten -/
def Sub (m m' : Mu) : Prop := (∀ a o, m.c a = some o → m'.c a = some o) ∧ m'.fz = m.fz
theorem Sub.refl : Sub m m := ⟨fun _ _ e => e, rfl⟩
theorem Sub.trans (x : Sub m m1) (y : Sub m1 m2) : Sub m m2 := ⟨fun a o e => y.1 a o (x.1 a o e), y.2.trans x.2⟩
theorem Sub.set (x : Sub m m1) {p : Addr} {o : MO} (hp : m.c p = none) : Sub m (m1.set p o) := ⟨fun a u e => by
  have h : a ≠ p := fun q => by
    rw [q, hp] at e
    cases e
  rw [Mu.set_ne h]
  exact x.1 a u e, x.2⟩
theorem Sub.del (x : Sub m m1) {p : Addr} (hp : m.c p = none) : Sub m (m1.del p) := ⟨fun a u e => by
  have h : a ≠ p := fun q => by
    rw [q, hp] at e
    cases e
  rw [Mu.del_ne h]
  exact x.1 a u e, x.2⟩
theorem Ok.forget (x : Ok K B H m') (s : Sub m m') : Ok K B H m := ⟨x.ex, fun a o e => x.cl a o (s.1 a o e), fun a o u e => s.2 ▸ x.nf a o u e⟩
theorem Tr.forget (t : Tr B H m B' H' m') (s : Sub m m') : Tr B H m B' H' m := ⟨t.b, t.h, t.n, fun _ _ _ e => e⟩
end

/-! ### slots -/
abbrev Sl := List (Option D)
structure RelS (K : Fg) (B : Hp) (σ : L2.St) (δ : Sl) : Prop where
  len : σ.length = δ.length
  at_ : ∀ (i : Nat) (d : D), δ[i]? = some (some d) → ∃ v, σ[i]? = some (some v) ∧ Rep K B v d
section
variable {K : Fg} {B B' : Hp} {σ : L2.St} {δ : Sl}
theorem RelS.mono (r : RelS K B σ δ) (l : Le B B') : RelS K B' σ δ := ⟨r.len, fun i d e => let ⟨v, h1, h2⟩ := r.at_ i d e; ⟨v, h1, h2.mono l⟩⟩
theorem RelS.set (r : RelS K B σ δ) {i : Nat} {v : V} {d : D} (h : Rep K B v d) : RelS K B (σ.set i (some v)) (δ.set i (some d)) := by
  refine ⟨by rw [List.length_set, List.length_set, r.len], fun j e q => ?_⟩
  by_cases hj : j = i
  · subst hj
    have hl : j < δ.length := by
      have := (List.getElem?_eq_some_iff.mp q).1
      rwa [List.length_set] at this
    rw [List.getElem?_set_self hl] at q
    cases q
    exact ⟨v, List.getElem?_set_self (by rw [r.len]; exact hl), h⟩
  · rw [List.getElem?_set_ne (Ne.symm hj)] at q ⊢
    exact r.at_ j e q
def wipeD (δ : Sl) : List Nat → Sl
  | [] => δ
  | v :: vs => (wipeD δ vs).set v none
theorem RelS.wipe (r : RelS K B σ δ) : ∀ vs : List Nat, RelS K B (L2.wipe σ vs) (wipeD δ vs)
  | [] => r
  | v :: vs => by
    have ih := r.wipe vs
    refine ⟨by unfold L2.wipe wipeD; rw [List.length_set, List.length_set, ih.len], fun j e q => ?_⟩
    unfold wipeD at q
    unfold L2.wipe
    by_cases hj : j = v
    · subst hj
      have hl : j < (wipeD δ vs).length := by
        have := (List.getElem?_eq_some_iff.mp q).1
        rwa [List.length_set] at this
      rw [List.getElem?_set_self hl] at q
      cases q
    · rw [List.getElem?_set_ne (Ne.symm hj)] at q ⊢
      exact ih.at_ j e q
theorem RelS.drop (r : RelS K B σ δ) {δ' : Sl} (hl : δ'.length = δ.length) (h : ∀ (i : Nat) (d : D), δ'[i]? = some (some d) → δ[i]? = some (some d)) : RelS K B σ δ' := ⟨r.len.trans hl.symm, fun i d e => r.at_ i d (h i d e)⟩
end

/-! ### readings over data -/
abbrev QD := D → Mu → Prop
abbrev TD := Sl → Mu → QD → Prop
abbrev TTD := Sl → Mu → (Bool → Mu → Prop) → Prop
abbrev TAD := Sl → Mu → (List D → Mu → Prop) → Prop
structure EndsD where
  nx : Sl → Mu → Prop
  rt : QD
  bk : Sl → Mu → Prop := fun _ _ => False
  ct : Sl → Mu → Prop := fun _ _ => False
  rs : Mu → Prop := fun _ => False
abbrev TSD := EndsD → Sl → Mu → Prop

/-- a reading of the hand layer, over data -/
def Sim (K : Fg) (t : TE) (u : TD) : Prop := ∀ (σ : L2.St) (H B : Hp) (δ : Sl) (m : Mu) (Q : QD) (R : VK), Ok K B H m → RelS K B σ δ → u δ m Q →
  (∀ v d H' B' m', Ok K B' H' m' → Tr B H m B' H' m' → Rep K B' v d → Q d m' → R v H') → t σ H R
def SimT (K : Fg) (t : TT) (u : TTD) : Prop := ∀ (σ : L2.St) (H B : Hp) (δ : Sl) (m : Mu) (Q : Bool → Mu → Prop) (R : Bool → Hp → Prop), Ok K B H m → RelS K B σ δ → u δ m Q →
  (∀ b H' B' m', Ok K B' H' m' → Tr B H m B' H' m' → Q b m' → R b H') → t σ H R
def SimA (K : Fg) (t : TA) (u : TAD) : Prop := ∀ (σ : L2.St) (H B : Hp) (δ : Sl) (m : Mu) (Q : List D → Mu → Prop) (R : List V → Hp → Prop), Ok K B H m → RelS K B σ δ → u δ m Q →
  (∀ vs ds H' B' m', Ok K B' H' m' → Tr B H m B' H' m' → Reps K B' vs ds → Q ds m' → R vs H') → t σ H R
/-- Wx: what is wanted of the heap if the def raises -/
def SimS (K : Fg) (Wx : Hp → Prop) (t : TS) (u : TSD) : Prop := ∀ (σ : L2.St) (H B : Hp) (δ : Sl) (m : Mu) (Dd : EndsD) (De : Ends), Ok K B H m → RelS K B σ δ → u Dd δ m →
  (∀ σ' δ' H' B' m', Ok K B' H' m' → Tr B H m B' H' m' → RelS K B' σ' δ' → Dd.nx δ' m' → De.nx σ' H') →
  (∀ v d H' B' m', Ok K B' H' m' → Tr B H m B' H' m' → Rep K B' v d → Dd.rt d m' → De.rt v H') →
  (∀ σ' δ' H' B' m', Ok K B' H' m' → Tr B H m B' H' m' → RelS K B' σ' δ' → Dd.bk δ' m' → De.bk σ' H') →
  (∀ σ' δ' H' B' m', Ok K B' H' m' → Tr B H m B' H' m' → RelS K B' σ' δ' → Dd.ct δ' m' → De.ct σ' H') →
  (∀ H' B' m', Ok K B' H' m' → Tr B H m B' H' m' → Dd.rs m' → Wx H') → t De σ H
end L3
/-! Expressions: readings over data. -/
namespace L3
open PySem PySem.Spec PyProof.Rows L2

abbrev KD (K : Fg) (B H : Hp) (m : Mu) (Q : QD) (R : VK) : Prop := ∀ v d H' B' m', Ok K B' H' m' → Tr B H m B' H' m' → Rep K B' v d → Q d m' → R v H'
theorem KD.here {K : Fg} {B H : Hp} {m : Mu} {Q : QD} {R : VK} (k : KD K B H m Q R) (ok : Ok K B H m) {v : V} {d : D} (r : Rep K B v d) (q : Q d m) : R v H := k v d H B m ok Tr.refl r q
theorem KD.new {K : Fg} {B H : Hp} {m : Mu} {Q : QD} {R : VK} (k : KD K B H m Q R) (ok : Ok K B H m) {p : Addr} {o : HO} {d : D} (hp : H p = none) (hf : ∀ q u, o ≠ .frz q u) (r : Rep K (upd B p o) (.ref p) d) (q : Q d m) : R (.ref p) (upd H p o) :=
  k _ d _ _ m (ok.alloc hp hf) (ok.allocT hp) r q
theorem leNew {B : Hp} {p : Addr} {o : HO} (h : B p = none) : Le B (upd B p o) := Le.of fun a u e => by rw [upd_ne (ne_of_none e h)]; exact e

/-! ### what a datum is, with the cells -/
def LsD (m : Mu) (d : D) (ds : List D) : Prop := d = .lst ds ∨ d = .lsr ds ∨ ∃ a, d = .ref a ∧ m.c a = some (.lst ds)
def DcD (m : Mu) (d : D) (kds : List (Key × D)) : Prop := d = .dic kds ∨ ∃ a, d = .ref a ∧ m.c a = some (.dK kds)
def DtD (m : Mu) (d : D) (kds : List (List Key × D)) : Prop := d = .dit kds ∨ ∃ a, d = .ref a ∧ m.c a = some (.dT kds)
def InD (m : Mu) (d : D) (C : Addr) (fs : List (Str × D)) : Prop := d = .ins C fs ∨ ∃ a, d = .ref a ∧ m.c a = some (.ins C fs)
def SqD (m : Mu) (d : D) (ds : List D) : Prop := LsD m d ds ∨ d = .tup ds
theorem LsD.lst {m : Mu} {ds : List D} : LsD m (.lst ds) ds := .inl rfl
theorem LsD.lsr {m : Mu} {ds : List D} : LsD m (.lsr ds) ds := .inr (.inl rfl)
theorem LsD.ref {m : Mu} {a : Addr} {ds : List D} (h : m.c a = some (.lst ds)) : LsD m (.ref a) ds := .inr (.inr ⟨a, rfl, h⟩)
section
variable {K : Fg} {B H : Hp} {m : Mu} {v : V} {d : D} {ds : List D}
theorem lsd (ok : Ok K B H m) (r : Rep K B v d) (h : LsD m d ds) : ∃ a vs, v = .ref a ∧ SqL K H a vs ∧ Reps K B vs ds := by
  rcases h with rfl | rfl | ⟨a, rfl, h⟩
  · cases r with
    | lst h r => exact ⟨_, _, rfl, SqL.of (ok.ex _ _ h), r⟩
  · cases r with
    | lsr h r => exact ⟨_, _, rfl, ok.le.sq h, r⟩
  · cases r
    obtain ⟨_, vs, e, r⟩ := ok.cl _ _ h
    exact ⟨a, vs, rfl, SqL.of e, r⟩
theorem tpd (ok : Ok K B H m) (r : Rep K B v (.tup ds)) : ∃ a vs, v = .ref a ∧ H a = some (.tup vs) ∧ B a = some (.tup vs) ∧ Reps K B vs ds := by
  cases r with
  | tup h r => exact ⟨_, _, rfl, ok.ex _ _ h, h, r⟩
theorem sqd (ok : Ok K B H m) (r : Rep K B v d) (h : SqD m d ds) : ∃ a vs, v = .ref a ∧ (SqL K H a vs ∨ SqT K H a vs) ∧ Reps K B vs ds := by
  rcases h with h | rfl
  · obtain ⟨a, vs, e, q, r⟩ := lsd ok r h
    exact ⟨a, vs, e, .inl q, r⟩
  · obtain ⟨a, vs, e, q, _, r⟩ := tpd ok r
    exact ⟨a, vs, e, .inr (SqT.of q), r⟩
theorem dcd {kds : List (Key × D)} (ok : Ok K B H m) (r : Rep K B v d) (h : DcD m d kds) : ∃ a kvs, v = .ref a ∧ Rd H a (.dK kvs) ∧ RepK K B kvs kds := by
  rcases h with rfl | ⟨a, rfl, h⟩
  · cases r with
    | dic h r => exact ⟨_, _, rfl, ok.le.dK h, r⟩
  · cases r
    obtain ⟨_, vs, e, r⟩ := ok.cl _ _ h
    exact ⟨a, vs, rfl, .inl e, r⟩
theorem dtd {kds : List (List Key × D)} (ok : Ok K B H m) (r : Rep K B v d) (h : DtD m d kds) : ∃ a kvs, v = .ref a ∧ Rd H a (.dT kvs) ∧ RepT K B kvs kds := by
  rcases h with rfl | ⟨a, rfl, h⟩
  · cases r with
    | dit h r => exact ⟨_, _, rfl, ok.le.dT h, r⟩
  · cases r
    obtain ⟨_, vs, e, r⟩ := ok.cl _ _ h
    exact ⟨a, vs, rfl, .inl e, r⟩
theorem ind {C : Addr} {fs : List (Str × D)} (ok : Ok K B H m) (r : Rep K B v d) (h : InD m d C fs) : ∃ a dx vs, v = .ref a ∧ H a = some (.ins C dx vs) ∧ RepF K B vs fs := by
  rcases h with rfl | ⟨a, rfl, h⟩
  · cases r with
    | ins h r => exact ⟨_, _, _, rfl, ok.ex _ _ h, r⟩
  · cases r
    obtain ⟨_, dx, vs, e, r⟩ := ok.cl _ _ h
    exact ⟨a, dx, vs, rfl, e, r⟩
end

/-! ### names, constants -/
def dVar (i : Nat) : TD := fun δ m Q => ∃ d, δ[i]? = some (some d) ∧ Q d m
def dC (d : D) : TD := fun _ m Q => Q d m
section
variable {X : Cx} {K : Fg}
theorem sim_var {i : Nat} : Sim K (tVar i) (dVar i) := fun σ H B δ m Q R ok rs h k => by
  obtain ⟨d, e, h⟩ := h
  obtain ⟨v, q, r⟩ := rs.at_ i d e
  exact ⟨v, q, KD.here k ok r h⟩
theorem sim_c {v : V} {d : D} (hr : ∀ B, Rep K B v d) : Sim K (tC v) (dC d) := fun σ H B δ m Q R ok rs h k => KD.here k ok (hr B) h
end

/-! ### operators -/
abbrev R2D := D → D → Mu → QD → Prop
def OpS (K : Fg) (r : R2) (ρ : R2D) : Prop := ∀ x y dx dy H B m Q R, Ok K B H m → Rep K B x dx → Rep K B y dy → ρ dx dy m Q → KD K B H m Q R → r x y H R
def dOp (ρ : R2D) (ua ub : TD) : TD := fun δ m Q => ua δ m fun x m1 => ub δ m1 fun y m2 => ρ x y m2 Q
def dTest (u : TD) : TTD := fun δ m Q => u δ m fun d m' => ∃ k, d = .bl k ∧ Q k m'
section
variable {X : Cx} {K : Fg} {ta tb tc : TE} {ua ub uc : TD} {a b c : Expr} {pos : Pos}
theorem sim_op {r : R2} {ρ : R2D} (ho : OpS K r ρ) (sa : Sim K ta ua) (sb : Sim K tb ub) : Sim K (tOp r ta tb) (dOp ρ ua ub) := fun σ H B δ m Q R ok rs h k => by
  refine sa σ H B δ m _ _ ok rs h fun x dx H1 B1 m1 ok1 tr1 rx h1 => ?_
  refine sb σ H1 B1 δ m1 _ _ ok1 (rs.mono tr1.le) h1 fun y dy H2 B2 m2 ok2 tr2 ry h2 => ?_
  exact ho x y dx dy H2 B2 m2 _ _ ok2 (rx.mono tr2.le) ry h2 fun v d H3 B3 m3 ok3 tr3 rv h3 => k v d H3 B3 m3 ok3 ((tr1.trans tr2).trans tr3) rv h3
theorem sim_test (sa : Sim K ta ua) : SimT K (tTest ta) (dTest ua) := fun σ H B δ m Q R ok rs h k => by
  refine sa σ H B δ m _ _ ok rs h fun x dx H1 B1 m1 ok1 tr1 rx h1 => ?_
  obtain ⟨b, rfl, q⟩ := h1
  cases rx
  exact ⟨b, rfl, k b H1 B1 m1 ok1 tr1 q⟩
theorem sim_B (sa : Sim K ta ua) : SimT K (tB ta) (dTest ua) := sim_test sa
/-! ints -/
def dI0 (g : Int → Int → D) : R2D := fun x y m Q => ∃ i j, x = .int i ∧ y = .int j ∧ Q (g i j) m
def dIC (C : Int → Int → Prop) (g : Int → Int → D) : R2D := fun x y m Q => ∃ i j, x = .int i ∧ y = .int j ∧ C i j ∧ Q (g i j) m
theorem os_I0 {g : Int → Int → V} {gd : Int → Int → D} (hr : ∀ B i j, Rep K B (g i j) (gd i j)) : OpS K (rI0 g) (dI0 gd) := fun x y dx dy H B m Q R ok rx ry h k => by
  obtain ⟨i, j, rfl, rfl, q⟩ := h
  cases rx
  cases ry
  exact ⟨i, j, rfl, rfl, k.here ok (hr B i j) q⟩
theorem os_IC {C : Int → Int → Prop} {g : Int → Int → V} {gd : Int → Int → D} (hr : ∀ B i j, Rep K B (g i j) (gd i j)) : OpS K (rI C g) (dIC C gd) := fun x y dx dy H B m Q R ok rx ry h k => by
  obtain ⟨i, j, rfl, rfl, c, q⟩ := h
  cases rx
  cases ry
  exact ⟨i, j, rfl, rfl, c, k.here ok (hr B i j) q⟩
abbrev dLt := dI0 fun i j => .bl (decide (i < j))
abbrev dLe := dI0 fun i j => .bl (decide (i ≤ j))
abbrev dGt := dI0 fun i j => .bl (decide (j < i))
abbrev dGe := dI0 fun i j => .bl (decide (j ≤ i))
theorem os_lt : OpS K (rI0 fun i j => .bl (decide (i < j))) dLt := os_I0 fun _ _ _ => .bl _
theorem os_le : OpS K (rI0 fun i j => .bl (decide (i ≤ j))) dLe := os_I0 fun _ _ _ => .bl _
theorem os_gt : OpS K (rI0 fun i j => .bl (decide (j < i))) dGt := os_I0 fun _ _ _ => .bl _
theorem os_ge : OpS K (rI0 fun i j => .bl (decide (j ≤ i))) dGe := os_I0 fun _ _ _ => .bl _
/-! == of scalars -/
def eqS : D → D → Option Bool
  | .non, .non => some true | .non, .int _ => some false | .int _, .non => some false | .non, .bl _ => some false | .bl _, .non => some false | .non, .str _ => some false | .str _, .non => some false
  | .int i, .int j => some (decide (i = j)) | .bl i, .bl j => some (decide (i = j)) | .str i, .str j => some (decide (i = j))
  | .int _, .str _ => some false | .str _, .int _ => some false | .bl _, .str _ => some false | .str _, .bl _ => some false
  | _, _ => none
def dEq : R2D := fun x y m Q => ∃ k, eqS x y = some k ∧ Q (.bl k) m
def dNe : R2D := fun x y m Q => ∃ k, eqS x y = some k ∧ Q (.bl (!k)) m
theorem eqS_ok {B : Hp} {x y : V} {dx dy : D} {k : Bool} (rx : Rep K B x dx) (ry : Rep K B y dy) (h : eqS dx dy = some k) : scal x y = true ∧ decide (x = y) = k := by
  cases rx <;> cases ry <;> first
    | (simp only [eqS] at h; cases h; exact ⟨rfl, by simp⟩)
    | (simp only [eqS] at h; cases h)
theorem os_eq : OpS K rEq dEq := fun x y dx dy H B m Q R ok rx ry h k => by
  obtain ⟨c, e, q⟩ := h
  obtain ⟨e1, e2⟩ := eqS_ok rx ry e
  refine ⟨e1, ?_⟩
  rw [e2]
  exact k.here ok (.bl c) q
theorem os_ne : OpS K rNe dNe := fun x y dx dy H B m Q R ok rx ry h k => by
  obtain ⟨c, e, q⟩ := h
  obtain ⟨e1, e2⟩ := eqS_ok rx ry e
  refine ⟨e1, ?_⟩
  rw [e2]
  exact k.here ok (.bl (!c)) q
/-! is None -/
def isNonD : D → Bool
  | .non => true
  | _ => false
theorem isNon_ok {B : Hp} {x : V} {dx : D} (rx : Rep K B x dx) : decide (x = V.non) = isNonD dx := by
  cases rx <;> simp [isNonD]
def dIsN : R2D := fun x y m Q => y = .non ∧ Q (.bl (isNonD x)) m
def dNotN : R2D := fun x y m Q => y = .non ∧ Q (.bl (!isNonD x)) m
abbrev rIsN1 : R2 := fun x y H Q => y = .non ∧ Q (.bl (decide (x = .non))) H
abbrev rNotN1 : R2 := fun x y H Q => y = .non ∧ Q (.bl (!decide (x = .non))) H
theorem os_isN : OpS K rIsN1 dIsN := fun x y dx dy H B m Q R ok rx ry h k => by
  obtain ⟨rfl, q⟩ := h
  cases ry
  refine ⟨rfl, ?_⟩
  rw [isNon_ok rx]
  exact k.here ok (.bl _) q
theorem os_notN : OpS K rNotN1 dNotN := fun x y dx dy H B m Q R ok rx ry h k => by
  obtain ⟨rfl, q⟩ := h
  cases ry
  refine ⟨rfl, ?_⟩
  rw [isNon_ok rx]
  exact k.here ok (.bl _) q
/-! is not True -/
def dNotB : R2D := fun x y m Q => ∃ a b, x = .bl a ∧ y = .bl b ∧ Q (.bl (!decide (a = b))) m
theorem os_notB : OpS K (fun x y H Q => ∃ a b, x = .bl a ∧ y = .bl b ∧ Q (.bl (!decide (a = b))) H) dNotB := fun x y dx dy H B m Q R ok rx ry h k => by
  obtain ⟨i, j, rfl, rfl, q⟩ := h
  cases rx
  cases ry
  exact ⟨i, j, rfl, rfl, k.here ok (.bl _) q⟩
/-! in, not in: texts, ints in a list or tuple -/
def xb (neg b : Bool) : Bool := if neg then !b else b
def dInS (neg : Bool) : R2D := fun x y m Q => ∃ (s : Str) (xs : List Str), x = .str s ∧ SqD m y (xs.map D.str) ∧ Q (.bl (xb neg (decide (s ∈ xs)))) m
def dInI (neg : Bool) : R2D := fun x y m Q => ∃ (s : Int) (xs : List Int), x = .int s ∧ SqD m y (xs.map D.int) ∧ Q (.bl (xb neg (decide (s ∈ xs)))) m
theorem inV_strs (s : Str) : ∀ xs : List Str, inV (.str s) (xs.map V.str) = decide (s ∈ xs)
  | [] => by simp [inV]
  | x :: xs => by
    have ih := inV_strs s xs
    unfold inV at ih ⊢
    rw [List.map_cons, List.any_cons, ih]
    by_cases h : x = s
    · simp [eqV, h]
    · have h2 : ¬ s = x := fun z => h z.symm
      simp [eqV, h, h2]
theorem inV_ints (s : Int) : ∀ xs : List Int, inV (.int s) (xs.map V.int) = decide (s ∈ xs)
  | [] => by simp [inV]
  | x :: xs => by
    have ih := inV_ints s xs
    unfold inV at ih ⊢
    rw [List.map_cons, List.any_cons, ih]
    by_cases h : x = s
    · simp [eqV, h]
    · have h2 : ¬ s = x := fun z => h z.symm
      simp [eqV, h, h2]
theorem os_inS (neg : Bool) : OpS K (rIn K neg) (dInS neg) := fun x y dx dy H B m Q R ok rx ry h k => by
  obtain ⟨s, xs, rfl, hs, q⟩ := h
  cases rx
  obtain ⟨a, vs, rfl, hq, r⟩ := sqd ok ry hs
  have e := Reps.strs r
  subst e
  refine ⟨a, _, rfl, hq, rfl, by simp [flatV], ?_⟩
  rw [inV_strs]
  exact k.here ok (.bl _) q
theorem os_inI (neg : Bool) : OpS K (rIn K neg) (dInI neg) := fun x y dx dy H B m Q R ok rx ry h k => by
  obtain ⟨s, xs, rfl, hs, q⟩ := h
  cases rx
  obtain ⟨a, vs, rfl, hq, r⟩ := sqd ok ry hs
  have e := Reps.ints r
  subst e
  refine ⟨a, _, rfl, hq, rfl, by simp [flatV], ?_⟩
  rw [inV_ints]
  exact k.here ok (.bl _) q
/-! one sign in a text -/
def dInC (neg : Bool) : R2D := fun x y m Q => ∃ (c : Nat) (z : Str), x = .str ⟨#[c]⟩ ∧ y = .str z ∧ Q (.bl (xb neg (decide (c ∈ z.cps.toList)))) m
theorem os_inC : OpS K (fun x y H Q => ∃ (c : Nat) (z : Str), x = .str ⟨#[c]⟩ ∧ y = .str z ∧ Q (.bl (decide (c ∈ z.cps.toList))) H) (dInC false) := fun x y dx dy H B m Q R ok rx ry h k => by
  obtain ⟨c, z, rfl, rfl, q⟩ := h
  cases rx
  cases ry
  exact ⟨c, z, rfl, rfl, k.here ok (.bl _) q⟩
/-! chains of two -/
def dChain (ρ ρ' : R2D) (ua ub uc : TD) : TD := fun δ m Q => ua δ m fun x m1 => ub δ m1 fun y m2 => ρ x y m2 fun z m3 => ∃ k, z = .bl k ∧ (if k = true then uc δ m3 fun w m4 => ρ' y w m4 Q else Q (.bl false) m3)
theorem sim_chain {r r' : R2} {ρ ρ' : R2D} (ho : OpS K r ρ) (ho' : OpS K r' ρ') (sa : Sim K ta ua) (sb : Sim K tb ub) (sc : Sim K tc uc) : Sim K (tChain r r' ta tb tc) (dChain ρ ρ' ua ub uc) := fun σ H B δ m Q R ok rs h k => by
  refine sa σ H B δ m _ _ ok rs h fun x dx H1 B1 m1 ok1 tr1 rx h1 => ?_
  refine sb σ H1 B1 δ m1 _ _ ok1 (rs.mono tr1.le) h1 fun y dy H2 B2 m2 ok2 tr2 ry h2 => ?_
  refine ho x y dx dy H2 B2 m2 _ _ ok2 (rx.mono tr2.le) ry h2 fun v d H3 B3 m3 ok3 tr3 rv h3 => ?_
  obtain ⟨c, rfl, h3⟩ := h3
  cases rv
  refine ⟨c, rfl, ?_⟩
  cases c with
  | false =>
    rw [if_neg Bool.false_ne_true] at h3 ⊢
    exact k _ _ H3 B3 m3 ok3 ((tr1.trans tr2).trans tr3) (.bl false) h3
  | true =>
    rw [if_pos rfl] at h3 ⊢
    refine sc σ H3 B3 δ m3 _ _ ok3 (((rs.mono tr1.le).mono tr2.le).mono tr3.le) h3 fun w dw H4 B4 m4 ok4 tr4 rw' h4 => ?_
    exact ho' y w dy dw H4 B4 m4 _ _ ok4 ((ry.mono tr3.le).mono tr4.le) rw' h4 fun v d H5 B5 m5 ok5 tr5 rv h5 => k v d H5 B5 m5 ok5 ((((tr1.trans tr2).trans tr3).trans tr4).trans tr5) rv h5
end
end L3
/-! Expressions, further: data compared, tests, displays, subscripts, attributes, calls. -/
namespace L3
open PySem PySem.Spec PyProof.Rows L2

/-! ### data of any depth -/
mutual
def pd : D → PyData
  | .non => .none | .bl b => .bool b | .int i => .int i | .str x => .str x
  | .lst xs => .list (pds xs) | .lsr xs => .list (pds xs) | .tup xs => .tuple (pds xs)
  | .ty _ => .none | .ref _ => .none | .dic _ => .none | .dit _ => .none | .ins _ _ => .none
def pds : List D → List PyData
  | [] => []
  | x :: xs => pd x :: pds xs
end
mutual
def isD : D → Bool
  | .non => true | .bl _ => true | .int _ => true | .str _ => true
  | .lst xs => isDs xs | .lsr xs => isDs xs | .tup xs => isDs xs
  | .ty _ => false | .ref _ => false | .dic _ => false | .dit _ => false | .ins _ _ => false
def isDs : List D → Bool
  | [] => true
  | x :: xs => isD x && isDs xs
end
section
variable {K : Fg} {B H : Hp} {m : Mu}
mutual
theorem repDp (ok : Ok K B H m) : ∀ (d : D) (v : V), Rep K B v d → isD d = true → Dp K H v (pd d)
  | .non, _, h, _ => by cases h; exact .non
  | .bl b, _, h, _ => by cases h; exact .bl b
  | .int b, _, h, _ => by cases h; exact .int b
  | .str b, _, h, _ => by cases h; exact .str b
  | .lst ds, _, h, e => by
    cases h with
    | lst h r =>
      unfold isD at e
      unfold pd
      exact .lst (SqL.of (ok.ex _ _ h)) (repDps ok ds _ r e)
  | .lsr ds, _, h, e => by
    cases h with
    | lsr h r =>
      unfold isD at e
      unfold pd
      exact .lst (ok.le.sq h) (repDps ok ds _ r e)
  | .tup ds, _, h, e => by
    cases h with
    | tup h r =>
      unfold isD at e
      unfold pd
      exact .tup (SqT.of (ok.ex _ _ h)) (repDps ok ds _ r e)
  | .ty _, _, _, e => by unfold isD at e; cases e
  | .ref _, _, _, e => by unfold isD at e; cases e
  | .dic _, _, _, e => by unfold isD at e; cases e
  | .dit _, _, _, e => by unfold isD at e; cases e
  | .ins _ _, _, _, e => by unfold isD at e; cases e
theorem repDps (ok : Ok K B H m) : ∀ (ds : List D) (vs : List V), Reps K B vs ds → isDs ds = true → DpAll K H vs (pds ds)
  | [], _, h, _ => by cases h; exact .nil
  | d :: ds, _, h, e => by
    cases h with
    | cons h r =>
      unfold isDs at e
      unfold pds
      obtain ⟨e1, e2⟩ := Bool.and_eq_true_iff.mp e
      exact .cons (repDp ok d _ h e1) (repDps ok ds _ r e2)
end
end
def dEqD : R2D := fun x y m Q => isD x = true ∧ isD y = true ∧ SeqAt.shaped (pd x) = true ∧ SeqAt.shaped (pd y) = true ∧ Q (.bl (PyData.eqv (pd x) (pd y))) m
def dNeD : R2D := fun x y m Q => isD x = true ∧ isD y = true ∧ SeqAt.shaped (pd x) = true ∧ SeqAt.shaped (pd y) = true ∧ Q (.bl (!PyData.eqv (pd x) (pd y))) m
/-- in a list of data -/
def dInD (neg : Bool) : R2D := fun x y m Q => ∃ ds, LsD m y ds ∧ isD x = true ∧ isDs ds = true ∧ SeqAt.shaped (pd x) = true ∧ SeqAt.shaped (.list (pds ds)) = true ∧ Q (.bl (xb neg ((pds ds).any fun z => PyData.eqv z (pd x)))) m
section
variable {K : Fg}
theorem os_eqD : OpS K (rEqD K) dEqD := fun x y dx dy H B m Q R ok rx ry h k => by
  obtain ⟨h1, h2, s1, s2, q⟩ := h
  exact ⟨_, _, repDp ok _ _ rx h1, repDp ok _ _ ry h2, s1, s2, KD.here k ok (.bl _) q⟩
theorem os_neD : OpS K (rNeD K) dNeD := fun x y dx dy H B m Q R ok rx ry h k => by
  obtain ⟨h1, h2, s1, s2, q⟩ := h
  exact ⟨_, _, repDp ok _ _ rx h1, repDp ok _ _ ry h2, s1, s2, KD.here k ok (.bl _) q⟩
theorem lsDp {B H : Hp} {m : Mu} {v : V} {d : D} {ds : List D} (ok : Ok K B H m) (r : Rep K B v d) (h : LsD m d ds) (e : isDs ds = true) : Dp K H v (.list (pds ds)) := by
  obtain ⟨a, vs, rfl, hq, r⟩ := lsd ok r h
  exact .lst hq (repDps ok _ _ r e)
theorem os_inD : OpS K (rInD K) (dInD false) := fun x y dx dy H B m Q R ok rx ry h k => by
  obtain ⟨ds, hl, h1, h2, s1, s2, q⟩ := h
  exact ⟨_, _, repDp ok _ _ rx h1, lsDp ok ry hl h2, s1, s2, KD.here k ok (.bl _) q⟩
theorem os_ninD : OpS K (rNotInD K) (dInD true) := fun x y dx dy H B m Q R ok rx ry h k => by
  obtain ⟨ds, hl, h1, h2, s1, s2, q⟩ := h
  exact ⟨_, _, repDp ok _ _ rx h1, lsDp ok ry hl h2, s1, s2, KD.here k ok (.bl _) q⟩
/-! lists, tuples joined -/
def dCat : R2D := fun x y m Q => ∃ ds es, x = .lst ds ∧ y = .lst es ∧ ds.length + es.length ≤ sizeLine ∧ Q (.lst (ds ++ es)) m
theorem os_cat : OpS K rCat dCat := fun x y dx dy H B m Q R ok rx ry h k => by
  obtain ⟨ds, es, rfl, rfl, z, q⟩ := h
  cases rx with
  | lst h1 r1 =>
    cases ry with
    | lst h2 r2 =>
      refine ⟨_, _, _, _, rfl, rfl, ok.ex _ _ h1, ok.ex _ _ h2, by rw [r1.length, r2.length]; exact z, fun p hp => ?_⟩
      exact KD.new k ok hp (fun _ _ z => by cases z) (.lst upd_same ((r1.append r2).mono (leNew (ok.bfree hp)))) q
def dCatT : R2D := fun x y m Q => ∃ ds es, x = .tup ds ∧ y = .tup es ∧ ds ≠ [] ∧ ds.length + es.length ≤ sizeLine ∧ Q (.tup (ds ++ es)) m
theorem os_catT : OpS K (rCatT K) dCatT := fun x y dx dy H B m Q R ok rx ry h k => by
  obtain ⟨ds, es, rfl, rfl, hne, z, q⟩ := h
  obtain ⟨a, vs, rfl, ha, hb, r1⟩ := tpd ok rx
  obtain ⟨a2, vs2, rfl, ha2, hb2, r2⟩ := tpd ok ry
  refine ⟨a, a2, vs, vs2, rfl, rfl, SqT.of ha, SqT.of ha2, fun e => ?_, by rw [r1.length, r2.length]; exact z, fun e => ?_, fun e p hp => ?_⟩
  · subst e
    cases r1
    exact hne rfl
  · subst e
    cases r2
    rw [List.append_nil] at q
    exact KD.here k ok rx q
  · exact KD.new k ok hp (fun _ _ z => by cases z) (.tup upd_same ((r1.append r2).mono (leNew (ok.bfree hp)))) q
end

/-! ### tests -/
def dNot (u : TTD) : TTD := fun δ m Q => u δ m fun b m' => Q (!b) m'
def dAnd (u w : TTD) : TTD := fun δ m Q => u δ m fun c m1 => if c = true then w δ m1 Q else Q false m1
def dOr (u w : TTD) : TTD := fun δ m Q => u δ m fun c m1 => if c = true then Q true m1 else w δ m1 Q
def dIf (t : TTD) (u w : TD) : TD := fun δ m Q => t δ m fun c m1 => if c = true then u δ m1 Q else w δ m1 Q
def dAndV (u w : TD) : TD := fun δ m Q => u δ m fun x m1 => ∃ c, x = .bl c ∧ if c = true then w δ m1 Q else Q (.bl false) m1
def dOrV (u w : TD) : TD := fun δ m Q => u δ m fun x m1 => ∃ c, x = .bl c ∧ if c = true then Q (.bl true) m1 else w δ m1 Q
def dNotV (u : TD) : TD := fun δ m Q => u δ m fun x m1 => ∃ c, x = .bl c ∧ Q (.bl (!c)) m1
/-- truth -/
def TrD (m : Mu) (d : D) (k : Bool) : Prop := (d = .non ∧ k = false) ∨ d = .bl k ∨ (∃ i, d = .int i ∧ k = (i != 0)) ∨ (∃ ds, SqD m d ds ∧ k = !ds.isEmpty)
def dTru (u : TD) : TTD := fun δ m Q => u δ m fun d m1 => ∃ k, TrD m1 d k ∧ Q k m1
def dOrT (u w : TD) : TD := fun δ m Q => u δ m fun d m1 => ∃ k, TrD m1 d k ∧ if k = true then Q d m1 else w δ m1 Q
section
variable {K : Fg} {t t2 : TT} {u u2 : TTD} {ta tb : TE} {ua ub : TD}
theorem sim_not (s : SimT K t u) : SimT K (tNot t) (dNot u) := fun σ H B δ m Q R ok rs h k => s σ H B δ m _ _ ok rs h fun b H' B' m' o tr q => k _ H' B' m' o tr q
theorem sim_and (s : SimT K t u) (s2 : SimT K t2 u2) : SimT K (tAnd t t2) (dAnd u u2) := fun σ H B δ m Q R ok rs h k => by
  refine s σ H B δ m _ _ ok rs h fun b H1 B1 m1 o tr q => ?_
  cases b with
  | false =>
    rw [if_neg Bool.false_ne_true] at q ⊢
    exact k _ H1 B1 m1 o tr q
  | true =>
    rw [if_pos rfl] at q ⊢
    exact s2 σ H1 B1 δ m1 _ _ o (rs.mono tr.le) q fun b H2 B2 m2 o2 tr2 q2 => k b H2 B2 m2 o2 (tr.trans tr2) q2
theorem sim_or (s : SimT K t u) (s2 : SimT K t2 u2) : SimT K (tOr t t2) (dOr u u2) := fun σ H B δ m Q R ok rs h k => by
  refine s σ H B δ m _ _ ok rs h fun b H1 B1 m1 o tr q => ?_
  cases b with
  | true =>
    rw [if_pos rfl] at q ⊢
    exact k _ H1 B1 m1 o tr q
  | false =>
    rw [if_neg Bool.false_ne_true] at q ⊢
    exact s2 σ H1 B1 δ m1 _ _ o (rs.mono tr.le) q fun b H2 B2 m2 o2 tr2 q2 => k b H2 B2 m2 o2 (tr.trans tr2) q2
theorem sim_if (s : SimT K t u) (sa : Sim K ta ua) (sb : Sim K tb ub) : Sim K (tIf t ta tb) (dIf u ua ub) := fun σ H B δ m Q R ok rs h k => by
  refine s σ H B δ m _ _ ok rs h fun b H1 B1 m1 o tr q => ?_
  cases b with
  | true =>
    rw [if_pos rfl] at q ⊢
    exact sa σ H1 B1 δ m1 _ _ o (rs.mono tr.le) q fun v d H2 B2 m2 o2 tr2 r2 q2 => k v d H2 B2 m2 o2 (tr.trans tr2) r2 q2
  | false =>
    rw [if_neg Bool.false_ne_true] at q ⊢
    exact sb σ H1 B1 δ m1 _ _ o (rs.mono tr.le) q fun v d H2 B2 m2 o2 tr2 r2 q2 => k v d H2 B2 m2 o2 (tr.trans tr2) r2 q2
theorem sim_andV (sa : Sim K ta ua) (sb : Sim K tb ub) : Sim K (tAndV ta tb) (dAndV ua ub) := fun σ H B δ m Q R ok rs h k => by
  refine sa σ H B δ m _ _ ok rs h fun v d H1 B1 m1 o tr r q => ?_
  obtain ⟨b, rfl, q⟩ := q
  cases r
  refine ⟨b, rfl, ?_⟩
  cases b with
  | false =>
    rw [if_neg Bool.false_ne_true] at q ⊢
    exact k _ _ H1 B1 m1 o tr (.bl false) q
  | true =>
    rw [if_pos rfl] at q ⊢
    exact sb σ H1 B1 δ m1 _ _ o (rs.mono tr.le) q fun v d H2 B2 m2 o2 tr2 r2 q2 => k v d H2 B2 m2 o2 (tr.trans tr2) r2 q2
theorem sim_orV (sa : Sim K ta ua) (sb : Sim K tb ub) : Sim K (tOrV ta tb) (dOrV ua ub) := fun σ H B δ m Q R ok rs h k => by
  refine sa σ H B δ m _ _ ok rs h fun v d H1 B1 m1 o tr r q => ?_
  obtain ⟨b, rfl, q⟩ := q
  cases r
  refine ⟨b, rfl, ?_⟩
  cases b with
  | true =>
    rw [if_pos rfl] at q ⊢
    exact k _ _ H1 B1 m1 o tr (.bl true) q
  | false =>
    rw [if_neg Bool.false_ne_true] at q ⊢
    exact sb σ H1 B1 δ m1 _ _ o (rs.mono tr.le) q fun v d H2 B2 m2 o2 tr2 r2 q2 => k v d H2 B2 m2 o2 (tr.trans tr2) r2 q2
theorem sim_notV (sa : Sim K ta ua) : Sim K (tNotV ta) (dNotV ua) := fun σ H B δ m Q R ok rs h k => by
  refine sa σ H B δ m _ _ ok rs h fun v d H1 B1 m1 o tr r q => ?_
  obtain ⟨b, rfl, q⟩ := q
  cases r
  exact ⟨b, rfl, k _ _ H1 B1 m1 o tr (.bl _) q⟩
theorem trd {B H : Hp} {m : Mu} {v : V} {d : D} {k : Bool} (ok : Ok K B H m) (r : Rep K B v d) (h : TrD m d k) : TruV K v H k := by
  rcases h with ⟨rfl, rfl⟩ | rfl | ⟨i, rfl, rfl⟩ | ⟨ds, hs, rfl⟩
  · cases r
    exact rfl
  · cases r
    exact rfl
  · cases r
    exact rfl
  · obtain ⟨a, vs, rfl, hq, r⟩ := sqd ok r hs
    have e : vs.isEmpty = ds.isEmpty := by cases r <;> rfl
    rcases hq with hq | hq
    · exact .inl ⟨vs, hq, by rw [e]⟩
    · exact .inr (.inl ⟨vs, hq, by rw [e]⟩)
theorem sim_tru (sa : Sim K ta ua) : SimT K (fun σ H Q => ta σ H fun x H' => ∃ k, TruV K x H' k ∧ Q k H') (dTru ua) := fun σ H B δ m Q R ok rs h k => by
  refine sa σ H B δ m _ _ ok rs h fun v d H1 B1 m1 o tr r q => ?_
  obtain ⟨b, e, q⟩ := q
  exact ⟨b, trd o r e, k b H1 B1 m1 o tr q⟩
theorem sim_orT (sa : Sim K ta ua) (sb : Sim K tb ub) : Sim K (tOrT K ta tb) (dOrT ua ub) := fun σ H B δ m Q R ok rs h k => by
  refine sa σ H B δ m _ _ ok rs h fun v d H1 B1 m1 o tr r q => ?_
  obtain ⟨b, e, q⟩ := q
  refine ⟨b, trd o r e, ?_⟩
  cases b with
  | true =>
    rw [if_pos rfl] at q ⊢
    exact k _ _ H1 B1 m1 o tr r q
  | false =>
    rw [if_neg Bool.false_ne_true] at q ⊢
    exact sb σ H1 B1 δ m1 _ _ o (rs.mono tr.le) q fun v d H2 B2 m2 o2 tr2 r2 q2 => k v d H2 B2 m2 o2 (tr.trans tr2) r2 q2
end

/-! ### arguments, displays -/
def dNil : TAD := fun _ m Q => Q [] m
def dCons (u : TD) (w : TAD) : TAD := fun δ m Q => u δ m fun x m1 => w δ m1 fun xs m2 => Q (x :: xs) m2
def dTup (u : TAD) : TD := fun δ m Q => u δ m fun xs m1 => xs.length ≤ sizeLine ∧ Q (.tup xs) m1
def dLst (u : TAD) : TD := fun δ m Q => u δ m fun xs m1 => xs.length ≤ sizeLine ∧ Q (.lst xs) m1
/-- a new list that is to be changed -/
def dLstM (u : TAD) : TD := fun δ m Q => u δ m fun xs m1 => xs.length ≤ sizeLine ∧ ∀ a, m1.c a = none → Q (.ref a) (m1.set a (.lst xs))
def dNewK : TD := fun δ m Q => ∀ a, m.c a = none → Q (.ref a) (m.set a (.dK []))
def dNewT : TD := fun δ m Q => ∀ a, m.c a = none → Q (.ref a) (m.set a (.dT []))
def dNewKt : TD := fun δ m Q => Q (.dic []) m
section
variable {K : Fg} {ta tb : TE} {ua ub : TD} {tr : TA} {ur : TAD}
theorem sim_nil : SimA K tNil dNil := fun σ H B δ m Q R ok rs h k => k [] [] H B m ok Tr.refl .nil h
theorem sim_cons (sa : Sim K ta ua) (sr : SimA K tr ur) : SimA K (tCons ta tr) (dCons ua ur) := fun σ H B δ m Q R ok rs h k => by
  refine sa σ H B δ m _ _ ok rs h fun v d H1 B1 m1 o tr r q => ?_
  refine sr σ H1 B1 δ m1 _ _ o (rs.mono tr.le) q fun vs ds H2 B2 m2 o2 tr2 r2 q2 => ?_
  exact k _ _ H2 B2 m2 o2 (tr.trans tr2) (.cons (r.mono tr2.le) r2) q2
theorem sim_tup (sr : SimA K tr ur) : Sim K (tTup tr) (dTup ur) := fun σ H B δ m Q R ok rs h k => by
  refine sr σ H B δ m _ _ ok rs h fun vs ds H1 B1 m1 o tr r q => ?_
  obtain ⟨z, q⟩ := q
  refine ⟨by rw [r.length]; exact z, fun p hp => ?_⟩
  exact k _ _ _ _ m1 (o.alloc hp (fun _ _ z => by cases z)) (tr.trans (o.allocT hp)) (.tup upd_same (r.mono (leNew (o.bfree hp)))) q
theorem sim_lst (sr : SimA K tr ur) : Sim K (tLst tr) (dLst ur) := fun σ H B δ m Q R ok rs h k => by
  refine sr σ H B δ m _ _ ok rs h fun vs ds H1 B1 m1 o tr r q => ?_
  obtain ⟨z, q⟩ := q
  refine ⟨by rw [r.length]; exact z, fun p hp => ?_⟩
  exact k _ _ _ _ m1 (o.alloc hp (fun _ _ z => by cases z)) (tr.trans (o.allocT hp)) (.lst upd_same (r.mono (leNew (o.bfree hp)))) q
theorem sim_lstM (sr : SimA K tr ur) : Sim K (tLst tr) (dLstM ur) := fun σ H B δ m Q R ok rs h k => by
  refine sr σ H B δ m _ _ ok rs h fun vs ds H1 B1 m1 o tr r q => ?_
  obtain ⟨z, q⟩ := q
  refine ⟨by rw [r.length]; exact z, fun p hp => ?_⟩
  exact k _ _ _ _ _ (o.allocM (c := .lst ds) hp ⟨vs, upd_same, r⟩) (tr.trans (o.allocMT hp)) (.ref p) (q p (o.cfree hp))
theorem sim_newK : Sim K tDNewK dNewK := fun σ H B δ m Q R ok rs h k => fun p hp =>
  k _ _ _ _ _ (ok.allocM (c := .dK []) hp ⟨[], upd_same, .nil⟩) (ok.allocMT hp) (.ref p) (h p (ok.cfree hp))
theorem sim_newKt : Sim K tDNewK dNewKt := fun σ H B δ m Q R ok rs h k => fun p hp =>
  k _ _ _ _ _ (ok.alloc hp (fun _ _ z => by cases z)) (ok.allocT hp) (.dic (.inl upd_same) .nil) h
theorem sim_newT : Sim K tDNewT dNewT := fun σ H B δ m Q R ok rs h k => fun p hp =>
  k _ _ _ _ _ (ok.allocM (c := .dT []) hp ⟨[], upd_same, .nil⟩) (ok.allocMT hp) (.ref p) (h p (ok.cfree hp))
end
/-- {k: v}, one pair, to be changed -/
def kD : Key → D
  | .inl i => .int i
  | .inr x => .str x
theorem kdV {K : Fg} {B : Hp} {v : V} {k : Key} (r : Rep K B v (kD k)) : v = kV k := by
  cases k <;> cases r <;> rfl
theorem kdVs {K : Fg} {B : Hp} : ∀ {vs : List V} {k : List Key}, Reps K B vs (k.map kD) → vs = k.map kV
  | _, [], .nil => rfl
  | _, k :: ks, .cons h r => by
    rw [List.map_cons, kdV h, kdVs r]
def dDisp1 (i : Nat) (e : D) : TD := fun δ m Q => ∃ k, δ[i]? = some (some (kD k)) ∧ ∀ a, m.c a = none → Q (.ref a) (m.set a (.dK [(k, e)]))
theorem sim_disp1 {K : Fg} {i : Nat} {v : V} {e : D} (hv : ∀ B, Rep K B v e) : Sim K (tDisp [(tVar i, tC v)]) (dDisp1 i e) := fun σ H B δ m Q R ok rs h k => fun p hp => by
  obtain ⟨key, eq, q⟩ := h
  obtain ⟨w, e1, r⟩ := rs.at_ i _ eq
  have ev := kdV r
  subst ev
  refine ⟨_, e1, upd_same, [(key, v)], rfl, by simp, ?_⟩
  rw [upd_upd]
  exact k _ _ _ _ _ (ok.allocM (c := .dK [(key, e)]) hp ⟨[(key, v)], upd_same, .cons (hv B) .nil⟩) (ok.allocMT hp) (.ref p) (q p (ok.cfree hp))

/-! ### subscripts -/
theorem atI_rep {K : Fg} {B : Hp} {vs : List V} {ds : List D} {i : Int} {d : D} (r : Reps K B vs ds) (h : atI ds i = some d) : ∃ v, atI vs i = some v ∧ Rep K B v d := by
  unfold atI at h ⊢
  rw [r.length]
  cases e : ixN ds.length i with
  | none =>
    rw [e] at h
    cases h
  | some j =>
    rw [e] at h
    exact r.get (i := j) h
def dIx : R2D := fun x y m Q => ∃ ds i d, SqD m x ds ∧ y = .int i ∧ atI ds i = some d ∧ Q d m
theorem os_ix {K : Fg} : OpS K (rIx K) dIx := fun x y dx dy H B m Q R ok rx ry h k => by
  obtain ⟨ds, i, d, hs, rfl, e, q⟩ := h
  cases ry
  obtain ⟨a, vs, rfl, hq, r⟩ := sqd ok rx hs
  obtain ⟨v, ev, rv⟩ := atI_rep r e
  have fin := KD.here k ok rv q
  rcases hq with hq | hq
  · exact .inl ⟨a, vs, i, v, rfl, rfl, hq, ev, fin⟩
  · exact .inr (.inl ⟨a, vs, i, v, rfl, rfl, hq, ev, fin⟩)
/-- d[k]: a text or int, a tuple of such -/
def KyD (d : D) (k : Key) : Prop := d = kD k
def DGetD (m : Mu) (x y : D) (r : Option D) : Prop := (∃ kds k, DcD m x kds ∧ y = kD k ∧ r = getD kds k) ∨ ∃ kds k, DtD m x kds ∧ y = .tup (k.map kD) ∧ r = getD kds k
section
variable {K : Fg} {td ty : TE} {ud uy : TD}
theorem dget {B H : Hp} {m : Mu} {x y : V} {dx dy : D} {r : Option D} (ok : Ok K B H m) (rx : Rep K B x dx) (ry : Rep K B y dy) (h : DGetD m dx dy r) :
    ∃ a o, x = .ref a ∧ DGet H a y o ∧ ((r = none ∧ o = none) ∨ ∃ v d, r = some d ∧ o = some v ∧ Rep K B v d) := by
  rcases h with ⟨kds, key, hd, rfl, rfl⟩ | ⟨kds, key, hd, rfl, rfl⟩
  · obtain ⟨a, kvs, rfl, hr, rk⟩ := dcd ok rx hd
    have ev := kdV ry
    subst ev
    refine ⟨a, _, rfl, .inl ⟨kvs, key, hr, rfl, rfl⟩, ?_⟩
    rcases rk.at_ (k := key) with ⟨e1, e2⟩ | ⟨v, d, e1, e2, r⟩
    · exact .inl ⟨e1, e2⟩
    · exact .inr ⟨v, d, e1, e2, r⟩
  · obtain ⟨a, kvs, rfl, hr, rk⟩ := dtd ok rx hd
    obtain ⟨b, vs, rfl, hb, _, rb⟩ := tpd ok ry
    have ev := kdVs rb
    subst ev
    refine ⟨a, _, rfl, .inr ⟨kvs, key, b, hr, rfl, hb, rfl⟩, ?_⟩
    rcases rk.at_ (k := key) with ⟨e1, e2⟩ | ⟨v, d, e1, e2, r⟩
    · exact .inl ⟨e1, e2⟩
    · exact .inr ⟨v, d, e1, e2, r⟩
def dDGet (ud uy : TD) : TD := fun δ m Q => ud δ m fun x m1 => uy δ m1 fun y m2 => ∃ d, DGetD m2 x y (some d) ∧ Q d m2
theorem sim_dget (sd : Sim K td ud) (sy : Sim K ty uy) : Sim K (tDGet td ty) (dDGet ud uy) := fun σ H B δ m Q R ok rs h k => by
  refine sd σ H B δ m _ _ ok rs h fun x dx H1 B1 m1 o tr rx q => ?_
  refine sy σ H1 B1 δ m1 _ _ o (rs.mono tr.le) q fun y dy H2 B2 m2 o2 tr2 ry q2 => ?_
  obtain ⟨d, g, q2⟩ := q2
  obtain ⟨a, ov, rfl, hg, c⟩ := dget o2 (rx.mono tr2.le) ry g
  rcases c with ⟨e, _⟩ | ⟨v, d', e, rfl, r⟩
  · cases e
  · cases e
    exact ⟨a, v, rfl, hg, k _ _ H2 B2 m2 o2 (tr.trans tr2) r q2⟩
/-- k in d -/
def dDIn (neg : Bool) (uy ud : TD) : TD := fun δ m Q => uy δ m fun y m1 => ud δ m1 fun x m2 => ∃ r, DGetD m2 x y r ∧ Q (.bl (xb neg r.isSome)) m2
theorem sim_din (sd : Sim K td ud) (sy : Sim K ty uy) : Sim K (tDIn ty td) (dDIn false uy ud) := fun σ H B δ m Q R ok rs h k => by
  refine sy σ H B δ m _ _ ok rs h fun y dy H1 B1 m1 o tr ry q => ?_
  refine sd σ H1 B1 δ m1 _ _ o (rs.mono tr.le) q fun x dx H2 B2 m2 o2 tr2 rx q2 => ?_
  obtain ⟨r, g, q2⟩ := q2
  obtain ⟨a, ov, rfl, hg, c⟩ := dget o2 rx (ry.mono tr2.le) g
  have e : ov.isSome = r.isSome := by
    rcases c with ⟨rfl, rfl⟩ | ⟨v, d, rfl, rfl, _⟩ <;> rfl
  refine ⟨a, ov, rfl, hg, ?_⟩
  rw [e]
  exact k _ _ H2 B2 m2 o2 (tr.trans tr2) (.bl _) q2
theorem sim_dnin (sd : Sim K td ud) (sy : Sim K ty uy) : Sim K (tDNotIn ty td) (dDIn true uy ud) := fun σ H B δ m Q R ok rs h k => by
  refine sy σ H B δ m _ _ ok rs h fun y dy H1 B1 m1 o tr ry q => ?_
  refine sd σ H1 B1 δ m1 _ _ o (rs.mono tr.le) q fun x dx H2 B2 m2 o2 tr2 rx q2 => ?_
  obtain ⟨r, g, q2⟩ := q2
  obtain ⟨a, ov, rfl, hg, c⟩ := dget o2 rx (ry.mono tr2.le) g
  have e : ov.isSome = r.isSome := by
    rcases c with ⟨rfl, rfl⟩ | ⟨v, d, rfl, rfl, _⟩ <;> rfl
  refine ⟨a, ov, rfl, hg, ?_⟩
  rw [e]
  exact k _ _ H2 B2 m2 o2 (tr.trans tr2) (.bl _) q2
/-- d.get(k) -/
def dDGet1 (ud uy : TD) : TD := fun δ m Q => ud δ m fun x m1 => ((∃ kds, DcD m1 x kds) ∨ ∃ kds, DtD m1 x kds) ∧ uy δ m1 fun y m2 => ∃ r, DGetD m2 x y r ∧ Q (r.getD .non) m2
theorem sim_dget1 (sd : Sim K td ud) (sy : Sim K ty uy) : Sim K (tDGet1 td ty) (dDGet1 ud uy) := fun σ H B δ m Q R ok rs h k => by
  refine sd σ H B δ m _ _ ok rs h fun x dx H1 B1 m1 o tr rx q => ?_
  obtain ⟨hd, q⟩ := q
  have hx : ∃ a, x = .ref a ∧ IsD H1 a := by
    rcases hd with ⟨kds, hd⟩ | ⟨kds, hd⟩
    · obtain ⟨a, kvs, rfl, hr, _⟩ := dcd o rx hd
      exact ⟨a, rfl, .inl ⟨kvs, hr⟩⟩
    · obtain ⟨a, kvs, rfl, hr, _⟩ := dtd o rx hd
      exact ⟨a, rfl, .inr ⟨kvs, hr⟩⟩
  obtain ⟨a, rfl, hi⟩ := hx
  refine ⟨a, rfl, hi, ?_⟩
  refine sy σ H1 B1 δ m1 _ _ o (rs.mono tr.le) q fun y dy H2 B2 m2 o2 tr2 ry q2 => ?_
  obtain ⟨r, g, q2⟩ := q2
  obtain ⟨b, ov, e, hg, c⟩ := dget o2 (rx.mono tr2.le) ry g
  cases e
  refine ⟨ov, hg, ?_⟩
  rcases c with ⟨rfl, rfl⟩ | ⟨v, d, rfl, rfl, rv⟩
  · exact k _ _ H2 B2 m2 o2 (tr.trans tr2) .non q2
  · exact k _ _ H2 B2 m2 o2 (tr.trans tr2) rv q2
end
/-! slices -/
abbrev TOD := Sl → Mu → (Option Int → Mu → Prop) → Prop
def SimO (K : Fg) (t : TO) (u : TOD) : Prop := ∀ (σ : L2.St) (H B : Hp) (δ : Sl) (m : Mu) (Q : Option Int → Mu → Prop) (R : Option Int → Hp → Prop), Ok K B H m → RelS K B σ δ → u δ m Q →
  (∀ o H' B' m', Ok K B' H' m' → Tr B H m B' H' m' → Q o m' → R o H') → t σ H R
def dNoPart : TOD := fun _ m Q => Q none m
def dPart (u : TD) : TOD := fun δ m Q => u δ m fun x m1 => ∃ i, x = .int i ∧ Q (some i) m1
def cutD (xs : List D) (lo hi : Option Int) : List D := (xs.drop (HT.sIx xs.length 0 lo)).take (HT.sIx xs.length xs.length hi - HT.sIx xs.length 0 lo)
theorem cut_rep {K : Fg} {B : Hp} {vs : List V} {ds : List D} {lo hi : Option Int} (r : Reps K B vs ds) : Reps K B (cutV vs lo hi) (cutD ds lo hi) := by
  unfold cutV cutD
  rw [r.length]
  exact (r.drop _).take _
def dSlL (u : TD) (l h : TOD) : TD := fun δ m Q => u δ m fun x m1 => l δ m1 fun lo m2 => h δ m2 fun hi m3 => ∃ ds, LsD m3 x ds ∧ Q (.lst (cutD ds lo hi)) m3
def dSlT (u : TD) (l h : TOD) : TD := fun δ m Q => u δ m fun x m1 => l δ m1 fun lo m2 => h δ m2 fun hi m3 => ∃ ds, x = .tup ds ∧ ¬ (HT.sIx ds.length 0 lo = 0 ∧ HT.sIx ds.length ds.length hi = ds.length) ∧ Q (.tup (cutD ds lo hi)) m3
section
variable {K : Fg} {te : TE} {ue : TD} {tl th : TO} {ul uh : TOD}
theorem sim_noPart : SimO K tNoPart dNoPart := fun σ H B δ m Q R ok rs h k => k none H B m ok Tr.refl h
theorem sim_part (s : Sim K te ue) : SimO K (tPart te) (dPart ue) := fun σ H B δ m Q R ok rs h k => by
  refine s σ H B δ m _ _ ok rs h fun v d H1 B1 m1 o tr r q => ?_
  obtain ⟨i, rfl, q⟩ := q
  cases r
  exact ⟨i, rfl, k _ H1 B1 m1 o tr q⟩
theorem sim_slL (s : Sim K te ue) (sl : SimO K tl ul) (sh : SimO K th uh) : Sim K (tSl (rSlL K) te tl th) (dSlL ue ul uh) := fun σ H B δ m Q R ok rs h k => by
  refine s σ H B δ m _ _ ok rs h fun v d H1 B1 m1 o1 tr1 r q => ?_
  refine sl σ H1 B1 δ m1 _ _ o1 (rs.mono tr1.le) q fun lo H2 B2 m2 o2 tr2 q => ?_
  refine sh σ H2 B2 δ m2 _ _ o2 ((rs.mono tr1.le).mono tr2.le) q fun hi H3 B3 m3 o3 tr3 q => ?_
  obtain ⟨ds, hs, q⟩ := q
  obtain ⟨a, vs, rfl, hq, rr⟩ := lsd o3 ((r.mono tr2.le).mono tr3.le) hs
  refine ⟨a, vs, rfl, hq, fun p hp => ?_⟩
  exact k _ _ _ _ m3 (o3.alloc hp (fun _ _ z => by cases z)) (((tr1.trans tr2).trans tr3).trans (o3.allocT hp)) (.lst upd_same ((cut_rep rr).mono (leNew (o3.bfree hp)))) q
theorem sim_slT (s : Sim K te ue) (sl : SimO K tl ul) (sh : SimO K th uh) : Sim K (tSl (rSlT K) te tl th) (dSlT ue ul uh) := fun σ H B δ m Q R ok rs h k => by
  refine s σ H B δ m _ _ ok rs h fun v d H1 B1 m1 o1 tr1 r q => ?_
  refine sl σ H1 B1 δ m1 _ _ o1 (rs.mono tr1.le) q fun lo H2 B2 m2 o2 tr2 q => ?_
  refine sh σ H2 B2 δ m2 _ _ o2 ((rs.mono tr1.le).mono tr2.le) q fun hi H3 B3 m3 o3 tr3 q => ?_
  obtain ⟨ds, rfl, ne, q⟩ := q
  obtain ⟨a, vs, rfl, hq, _, rr⟩ := tpd o3 ((r.mono tr2.le).mono tr3.le)
  refine ⟨a, vs, rfl, SqT.of hq, by rw [rr.length]; exact ne, fun p hp => ?_⟩
  exact k _ _ _ _ m3 (o3.alloc hp (fun _ _ z => by cases z)) (((tr1.trans tr2).trans tr3).trans (o3.allocT hp)) (.tup upd_same ((cut_rep rr).mono (leNew (o3.bfree hp)))) q
end

/-! ### attributes -/
def dFld (K : Fg) (u : TD) (f : Str) : TD := fun δ m Q => u δ m fun x m1 => ∃ C fs d, InD m1 x C fs ∧ Cls K C ∧ NoAttr K C f ∧ fs.lookup f = some d ∧ Q d m1
theorem sim_fld {K : Fg} {te : TE} {ue : TD} {f : Str} (s : Sim K te ue) : Sim K (tFld K te f) (dFld K ue f) := fun σ H B δ m Q R ok rs h k => by
  refine s σ H B δ m _ _ ok rs h fun v d H1 B1 m1 o1 tr1 r q => ?_
  obtain ⟨C, fs, d', hi, c, n, l, q⟩ := q
  obtain ⟨a, dx, vs, rfl, ha, rf⟩ := ind o1 r hi
  obtain ⟨w, l', rw'⟩ := rf.look l
  exact ⟨a, C, dx, vs, w, rfl, ha, c, n, l', k _ _ H1 B1 m1 o1 tr1 rw' q⟩

/-! ### calls: what a def does, over data; built-ins, methods -/
abbrev SD := List D → Mu → (D → Prop) → Prop
abbrev SM := List D → Mu → QD → Prop
/-- a def that changes no cell -/
def spP (K : Fg) (S : SD) : Sp := fun vs H Q _ => ∃ ds B m Qd, Ok K B H m ∧ m.fz = [] ∧ Reps K B vs ds ∧ S ds m Qd ∧ ∀ v d H' B', Ok K B' H' m → Tr B H m B' H' m → Rep K B' v d → Qd d → Q v H'
def spM (K : Fg) (S : SM) : Sp := fun vs H Q _ => ∃ ds B m Qd, Ok K B H m ∧ m.fz = [] ∧ Reps K B vs ds ∧ S ds m Qd ∧ ∀ v d H' B' m', Ok K B' H' m' → Tr B H m B' H' m' → Rep K B' v d → Qd d m' → Q v H'
def dCall (S : SD) (u : TAD) : TD := fun δ m Q => u δ m fun ds m1 => m1.fz = [] ∧ S ds m1 (fun d => Q d m1)
def dCallM (S : SM) (u : TAD) : TD := fun δ m Q => u δ m fun ds m1 => m1.fz = [] ∧ S ds m1 Q
def dMeth (C : Addr) (f : Str) (S : SD) (u : TD) (w : TAD) : TD := fun δ m Q => u δ m fun x m1 => ∃ fs, InD m1 x C fs ∧ fs.lookup f = none ∧ w δ m1 fun ds m2 => m2.fz = [] ∧ S (x :: ds) m2 (fun d => Q d m2)
def dMethM (C : Addr) (f : Str) (S : SM) (u : TD) (w : TAD) : TD := fun δ m Q => u δ m fun x m1 => ∃ fs, InD m1 x C fs ∧ fs.lookup f = none ∧ w δ m1 fun ds m2 => m2.fz = [] ∧ S (x :: ds) m2 Q
def dProp (C : Addr) (S : SD) (u : TD) : TD := fun δ m Q => u δ m fun x m1 => ∃ fs, InD m1 x C fs ∧ m1.fz = [] ∧ S [x] m1 (fun d => Q d m1)
/-- a new instance: its own init on the new cell, which is then known -/
def dMake (C : Addr) (S : SM) (w : TAD) : TD := fun δ m Q => w δ m fun ds m1 => m1.fz = [] ∧ ∀ a, m1.c a = none → S (.ref a :: ds) (m1.set a (.ins C [])) (fun d m2 => d = .non ∧ ∃ fs, m2.c a = some (.ins C fs) ∧ Q (.ins C fs) (m2.del a))
section
variable {K : Fg} {te : TE} {ue : TD} {ta : TA} {ua : TAD} {E : XK} {C : Addr} {f : Str}
theorem sim_call {S : SD} (s : SimA K ta ua) : Sim K (tCall (spP K S) [] E ta) (dCall S ua) := fun σ H B δ m Q R ok rs h k => by
  refine s σ H B δ m _ _ ok rs h fun vs ds H1 B1 m1 o1 tr1 r q => ?_
  rw [List.append_nil]
  exact ⟨ds, B1, m1, _, o1, q.1, r, q.2, fun v d H2 B2 o2 tr2 r2 q2 => k v d H2 B2 m1 o2 (tr1.trans tr2) r2 q2⟩
theorem sim_callM {S : SM} (s : SimA K ta ua) : Sim K (tCall (spM K S) [] E ta) (dCallM S ua) := fun σ H B δ m Q R ok rs h k => by
  refine s σ H B δ m _ _ ok rs h fun vs ds H1 B1 m1 o1 tr1 r q => ?_
  rw [List.append_nil]
  exact ⟨ds, B1, m1, _, o1, q.1, r, q.2, fun v d H2 B2 m2 o2 tr2 r2 q2 => k v d H2 B2 m2 o2 (tr1.trans tr2) r2 q2⟩
theorem sim_meth {S : SD} (s : Sim K te ue) (sa : SimA K ta ua) : Sim K (tMeth C f (spP K S) [] E te ta) (dMeth C f S ue ua) := fun σ H B δ m Q R ok rs h k => by
  refine s σ H B δ m _ _ ok rs h fun v d H1 B1 m1 o1 tr1 r q => ?_
  obtain ⟨fs, hi, l, q⟩ := q
  obtain ⟨a, dx, vs, rfl, ha, rf⟩ := ind o1 r hi
  refine ⟨a, dx, vs, rfl, ha, rf.lookN l, ?_⟩
  refine sa σ H1 B1 δ m1 _ _ o1 (rs.mono tr1.le) q fun ws ds H2 B2 m2 o2 tr2 r2 q2 => ?_
  rw [List.append_nil]
  exact ⟨_, B2, m2, _, o2, q2.1, .cons (r.mono tr2.le) r2, q2.2, fun v d H3 B3 o3 tr3 r3 q3 => k v d H3 B3 m2 o3 ((tr1.trans tr2).trans tr3) r3 q3⟩
theorem sim_methM {S : SM} (s : Sim K te ue) (sa : SimA K ta ua) : Sim K (tMeth C f (spM K S) [] E te ta) (dMethM C f S ue ua) := fun σ H B δ m Q R ok rs h k => by
  refine s σ H B δ m _ _ ok rs h fun v d H1 B1 m1 o1 tr1 r q => ?_
  obtain ⟨fs, hi, l, q⟩ := q
  obtain ⟨a, dx, vs, rfl, ha, rf⟩ := ind o1 r hi
  refine ⟨a, dx, vs, rfl, ha, rf.lookN l, ?_⟩
  refine sa σ H1 B1 δ m1 _ _ o1 (rs.mono tr1.le) q fun ws ds H2 B2 m2 o2 tr2 r2 q2 => ?_
  rw [List.append_nil]
  exact ⟨_, B2, m2, _, o2, q2.1, .cons (r.mono tr2.le) r2, q2.2, fun v d H3 B3 m3 o3 tr3 r3 q3 => k v d H3 B3 m3 o3 ((tr1.trans tr2).trans tr3) r3 q3⟩
theorem sim_prop {S : SD} (s : Sim K te ue) : Sim K (tProp C (spP K S) [] E te) (dProp C S ue) := fun σ H B δ m Q R ok rs h k => by
  refine s σ H B δ m _ _ ok rs h fun v d H1 B1 m1 o1 tr1 r q => ?_
  obtain ⟨fs, hi, z, q⟩ := q
  obtain ⟨a, dx, vs, rfl, ha, rf⟩ := ind o1 r hi
  exact ⟨a, dx, vs, rfl, ha, _, B1, m1, _, o1, z, .cons r .nil, q, fun v d H3 B3 o3 tr3 r3 q3 => k v d H3 B3 m1 o3 (tr1.trans tr3) r3 q3⟩
theorem sim_make {S : SM} (s : SimA K ta ua) : Sim K (tMake C (spM K S) [] E ta) (dMake C S ua) := fun σ H B δ m Q R ok rs h k => by
  refine s σ H B δ m _ _ ok rs h fun vs ds H1 B1 m1 o1 tr1 r q => ?_
  obtain ⟨z, q⟩ := q
  intro x dx hx hdx ne
  rw [List.append_nil]
  -- the own dict of the new instance: a thing that is not told
  have okd : Ok K B1 (upd H1 dx (.own x)) m1 := ⟨fun a o e => by rw [upd_ne (ne_of_none (o1.ex a o e) hdx)]; exact o1.ex a o e, fun a o e => by
    obtain ⟨h1, h2⟩ := o1.cl a o e
    obtain ⟨u, hu, _⟩ := h2.some
    exact ⟨h1, h2.mono (Le.of fun _ _ q => q) (upd_ne (ne_of_none hu hdx))⟩, o1.nf⟩
  have trd : Tr B1 H1 m1 B1 (upd H1 dx (.own x)) m1 := ⟨fun _ _ e => e, fun a o e _ => by rw [upd_ne (ne_of_none e hdx)]; exact e, fun _ _ _ e _ => e, fun _ _ _ e => e⟩
  have hx' : (upd H1 dx (.own x)) x = none := by rw [upd_ne ne.symm]; exact hx
  have okx : Ok K B1 (upd (upd H1 dx (.own x)) x (.ins C dx [])) (m1.set x (.ins C [])) := okd.allocM (c := .ins C []) hx' ⟨dx, [], upd_same, .nil⟩
  have trx := okd.allocMT (c := .ins C []) (o := .ins C dx []) hx'
  refine ⟨_, B1, _, _, okx, z, .cons (.ref x) r, q x (o1.cfree hx), fun v d H2 B2 m2 o2 tr2 r2 q2 => ?_⟩
  obtain ⟨rfl, fs, hc, q2⟩ := q2
  cases r2
  refine ⟨rfl, ?_⟩
  obtain ⟨h1, dx2, fvs, h2, rf⟩ := o2.cl _ _ hc
  refine k _ _ _ _ _ (o2.freeze hc h2 (fun _ _ z => by cases z)) ((tr1.trans (trd.trans (trx.trans tr2))).trans (o2.freezeT hc h2)) (.ins upd_same (rf.mono (leNew h1))) q2
end
def CallS (K : Fg) (r : List V → Hp → VK → Prop) (ρ : SM) : Prop := ∀ xs ds H B m Q R, Ok K B H m → Reps K B xs ds → ρ ds m Q → KD K B H m Q R → r xs H R
def dCB (ρ : SM) (u : TAD) : TD := fun δ m Q => u δ m fun ds m1 => ρ ds m1 Q
theorem sim_CB {K : Fg} {r : List V → Hp → VK → Prop} {ρ : SM} {ta : TA} {ua : TAD} (hc : CallS K r ρ) (s : SimA K ta ua) : Sim K (tCB r ta) (dCB ρ ua) := fun σ H B δ m Q R ok rs h k => by
  refine s σ H B δ m _ _ ok rs h fun vs ds H1 B1 m1 o1 tr1 r q => ?_
  exact hc vs ds H1 B1 m1 _ _ o1 r q fun v d H2 B2 m2 o2 tr2 r2 q2 => k v d H2 B2 m2 o2 (tr1.trans tr2) r2 q2
end L3
/-! Built-in functions, methods, f-strings over data. -/
namespace L3
open PySem PySem.Spec PyProof.Rows L2
section
variable {K : Fg}
/-! ### built-in functions -/
def LenD (m : Mu) (x : D) (n : Nat) : Prop := (∃ es, SqD m x es ∧ n = es.length) ∨ ∃ z : Str, x = .str z ∧ z.length ≤ sizeLine ∧ n = z.length
def dLen : SM := fun ds m Q => ∃ x n, ds = [x] ∧ LenD m x n ∧ Q (.int (n : Nat)) m
theorem reps1 {B : Hp} {xs : List V} {d : D} (r : Reps K B xs [d]) : ∃ v, xs = [v] ∧ Rep K B v d := by
  cases r with
  | cons h r =>
    cases r
    exact ⟨_, rfl, h⟩
theorem reps2 {B : Hp} {xs : List V} {d e : D} (r : Reps K B xs [d, e]) : ∃ v w, xs = [v, w] ∧ Rep K B v d ∧ Rep K B w e := by
  cases r with
  | cons h r =>
    obtain ⟨w, rfl, h2⟩ := reps1 r
    exact ⟨_, w, rfl, h, h2⟩
theorem cs_len : CallS K (fun xs H Q => ∃ x n, xs = [x] ∧ LenV K x H n ∧ Q (.int n) H) dLen := fun xs ds H B m Q R ok r h k => by
  obtain ⟨x, n, rfl, e, q⟩ := h
  obtain ⟨v, rfl, rv⟩ := reps1 r
  refine ⟨v, n, rfl, ?_, KD.here k ok (.int _) q⟩
  rcases e with ⟨es, hs, rfl⟩ | ⟨z, rfl, hz, rfl⟩
  · obtain ⟨a, vs, rfl, hq, rr⟩ := sqd ok rv hs
    rcases hq with hq | hq
    · exact .inl ⟨vs, hq, rr.length.symm⟩
    · exact .inr ⟨vs, hq, rr.length.symm⟩
  · cases rv
    exact ⟨hz, rfl⟩
def dAny : SM := fun ds m Q => ∃ (x : D) (bs : List Bool), ds = [x] ∧ LsD m x (bs.map D.bl) ∧ Q (.bl (bs.any id)) m
def dAll : SM := fun ds m Q => ∃ (x : D) (bs : List Bool), ds = [x] ∧ LsD m x (bs.map D.bl) ∧ Q (.bl (bs.all id)) m
def dSum : SM := fun ds m Q => ∃ (x : D) (ns : List Int), ds = [x] ∧ LsD m x (ns.map D.int) ∧ Q (.int ns.sum) m
theorem cs_any : CallS K (rAny K) dAny := fun xs ds H B m Q R ok r h k => by
  obtain ⟨x, bs, rfl, e, q⟩ := h
  obtain ⟨v, rfl, rv⟩ := reps1 r
  obtain ⟨a, vs, rfl, hq, rr⟩ := lsd ok rv e
  have ev := Reps.bls rr
  subst ev
  exact ⟨a, bs, rfl, hq, KD.here k ok (.bl _) q⟩
theorem cs_all : CallS K (rAll K) dAll := fun xs ds H B m Q R ok r h k => by
  obtain ⟨x, bs, rfl, e, q⟩ := h
  obtain ⟨v, rfl, rv⟩ := reps1 r
  obtain ⟨a, vs, rfl, hq, rr⟩ := lsd ok rv e
  have ev := Reps.bls rr
  subst ev
  exact ⟨a, bs, rfl, hq, KD.here k ok (.bl _) q⟩
theorem cs_sum : CallS K (rSum K) dSum := fun xs ds H B m Q R ok r h k => by
  obtain ⟨x, bs, rfl, e, q⟩ := h
  obtain ⟨v, rfl, rv⟩ := reps1 r
  obtain ⟨a, vs, rfl, hq, rr⟩ := lsd ok rv e
  have ev := Reps.ints rr
  subst ev
  exact ⟨a, bs, rfl, hq, KD.here k ok (.int _) q⟩
def dAbs : SM := fun ds m Q => ∃ i, ds = [.int i] ∧ Q (.int (if i < 0 then -i else i)) m
theorem cs_abs : CallS K (fun xs H Q => ∃ i, xs = [.int i] ∧ Q (.int (if i < 0 then -i else i)) H) dAbs := fun xs ds H B m Q R ok r h k => by
  obtain ⟨i, rfl, q⟩ := h
  obtain ⟨v, rfl, rv⟩ := reps1 r
  cases rv
  exact ⟨i, rfl, KD.here k ok (.int _) q⟩
def dMax2 : SM := fun ds m Q => ∃ i j, ds = [.int i, .int j] ∧ Q (.int (if j > i then j else i)) m
theorem cs_max2 : CallS K (fun xs H Q => ∃ i j, xs = [.int i, .int j] ∧ Q (.int (if j > i then j else i)) H) dMax2 := fun xs ds H B m Q R ok r h k => by
  obtain ⟨i, j, rfl, q⟩ := h
  obtain ⟨v, w, rfl, rv, rw'⟩ := reps2 r
  cases rv
  cases rw'
  exact ⟨i, j, rfl, KD.here k ok (.int _) q⟩
def dInt1 : SM := fun ds m Q => ∃ i, ds = [.int i] ∧ Q (.int i) m
theorem cs_int1 : CallS K (fun xs H Q => (∃ i, xs = [.int i] ∧ Q (.int i) H) ∨ ∃ k, xs = [.bl k] ∧ Q (.int (if k then 1 else 0)) H) dInt1 := fun xs ds H B m Q R ok r h k => by
  obtain ⟨i, rfl, q⟩ := h
  obtain ⟨v, rfl, rv⟩ := reps1 r
  cases rv
  exact .inl ⟨i, rfl, KD.here k ok (.int _) q⟩
def dIntS : SM := fun ds m Q => ∃ a n, ds = [.str a] ∧ PySem.intText? a = some n ∧ a.length ≤ 640 ∧ Q (.int n) m
theorem cs_intS : CallS K (fun xs H Q => ∃ a n, xs = [.str a] ∧ PySem.intText? a = some n ∧ a.length ≤ 640 ∧ Q (.int n) H) dIntS := fun xs ds H B m Q R ok r h k => by
  obtain ⟨a, n, rfl, e, z, q⟩ := h
  obtain ⟨v, rfl, rv⟩ := reps1 r
  cases rv
  exact ⟨a, n, rfl, e, z, KD.here k ok (.int _) q⟩
/-- list(xs) -/
def dList : SM := fun ds m Q => ∃ (x : D) (es : List D), ds = [x] ∧ SqD m x es ∧ Q (.lst es) m
theorem cs_list : CallS K (fun xs H Q => ∃ p ys, xs = [.ref p] ∧ (SqL K H p ys ∨ SqT K H p ys) ∧ ∀ l, H l = none → Q (.ref l) (upd H l (.lst ys))) dList := fun xs ds H B m Q R ok r h k => by
  obtain ⟨x, es, rfl, e, q⟩ := h
  obtain ⟨v, rfl, rv⟩ := reps1 r
  obtain ⟨a, vs, rfl, hq, rr⟩ := sqd ok rv e
  exact ⟨a, vs, rfl, hq, fun p hp => KD.new k ok hp (fun _ _ z => by cases z) (.lst upd_same (rr.mono (leNew (ok.bfree hp)))) q⟩
/-- str(x), a text or an int -/
def dStr : SM := fun ds m Q => (∃ a, ds = [.str a] ∧ Q (.str a) m) ∨ ∃ i : Int, ds = [.int i] ∧ i.natAbs.log2 < 1920 ∧ Q (.str (toString i)) m
abbrev rStrIS : List V → Hp → VK → Prop := fun xs H Q => (∃ i : Int, xs = [.int i] ∧ i.natAbs.log2 < 1920 ∧ Q (.str (toString i)) H) ∨ (∃ a, xs = [.str a] ∧ Q (.str a) H)
theorem cs_str : CallS K rStrIS dStr := fun xs ds H B m Q R ok r h k => by
  rcases h with ⟨a, rfl, q⟩ | ⟨i, rfl, z, q⟩
  · obtain ⟨v, rfl, rv⟩ := reps1 r
    cases rv
    exact .inr ⟨a, rfl, KD.here k ok (.str _) q⟩
  · obtain ⟨v, rfl, rv⟩ := reps1 r
    cases rv
    exact .inl ⟨i, rfl, z, KD.here k ok (.str _) q⟩
/-- a list in another order stands for the data in that order -/
theorem Reps.perm {B : Hp} {vs ws : List V} (p : ws.Perm vs) : ∀ {ds : List D}, Reps K B vs ds → ∃ es, es.Perm ds ∧ Reps K B ws es := by
  induction p with
  | nil =>
    intro ds r
    exact ⟨ds, .refl _, r⟩
  | cons x _ ih =>
    intro ds r
    cases r with
    | cons h r =>
      obtain ⟨es, pe, re⟩ := ih r
      exact ⟨_, pe.cons _, .cons h re⟩
  | swap x y l =>
    intro ds r
    cases r with
    | cons h r =>
      cases r with
      | cons h2 r => exact ⟨_, .swap _ _ _, .cons h2 (.cons h r)⟩
  | trans _ _ ih1 ih2 =>
    intro ds r
    obtain ⟨e1, p1, r1⟩ := ih2 r
    obtain ⟨e2, p2, r2⟩ := ih1 r1
    exact ⟨e2, p2.trans p1, r2⟩
theorem Reps.memV {B : Hp} {v : V} : ∀ {vs : List V} {ds : List D}, Reps K B vs ds → v ∈ vs → ∃ d, d ∈ ds ∧ Rep K B v d
  | _, _, .nil, h => by cases h
  | _, _, .cons h r, hm => by
    rcases List.mem_cons.mp hm with rfl | hm
    · exact ⟨_, List.mem_cons_self, h⟩
    · obtain ⟨d, h1, h2⟩ := Reps.memV r hm
      exact ⟨d, List.mem_cons_of_mem _ h1, h2⟩
/-- sorted of pairs of ints: some order -/
def dSortP : SM := fun ds m Q => ∃ (x : D) (es : List D), ds = [x] ∧ LsD m x es ∧ (∀ d ∈ es, ∃ i j, d = .tup [.int i, .int j]) ∧ ∀ es', es'.Perm es → Q (.lst es') m
theorem cs_sortP : CallS K (rSortedP K) dSortP := fun xs ds H B m Q R ok r h k => by
  obtain ⟨x, es, rfl, e, hp, q⟩ := h
  obtain ⟨v, rfl, rv⟩ := reps1 r
  obtain ⟨a, vs, rfl, hq, rr⟩ := lsd ok rv e
  refine ⟨a, vs, rfl, hq, fun w hw => ?_, fun ys p pm hn => ?_⟩
  · obtain ⟨d, hd, rd⟩ := rr.memV hw
    obtain ⟨i, j, rfl⟩ := hp d hd
    obtain ⟨t, us, rfl, ht, _, ru⟩ := tpd ok rd
    obtain ⟨v1, v2, rfl, r1, r2⟩ := reps2 ru
    cases r1
    cases r2
    exact ⟨t, i, j, rfl, ht⟩
  · obtain ⟨es', pe, re⟩ := rr.perm pm
    exact KD.new k ok hn (fun _ _ z => by cases z) (.lst upd_same (re.mono (leNew (ok.bfree hn)))) (q es' pe)
/-- sorted of texts -/
def dSortS : SM := fun ds m Q => ∃ (x : D) (xs : List Str), ds = [x] ∧ LsD m x (xs.map D.str) ∧ xs.length < 64 ∧ ∀ ys : List Str, ys.Perm xs → sortedS ys = true → Q (.lst (ys.map D.str)) m
theorem cs_sortS : CallS K (rSortedS K) dSortS := fun xs ds H B m Q R ok r h k => by
  obtain ⟨x, es, rfl, e, hp, q⟩ := h
  obtain ⟨v, rfl, rv⟩ := reps1 r
  obtain ⟨a, vs, rfl, hq, rr⟩ := lsd ok rv e
  have ev := Reps.strs rr
  subst ev
  refine ⟨a, es, rfl, hq, hp, fun ys p pm so hn => ?_⟩
  exact KD.new k ok hn (fun _ _ z => by cases z) (.lst upd_same (Reps.ofStrs ys)) (q ys pm so)
/-- isinstance(x, dict), isinstance(x, list) -/
def tyD : D → Option String
  | .non => some "NoneType" | .lst _ => some "list" | .tup _ => some "tuple" | .dic _ => some "dict"
  | _ => none
def dIsi : SM := fun ds m Q => ∃ x n t, ds = [x, .ty n] ∧ tyD x = some t ∧ (∀ K : Fg, PySem.W.kitOne K (.type t) (.type n) = some (t == n)) ∧ Q (.bl (t == n)) m
theorem cs_isi : CallS K (rIsi K) dIsi := fun xs ds H B m Q R ok r h k => by
  obtain ⟨x, n, t, rfl, e, hk, q⟩ := h
  obtain ⟨v, w, rfl, rv, rw'⟩ := reps2 r
  cases rw'
  refine ⟨v, .ty n, .type t, .type n, _, rfl, .ty n, ?_, hk K, KD.here k ok (.bl _) q⟩
  cases rv <;> simp only [tyD] at e <;> first
    | (cases e; exact .base .non)
    | (rename_i h _; cases e; exact .base (.lst (ok.ex _ _ h)))
    | (rename_i h _; cases e; exact .base (.tup (ok.ex _ _ h)))
    | (rename_i h _
       cases e
       rcases ok.le.dK h with h | ⟨o, h⟩
       · exact .base (.dK h)
       · exact .fDict h)
    | cases e
end

/-! ### methods -/
section
variable {K : Fg} {to te : TE} {uo ue : TD} {ta : TA} {ua : TAD}
/-- xs.append(e), on a cell -/
def dApp (uo : TD) (ua : TAD) : TD := fun δ m Q => uo δ m fun x m1 => (∃ es, LsD m1 x es) ∧ ua δ m1 fun ds m2 => ∃ a es d, x = .ref a ∧ ds = [d] ∧ m2.c a = some (.lst es) ∧ es.length < sizeLine ∧ Q .non (m2.set a (.lst (es ++ [d])))
theorem sim_app (so : Sim K to uo) (sa : SimA K ta ua) : Sim K (tBM K "list" rAppend to ta) (dApp uo ua) := fun σ H B δ m Q R ok rs h k => by
  refine so σ H B δ m _ _ ok rs h fun x dx H1 B1 m1 o1 tr1 rx q => ?_
  obtain ⟨⟨es, he⟩, q⟩ := q
  obtain ⟨a, vs, rfl, hq, _⟩ := lsd o1 rx he
  refine ⟨.inl ⟨rfl, vs, hq⟩, ?_⟩
  refine sa σ H1 B1 δ m1 _ _ o1 (rs.mono tr1.le) q fun ws ds H2 B2 m2 o2 tr2 r2 q2 => ?_
  obtain ⟨a2, es, d, rfl, rfl, hc, hz, q2⟩ := q2
  cases rx
  obtain ⟨w, rfl, rw'⟩ := reps1 r2
  obtain ⟨_, ys, hy, ry⟩ := o2.cl _ _ hc
  refine ⟨a, ys, w, rfl, rfl, hy, by rw [ry.length]; exact hz, ?_⟩
  exact k _ _ _ _ _ (o2.write (c' := .lst (es ++ [d])) hc ⟨_, upd_same, ry.append (.one rw')⟩) ((tr1.trans tr2).trans (o2.writeT hc)) .non q2
/-- xs.extend(ys) -/
def dExt (uo : TD) (ua : TAD) : TD := fun δ m Q => uo δ m fun x m1 => (∃ es, LsD m1 x es) ∧ ua δ m1 fun ds m2 => ∃ a es fs, x = .ref a ∧ ds = [.lst fs] ∧ m2.c a = some (.lst es) ∧ es.length + fs.length ≤ sizeLine ∧ Q .non (m2.set a (.lst (es ++ fs)))
theorem sim_ext (so : Sim K to uo) (sa : SimA K ta ua) : Sim K (tBM K "list" rExtend to ta) (dExt uo ua) := fun σ H B δ m Q R ok rs h k => by
  refine so σ H B δ m _ _ ok rs h fun x dx H1 B1 m1 o1 tr1 rx q => ?_
  obtain ⟨⟨es, he⟩, q⟩ := q
  obtain ⟨a, vs, rfl, hq, _⟩ := lsd o1 rx he
  refine ⟨.inl ⟨rfl, vs, hq⟩, ?_⟩
  refine sa σ H1 B1 δ m1 _ _ o1 (rs.mono tr1.le) q fun ws ds H2 B2 m2 o2 tr2 r2 q2 => ?_
  obtain ⟨a2, es, fs, rfl, rfl, hc, hz, q2⟩ := q2
  cases rx
  obtain ⟨w, rfl, rw'⟩ := reps1 r2
  obtain ⟨_, ys, hy, ry⟩ := o2.cl _ _ hc
  cases rw' with
  | lst hb rb =>
    refine ⟨a, _, ys, _, rfl, rfl, hy, o2.ex _ _ hb, by rw [ry.length, rb.length]; exact hz, ?_⟩
    exact k _ _ _ _ _ (o2.write (c' := .lst (es ++ fs)) hc ⟨_, upd_same, ry.append rb⟩) ((tr1.trans tr2).trans (o2.writeT hc)) .non q2
/-- xs.pop(i) -/
def dPopAt (uo : TD) (ua : TAD) : TD := fun δ m Q => uo δ m fun x m1 => (∃ es, LsD m1 x es) ∧ ua δ m1 fun ds m2 => ∃ a es i j d, x = .ref a ∧ ds = [.int i] ∧ m2.c a = some (.lst es) ∧ -(2 ^ 63) ≤ i ∧ i < 2 ^ 63 ∧ seqIndex? i es.length = some j ∧ es[j]? = some d ∧ Q d (m2.set a (.lst (es.eraseIdx j)))
theorem sim_popAt (so : Sim K to uo) (sa : SimA K ta ua) : Sim K (tBM K "list" rPopAt to ta) (dPopAt uo ua) := fun σ H B δ m Q R ok rs h k => by
  refine so σ H B δ m _ _ ok rs h fun x dx H1 B1 m1 o1 tr1 rx q => ?_
  obtain ⟨⟨es, he⟩, q⟩ := q
  obtain ⟨a, vs, rfl, hq, _⟩ := lsd o1 rx he
  refine ⟨.inl ⟨rfl, vs, hq⟩, ?_⟩
  refine sa σ H1 B1 δ m1 _ _ o1 (rs.mono tr1.le) q fun ws ds H2 B2 m2 o2 tr2 r2 q2 => ?_
  obtain ⟨a2, es, i, j, d, rfl, rfl, hc, h1, h2, hj, hd, q2⟩ := q2
  cases rx
  obtain ⟨w, rfl, rw'⟩ := reps1 r2
  cases rw'
  obtain ⟨_, ys, hy, ry⟩ := o2.cl _ _ hc
  obtain ⟨y, hy2, ryd⟩ := ry.get hd
  refine ⟨a, ys, i, j, y, rfl, rfl, hy, h1, h2, by rw [ry.length]; exact hj, hy2, ?_⟩
  exact k _ _ _ _ _ (o2.write (c' := .lst (es.eraseIdx j)) hc ⟨_, upd_same, ry.erase j⟩) ((tr1.trans tr2).trans (o2.writeT hc)) ryd q2
/-- xs.index(e), texts -/
def dIndexS (uo : TD) (ua : TAD) : TD := fun δ m Q => uo δ m fun x m1 => (∃ es, LsD m1 x es) ∧ ua δ m1 fun ds m2 => ∃ (xs : List Str) (s : Str) (j : Nat), LsD m2 x (xs.map D.str) ∧ ds = [.str s] ∧ xs[j]? = some s ∧ (∀ i, i < j → xs[i]? ≠ some s) ∧ Q (.int (j : Nat)) m2
theorem sim_indexS (so : Sim K to uo) (sa : SimA K ta ua) : Sim K (tBM K "list" (rIndex K) to ta) (dIndexS uo ua) := fun σ H B δ m Q R ok rs h k => by
  refine so σ H B δ m _ _ ok rs h fun x dx H1 B1 m1 o1 tr1 rx q => ?_
  obtain ⟨⟨es, he⟩, q⟩ := q
  obtain ⟨a, vs, rfl, hq, _⟩ := lsd o1 rx he
  refine ⟨.inl ⟨rfl, vs, hq⟩, ?_⟩
  refine sa σ H1 B1 δ m1 _ _ o1 (rs.mono tr1.le) q fun ws ds H2 B2 m2 o2 tr2 r2 q2 => ?_
  obtain ⟨xs, s, j, hl, rfl, hj, hn, q2⟩ := q2
  obtain ⟨w, rfl, rw'⟩ := reps1 r2
  cases rw'
  obtain ⟨a2, ws, e, hq2, rr⟩ := lsd o2 (rx.mono tr2.le) hl
  cases e
  have ev := Reps.strs rr
  subst ev
  refine ⟨a, _, .str s, j, .str s, rfl, rfl, hq2, rfl, by simp [flatV], by rw [List.getElem?_map, hj]; rfl, by simp [eqV], fun i z hi hz => ?_, ?_⟩
  · rw [List.getElem?_map] at hz
    cases e : xs[i]? with
    | none =>
      rw [e] at hz
      cases hz
    | some t =>
      rw [e] at hz
      cases hz
      have : t ≠ s := fun z => hn i hi (by rw [e, z])
      simp [eqV, this]
  · exact k _ _ _ _ _ o2 (tr1.trans tr2) (.int _) q2
/-- s.split(t) -/
def dSplit (uo ue : TD) : TD := fun δ m Q => uo δ m fun x m1 => (∃ a, x = .str a) ∧ ue δ m1 fun y m2 => ∃ a b, x = .str a ∧ y = .str b ∧ (b.length == 0) = false ∧ a.length + 2 ≤ sizeLine ∧ Q (.lst ((Txt.split a b).map D.str)) m2
theorem sim_split (so : Sim K to uo) (se : Sim K te ue) : Sim K (tM1 (fun x xs H Q => ∃ a b, x = .str a ∧ xs = [.str b] ∧ (b.length == 0) = false ∧ a.length + 2 ≤ sizeLine ∧ rNewStrs (Txt.split a b) H Q) to te) (dSplit uo ue) := fun σ H B δ m Q R ok rs h k => by
  refine so σ H B δ m _ _ ok rs h fun x dx H1 B1 m1 o1 tr1 rx q => ?_
  obtain ⟨⟨a, rfl⟩, q⟩ := q
  cases rx
  refine ⟨⟨a, rfl⟩, ?_⟩
  refine se σ H1 B1 δ m1 _ _ o1 (rs.mono tr1.le) q fun y dy H2 B2 m2 o2 tr2 ry q2 => ?_
  obtain ⟨a', b, e, rfl, hb, hz, q2⟩ := q2
  cases e
  cases ry
  refine ⟨a, b, rfl, rfl, hb, hz, fun p hp => ?_⟩
  exact k _ _ _ _ m2 (o2.alloc hp (fun _ _ z => by cases z)) ((tr1.trans tr2).trans (o2.allocT hp)) (.lst upd_same (Reps.ofStrs _)) q2
/-- s.join(xs) -/
def dJoin (uo ue : TD) : TD := fun δ m Q => uo δ m fun x m1 => (∃ a, x = .str a) ∧ ue δ m1 fun y m2 => ∃ a, ∃ ys : List Str, x = .str a ∧ SqD m2 y (ys.map D.str) ∧ (ys.map (·.length)).sum + ys.length * a.length ≤ 16777216 ∧ Q (.str (Txt.join a ys)) m2
theorem sim_join (so : Sim K to uo) (se : Sim K te ue) : Sim K (tM1 (fun x xs H Q => ∃ a p, ∃ ys : List Str, x = .str a ∧ xs = [.ref p] ∧ (SqL K H p (ys.map V.str) ∨ SqT K H p (ys.map V.str)) ∧ (ys.map (·.length)).sum + ys.length * a.length ≤ 16777216 ∧ Q (.str (Txt.join a ys)) H) to te) (dJoin uo ue) := fun σ H B δ m Q R ok rs h k => by
  refine so σ H B δ m _ _ ok rs h fun x dx H1 B1 m1 o1 tr1 rx q => ?_
  obtain ⟨⟨a, rfl⟩, q⟩ := q
  cases rx
  refine ⟨⟨a, rfl⟩, ?_⟩
  refine se σ H1 B1 δ m1 _ _ o1 (rs.mono tr1.le) q fun y dy H2 B2 m2 o2 tr2 ry q2 => ?_
  obtain ⟨a', ys, e, hs, hz, q2⟩ := q2
  cases e
  obtain ⟨p, vs, rfl, hq, rr⟩ := sqd o2 ry hs
  have ev := Reps.strs rr
  subst ev
  exact ⟨a, p, ys, rfl, rfl, hq, hz, k _ _ _ _ _ o2 (tr1.trans tr2) (.str _) q2⟩

/-! ### f-strings -/
def dFmt (u : TD) : TD := fun δ m Q => u δ m fun x m1 => (∃ y : Str, x = .str y ∧ y.length ≤ sizeLine ∧ Q (.str y) m1) ∨ ∃ i : Int, x = .int i ∧ i.natAbs.log2 < 1920 ∧ Q (.str (toString i)) m1
theorem sim_fmt (s : Sim K te ue) : Sim K (tFmt te) (dFmt ue) := fun σ H B δ m Q R ok rs h k => by
  refine s σ H B δ m _ _ ok rs h fun x dx H1 B1 m1 o1 tr1 rx q => ?_
  rcases q with ⟨y, rfl, hz, q⟩ | ⟨i, rfl, hz, q⟩
  · cases rx
    exact .inl ⟨y, rfl, hz, k _ _ _ _ _ o1 tr1 (.str _) q⟩
  · cases rx
    exact .inr ⟨i, rfl, hz, k _ _ _ _ _ o1 tr1 (.str _) q⟩
def dJs : List TD → Str → Sl → Mu → (Str → Mu → Prop) → Prop
  | [], acc, _, m, Q => Q acc m
  | u :: us, acc, δ, m, Q => u δ m fun x m1 => ∃ y : Str, x = .str y ∧ (acc ++ y).length ≤ sizeLine ∧ dJs us (acc ++ y) δ m1 Q
inductive SimL (K : Fg) : List TE → List TD → Prop
  | nil : SimL K [] []
  | cons {t : TE} {u : TD} {ts : List TE} {us : List TD} (h : Sim K t u) (r : SimL K ts us) : SimL K (t :: ts) (u :: us)
theorem simJs {ts : List TE} {us : List TD} (s : SimL K ts us) : ∀ (acc : Str) (σ : L2.St) (H B : Hp) (δ : Sl) (m : Mu) (Q : Str → Mu → Prop) (R : Str → Hp → Prop), Ok K B H m → RelS K B σ δ → dJs us acc δ m Q →
    (∀ x H' B' m', Ok K B' H' m' → Tr B H m B' H' m' → Q x m' → R x H') → tJs ts acc σ H R := by
  induction s with
  | nil =>
    intro acc σ H B δ m Q R ok rs h k
    exact k acc H B m ok Tr.refl h
  | cons s _ ih =>
    intro acc σ H B δ m Q R ok rs h k
    refine s σ H B δ m _ _ ok rs h fun x dx H1 B1 m1 o1 tr1 rx q => ?_
    obtain ⟨y, rfl, hz, q⟩ := q
    cases rx
    exact ⟨y, rfl, hz, ih _ σ H1 B1 δ m1 Q R o1 (rs.mono tr1.le) q fun x H2 B2 m2 o2 tr2 q2 => k x H2 B2 m2 o2 (tr1.trans tr2) q2⟩
def dJoined (us : List TD) : TD := fun δ m Q => dJs us Str.empty δ m fun x m1 => Q (.str x) m1
theorem sim_joined {ts : List TE} {us : List TD} (s : SimL K ts us) : Sim K (fun σ H Q => tJs ts Str.empty σ H fun out H1 => Q (.str out) H1) (dJoined us) := fun σ H B δ m Q R ok rs h k =>
  simJs s Str.empty σ H B δ m _ _ ok rs h fun x H1 B1 m1 o1 tr1 q => k _ _ H1 B1 m1 o1 tr1 (.str x) q
end
end L3
/-! Targets, loops, comprehensions, statements, defs over data. -/
namespace L3
open PySem PySem.Spec PyProof.Rows L2

/-! ### states, further -/
section
variable {K : Fg} {B H B1 H1 B' H' : Hp} {m m1 m' : Mu} {p : Addr} {o : HO}
/-- an object that is not told -/
theorem Ok.junk (x : Ok K B H m) (hb : B p = none) (hm : m.c p = none) : Ok K B (upd H p o) m := ⟨fun a u e => by
  have h : a ≠ p := fun z => by
    rw [z, hb] at e
    cases e
  rw [upd_ne h]
  exact x.ex a u e, fun a u e => by
  have h : a ≠ p := fun z => by
    rw [z, hm] at e
    cases e
  exact ⟨(x.cl a u e).1, (x.cl a u e).2.mono (Le.of fun _ _ q => q) (upd_ne h)⟩, x.nf⟩
theorem Tr.junk (t : Tr B1 H1 m1 B H m) (hp : H1 p = none) : Tr B1 H1 m1 B (upd H p o) m := ⟨t.b, fun a u e z => by rw [upd_ne (ne_of_none e hp)]; exact t.h a u e z, t.n, t.m⟩
/-- an object that was not told is told -/
theorem Ok.learn (x : Ok K B H m) (hb : B p = none) (hm : m.c p = none) (ho : H p = some o) (hf : ∀ q u, o ≠ .frz q u) : Ok K (upd B p o) H m := ⟨fun a u e => by
  by_cases h : a = p
  · subst h
    rw [upd_same] at e
    rw [ho]
    exact e
  · rw [upd_ne h] at e
    exact x.ex a u e, fun a u e => by
  have h : a ≠ p := fun z => by
    rw [z, hm] at e
    cases e
  refine ⟨by rw [upd_ne h]; exact (x.cl a u e).1, (x.cl a u e).2.mono (leNew hb) rfl⟩, fun a q u e => by
  by_cases h : a = p
  · subst h
    rw [upd_same] at e
    exact absurd (Option.some.inj e) (hf q u)
  · rw [upd_ne h] at e
    exact x.nf a q u e⟩
theorem Tr.learn (t : Tr B1 H1 m1 B H m) (hp : H1 p = none) (hb : B p = none) : Tr B1 H1 m1 (upd B p o) H m := ⟨fun a u e => by
  rw [upd_ne (ne_of_none (t.b a u e) hb)]
  exact t.b a u e, t.h, fun a u e b z => by
  rw [upd_ne (ne_of_none e hp)]
  exact t.n a u e b z, t.m⟩
end

/-! ### targets -/
abbrev TGd := D → Sl → Mu → (Sl → Mu → Prop) → Prop
abbrev TGsd := List D → Sl → Mu → (Sl → Mu → Prop) → Prop
def SimG (K : Fg) (g : TG) (gd : TGd) (ws : List Nat) : Prop := ∀ x d (σ : L2.St) (H B : Hp) (δ : Sl) (m : Mu) (Q : Sl → Mu → Prop) (R : L2.St → Hp → Prop), Ok K B H m → RelS K B σ δ → Rep K B x d → gd d δ m Q →
  (∀ σ' δ' H' B' m', Ok K B' H' m' → Tr B H m B' H' m' → RelS K B' σ' δ' → (∀ vs : List Nat, (∀ i ∈ ws, i ∈ vs) → L2.wipe σ' vs = L2.wipe σ vs) → Q δ' m' → R σ' H') → g x σ H R
def SimGs (K : Fg) (g : TGs) (gd : TGsd) (ws : List Nat) : Prop := ∀ xs ds (σ : L2.St) (H B : Hp) (δ : Sl) (m : Mu) (Q : Sl → Mu → Prop) (R : L2.St → Hp → Prop), Ok K B H m → RelS K B σ δ → Reps K B xs ds → gd ds δ m Q →
  (∀ σ' δ' H' B' m', Ok K B' H' m' → Tr B H m B' H' m' → RelS K B' σ' δ' → (∀ vs : List Nat, (∀ i ∈ ws, i ∈ vs) → L2.wipe σ' vs = L2.wipe σ vs) → Q δ' m' → R σ' H') → g xs σ H R
def hName (i : Nat) : TGd := fun d δ m Q => Q (δ.set i (some d)) m
def hNil : TGsd := fun ds δ m Q => ds = [] ∧ Q δ m
def hCons (g : TGd) (u : TGsd) : TGsd := fun ds δ m Q => ∃ d r, ds = d :: r ∧ g d δ m fun δ' m' => u r δ' m' Q
def hTup (n : Nat) (u : TGsd) : TGd := fun d δ m Q => ∃ ds, d = .tup ds ∧ ds.length = n ∧ u ds δ m Q
theorem wipe_set_out {σ : L2.St} {i : Nat} {x : Option V} : ∀ {vs : List Nat}, i ∉ vs → L2.wipe (σ.set i x) vs = (L2.wipe σ vs).set i x
  | [], _ => rfl
  | v :: vs, h => by
    have h1 : i ≠ v := fun e => h (by rw [e]; exact List.mem_cons_self)
    have h2 : i ∉ vs := fun e => h (List.mem_cons_of_mem _ e)
    unfold L2.wipe
    rw [wipe_set_out h2, List.set_comm _ _ h1]
theorem wipe_set_in {σ : L2.St} {i : Nat} {x : Option V} : ∀ {vs : List Nat}, i ∈ vs → L2.wipe (σ.set i x) vs = L2.wipe σ vs
  | v :: vs, h => by
    unfold L2.wipe
    by_cases hv : i ∈ vs
    · rw [wipe_set_in hv]
    · have e : i = v := (List.mem_cons.mp h).resolve_right hv
      subst e
      rw [wipe_set_out hv, List.set_set]
section
variable {K : Fg}
theorem sim_gname {i : Nat} : SimG K (gName i) (hName i) [i] := fun x d σ H B δ m Q R ok rs rx h k =>
  k _ _ H B m ok Tr.refl (rs.set rx) (fun vs hv => wipe_set_in (hv i List.mem_cons_self)) h
theorem sim_gnil : SimGs K gNil hNil [] := fun xs ds σ H B δ m Q R ok rs rx h k => by
  obtain ⟨rfl, h⟩ := h
  cases rx
  exact ⟨rfl, k _ _ H B m ok Tr.refl rs (fun _ _ => rfl) h⟩
theorem sim_gcons {g : TG} {gd : TGd} {u : TGs} {ud : TGsd} {ws ws2 : List Nat} (sg : SimG K g gd ws) (su : SimGs K u ud ws2) : SimGs K (gCons g u) (hCons gd ud) (ws ++ ws2) := fun xs ds σ H B δ m Q R ok rs rx h k => by
  obtain ⟨d, r, rfl, h⟩ := h
  cases rx with
  | cons rx rr =>
    refine ⟨_, _, rfl, ?_⟩
    refine sg _ d σ H B δ m _ _ ok rs rx h fun σ1 δ1 H1 B1 m1 o1 tr1 rs1 hw1 q1 => ?_
    refine su _ r σ1 H1 B1 δ1 m1 _ _ o1 rs1 (rr.mono tr1.le) q1 fun σ2 δ2 H2 B2 m2 o2 tr2 rs2 hw2 q2 => ?_
    exact k σ2 δ2 H2 B2 m2 o2 (tr1.trans tr2) rs2 (fun vs hv => (hw2 vs fun i hi => hv i (List.mem_append_right _ hi)).trans (hw1 vs fun i hi => hv i (List.mem_append_left _ hi))) q2
theorem sim_gtup {n : Nat} {u : TGs} {ud : TGsd} {ws : List Nat} (su : SimGs K u ud ws) : SimG K (gTup K n u) (hTup n ud) ws := fun x d σ H B δ m Q R ok rs rx h k => by
  obtain ⟨ds, rfl, hl, h⟩ := h
  obtain ⟨a, vs, rfl, ha, _, rr⟩ := tpd ok rx
  exact ⟨a, vs, rfl, SqT.of ha, by rw [rr.length]; exact hl, su vs ds σ H B δ m _ _ ok rs rr h k⟩
end

/-! ### what is walked -/
structure ItD (K : Fg) (J : It) (ds : List D) (B : Hp) (P : Mu → Prop) : Prop where
  step : ∀ B2 H2 m2, Ok K B2 H2 m2 → (∀ a o, B a = some o → B2 a = some o) → P m2 → ∀ (i : Nat) d, ds[i]? = some d → J.go i H2 ∧ ∀ x H', J.yld i H2 x H' → ∃ B3, Ok K B3 H' m2 ∧ Tr B2 H2 m2 B3 H' m2 ∧ Rep K B3 x d
  stop : ∀ B2 H2 m2, Ok K B2 H2 m2 → (∀ a o, B a = some o → B2 a = some o) → P m2 → ∀ i, ds.length ≤ i → J.stop i H2
abbrev TId := Sl → Mu → (List D → (Mu → Prop) → Mu → Prop) → Prop
def SimI (K : Fg) (wi : TI) (ui : TId) : Prop := ∀ (σ : L2.St) (H B : Hp) (δ : Sl) (m : Mu) (Q : List D → (Mu → Prop) → Mu → Prop) (R : It → Hp → Prop), Ok K B H m → RelS K B σ δ → ui δ m Q →
  (∀ J ds P H' B' m', Ok K B' H' m' → Tr B H m B' H' m' → ItD K J ds B' P → P m' → Q ds P m' → R J H') → wi σ H R
def LsP (d : D) (ds : List D) : Mu → Prop := fun m => LsD m d ds
def dList' (u : TD) : TId := fun δ m R => u δ m fun x m1 => ∃ ds, LsD m1 x ds ∧ R ds (LsP x ds) m1
def dTupI (u : TD) : TId := fun δ m R => u δ m fun x m1 => ∃ ds, x = .tup ds ∧ R ds (fun _ => True) m1
def rngD (lo : Int) (n : Nat) : List D := (List.range n).map fun i => D.int (lo + (i : Nat))
def dRng1 (u : TAD) : TId := fun δ m R => u δ m fun vs m1 => ∃ j : Int, vs = [.int j] ∧ -(2 ^ 62) ≤ j ∧ j < 2 ^ 62 ∧ R (rngD 0 j.toNat) (fun _ => True) m1
def chD (z : Str) : List D := z.cps.toList.map fun c => D.str ⟨#[c]⟩
def dStrI (u : TD) : TId := fun δ m R => u δ m fun x m1 => ∃ z, x = .str z ∧ R (chD z) (fun _ => True) m1
def enumD (k : Nat) : List D → List D
  | [] => []
  | d :: r => .tup [.int (k : Nat), d] :: enumD (k + 1) r
theorem enumD_get : ∀ (ds : List D) (k i : Nat), (enumD k ds)[i]? = (ds[i]?).map fun d => D.tup [.int ((k + i : Nat) : Int), d]
  | [], k, i => by simp [enumD]
  | d :: r, k, 0 => by simp [enumD]
  | d :: r, k, i + 1 => by
    unfold enumD
    rw [List.getElem?_cons_succ, List.getElem?_cons_succ, enumD_get r (k + 1) i]
    have e : k + 1 + i = k + (i + 1) := by omega
    rw [e]
theorem enumD_len : ∀ (ds : List D) (k : Nat), (enumD k ds).length = ds.length
  | [], _ => rfl
  | d :: r, k => by
    unfold enumD
    rw [List.length_cons, List.length_cons, enumD_len r]
def dEnum (u : TAD) : TId := fun δ m R => u δ m fun vs m1 => ∃ x ds, vs = [x] ∧ LsD m1 x ds ∧ R (enumD 0 ds) (LsP x ds) m1
section
variable {K : Fg} {tl : TE} {ul : TD} {ta : TA} {ua : TAD}
theorem sim_ilist (s : Sim K tl ul) : SimI K (iList K tl) (dList' ul) := fun σ H B δ m Q R ok rs h k => by
  refine s σ H B δ m _ _ ok rs h fun v d H1 B1 m1 o1 tr1 rv q => ?_
  obtain ⟨ds, hl, q⟩ := q
  obtain ⟨a, vs, rfl, hq, rr⟩ := lsd o1 rv hl
  refine ⟨a, rfl, ⟨vs, hq⟩, k (Itl K a) ds (LsP d ds) H1 B1 m1 o1 tr1 ⟨fun B2 H2 m2 o2 e2 p2 i x hx => ?_, fun B2 H2 m2 o2 e2 p2 i hi => ?_⟩ hl q⟩
  · obtain ⟨a2, ws, e, hq2, r2⟩ := lsd o2 (rv.mono (Le.of e2)) p2
    cases e
    obtain ⟨w, hw, rw'⟩ := r2.get hx
    refine ⟨⟨ws, w, hq2, hw⟩, fun y H' hy => ?_⟩
    obtain ⟨rfl, hy⟩ := hy
    have := hy ws hq2
    rw [hw] at this
    cases this
    exact ⟨B2, o2, Tr.refl, rw'⟩
  · obtain ⟨a2, ws, e, hq2, r2⟩ := lsd o2 (rv.mono (Le.of e2)) p2
    cases e
    exact ⟨ws, hq2, by rw [r2.length]; exact hi⟩
theorem sim_itup (s : Sim K tl ul) : SimI K (iTup K tl) (dTupI ul) := fun σ H B δ m Q R ok rs h k => by
  refine s σ H B δ m _ _ ok rs h fun v d H1 B1 m1 o1 tr1 rv q => ?_
  obtain ⟨ds, rfl, q⟩ := q
  obtain ⟨a, vs, rfl, hq, hb, rr⟩ := tpd o1 rv
  refine ⟨a, rfl, ⟨vs, SqT.of hq⟩, k (Itt K a) ds (fun _ => True) H1 B1 m1 o1 tr1 ⟨fun B2 H2 m2 o2 e2 p2 i x hx => ?_, fun B2 H2 m2 o2 e2 p2 i hi => ?_⟩ True.intro q⟩
  · have hq2 := o2.ex _ _ (e2 _ _ hb)
    obtain ⟨w, hw, rw'⟩ := (rr.mono (Le.of e2)).get hx
    refine ⟨⟨vs, w, SqT.of hq2, hw⟩, fun y H' hy => ?_⟩
    obtain ⟨rfl, hy⟩ := hy
    have := hy vs (SqT.of hq2)
    rw [hw] at this
    cases this
    exact ⟨B2, o2, Tr.refl, rw'⟩
  · have hq2 := o2.ex _ _ (e2 _ _ hb)
    exact ⟨vs, SqT.of hq2, by rw [rr.length]; exact hi⟩
theorem rngD_get {lo : Int} {n i : Nat} {d : D} (h : (rngD lo n)[i]? = some d) : i < n ∧ d = .int (lo + (i : Nat)) := by
  unfold rngD at h
  rw [List.getElem?_map] at h
  by_cases hi : i < n
  · rw [List.getElem?_range hi] at h
    cases h
    exact ⟨hi, rfl⟩
  · rw [List.getElem?_eq_none (by rw [List.length_range]; omega)] at h
    cases h
theorem sim_irng1 (s : SimA K ta ua) : SimI K (iRng1 ta) (dRng1 ua) := fun σ H B δ m Q R ok rs h k => by
  refine s σ H B δ m _ _ ok rs h fun vs ds H1 B1 m1 o1 tr1 rv q => ?_
  obtain ⟨j, rfl, h1, h2, q⟩ := q
  obtain ⟨v, rfl, rv1⟩ := reps1 rv
  cases rv1
  refine ⟨j, rfl, h1, h2, k (Itr 0 j.toNat) _ (fun _ => True) H1 B1 m1 o1 tr1 ⟨fun B2 H2 m2 o2 e2 p2 i x hx => ?_, fun B2 H2 m2 o2 e2 p2 i hi => ?_⟩ True.intro q⟩
  · obtain ⟨hi, rfl⟩ := rngD_get hx
    refine ⟨hi, fun y H' hy => ?_⟩
    obtain ⟨rfl, rfl⟩ := hy
    exact ⟨B2, o2, Tr.refl, .int _⟩
  · unfold rngD at hi
    rw [List.length_map, List.length_range] at hi
    exact hi
theorem sim_istr (s : Sim K tl ul) : SimI K (iStr tl) (dStrI ul) := fun σ H B δ m Q R ok rs h k => by
  refine s σ H B δ m _ _ ok rs h fun v d H1 B1 m1 o1 tr1 rv q => ?_
  obtain ⟨z, rfl, q⟩ := q
  cases rv
  refine ⟨z, rfl, k (Its z) _ (fun _ => True) H1 B1 m1 o1 tr1 ⟨fun B2 H2 m2 o2 e2 p2 i x hx => ?_, fun B2 H2 m2 o2 e2 p2 i hi => ?_⟩ True.intro q⟩
  · unfold chD at hx
    rw [List.getElem?_map, Array.getElem?_toList] at hx
    cases e : z.cps[i]? with
    | none =>
      rw [e] at hx
      cases hx
    | some c =>
      rw [e] at hx
      cases hx
      refine ⟨(Array.getElem?_eq_some_iff.mp e).1, fun y H' hy => ?_⟩
      obtain ⟨rfl, c2, e2, rfl⟩ := hy
      rw [e] at e2
      cases e2
      exact ⟨B2, o2, Tr.refl, .str _⟩
  · unfold chD at hi
    rw [List.length_map, Array.length_toList] at hi
    exact hi
theorem sim_ienum (s : SimA K ta ua) : SimI K (iEnum K ta) (dEnum ua) := fun σ H B δ m Q R ok rs h k => by
  refine s σ H B δ m _ _ ok rs h fun vs xs H1 B1 m1 o1 tr1 rv q => ?_
  obtain ⟨d, ds, rfl, hl, q⟩ := q
  obtain ⟨v, rfl, rv1⟩ := reps1 rv
  clear rv
  have rv := rv1
  obtain ⟨a, vs, rfl, hq, rr⟩ := lsd o1 rv hl
  refine ⟨a, vs, rfl, hq, k (Ite K a) _ (LsP d ds) H1 B1 m1 o1 tr1 ⟨fun B2 H2 m2 o2 e2 p2 i x hx => ?_, fun B2 H2 m2 o2 e2 p2 i hi => ?_⟩ hl q⟩
  · obtain ⟨a2, ws, e, hq2, r2⟩ := lsd o2 (rv.mono (Le.of e2)) p2
    cases e
    rw [enumD_get] at hx
    cases e : ds[i]? with
    | none =>
      rw [e] at hx
      cases hx
    | some d1 =>
      rw [e] at hx
      cases hx
      obtain ⟨w, hw, rw'⟩ := r2.get e
      refine ⟨⟨ws, w, hq2, hw⟩, fun y H' hy => ?_⟩
      obtain ⟨T, x, rfl, hT, rfl, hy⟩ := hy
      have := hy ws hq2
      rw [hw] at this
      cases this
      refine ⟨_, o2.alloc hT (fun _ _ z => by cases z), o2.allocT hT, .tup upd_same ?_⟩
      rw [Nat.zero_add]
      exact .cons (.int _) (.cons (rw'.mono (leNew (o2.bfree hT))) .nil)
  · obtain ⟨a2, ws, e, hq2, r2⟩ := lsd o2 (rv.mono (Le.of e2)) p2
    cases e
    rw [enumD_len] at hi
    exact ⟨ws, hq2, by rw [r2.length]; exact hi⟩
end

/-! ### comprehensions -/
/-- the turns of a list comprehension, over data -/
def LcD (ds : List D) (P : Mu → Prop) (gd : TGd) (ut : TTD) (ue : TD) (vs : List Nat) (δ : Sl) (m1 : Mu) (Q : QD) : Prop := ∃ W : Nat → List D → Mu → Prop, W 0 [] m1 ∧ (∀ i acc m', W i acc m' → P m') ∧
  (∀ i d acc m', ds[i]? = some d → W i acc m' → gd d (wipeD δ vs) m' fun δ2 m2 => ut δ2 m2 fun b m3 => if b = true then ue δ2 m3 fun y m4 => acc.length < sizeLine ∧ W (i + 1) (acc ++ [y]) m4 else W (i + 1) acc m3) ∧
  ∀ acc m', W ds.length acc m' → Q (.lst acc) m'
def dLc (ui : TId) (gd : TGd) (ut : TTD) (ue : TD) (vs : List Nat) : TD := fun δ m Q => ui δ m fun ds P m1 => LcD ds P gd ut ue vs δ m1 Q
section
variable {K : Fg} {g : TG} {gd : TGd} {ws vs : List Nat} {tt : TT} {ut : TTD} {te : TE} {ue : TD} {J : It} {ds : List D} {B1 H1 : Hp} {m1 : Mu} {P : Mu → Prop} {σ : L2.St} {δ : Sl} {Q : QD} {R : VK}
/-- the list so far, at Dl -/
structure Acc (K : Fg) (B1 H1 : Hp) (m1 : Mu) (Dl : Addr) (acc : List D) (B H : Hp) (m : Mu) : Prop where
  ok : Ok K B H m
  tr : Tr B1 H1 m1 B H m
  at_ : ∃ vs, H Dl = some (.lst vs) ∧ Reps K B vs acc
  b : B Dl = none
  c : m.c Dl = none
theorem Acc.step {Dl : Addr} {acc : List D} {B H B' H' : Hp} {m m' : Mu} (x : Acc K B1 H1 m1 Dl acc B H m) (ok : Ok K B' H' m') (tr : Tr B H m B' H' m') : Acc K B1 H1 m1 Dl acc B' H' m' := by
  obtain ⟨vs, e, r⟩ := x.at_
  exact ⟨ok, x.tr.trans tr, ⟨vs, tr.h _ _ e x.c, r.mono tr.le⟩, tr.n _ _ e x.b x.c, tr.m _ _ e x.c⟩
theorem Acc.app {Dl : Addr} {acc : List D} {B H : Hp} {m : Mu} {v : V} {d : D} (x : Acc K B1 H1 m1 Dl acc B H m) (h1 : H1 Dl = none) (r : Rep K B v d) (hz : acc.length < sizeLine) :
    ∃ vs, H Dl = some (.lst vs) ∧ vs.length < sizeLine ∧ Acc K B1 H1 m1 Dl (acc ++ [d]) B (upd H Dl (.lst (vs ++ [v]))) m := by
  obtain ⟨vs, e, rr⟩ := x.at_
  exact ⟨vs, e, by rw [rr.length]; exact hz, x.ok.junk x.b x.c, x.tr.junk h1, ⟨_, upd_same, rr.append (.one r)⟩, x.b, x.c⟩
theorem lc_run (it : ItD K J ds B1 P) (ok : Ok K B1 H1 m1) (rs : RelS K B1 σ δ) (sg : SimG K g gd ws) (hw : ∀ i ∈ ws, i ∈ vs) (st : SimT K tt ut) (se : Sim K te ue) (h : LcD ds P gd ut ue vs δ m1 Q) (k : KD K B1 H1 m1 Q R) :
    ∀ Dl, H1 Dl = none → ∃ W : Nat → Nat → Hp → Prop, (∃ n, W 0 n (upd H1 Dl (.lst []))) ∧ ∀ i n H, W i n H →
      (J.stop i H ∧ R (.ref Dl) H) ∨ (J.go i H ∧ ∃ Nx : Hp → Prop, (∀ H', Nx H' → ∃ n', n' < n ∧ W (i + 1) n' H') ∧ ∀ x H', J.yld i H x H' → g x (L2.wipe σ vs) H' fun σ2 H2 => L2.wipe σ2 vs = L2.wipe σ vs ∧ tt σ2 H2 fun b H3 =>
        if b = true then te σ2 H3 fun y H4 => ∃ acc, H4 Dl = some (.lst acc) ∧ acc.length < sizeLine ∧ Nx (upd H4 Dl (.lst (acc ++ [y]))) else Nx H3) := by
  intro Dl hD
  obtain ⟨W, w0, wp, turn, fin⟩ := h
  have wip : L2.wipe (L2.wipe σ vs) vs = L2.wipe σ vs := by
    have key : ∀ us : List Nat, (∀ i ∈ us, i ∈ vs) → L2.wipe (L2.wipe σ us) vs = L2.wipe σ vs := by
      intro us
      induction us with
      | nil => intro _; rfl
      | cons u us ih =>
        intro hu
        show L2.wipe ((L2.wipe σ us).set u none) vs = _
        rw [wipe_set_in (hu u List.mem_cons_self)]
        exact ih fun i hi => hu i (List.mem_cons_of_mem _ hi)
    exact key vs fun _ h => h
  refine ⟨fun i n H => n = ds.length - i ∧ i ≤ ds.length ∧ ∃ acc B m, Acc K B1 H1 m1 Dl acc B H m ∧ W i acc m, ⟨_, rfl, Nat.zero_le _, [], B1, m1, ⟨ok.junk (ok.bfree hD) (ok.cfree hD), Tr.refl.junk hD, ⟨[], upd_same, .nil⟩, ok.bfree hD, ok.cfree hD⟩, w0⟩, ?_⟩
  rintro i n H ⟨rfl, hi, acc, B, m, A, w⟩
  by_cases hlt : i < ds.length
  · obtain ⟨d, hd⟩ : ∃ d, ds[i]? = some d := ⟨ds[i], List.getElem?_eq_getElem hlt⟩
    obtain ⟨go, yl⟩ := it.step B H m A.ok A.tr.b (wp _ _ _ w) i d hd
    refine .inr ⟨go, fun H' => ∃ acc B m, Acc K B1 H1 m1 Dl acc B H' m ∧ W (i + 1) acc m, fun H' hx => ⟨_, Nat.sub_lt_sub_left hlt (Nat.lt_succ_self i), rfl, hlt, hx⟩, fun x H2 hy => ?_⟩
    obtain ⟨B2, o2, t2, rx⟩ := yl x H2 hy
    have A2 := A.step o2 t2
    refine sg x d _ H2 B2 _ m _ _ o2 ((rs.mono A2.tr.le).wipe vs) rx (turn i d acc m hd w) fun σ3 δ3 H3 B3 m3 o3 t3 rs3 hw3 q3 => ?_
    have A3 := A2.step o3 t3
    refine ⟨(hw3 vs hw).trans wip, ?_⟩
    refine st σ3 H3 B3 δ3 m3 _ _ o3 rs3 q3 fun b H4 B4 m4 o4 t4 q4 => ?_
    have A4 := A3.step o4 t4
    cases b with
    | false =>
      rw [if_neg Bool.false_ne_true] at q4 ⊢
      exact ⟨acc, B4, m4, A4, q4⟩
    | true =>
      rw [if_pos rfl] at q4 ⊢
      refine se σ3 H4 B4 δ3 m4 _ _ o4 (rs3.mono t4.le) q4 fun v dv H5 B5 m5 o5 t5 rv q5 => ?_
      obtain ⟨hz, q5⟩ := q5
      obtain ⟨us, e1, e2, A5⟩ := (A4.step o5 t5).app hD rv hz
      exact ⟨us, e1, e2, _, B5, m5, A5, q5⟩
  · have e : i = ds.length := by omega
    subst e
    obtain ⟨us, e, r⟩ := A.at_
    refine .inl ⟨it.stop B H m A.ok A.tr.b (wp _ _ _ w) _ (Nat.le_refl _), ?_⟩
    exact k _ _ _ _ _ (A.ok.learn A.b A.c e (fun _ _ z => by cases z)) (A.tr.learn hD A.b) (.lst upd_same (r.mono (leNew A.b))) (fin acc m w)
theorem sim_lc {wi : TI} {ui : TId} (si : SimI K wi ui) (sg : SimG K g gd ws) (st : SimT K tt ut) (se : Sim K te ue) (hw : (ws.all fun i => decide (i ∈ vs)) = true) : Sim K (tLc wi g tt te vs) (dLc ui gd ut ue vs) := fun σ H B δ m Q R ok rs h k => by
  have hw' : ∀ i ∈ ws, i ∈ vs := fun i hi => of_decide_eq_true (List.all_eq_true.mp hw i hi)
  refine si σ H B δ m _ _ ok rs h fun J ds P H1 B1 m1 o1 tr1 it p q => ?_
  exact lc_run it o1 (rs.mono tr1.le) sg hw' st se q fun v d H2 B2 m2 o2 tr2 r2 q2 => k v d H2 B2 m2 o2 (tr1.trans tr2) r2 q2
end
end L3
/-! Dict comprehensions, comprehensions of two clauses, dicts walked; statements; defs. -/
namespace L3
open PySem PySem.Spec PyProof.Rows L2

def dYes : TTD := fun _ m Q => Q true m
theorem sim_yes {K : Fg} : SimT K tYes dYes := fun σ H B δ m Q R ok rs h k => k true H B m ok Tr.refl h
theorem wipe_wipe (σ : L2.St) (vs : List Nat) : L2.wipe (L2.wipe σ vs) vs = L2.wipe σ vs := by
  have key : ∀ us : List Nat, (∀ i ∈ us, i ∈ vs) → L2.wipe (L2.wipe σ us) vs = L2.wipe σ vs := by
    intro us
    induction us with
    | nil => intro _; rfl
    | cons u us ih =>
      intro hu
      show L2.wipe ((L2.wipe σ us).set u none) vs = _
      rw [wipe_set_in (hu u List.mem_cons_self)]
      exact ih fun i hi => hu i (List.mem_cons_of_mem _ hi)
  exact key vs fun _ h => h

/-! ### dict comprehensions -/
def DcLoop (ds : List D) (P : Mu → Prop) (gd : TGd) (ut : TTD) (uk uv : TD) (vs : List Nat) (δ : Sl) (m1 : Mu) (Q : QD) : Prop := ∃ W : Nat → List (Key × D) → Mu → Prop, W 0 [] m1 ∧ (∀ i acc m', W i acc m' → P m') ∧
  (∀ i d acc m', ds[i]? = some d → W i acc m' → gd d (wipeD δ vs) m' fun δ2 m2 => ut δ2 m2 fun b m3 => if b = true then uk δ2 m3 fun x m4 => uv δ2 m4 fun y m5 => ∃ k, x = kD k ∧ acc.length < sizeLine ∧ W (i + 1) (setD acc k y) m5 else W (i + 1) acc m3) ∧
  ∀ acc m', W ds.length acc m' → Q (.dic acc) m'
def dDc (ui : TId) (gd : TGd) (ut : TTD) (uk uv : TD) (vs : List Nat) : TD := fun δ m Q => ui δ m fun ds P m1 => DcLoop ds P gd ut uk uv vs δ m1 Q
structure AccK (K : Fg) (B1 H1 : Hp) (m1 : Mu) (Dl : Addr) (acc : List (Key × D)) (B H : Hp) (m : Mu) : Prop where
  ok : Ok K B H m
  tr : Tr B1 H1 m1 B H m
  at_ : ∃ vs, H Dl = some (.dK vs) ∧ RepK K B vs acc
  b : B Dl = none
  c : m.c Dl = none
section
variable {K : Fg} {g : TG} {gd : TGd} {ws vs : List Nat} {tt : TT} {ut : TTD} {te tk : TE} {ue uk : TD} {J : It} {ds : List D} {B1 H1 : Hp} {m1 : Mu} {P : Mu → Prop} {σ : L2.St} {δ : Sl} {Q : QD} {R : VK}
theorem AccK.step {Dl : Addr} {acc : List (Key × D)} {B H B' H' : Hp} {m m' : Mu} (x : AccK K B1 H1 m1 Dl acc B H m) (ok : Ok K B' H' m') (tr : Tr B H m B' H' m') : AccK K B1 H1 m1 Dl acc B' H' m' := by
  obtain ⟨vs, e, r⟩ := x.at_
  exact ⟨ok, x.tr.trans tr, ⟨vs, tr.h _ _ e x.c, r.mono tr.le⟩, tr.n _ _ e x.b x.c, tr.m _ _ e x.c⟩
theorem sim_dc {wi : TI} {ui : TId} (si : SimI K wi ui) (sg : SimG K g gd ws) (st : SimT K tt ut) (sk : Sim K tk uk) (se : Sim K te ue) (hw : (ws.all fun i => decide (i ∈ vs)) = true) : Sim K (tDc wi g tt tk te vs) (dDc ui gd ut uk ue vs) := fun σ H B δ m Q R ok rs h k => by
  have hw' : ∀ i ∈ ws, i ∈ vs := fun i hi => of_decide_eq_true (List.all_eq_true.mp hw i hi)
  refine si σ H B δ m _ _ ok rs h fun J ds P H1 B1 m1 o1 tr1 it p q => ?_
  intro Dl hD
  obtain ⟨W, w0, wp, turn, fin⟩ := q
  refine ⟨fun i n H => n = ds.length - i ∧ i ≤ ds.length ∧ ∃ acc B m, AccK K B1 H1 m1 Dl acc B H m ∧ W i acc m, ⟨_, rfl, Nat.zero_le _, [], B1, m1, ⟨o1.junk (o1.bfree hD) (o1.cfree hD), Tr.refl.junk hD, ⟨[], upd_same, .nil⟩, o1.bfree hD, o1.cfree hD⟩, w0⟩, ?_⟩
  rintro i n H ⟨rfl, hi, acc, B, m, A, w⟩
  by_cases hlt : i < ds.length
  · obtain ⟨d, hd⟩ : ∃ d, ds[i]? = some d := ⟨ds[i], List.getElem?_eq_getElem hlt⟩
    obtain ⟨go, yl⟩ := it.step B H m A.ok A.tr.b (wp _ _ _ w) i d hd
    refine .inr ⟨go, fun H' => ∃ acc B m, AccK K B1 H1 m1 Dl acc B H' m ∧ W (i + 1) acc m, fun H' hx => ⟨_, Nat.sub_lt_sub_left hlt (Nat.lt_succ_self i), rfl, hlt, hx⟩, fun x H2 hy => ?_⟩
    obtain ⟨B2, o2, t2, rx⟩ := yl x H2 hy
    have A2 := A.step o2 t2
    refine sg x d _ H2 B2 _ m _ _ o2 (((rs.mono tr1.le).mono A2.tr.le).wipe vs) rx (turn i d acc m hd w) fun σ3 δ3 H3 B3 m3 o3 t3 rs3 hw3 q3 => ?_
    have A3 := A2.step o3 t3
    refine ⟨(hw3 vs hw').trans (wipe_wipe σ vs), ?_⟩
    refine st σ3 H3 B3 δ3 m3 _ _ o3 rs3 q3 fun b H4 B4 m4 o4 t4 q4 => ?_
    have A4 := A3.step o4 t4
    cases b with
    | false =>
      rw [if_neg Bool.false_ne_true] at q4 ⊢
      exact ⟨acc, B4, m4, A4, q4⟩
    | true =>
      rw [if_pos rfl] at q4 ⊢
      refine sk σ3 H4 B4 δ3 m4 _ _ o4 (rs3.mono t4.le) q4 fun kv kd H5 B5 m5 o5 t5 rk q5 => ?_
      refine se σ3 H5 B5 δ3 m5 _ _ o5 ((rs3.mono t4.le).mono t5.le) q5 fun v dv H6 B6 m6 o6 t6 rv q6 => ?_
      obtain ⟨key, rfl, hz, q6⟩ := q6
      have A6 := (A4.step o5 t5).step o6 t6
      obtain ⟨us, e, r⟩ := A6.at_
      exact ⟨us, key, kdV rk, e, by rw [r.length]; exact hz, _, B6, m6, ⟨A6.ok.junk A6.b A6.c, A6.tr.junk hD, ⟨_, upd_same, r.put rv⟩, A6.b, A6.c⟩, q6⟩
  · have e : i = ds.length := by omega
    subst e
    obtain ⟨us, e, r⟩ := A.at_
    refine .inl ⟨it.stop B H m A.ok A.tr.b (wp _ _ _ w) _ (Nat.le_refl _), ?_⟩
    exact k _ _ _ _ _ (A.ok.learn A.b A.c e (fun _ _ z => by cases z)) (tr1.trans (A.tr.learn hD A.b)) (.dic (.inl upd_same) (r.mono (leNew A.b))) (fin acc m w)

/-! ### two clauses -/
def Lc2I (es : List D) (P1 : Mu → Prop) (gd1 : TGd) (ut1 : TTD) (ue : TD) (vs1 : List Nat) (δ2 : Sl) (acc : List D) (m4 : Mu) (N : List D → Mu → Prop) : Prop := ∃ W1 : Nat → List D → Mu → Prop, W1 0 acc m4 ∧ (∀ j a m', W1 j a m' → P1 m') ∧
  (∀ j e acc1 m5, es[j]? = some e → W1 j acc1 m5 → gd1 e (wipeD δ2 vs1) m5 fun δ3 m6 => ut1 δ3 m6 fun b m7 => if b = true then ue δ3 m7 fun y m8 => acc1.length < sizeLine ∧ W1 (j + 1) (acc1 ++ [y]) m8 else W1 (j + 1) acc1 m7) ∧
  ∀ acc1 m5, W1 es.length acc1 m5 → N acc1 m5
def Lc2D (gd : TGd) (ut : TTD) (ui1 : TId) (gd1 : TGd) (ut1 : TTD) (ue : TD) (vs vs1 : List Nat) (ds : List D) (P : Mu → Prop) (δ : Sl) (m1 : Mu) (Q : QD) : Prop := ∃ W : Nat → List D → Mu → Prop, W 0 [] m1 ∧ (∀ i acc m', W i acc m' → P m') ∧
  (∀ i d acc m', ds[i]? = some d → W i acc m' → gd d (wipeD δ vs) m' fun δ2 m2 => ut δ2 m2 fun b m3 => if b = true then ui1 δ2 m3 fun es P1 m4 => Lc2I es P1 gd1 ut1 ue vs1 δ2 acc m4 (W (i + 1)) else W (i + 1) acc m3) ∧
  ∀ acc m', W ds.length acc m' → Q (.lst acc) m'
def dLc2 (ui : TId) (gd : TGd) (ut : TTD) (ui1 : TId) (gd1 : TGd) (ut1 : TTD) (ue : TD) (vs vs1 : List Nat) : TD := fun δ m Q => ui δ m fun ds P m1 => Lc2D gd ut ui1 gd1 ut1 ue vs vs1 ds P δ m1 Q
/-- what is done with the thing walked -/
def SimF (K : Fg) (F : L2.St → VK → It → Hp → Prop) (f : List D → (Mu → Prop) → Sl → Mu → QD → Prop) : Prop := ∀ J ds P (σ : L2.St) δ B1 H1 m1 Q R, ItD K J ds B1 P → Ok K B1 H1 m1 → RelS K B1 σ δ → P m1 → f ds P δ m1 Q → KD K B1 H1 m1 Q R → F σ R J H1
def fLc (g : TG) (tt : TT) (te : TE) (vs : List Nat) : L2.St → VK → It → Hp → Prop := fun σ Q J H1 => ∀ Dl, H1 Dl = none → ∃ W : Nat → Nat → Hp → Prop, (∃ m, W 0 m (upd H1 Dl (.lst []))) ∧ ∀ i m H, W i m H →
  (J.stop i H ∧ Q (.ref Dl) H) ∨ (J.go i H ∧ ∃ Nx : Hp → Prop, (∀ H', Nx H' → ∃ m', m' < m ∧ W (i + 1) m' H') ∧ ∀ x H', J.yld i H x H' → g x (L2.wipe σ vs) H' fun σ2 H2 => L2.wipe σ2 vs = L2.wipe σ vs ∧ tt σ2 H2 fun b H3 =>
    if b = true then te σ2 H3 fun y H4 => ∃ acc, H4 Dl = some (.lst acc) ∧ acc.length < sizeLine ∧ Nx (upd H4 Dl (.lst (acc ++ [y]))) else Nx H3)
theorem simF_lc (sg : SimG K g gd ws) (st : SimT K tt ut) (se : Sim K te ue) (hw : (ws.all fun i => decide (i ∈ vs)) = true) : SimF K (fLc g tt te vs) (fun ds P δ m1 Q => LcD ds P gd ut ue vs δ m1 Q) :=
  fun J ds P σ δ B1 H1 m1 Q R it ok rs p h k => lc_run it ok rs sg (fun i hi => of_decide_eq_true (List.all_eq_true.mp hw i hi)) st se h k
def fLc2 (g : TG) (tt : TT) (wi1 : TI) (g1 : TG) (tt1 : TT) (te : TE) (vs vs1 : List Nat) : L2.St → VK → It → Hp → Prop := fun σ Q J H1 => ∀ Dl, H1 Dl = none → ∃ W : Nat → Nat → Hp → Prop, (∃ m, W 0 m (upd H1 Dl (.lst []))) ∧ ∀ i m H, W i m H →
  (J.stop i H ∧ Q (.ref Dl) H) ∨ (J.go i H ∧ ∃ Nx : Hp → Prop, (∀ H', Nx H' → ∃ m', m' < m ∧ W (i + 1) m' H') ∧ ∀ x H', J.yld i H x H' → g x (L2.wipe σ vs) H' fun σ2 H2 => L2.wipe σ2 vs = L2.wipe σ vs ∧ tt σ2 H2 fun b H3 =>
    if b = true then wi1 σ2 H3 fun J1 H4 => ∃ W1 : Nat → Nat → Hp → Prop, (∃ m, W1 0 m H4) ∧ ∀ j k H, W1 j k H →
      (J1.stop j H ∧ Nx H) ∨ (J1.go j H ∧ ∃ Nx1 : Hp → Prop, (∀ H', Nx1 H' → ∃ k', k' < k ∧ W1 (j + 1) k' H') ∧ ∀ x H', J1.yld j H x H' → g1 x (L2.wipe σ2 vs1) H' fun σ3 H5 => L2.wipe σ3 vs1 = L2.wipe σ2 vs1 ∧ tt1 σ3 H5 fun b H6 =>
        if b = true then te σ3 H6 fun y H7 => ∃ acc, H7 Dl = some (.lst acc) ∧ acc.length < sizeLine ∧ Nx1 (upd H7 Dl (.lst (acc ++ [y]))) else Nx1 H6)
    else Nx H3)
variable {wi1 : TI} {ui1 : TId} {g1 : TG} {gd1 : TGd} {ws1 vs1 : List Nat} {tt1 : TT} {ut1 : TTD}
theorem simF_lc2 (sg : SimG K g gd ws) (st : SimT K tt ut) (si1 : SimI K wi1 ui1) (sg1 : SimG K g1 gd1 ws1) (st1 : SimT K tt1 ut1) (se : Sim K te ue) (hw : (ws.all fun i => decide (i ∈ vs)) = true) (hw1 : (ws1.all fun i => decide (i ∈ vs1)) = true) :
    SimF K (fLc2 g tt wi1 g1 tt1 te vs vs1) (Lc2D gd ut ui1 gd1 ut1 ue vs vs1) := fun J ds P σ δ B1 H1 m1 Q R it ok rs p h k => by
  have hw' : ∀ i ∈ ws, i ∈ vs := fun i hi => of_decide_eq_true (List.all_eq_true.mp hw i hi)
  have hw1' : ∀ i ∈ ws1, i ∈ vs1 := fun i hi => of_decide_eq_true (List.all_eq_true.mp hw1 i hi)
  intro Dl hD
  obtain ⟨W, w0, wp, turn, fin⟩ := h
  refine ⟨fun i n H => n = ds.length - i ∧ i ≤ ds.length ∧ ∃ acc B m, Acc K B1 H1 m1 Dl acc B H m ∧ W i acc m, ⟨_, rfl, Nat.zero_le _, [], B1, m1, ⟨ok.junk (ok.bfree hD) (ok.cfree hD), Tr.refl.junk hD, ⟨[], upd_same, .nil⟩, ok.bfree hD, ok.cfree hD⟩, w0⟩, ?_⟩
  rintro i n H ⟨rfl, hi, acc, B, m, A, w⟩
  by_cases hlt : i < ds.length
  · obtain ⟨d, hd⟩ : ∃ d, ds[i]? = some d := ⟨ds[i], List.getElem?_eq_getElem hlt⟩
    obtain ⟨go, yl⟩ := it.step B H m A.ok A.tr.b (wp _ _ _ w) i d hd
    refine .inr ⟨go, fun H' => ∃ acc B m, Acc K B1 H1 m1 Dl acc B H' m ∧ W (i + 1) acc m, fun H' hx => ⟨_, Nat.sub_lt_sub_left hlt (Nat.lt_succ_self i), rfl, hlt, hx⟩, fun x H2 hy => ?_⟩
    obtain ⟨B2, o2, t2, rx⟩ := yl x H2 hy
    have A2 := A.step o2 t2
    refine sg x d _ H2 B2 _ m _ _ o2 ((rs.mono A2.tr.le).wipe vs) rx (turn i d acc m hd w) fun σ3 δ3 H3 B3 m3 o3 t3 rs3 hw3 q3 => ?_
    have A3 := A2.step o3 t3
    refine ⟨(hw3 vs hw').trans (wipe_wipe σ vs), ?_⟩
    refine st σ3 H3 B3 δ3 m3 _ _ o3 rs3 q3 fun b H4 B4 m4 o4 t4 q4 => ?_
    have A4 := A3.step o4 t4
    cases b with
    | false =>
      rw [if_neg Bool.false_ne_true] at q4 ⊢
      exact ⟨acc, B4, m4, A4, q4⟩
    | true =>
      rw [if_pos rfl] at q4 ⊢
      refine si1 σ3 H4 B4 δ3 m4 _ _ o4 (rs3.mono t4.le) q4 fun J1 es P1 H5 B5 m5 o5 t5 it1 p1 q5 => ?_
      have A5 := A4.step o5 t5
      obtain ⟨W1, w10, wp1, turn1, fin1⟩ := q5
      have rs5 := (rs3.mono t4.le).mono t5.le
      refine ⟨fun j n H => n = es.length - j ∧ j ≤ es.length ∧ ∃ acc B m, Acc K B1 H1 m1 Dl acc B H m ∧ (∀ a o, B5 a = some o → B a = some o) ∧ W1 j acc m, ⟨_, rfl, Nat.zero_le _, acc, B5, m5, A5, fun _ _ e => e, w10⟩, ?_⟩
      rintro j n1 H' ⟨rfl, hj, acc1, B', m', A', e5, w1⟩
      by_cases hlt1 : j < es.length
      · obtain ⟨d1, hd1⟩ : ∃ d, es[j]? = some d := ⟨es[j], List.getElem?_eq_getElem hlt1⟩
        obtain ⟨go1, yl1⟩ := it1.step B' H' m' A'.ok e5 (wp1 _ _ _ w1) j d1 hd1
        refine .inr ⟨go1, fun H' => ∃ acc B m, Acc K B1 H1 m1 Dl acc B H' m ∧ (∀ a o, B5 a = some o → B a = some o) ∧ W1 (j + 1) acc m, fun H' hx => ⟨_, Nat.sub_lt_sub_left hlt1 (Nat.lt_succ_self j), rfl, hlt1, hx⟩, fun x1 H6 hy1 => ?_⟩
        obtain ⟨B6, o6, t6, rx1⟩ := yl1 x1 H6 hy1
        have A6 := A'.step o6 t6
        refine sg1 x1 d1 _ H6 B6 _ m' _ _ o6 ((rs5.mono ((Le.of e5))).mono t6.le |>.wipe vs1) rx1 (turn1 j d1 acc1 m' hd1 w1) fun σ7 δ7 H7 B7 m7 o7 t7 rs7 hw7 q7 => ?_
        have A7 := A6.step o7 t7
        refine ⟨(hw7 vs1 hw1').trans (wipe_wipe σ3 vs1), ?_⟩
        refine st1 σ7 H7 B7 δ7 m7 _ _ o7 rs7 q7 fun b H8 B8 m8 o8 t8 q8 => ?_
        have A8 := A7.step o8 t8
        have e8 : ∀ a o, B5 a = some o → B8 a = some o := fun a o e => t8.b a o (t7.b a o (t6.b a o (e5 a o e)))
        cases b with
        | false =>
          rw [if_neg Bool.false_ne_true] at q8 ⊢
          exact ⟨acc1, B8, m8, A8, e8, q8⟩
        | true =>
          rw [if_pos rfl] at q8 ⊢
          refine se σ7 H8 B8 δ7 m8 _ _ o8 (rs7.mono t8.le) q8 fun v dv H9 B9 m9 o9 t9 rv q9 => ?_
          obtain ⟨hz, q9⟩ := q9
          obtain ⟨us, e1, e2, A9⟩ := (A8.step o9 t9).app hD rv hz
          exact ⟨us, e1, e2, _, B9, m9, A9, fun a o e => t9.b a o (e8 a o e), q9⟩
      · have e : j = es.length := by omega
        subst e
        exact .inl ⟨it1.stop B' H' m' A'.ok e5 (wp1 _ _ _ w1) _ (Nat.le_refl _), acc1, B', m', A', fin1 acc1 m' w1⟩
  · have e : i = ds.length := by omega
    subst e
    obtain ⟨us, e, r⟩ := A.at_
    refine .inl ⟨it.stop B H m A.ok A.tr.b (wp _ _ _ w) _ (Nat.le_refl _), ?_⟩
    exact k _ _ _ _ _ (A.ok.learn A.b A.c e (fun _ _ z => by cases z)) (A.tr.learn hD A.b) (.lst upd_same (r.mono (leNew A.b))) (fin acc m w)
theorem sim_lc2 {wi : TI} {ui : TId} (si : SimI K wi ui) (sg : SimG K g gd ws) (st : SimT K tt ut) (si1 : SimI K wi1 ui1) (sg1 : SimG K g1 gd1 ws1) (st1 : SimT K tt1 ut1) (se : Sim K te ue) (hw : (ws.all fun i => decide (i ∈ vs)) = true) (hw1 : (ws1.all fun i => decide (i ∈ vs1)) = true) :
    Sim K (tLc2 wi g tt wi1 g1 tt1 te vs vs1) (dLc2 ui gd ut ui1 gd1 ut1 ue vs vs1) := fun σ H B δ m Q R ok rs h k => by
  refine si σ H B δ m _ _ ok rs h fun J ds P H1 B1 m1 o1 tr1 it p q => ?_
  exact simF_lc2 sg st si1 sg1 st1 se hw hw1 J ds P σ δ B1 H1 m1 Q R it o1 (rs.mono tr1.le) p q fun v d H2 B2 m2 o2 tr2 r2 q2 => k v d H2 B2 m2 o2 (tr1.trans tr2) r2 q2

/-! ### a dict walked: locked while it is -/
def dLock (i : Nat) (f : List D → (Mu → Prop) → Sl → Mu → QD → Prop) : TD := fun δ m Q => m.fz = [] ∧ ∃ kds, δ[i]? = some (some (.dic kds)) ∧ ∀ a, f (kds.map fun kv => kD kv.1) (fun _ => True) δ ⟨m.c, [a]⟩ (fun d m' => m'.fz = [a] ∧ Q d ⟨m'.c, []⟩)
theorem leLock {B : Hp} {a : Addr} {od : Obj} {kvs : List (Key × V)} (h : B a = some (.dK kvs)) : Le B (upd B a (.frz od (.dK kvs))) := ⟨fun b u h1 h2 h3 e => by
  have ne : b ≠ a := fun z => by
    rw [z, h] at e
    exact h2 kvs (Option.some.inj e).symm
  rw [upd_ne ne]
  exact e, fun b u hu r => by
  by_cases ne : b = a
  · subst ne
    rcases r with r | ⟨o, r⟩
    · rw [h] at r
      cases r
      exact .inr ⟨od, upd_same⟩
    · rw [h] at r
      cases r
  · rcases r with r | ⟨o, r⟩
    · exact .inl (by rw [upd_ne ne]; exact r)
    · exact .inr ⟨o, by rw [upd_ne ne]; exact r⟩⟩
theorem leUnlock {B : Hp} {a : Addr} {od : Obj} {kvs : List (Key × V)} (h : B a = some (.frz od (.dK kvs))) : Le B (upd B a (.dK kvs)) := ⟨fun b u h1 h2 h3 e => by
  have ne : b ≠ a := fun z => by
    rw [z, h] at e
    exact h1 _ _ (Option.some.inj e).symm
  rw [upd_ne ne]
  exact e, fun b u hu r => by
  by_cases ne : b = a
  · subst ne
    rcases r with r | ⟨o, r⟩
    · rw [h] at r
      exact absurd (Option.some.inj r).symm (hu _ _)
    · rw [h] at r
      cases r
      exact .inl upd_same
  · rcases r with r | ⟨o, r⟩
    · exact .inl (by rw [upd_ne ne]; exact r)
    · exact .inr ⟨o, by rw [upd_ne ne]; exact r⟩⟩
theorem RepK.keyAt {B : Hp} : ∀ {kvs : List (Key × V)} {kds : List (Key × D)} {i : Nat} {d : D}, RepK K B kvs kds → (kds.map fun kv => kD kv.1)[i]? = some d → ∃ k v, kvs[i]? = some (k, v) ∧ d = kD k
  | _, _, _, _, .nil, e => by simp at e
  | _, _, 0, _, .cons h r, e => by
    simp at e
    exact ⟨_, _, rfl, e.symm⟩
  | _, _, i + 1, _, .cons h r, e => by
    rw [List.map_cons, List.getElem?_cons_succ] at e
    obtain ⟨k, v, h1, h2⟩ := RepK.keyAt r e
    exact ⟨k, v, by rw [List.getElem?_cons_succ]; exact h1, h2⟩
theorem rep_kV {B : Hp} (k : Key) : Rep K B (kV k) (kD k) := by
  cases k with
  | inl i => exact .int i
  | inr x => exact .str x
theorem sim_lock {i : Nat} {F : L2.St → VK → It → Hp → Prop} {f : List D → (Mu → Prop) → Sl → Mu → QD → Prop} (sf : SimF K F f) : Sim K (tLockE (fun σ H Q => iKeys (tVar i) σ H (F σ Q))) (dLock i f) := fun σ H B δ m Q R ok rs h k => by
  obtain ⟨hz, kds, hi, h⟩ := h
  obtain ⟨v, ev, rv⟩ := rs.at_ i _ hi
  obtain ⟨a, kvs, rfl, hB, rk⟩ : ∃ a kvs, v = .ref a ∧ B a = some (.dK kvs) ∧ RepK K B kvs kds := by
    cases rv with
    | dic h r =>
      rcases h with h | ⟨o, h⟩
      · exact ⟨_, _, rfl, h, r⟩
      · rcases ok.nf _ _ _ h with e | e
        · exact absurd rfl (e _)
        · rw [hz] at e
          cases e
  have hH := ok.ex _ _ hB
  refine ⟨a, .dK kvs, hH, True.intro, fun od => ?_⟩
  have le1 := leLock (od := od) hB
  have ok1 : Ok K (upd B a (.frz od (.dK kvs))) (upd H a (.frz od (.dK kvs))) ⟨m.c, [a]⟩ := ⟨fun b u e => by
    by_cases ne : b = a
    · subst ne
      rw [upd_same] at e ⊢
      exact e
    · rw [upd_ne ne] at e ⊢
      exact ok.ex b u e, fun b u e => by
    obtain ⟨c1, c2⟩ := ok.cl b u e
    have ne : b ≠ a := fun z => by
      rw [z, hB] at c1
      cases c1
    exact ⟨by rw [upd_ne ne]; exact c1, c2.mono le1 (upd_ne ne)⟩, fun b o u e => by
    by_cases ne : b = a
    · exact .inr (by rw [ne]; exact List.mem_cons_self)
    · rw [upd_ne ne] at e
      rcases ok.nf b o u e with e | e
      · exact .inl e
      · rw [hz] at e
        cases e⟩
  have rs1 := rs.mono le1
  refine ⟨.ref a, ev, a, od, rfl, .inl ⟨kvs, upd_same, ?_⟩⟩
  have it : ItD K (Itk a od kvs) (kds.map fun kv => kD kv.1) (upd B a (.frz od (.dK kvs))) (fun _ => True) := ⟨fun B2 H2 m2 o2 e2 _ j d hd => by
    have ha := o2.ex _ _ (e2 _ _ upd_same)
    obtain ⟨key, w, hw, rfl⟩ := rk.keyAt hd
    refine ⟨⟨ha, (List.getElem?_eq_some_iff.mp hw).1⟩, fun x H' hy => ?_⟩
    obtain ⟨rfl, k2, v2, e2, rfl⟩ := hy
    rw [hw] at e2
    cases e2
    exact ⟨B2, o2, Tr.refl, rep_kV _⟩, fun B2 H2 m2 o2 e2 _ j hj => by
    have ha := o2.ex _ _ (e2 _ _ upd_same)
    rw [List.length_map, ← rk.length] at hj
    exact ⟨ha, hj⟩⟩
  refine sf _ _ _ σ δ _ _ ⟨m.c, [a]⟩ _ _ it ok1 rs1 True.intro (h a) fun v d H2 B2 m2 o2 tr2 r2 q2 => ?_
  obtain ⟨hz2, q2⟩ := q2
  have b2 : B2 a = some (.frz od (.dK kvs)) := tr2.b _ _ upd_same
  refine ⟨o2.ex _ _ b2, ?_⟩
  have le2 := leUnlock b2
  refine k v d _ (upd B2 a (.dK kvs)) ⟨m2.c, []⟩ ⟨fun b u e => ?_, fun b u e => ?_, fun b o u e => ?_⟩ ⟨fun b u e => ?_, fun b u e z => ?_, fun b u e n z => ?_, fun b u e z => ?_⟩ (r2.mono le2) q2
  · by_cases ne : b = a
    · subst ne
      rw [upd_same] at e ⊢
      exact e
    · rw [upd_ne ne] at e ⊢
      exact o2.ex b u e
  · obtain ⟨c1, c2⟩ := o2.cl b u e
    have ne : b ≠ a := fun z => by
      rw [z, b2] at c1
      cases c1
    exact ⟨by rw [upd_ne ne]; exact c1, c2.mono le2 (upd_ne ne)⟩
  · by_cases ne : b = a
    · subst ne
      rw [upd_same] at e
      cases e
    · rw [upd_ne ne] at e
      rcases o2.nf b o u e with e | e
      · exact .inl e
      · rw [hz2] at e
        exact absurd (List.mem_singleton.mp e) ne
  · by_cases ne : b = a
    · subst ne
      rw [hB] at e
      rw [upd_same]
      exact e
    · rw [upd_ne ne]
      exact tr2.b b u (by rw [upd_ne ne]; exact e)
  · by_cases ne : b = a
    · subst ne
      rw [hH] at e
      rw [upd_same]
      exact e
    · rw [upd_ne ne]
      exact tr2.h b u (by rw [upd_ne ne]; exact e) z
  · have ne : b ≠ a := fun z => by
      rw [z, hB] at n
      cases n
    rw [upd_ne ne]
    exact tr2.n b u (by rw [upd_ne ne]; exact e) (by rw [upd_ne ne]; exact n) z
  · by_cases ne : b = a
    · subst ne
      exact tr2.m b (.frz od (.dK kvs)) upd_same z
    · exact tr2.m b u (by rw [upd_ne ne]; exact e) z
end
end L3
/-! Statements and defs over data. -/
namespace L3
open PySem PySem.Spec PyProof.Rows L2

def dNext : TSD := fun E δ m => E.nx δ m
def dSeq (t u : TSD) : TSD := fun E δ m => t { E with nx := u E } δ m
def dNever : TSD := fun _ _ _ => False
def dBreak : TSD := fun E δ m => E.bk δ m
def dCont : TSD := fun E δ m => E.ct δ m
def dDrop (u : TD) : TSD := fun E δ m => u δ m fun _ m1 => E.nx δ m1
def dRet (u : TD) : TSD := fun E δ m => u δ m E.rt
def dRetN : TSD := fun E _ m => E.rt .non m
def treeOf : MO → D
  | .lst ds => .lst ds
  | .dK ds => .dic ds
  | .dT ds => .dit ds
  | .ins C fs => .ins C fs
/-- what is handed back is a cell: known from now on -/
def dRetF (u : TD) : TSD := fun E δ m => u δ m fun d m1 => ∃ a o, d = .ref a ∧ m1.c a = some o ∧ E.rt (treeOf o) (m1.del a)
/-- ahead of a statement the cell in slot i is known from now on -/
def dFrz (i : Nat) (t : TSD) : TSD := fun E δ m => ∃ a o, δ[i]? = some (some (.ref a)) ∧ m.c a = some o ∧ t E (δ.set i (some (treeOf o))) (m.del a)
def dAsg (u : TD) (g : TGd) : TSD := fun E δ m => u δ m fun d m1 => g d δ m1 E.nx
def dIfS (c : TTD) (t u : TSD) : TSD := fun E δ m => c δ m fun b m1 => if b = true then t E δ m1 else u E δ m1
def dAug (i : Nat) (u : TD) (ρ : R2D) : TSD := fun E δ m => ∃ x, δ[i]? = some (some x) ∧ u δ m fun y m1 => ρ x y m1 fun z m2 => E.nx (δ.set i (some z)) m2
def dFor (ui : TId) (g : TGd) (t : TSD) : TSD := fun E δ m => ui δ m fun ds P m1 => ∃ W : Nat → Sl → Mu → Prop, W 0 δ m1 ∧ (∀ i δ' m', W i δ' m' → P m') ∧
  (∀ i d δ' m', ds[i]? = some d → W i δ' m' → g d δ' m' fun δ2 m2 => t { E with nx := W (i + 1), ct := W (i + 1), bk := E.nx } δ2 m2) ∧ ∀ δ' m', W ds.length δ' m' → E.nx δ' m'
def dWhile (c : TTD) (t : TSD) : TSD := fun E δ m => ∃ W : Nat → Sl → Mu → Prop, (∃ n, W n δ m) ∧ ∀ n δ' m', W n δ' m' → c δ' m' fun b m2 => if b = true then t { E with nx := fun δ3 m3 => ∃ n', n' < n ∧ W n' δ3 m3, ct := fun δ3 m3 => ∃ n', n' < n ∧ W n' δ3 m3, bk := E.nx } δ' m2 else E.nx δ' m2
def dDPut (ud uy uv : TD) : TSD := fun E δ m => uv δ m fun d m1 => ud δ m1 fun x m2 => uy δ m2 fun y m3 => ∃ a, x = .ref a ∧
  ((∃ kds k, m3.c a = some (.dK kds) ∧ y = kD k ∧ kds.length < sizeLine ∧ E.nx δ (m3.set a (.dK (setD kds k d)))) ∨ ∃ kds k, m3.c a = some (.dT kds) ∧ y = .tup (k.map kD) ∧ kds.length < sizeLine ∧ E.nx δ (m3.set a (.dT (setD kds k d))))
def dFldS (K : Fg) (u v : TD) (f : Str) : TSD := fun E δ m => v δ m fun d m1 => u δ m1 fun x m2 => ∃ a C fs, x = .ref a ∧ m2.c a = some (.ins C fs) ∧ Cls K C ∧ NoAttr K C f ∧ fs.length < 1000 ∧ E.nx δ (m2.set a (.ins C (putFD f d fs)))
def dRaise : TSD := fun E _ m => E.rs m
section
variable {K : Fg} {Wx : Hp → Prop} {t t2 : TS} {u u2 : TSD} {te te2 te3 : TE} {ue ue2 ue3 : TD} {tc : TT} {uc : TTD} {g : TG} {gd : TGd} {ws : List Nat}
theorem sim_next : SimS K Wx tNext dNext := fun σ H B δ m E De ok rs h k1 k2 k3 k4 k5 => k1 σ δ H B m ok Tr.refl rs h
theorem sim_break : SimS K Wx tBreak dBreak := fun σ H B δ m E De ok rs h k1 k2 k3 k4 k5 => k3 σ δ H B m ok Tr.refl rs h
theorem sim_cont : SimS K Wx tCont dCont := fun σ H B δ m E De ok rs h k1 k2 k3 k4 k5 => k4 σ δ H B m ok Tr.refl rs h
theorem sim_never : SimS K Wx tNever dNever := fun σ H B δ m E De ok rs h k1 k2 k3 k4 k5 => h
theorem sim_seq (s : SimS K Wx t u) (s2 : SimS K Wx t2 u2) : SimS K Wx (tSeq t t2) (dSeq u u2) := fun σ H B δ m E De ok rs h k1 k2 k3 k4 k5 => by
  refine s σ H B δ m _ _ ok rs h (fun σ1 δ1 H1 B1 m1 o1 tr1 rs1 q1 => ?_) k2 k3 k4 k5
  exact s2 σ1 H1 B1 δ1 m1 E De o1 rs1 q1 (fun σ2 δ2 H2 B2 m2 o2 tr2 rs2 q2 => k1 σ2 δ2 H2 B2 m2 o2 (tr1.trans tr2) rs2 q2) (fun v d H2 B2 m2 o2 tr2 r2 q2 => k2 v d H2 B2 m2 o2 (tr1.trans tr2) r2 q2)
    (fun σ2 δ2 H2 B2 m2 o2 tr2 rs2 q2 => k3 σ2 δ2 H2 B2 m2 o2 (tr1.trans tr2) rs2 q2) (fun σ2 δ2 H2 B2 m2 o2 tr2 rs2 q2 => k4 σ2 δ2 H2 B2 m2 o2 (tr1.trans tr2) rs2 q2) (fun H2 B2 m2 o2 tr2 q2 => k5 H2 B2 m2 o2 (tr1.trans tr2) q2)
theorem sim_drop (s : Sim K te ue) : SimS K Wx (tDrop te) (dDrop ue) := fun σ H B δ m E De ok rs h k1 k2 k3 k4 k5 =>
  s σ H B δ m _ _ ok rs h fun v d H1 B1 m1 o1 tr1 r1 q1 => k1 σ δ H1 B1 m1 o1 tr1 (rs.mono tr1.le) q1
theorem sim_ret (s : Sim K te ue) : SimS K Wx (tRet te) (dRet ue) := fun σ H B δ m E De ok rs h k1 k2 k3 k4 k5 =>
  s σ H B δ m _ _ ok rs h fun v d H1 B1 m1 o1 tr1 r1 q1 => k2 v d H1 B1 m1 o1 tr1 r1 q1
theorem sim_retN : SimS K Wx tRetN dRetN := fun σ H B δ m E De ok rs h k1 k2 k3 k4 k5 => k2 _ _ H B m ok Tr.refl .non h
theorem treeRep {B H : Hp} {m : Mu} {a : Addr} {o : MO} (ok : Ok K B H m) (h : m.c a = some o) : ∃ u, H a = some u ∧ (∀ q w, u ≠ .frz q w) ∧ Rep K (upd B a u) (.ref a) (treeOf o) := by
  obtain ⟨hb, r⟩ := ok.cl a o h
  cases o with
  | lst ds =>
    obtain ⟨vs, e, r⟩ := r
    exact ⟨_, e, (fun _ _ z => by cases z), .lst upd_same (r.mono (leNew hb))⟩
  | dK ds =>
    obtain ⟨vs, e, r⟩ := r
    exact ⟨_, e, (fun _ _ z => by cases z), .dic (.inl upd_same) (r.mono (leNew hb))⟩
  | dT ds =>
    obtain ⟨vs, e, r⟩ := r
    exact ⟨_, e, (fun _ _ z => by cases z), .dit (.inl upd_same) (r.mono (leNew hb))⟩
  | ins C ds =>
    obtain ⟨dx, vs, e, r⟩ := r
    exact ⟨_, e, (fun _ _ z => by cases z), .ins upd_same (r.mono (leNew hb))⟩
theorem sim_retF (s : Sim K te ue) : SimS K Wx (tRet te) (dRetF ue) := fun σ H B δ m E De ok rs h k1 k2 k3 k4 k5 =>
  s σ H B δ m _ _ ok rs h fun v d H1 B1 m1 o1 tr1 r1 q1 => by
    obtain ⟨a, o, rfl, hc, q⟩ := q1
    cases r1
    obtain ⟨w, hw, hf, rw'⟩ := treeRep o1 hc
    exact k2 _ _ H1 _ _ (o1.freeze hc hw hf) (tr1.trans (o1.freezeT hc hw)) rw' q
theorem sim_frz {i : Nat} (s : SimS K Wx t u) : SimS K Wx t (dFrz i u) := fun σ H B δ m E De ok rs h k1 k2 k3 k4 k5 => by
  obtain ⟨a, o, hi, hc, q⟩ := h
  obtain ⟨w, hw, hf, rw'⟩ := treeRep ok hc
  have hb := (ok.cl a o hc).1
  have tr0 : Tr B H m (upd B a w) H (m.del a) := ok.freezeT hc hw
  obtain ⟨v, ev, rv⟩ := rs.at_ i _ hi
  cases rv
  have rs1 : RelS K (upd B a w) σ (δ.set i (some (treeOf o))) := by
    have e : σ = σ.set i (some (.ref a)) := by
      apply List.ext_getElem?
      intro j
      by_cases hj : j = i
      · subst hj
        rw [ev, List.getElem?_set_self (List.getElem?_eq_some_iff.mp ev).1]
      · rw [List.getElem?_set_ne (Ne.symm hj)]
    rw [e]
    exact (rs.mono (leNew hb)).set rw'
  exact s σ H _ _ _ E De (ok.freeze hc hw hf) rs1 q (fun σ2 δ2 H2 B2 m2 o2 tr2 rs2 q2 => k1 σ2 δ2 H2 B2 m2 o2 (tr0.trans tr2) rs2 q2) (fun v d H2 B2 m2 o2 tr2 r2 q2 => k2 v d H2 B2 m2 o2 (tr0.trans tr2) r2 q2)
    (fun σ2 δ2 H2 B2 m2 o2 tr2 rs2 q2 => k3 σ2 δ2 H2 B2 m2 o2 (tr0.trans tr2) rs2 q2) (fun σ2 δ2 H2 B2 m2 o2 tr2 rs2 q2 => k4 σ2 δ2 H2 B2 m2 o2 (tr0.trans tr2) rs2 q2) (fun H2 B2 m2 o2 tr2 q2 => k5 H2 B2 m2 o2 (tr0.trans tr2) q2)
theorem sim_asg (s : Sim K te ue) (sg : SimG K g gd ws) : SimS K Wx (tAsg te g) (dAsg ue gd) := fun σ H B δ m E De ok rs h k1 k2 k3 k4 k5 =>
  s σ H B δ m _ _ ok rs h fun v d H1 B1 m1 o1 tr1 r1 q1 => sg v d σ H1 B1 δ m1 _ _ o1 (rs.mono tr1.le) r1 q1 fun σ2 δ2 H2 B2 m2 o2 tr2 rs2 _ q2 => k1 σ2 δ2 H2 B2 m2 o2 (tr1.trans tr2) rs2 q2
theorem sim_ifS (sc : SimT K tc uc) (s : SimS K Wx t u) (s2 : SimS K Wx t2 u2) : SimS K Wx (tIfS tc t t2) (dIfS uc u u2) := fun σ H B δ m E De ok rs h k1 k2 k3 k4 k5 => by
  refine sc σ H B δ m _ _ ok rs h fun b H1 B1 m1 o1 tr1 q1 => ?_
  cases b with
  | true =>
    rw [if_pos rfl] at q1 ⊢
    exact s σ H1 B1 δ m1 E De o1 (rs.mono tr1.le) q1 (fun σ2 δ2 H2 B2 m2 o2 tr2 rs2 q2 => k1 σ2 δ2 H2 B2 m2 o2 (tr1.trans tr2) rs2 q2) (fun v d H2 B2 m2 o2 tr2 r2 q2 => k2 v d H2 B2 m2 o2 (tr1.trans tr2) r2 q2)
      (fun σ2 δ2 H2 B2 m2 o2 tr2 rs2 q2 => k3 σ2 δ2 H2 B2 m2 o2 (tr1.trans tr2) rs2 q2) (fun σ2 δ2 H2 B2 m2 o2 tr2 rs2 q2 => k4 σ2 δ2 H2 B2 m2 o2 (tr1.trans tr2) rs2 q2) (fun H2 B2 m2 o2 tr2 q2 => k5 H2 B2 m2 o2 (tr1.trans tr2) q2)
  | false =>
    rw [if_neg Bool.false_ne_true] at q1 ⊢
    exact s2 σ H1 B1 δ m1 E De o1 (rs.mono tr1.le) q1 (fun σ2 δ2 H2 B2 m2 o2 tr2 rs2 q2 => k1 σ2 δ2 H2 B2 m2 o2 (tr1.trans tr2) rs2 q2) (fun v d H2 B2 m2 o2 tr2 r2 q2 => k2 v d H2 B2 m2 o2 (tr1.trans tr2) r2 q2)
      (fun σ2 δ2 H2 B2 m2 o2 tr2 rs2 q2 => k3 σ2 δ2 H2 B2 m2 o2 (tr1.trans tr2) rs2 q2) (fun σ2 δ2 H2 B2 m2 o2 tr2 rs2 q2 => k4 σ2 δ2 H2 B2 m2 o2 (tr1.trans tr2) rs2 q2) (fun H2 B2 m2 o2 tr2 q2 => k5 H2 B2 m2 o2 (tr1.trans tr2) q2)
theorem sim_aug {i : Nat} {ti : R2} {ρ : R2D} (s : Sim K te ue) (ho : OpS K ti ρ) : SimS K Wx (tAug i te ti) (dAug i ue ρ) := fun σ H B δ m E De ok rs h k1 k2 k3 k4 k5 => by
  obtain ⟨x, hx, h⟩ := h
  obtain ⟨v, hv, rv⟩ := rs.at_ i x hx
  refine ⟨v, hv, ?_⟩
  refine s σ H B δ m _ _ ok rs h fun w d H1 B1 m1 o1 tr1 r1 q1 => ?_
  refine ho v w x d H1 B1 m1 _ _ o1 (rv.mono tr1.le) r1 q1 fun z dz H2 B2 m2 o2 tr2 r2 q2 => ?_
  exact k1 _ _ H2 B2 m2 o2 (tr1.trans tr2) (((rs.mono tr1.le).mono tr2.le).set r2) q2
/-- xs += ys -/
def dExt2 : R2D := fun x y m Q => ∃ a es fs, x = .ref a ∧ y = .lst fs ∧ m.c a = some (.lst es) ∧ es.length + fs.length ≤ sizeLine ∧ Q (.ref a) (m.set a (.lst (es ++ fs)))
theorem os_ext2 : OpS K rExt2 dExt2 := fun x y dx dy H B m Q R ok rx ry h k => by
  obtain ⟨a, es, fs, rfl, rfl, hc, hz, q⟩ := h
  cases rx
  obtain ⟨_, vs, hv, rv⟩ := ok.cl _ _ hc
  cases ry with
  | lst hb rb =>
    refine ⟨a, _, vs, _, rfl, rfl, hv, ok.ex _ _ hb, by rw [rv.length, rb.length]; exact hz, ?_⟩
    exact k _ _ _ _ _ (ok.write (c' := .lst (es ++ fs)) hc ⟨_, upd_same, rv.append rb⟩) (ok.writeT hc) (.ref a) q
def dIp (f : Int → Int → Int) : R2D := fun x y m Q => ∃ i j, x = .int i ∧ y = .int j ∧ Q (.int (f i j)) m
theorem os_ip {f : Int → Int → Int} : OpS K (ipI f) (dIp f) := fun x y dx dy H B m Q R ok rx ry h k => by
  obtain ⟨i, j, rfl, rfl, q⟩ := h
  cases rx
  cases ry
  exact ⟨i, j, rfl, rfl, KD.here k ok (.int _) q⟩
theorem sim_for {wi : TI} {ui : TId} (si : SimI K wi ui) (sg : SimG K g gd ws) (s : SimS K Wx t u) : SimS K Wx (tFor wi g t) (dFor ui gd u) := fun σ H B δ m E De ok rs h k1 k2 k3 k4 k5 => by
  refine si σ H B δ m _ _ ok rs h fun J ds P H1 B1 m1 o1 tr1 it p q => ?_
  obtain ⟨W, w0, wp, turn, fin⟩ := q
  refine ⟨fun i n σ' H' => n = ds.length - i ∧ i ≤ ds.length ∧ ∃ δ' B' m', Ok K B' H' m' ∧ Tr B1 H1 m1 B' H' m' ∧ RelS K B' σ' δ' ∧ W i δ' m', ⟨_, rfl, Nat.zero_le _, δ, B1, m1, o1, Tr.refl, rs.mono tr1.le, w0⟩, ?_⟩
  rintro i n σ' H' ⟨rfl, hi, δ', B', m', o', tr', rs', w⟩
  by_cases hlt : i < ds.length
  · obtain ⟨d, hd⟩ : ∃ d, ds[i]? = some d := ⟨ds[i], List.getElem?_eq_getElem hlt⟩
    obtain ⟨go, yl⟩ := it.step B' H' m' o' tr'.b (wp _ _ _ w) i d hd
    refine .inr ⟨go, fun σ' H' => ∃ δ' B' m', Ok K B' H' m' ∧ Tr B1 H1 m1 B' H' m' ∧ RelS K B' σ' δ' ∧ W (i + 1) δ' m', fun σ' H' hx => ⟨_, Nat.sub_lt_sub_left hlt (Nat.lt_succ_self i), rfl, hlt, hx⟩, fun x H2 hy => ?_⟩
    obtain ⟨B2, o2, t2, rx⟩ := yl x H2 hy
    refine sg x d σ' H2 B2 δ' m' _ _ o2 (rs'.mono t2.le) rx (turn i d δ' m' hd w) fun σ3 δ3 H3 B3 m3 o3 t3 rs3 _ q3 => ?_
    have T := tr1.trans ((tr'.trans t2).trans t3)
    have T1 := (tr'.trans t2).trans t3
    exact s σ3 H3 B3 δ3 m3 _ _ o3 rs3 q3 (fun σ4 δ4 H4 B4 m4 o4 t4 rs4 q4 => ⟨δ4, B4, m4, o4, T1.trans t4, rs4, q4⟩) (fun v d H4 B4 m4 o4 t4 r4 q4 => k2 v d H4 B4 m4 o4 (T.trans t4) r4 q4)
      (fun σ4 δ4 H4 B4 m4 o4 t4 rs4 q4 => k1 σ4 δ4 H4 B4 m4 o4 (T.trans t4) rs4 q4) (fun σ4 δ4 H4 B4 m4 o4 t4 rs4 q4 => ⟨δ4, B4, m4, o4, T1.trans t4, rs4, q4⟩) (fun H4 B4 m4 o4 t4 q4 => k5 H4 B4 m4 o4 (T.trans t4) q4)
  · have e : i = ds.length := by omega
    subst e
    exact .inl ⟨it.stop B' H' m' o' tr'.b (wp _ _ _ w) _ (Nat.le_refl _), k1 σ' δ' H' B' m' o' (tr1.trans tr') rs' (fin δ' m' w)⟩
theorem sim_while (sc : SimT K tc uc) (s : SimS K Wx t u) : SimS K Wx (tWhile tc t) (dWhile uc u) := fun σ H B δ m E De ok rs h k1 k2 k3 k4 k5 => by
  obtain ⟨W, ⟨n0, w0⟩, turn⟩ := h
  refine ⟨fun n σ' H' => ∃ δ' B' m', Ok K B' H' m' ∧ Tr B H m B' H' m' ∧ RelS K B' σ' δ' ∧ W n δ' m', ⟨n0, δ, B, m, ok, Tr.refl, rs, w0⟩, ?_⟩
  rintro n σ' H' ⟨δ', B', m', o', tr', rs', w⟩
  refine sc σ' H' B' δ' m' _ _ o' rs' (turn n δ' m' w) fun b H2 B2 m2 o2 t2 q2 => ?_
  have T := tr'.trans t2
  cases b with
  | false =>
    rw [if_neg Bool.false_ne_true] at q2 ⊢
    exact k1 σ' δ' H2 B2 m2 o2 T (rs'.mono t2.le) q2
  | true =>
    rw [if_pos rfl] at q2 ⊢
    refine ⟨fun σ' H' => ∃ n', n' < n ∧ ∃ δ' B' m', Ok K B' H' m' ∧ Tr B H m B' H' m' ∧ RelS K B' σ' δ' ∧ W n' δ' m', fun σ' H' hx => hx, ?_⟩
    exact s σ' H2 B2 δ' m2 _ _ o2 (rs'.mono t2.le) q2 (fun σ4 δ4 H4 B4 m4 o4 t4 rs4 q4 => by
      obtain ⟨n', hn, q4⟩ := q4
      exact ⟨n', hn, δ4, B4, m4, o4, T.trans t4, rs4, q4⟩) (fun v d H4 B4 m4 o4 t4 r4 q4 => k2 v d H4 B4 m4 o4 (T.trans t4) r4 q4)
      (fun σ4 δ4 H4 B4 m4 o4 t4 rs4 q4 => k1 σ4 δ4 H4 B4 m4 o4 (T.trans t4) rs4 q4) (fun σ4 δ4 H4 B4 m4 o4 t4 rs4 q4 => by
      obtain ⟨n', hn, q4⟩ := q4
      exact ⟨n', hn, δ4, B4, m4, o4, T.trans t4, rs4, q4⟩) (fun H4 B4 m4 o4 t4 q4 => k5 H4 B4 m4 o4 (T.trans t4) q4)
theorem sim_dput (sd : Sim K te ue) (sy : Sim K te2 ue2) (sv : Sim K te3 ue3) : SimS K Wx (sDPut te te2 te3) (dDPut ue ue2 ue3) := fun σ H B δ m E De ok rs h k1 k2 k3 k4 k5 => by
  refine sv σ H B δ m _ _ ok rs h fun v d H1 B1 m1 o1 t1 rv q1 => ?_
  refine sd σ H1 B1 δ m1 _ _ o1 (rs.mono t1.le) q1 fun x dx H2 B2 m2 o2 t2 rx q2 => ?_
  refine sy σ H2 B2 δ m2 _ _ o2 ((rs.mono t1.le).mono t2.le) q2 fun y dy H3 B3 m3 o3 t3 ry q3 => ?_
  have T := (t1.trans t2).trans t3
  have rv3 := (rv.mono t2.le).mono t3.le
  have rs3 := ((rs.mono t1.le).mono t2.le).mono t3.le
  obtain ⟨a, rfl, q⟩ := q3
  cases rx
  rcases q with ⟨kds, key, hc, rfl, hz, q⟩ | ⟨kds, key, hc, rfl, hz, q⟩
  · obtain ⟨_, kvs, hk, rk⟩ := o3.cl _ _ hc
    have ey := kdV ry
    subst ey
    exact ⟨a, _, rfl, .inl ⟨kvs, key, hk, rfl, by rw [rk.length]; exact hz, rfl⟩, k1 _ _ _ _ _ (o3.write (c' := .dK (setD kds key d)) hc ⟨_, upd_same, rk.put rv3⟩) (T.trans (o3.writeT hc)) rs3 q⟩
  · obtain ⟨_, kvs, hk, rk⟩ := o3.cl _ _ hc
    obtain ⟨b, vs, rfl, hb, _, rb⟩ := tpd o3 ry
    have ey := kdVs rb
    subst ey
    exact ⟨a, _, rfl, .inr ⟨kvs, key, b, hk, rfl, hb, by rw [rk.length]; exact hz, rfl⟩, k1 _ _ _ _ _ (o3.write (c' := .dT (setD kds key d)) hc ⟨_, upd_same, rk.put rv3⟩) (T.trans (o3.writeT hc)) rs3 q⟩
theorem sim_fldS {f : Str} (s : Sim K te ue) (sv : Sim K te2 ue2) : SimS K Wx (sFld K te te2 f) (dFldS K ue ue2 f) := fun σ H B δ m E De ok rs h k1 k2 k3 k4 k5 => by
  refine sv σ H B δ m _ _ ok rs h fun v d H1 B1 m1 o1 t1 rv q1 => ?_
  refine s σ H1 B1 δ m1 _ _ o1 (rs.mono t1.le) q1 fun x dx H2 B2 m2 o2 t2 rx q2 => ?_
  obtain ⟨a, C, fs, rfl, hc, c1, c2, hz, q⟩ := q2
  cases rx
  obtain ⟨_, dx, vs, hv, rf⟩ := o2.cl _ _ hc
  exact ⟨a, C, dx, vs, rfl, hv, c1, c2, by rw [rf.length]; exact hz, k1 _ _ _ _ _ (o2.write (c' := .ins C (putFD f d fs)) hc ⟨dx, _, upd_same, RepF.put (rv.mono t2.le) rf⟩) ((t1.trans t2).trans (o2.writeT hc)) ((rs.mono t1.le).mono t2.le) q⟩
theorem sim_raise {W : WX} {C : Addr} (h : ∀ σ H, Wx H → W (.ref C) none σ H) : SimS K Wx (fun _ σ H => (fun (_ : L2.St) H Q => Q (Value.ref C) none H : L2.St → Hp → (Value → Option Addr → Hp → Prop) → Prop) σ H fun cls d H' => W cls d σ H') dRaise := fun σ H B δ m E De ok rs q k1 k2 k3 k4 k5 =>
  h σ H (k5 H B m ok Tr.refl q)
end

/-! ### defs -/
def startD (N : List Str) (ds : List D) : Sl := ds.map some ++ List.replicate (N.length - ds.length) none
theorem relS_start {K : Fg} {B : Hp} {N : List Str} {vs : List V} {ds : List D} (r : Reps K B vs ds) : RelS K B (L2.start N vs) (startD N ds) := by
  refine ⟨by unfold L2.start startD; simp [r.length], fun i d e => ?_⟩
  unfold startD at e
  unfold L2.start
  by_cases hi : i < ds.length
  · rw [List.getElem?_append_left (by rw [List.length_map]; exact hi), List.getElem?_map] at e
    cases q : ds[i]? with
    | none =>
      rw [q] at e
      cases e
    | some d1 =>
      rw [q] at e
      cases e
      obtain ⟨v, hv, rv⟩ := r.get q
      refine ⟨v, ?_, rv⟩
      rw [List.getElem?_append_left (by rw [List.length_map, r.length]; exact hi), List.getElem?_map, hv]
      rfl
  · rw [List.getElem?_append_right (by rw [List.length_map]; omega), List.getElem?_replicate] at e
    split at e <;> cases e
section
variable {P : Program} {w : World} {K : Fg} {mg : Str → Option Value} {base : Heap} {x qual : Str} {params : Arguments} {body : List Stmt} {scope : Scope} {dvs : List V} {kws : List (Str × V)} {f : Addr} {fd : FuncData} {N ps : List Str} {k : Nat}
/-- a def that changes no cell of its callers -/
theorem okP {S : SD} (F : FunD K x qual params body scope dvs kws f fd) (sc : FnScope N ps scope) (hlen : ∀ ds m Qd, S ds m Qd → ds.length = ps.length)
    (h : ∀ (cdv : Value) (A : Around) (outer : List Env) (s : Shared) (H : Hp) (E : XK), Room k (A.deeper (envOfC qual scope s.heap.objs.size f cdv)) →
      ∃ t u, PSs (cxOf CX0 P w K mg base N qual scope f cdv A outer s H E).nox body t ∧ SimS K (fun _ => False) t u ∧
        ∀ ds m Qd, m.fz = [] → S ds m Qd → u { nx := fun _ m' => Sub m m' ∧ Qd .non, rt := fun d m' => Sub m m' ∧ Qd d } (startD N ds) m) : FnOk P w K mg base CX0 (k + 1) f fd ps (spP K S) := by
  refine F.ok sc (fun vs H Q E q => ?_) fun cdv A outer s H vs Q E hr q => ?_
  · obtain ⟨ds, B, m, Qd, ok, z, r, q, _⟩ := q
    rw [r.length]
    exact hlen _ _ _ q
  · obtain ⟨ds, B, m, Qd, ok, z, r, q, kk⟩ := q
    obtain ⟨t, u, hp, hs, hu⟩ := h cdv A outer s H E hr
    refine ⟨t, hp.nox, hs _ H B _ m _ _ ok (relS_start r) (hu ds m Qd z q) (fun σ' δ' H' B' m' o' t' rs' q' => ?_) (fun v d H' B' m' o' t' r' q' => ?_) (fun _ _ _ _ _ _ _ _ q => q.elim) (fun _ _ _ _ _ _ _ _ q => q.elim) (fun _ _ _ _ _ q => q)⟩
    · exact kk .non .non H' B' (o'.forget q'.1) (t'.forget q'.1) .non q'.2
    · exact kk v d H' B' (o'.forget q'.1) (t'.forget q'.1) r' q'.2
/-- any def that raises nothing -/
theorem okM {S : SM} (F : FunD K x qual params body scope dvs kws f fd) (sc : FnScope N ps scope) (hlen : ∀ ds m Qd, S ds m Qd → ds.length = ps.length)
    (h : ∀ (cdv : Value) (A : Around) (outer : List Env) (s : Shared) (H : Hp) (E : XK), Room k (A.deeper (envOfC qual scope s.heap.objs.size f cdv)) →
      ∃ t u, PSs (cxOf CX0 P w K mg base N qual scope f cdv A outer s H E).nox body t ∧ SimS K (fun _ => False) t u ∧
        ∀ ds m Qd, m.fz = [] → S ds m Qd → u { nx := fun _ m' => ∃ m2, Sub m2 m' ∧ Qd .non m2, rt := fun d m' => ∃ m2, Sub m2 m' ∧ Qd d m2 } (startD N ds) m) : FnOk P w K mg base CX0 (k + 1) f fd ps (spM K S) := by
  refine F.ok sc (fun vs H Q E q => ?_) fun cdv A outer s H vs Q E hr q => ?_
  · obtain ⟨ds, B, m, Qd, ok, z, r, q, _⟩ := q
    rw [r.length]
    exact hlen _ _ _ q
  · obtain ⟨ds, B, m, Qd, ok, z, r, q, kk⟩ := q
    obtain ⟨t, u, hp, hs, hu⟩ := h cdv A outer s H E hr
    have tf : ∀ {B' H' : Hp} {m' m2 : Mu}, Tr B H m B' H' m' → Sub m2 m' → Tr B H m B' H' m2 := fun {B' H' m' m2} t' s2 => ⟨t'.b, t'.h, t'.n, fun a o e c => by
      cases q : m2.c a with
      | none => rfl
      | some o2 =>
        have := s2.1 a o2 q
        rw [t'.m a o e c] at this
        cases this⟩
    refine ⟨t, hp.nox, hs _ H B _ m _ _ ok (relS_start r) (hu ds m Qd z q) (fun σ' δ' H' B' m' o' t' rs' q' => ?_) (fun v d H' B' m' o' t' r' q' => ?_) (fun _ _ _ _ _ _ _ _ q => q.elim) (fun _ _ _ _ _ _ _ _ q => q.elim) (fun _ _ _ _ _ q => q)⟩
    · obtain ⟨m2, s2, q2⟩ := q'
      exact kk .non .non H' B' m2 (o'.forget s2) (tf t' s2) .non q2
    · obtain ⟨m2, s2, q2⟩ := q'
      exact kk v d H' B' m2 (o'.forget s2) (tf t' s2) r' q2
end
end L3
/-! Calls of one's own defs by name; marks; the derivation by itself. -/
namespace L3
open PySem PySem.Spec PyProof.Rows L2

/-! ### marks: which reading over data is meant -/
@[irreducible] def mLst (t : TA) : TE := tLst t
@[irreducible] def mNewKt : TE := tDNewK
@[irreducible] def mRetF (t : TE) : TS := tRet t
@[irreducible] def mFrz (i : Nat) (t : TS) : TS := t
@[irreducible] def mInS (K : Fg) (neg : Bool) : R2 := rIn K neg
@[irreducible] def mInI (K : Fg) (neg : Bool) : R2 := rIn K neg
@[irreducible] def mNone (i : Nat) : TE := tVar i
section
variable {X : Cx} {es : List Expr} {e : Expr} {pos : Pos} {t : TA} {te : TE} {ts : TS} {st : Stmt}
theorem pe_lstM (h : PA X es t) : PE X (.List es pos) (mLst t) := by
  unfold mLst
  exact pe_lst h
theorem pe_newKt : PE X (.Dict [] [] pos) mNewKt := by
  unfold mNewKt
  exact pe_dnewK
theorem ps_retF (h : PE X e te) : PS X (.Return (some e) pos) (mRetF te) := by
  unfold mRetF
  exact ps_ret h
theorem ps_frz (i : Nat) (h : PS X st ts) : PS X st (mFrz i ts) := by
  unfold mFrz
  exact h
theorem op_memS : OpR X (compareOp .In) (mInS X.K false) := by
  unfold mInS
  exact op_in_seq
theorem op_nmemS : OpR X (compareOp .NotIn) (mInS X.K true) := by
  unfold mInS
  exact op_notIn_seq
theorem op_memI : OpR X (compareOp .In) (mInI X.K false) := by
  unfold mInI
  exact op_in_seq
theorem op_nmemI : OpR X (compareOp .NotIn) (mInI X.K true) := by
  unfold mInI
  exact op_notIn_seq
theorem sim_mLst {K : Fg} {tr : TA} {ur : TAD} (s : SimA K tr ur) : Sim K (mLst tr) (dLstM ur) := by
  unfold mLst
  exact sim_lstM s
theorem sim_mNewKt {K : Fg} : Sim K mNewKt dNewKt := by
  unfold mNewKt
  exact sim_newKt
theorem sim_mRetF {K : Fg} {Wx : Hp → Prop} {te : TE} {ue : TD} (s : Sim K te ue) : SimS K Wx (mRetF te) (dRetF ue) := by
  unfold mRetF
  exact sim_retF s
theorem sim_mFrz {K : Fg} {Wx : Hp → Prop} {i : Nat} {t : TS} {u : TSD} (s : SimS K Wx t u) : SimS K Wx (mFrz i t) (dFrz i u) := by
  unfold mFrz
  exact sim_frz s
theorem os_mInS {K : Fg} {neg : Bool} : OpS K (mInS K neg) (dInS neg) := by
  unfold mInS
  exact os_inS neg
theorem os_mInI {K : Fg} {neg : Bool} : OpS K (mInI K neg) (dInI neg) := by
  unfold mInI
  exact os_inI neg
end

/-! ### one's own defs by name -/
section
variable (P : Program) (w : World) (K : Fg) (mg : Str → Option Value) (base : Heap)
def Cal (k : Nat) (x : Str) (ps : List Str) (sp : Sp) : Prop := ∃ f fd, FnOk P w K mg base CX0 k f fd ps sp ∧ mg x = some (.ref f) ∧ PySem.W.keepIn K (.ref f) = true ∧ Binds K fd ps []
def CalM (C : Addr) (k : Nat) (x : Str) (ps : List Str) (sp : Sp) : Prop := ∃ f fd, FnOk P w K mg base CX0 k f fd ps sp ∧ Meth K C x f ∧ Binds K fd ps []
def CalP (C : Addr) (k : Nat) (x : Str) (sp : Sp) : Prop := ∃ p f fd, FnOk P w K mg base CX0 k f fd ["self"] sp ∧ PropOf K C x p f ∧ Binds K fd ["self"] []
def CalC (C : Addr) (k : Nat) (x : Str) (ps : List Str) (sp : Sp) : Prop := ∃ f fd, FnOk P w K mg base CX0 k f fd ps sp ∧ Mk K C f ∧ mg x = some (.ref C) ∧ Binds K fd ps []
end
section
variable {X : Cx} {k j : Nat} {x m f : Str} {ps : List Str} {sp : Sp} {C : Addr} {e o : Expr} {es : List Expr} {p pos apos : Pos} {t : TA} {ta : TE}
theorem pe_cal (h : Cal X.prog X.w X.K X.mg X.base k x ps sp) (hr : Room j X.A) (hj : k ≤ j) (hg : Gl X x) (ha : PA X (e :: es) t) (hdb : (x == ("__debug__" : Str)) = false := by decide)
    (he : starEach (e :: es) X.env = (false, eval e X.env) :: starEach es X.env := by rfl) (hpl : (backTo pos (starEach es X.env)).any (·.1) = false := by rfl) : PE X (.Call (.Name x p) (e :: es) [] pos) (tCall sp [] E0 t) := by
  obtain ⟨f, fd, F, gm, kp, b⟩ := h
  exact pe_call F (hr.mono hj) hg gm kp b .nil pass0 ha hdb he hpl
theorem pe_calM {pl : Sem Bool} (h : CalM X.prog X.w X.K X.mg X.base C k m ps sp) (c : Cls X.K C) (hr : Room j X.A) (hj : k ≤ j) (he : PE X o ta) (ha : PA X (e :: es) t) (hst : starEach (e :: es) X.env = (false, eval e X.env) :: starEach es X.env := by rfl)
    (hpl : (backTo pos (starEach es X.env)).any (·.1) = false := by rfl) (ht : eval (.Call (.Attribute o m apos) (e :: es) [] pos) X.env = (do
      let ov ← eval o X.env
      standAt apos.atName
      let (f, first) ← holding [ov] (getMethod ov m pl)
      callWith pos f first (backTo pos (starEach (e :: es) X.env)) (backToKw pos (keywordEach [] X.env))) := by rfl) : PE X (.Call (.Attribute o m apos) (e :: es) [] pos) (tMeth C m sp [] E0 ta t) := by
  obtain ⟨f, fd, F, me, b⟩ := h
  exact pe_meth he c me F (hr.mono hj) b .nil pass0 ha hst hpl ht
theorem pe_calM0 {pl : Sem Bool} (h : CalM X.prog X.w X.K X.mg X.base C k m ps sp) (c : Cls X.K C) (hr : Room j X.A) (hj : k ≤ j) (he : PE X o ta)
    (ht : eval (.Call (.Attribute o m apos) [] [] pos) X.env = (do
      let ov ← eval o X.env
      standAt apos.atName
      let (f, first) ← holding [ov] (getMethod ov m pl)
      callWith pos f first (backTo pos (starEach [] X.env)) (backToKw pos (keywordEach [] X.env))) := by rfl) : PE X (.Call (.Attribute o m apos) [] [] pos) (tMeth C m sp [] E0 ta tNil) := by
  obtain ⟨f, fd, F, me, b⟩ := h
  exact pe_meth0 he c me F (hr.mono hj) b .nil pass0 ht
theorem pe_calP (h : CalP X.prog X.w X.K X.mg X.base C k f sp) (c : Cls X.K C) (hr : Room j X.A) (hj : k + 1 ≤ j) (he : PE X e ta) (hab : attributeBase e f X.env (eval e X.env) = eval e X.env := by rfl) : PE X (.Attribute e f pos) (tProp C sp [] E0 ta) := by
  obtain ⟨q, g, fd, F, po, b⟩ := h
  exact pe_prop he c po F (hr.mono hj) b .nil pass0 hab
theorem pe_calC (h : CalC X.prog X.w X.K X.mg X.base C k x ps sp) (hr : Room j X.A) (hj : k + 1 ≤ j) (hg : Gl X x) (ha : PA X (e :: es) t) (hdb : (x == ("__debug__" : Str)) = false := by decide)
    (he : starEach (e :: es) X.env = (false, eval e X.env) :: starEach es X.env := by rfl) (hpl : (backTo pos (starEach es X.env)).any (·.1) = false := by rfl) : PE X (.Call (.Name x p) (e :: es) [] pos) (tMake C sp [] E0 t) := by
  obtain ⟨f, fd, F, mk, gm, b⟩ := h
  exact pe_make mk F (hr.mono hj) hg gm b .nil pass0 ha hdb he hpl
theorem pe_gstr {z : Str} (hg : Gl X x) (hm : ∃ t, X.mg x = some (.str z t)) (hd : (x == ("__debug__" : Str)) = false := by decide) : PE X (.Name x pos) (tC (.str z)) := by
  obtain ⟨t, e⟩ := hm
  exact pe_glob hg e ⟨t, rfl⟩ hd
theorem pe_gint {z : Int} (hg : Gl X x) (hm : ∃ t, X.mg x = some (.int z t)) (hd : (x == ("__debug__" : Str)) = false := by decide) : PE X (.Name x pos) (tC (.int z)) := by
  obtain ⟨t, e⟩ := hm
  exact pe_glob hg e ⟨t, rfl⟩ hd
/-- a written list of texts of the module -/
@[irreducible] def mGl (a : Addr) (xs : List Str) : TE := tC (.ref a)
theorem pe_glst {a : Addr} {xs : List Str} (hg : Gl X x) (hm : X.mg x = some (.ref a)) (hd : (x == ("__debug__" : Str)) = false := by decide) : PE X (.Name x pos) (mGl a xs) := by
  unfold mGl
  exact pe_glob hg hm rfl hd
end
theorem sim_mGl {K : Fg} {a : Addr} {xs : List Str} (hs : ∀ H, SqL K H a (xs.map V.str)) : Sim K (mGl a xs) (dC (.lsr (xs.map D.str))) := by
  unfold mGl
  exact sim_c fun B => .lsr (hs B) (Reps.ofStrs xs)

end L3
/-! Readings of comprehensions whose turns change nothing. -/
namespace L3
open PySem PySem.Spec PyProof.Rows L2
theorem iteB {k : Bool} {A B : Prop} (h1 : k = true → A) (h2 : k = false → B) : if k = true then A else B := by
  cases k with
  | true => rw [if_pos rfl]; exact h1 rfl
  | false => rw [if_neg Bool.false_ne_true]; exact h2 rfl
section
variable {P : Mu → Prop} {gd : TGd} {ut : TTD} {ue uk : TD} {vs : List Nat} {δ : Sl} {m : Mu} {Q : QD} {α : Type}
/-- [g x for x in xs if p x] -/
theorem lcFM (f : α → D) (xs : List α) (p : α → Bool) (g : α → D) (hP : P m) (hl : xs.length ≤ sizeLine)
    (turn : ∀ x ∈ xs, ∀ (Ny : D → Mu → Prop) (Nn : Mu → Prop), (p x = true → Ny (g x) m) → (p x = false → Nn m) → gd (f x) (wipeD δ vs) m fun δ2 m2 => ut δ2 m2 fun b m3 => if b = true then ue δ2 m3 Ny else Nn m3)
    (k : Q (.lst ((xs.filter p).map g)) m) : LcD (xs.map f) P gd ut ue vs δ m Q := by
  refine ⟨fun i acc m' => m' = m ∧ acc = ((xs.take i).filter p).map g, ⟨rfl, by simp⟩, fun i acc m' h => by rw [h.1]; exact hP, fun i d acc m' hd h => ?_, fun acc m' h => ?_⟩
  · obtain ⟨rfl, rfl⟩ := h
    rw [List.getElem?_map] at hd
    cases e : xs[i]? with
    | none =>
      rw [e] at hd
      cases hd
    | some x =>
      rw [e] at hd
      cases hd
      have hx := List.mem_of_getElem? e
      have ht : xs.take (i + 1) = xs.take i ++ [x] := by
        rw [List.take_add_one, e]
        rfl
      refine turn x hx _ _ (fun hp => ⟨?_, rfl, ?_⟩) (fun hp => ⟨rfl, ?_⟩)
      · have hi := (List.getElem?_eq_some_iff.mp e).1
        have h1 : (((xs.take i).filter p).map g).length ≤ i := by
          rw [List.length_map]
          exact Nat.le_trans (List.length_filter_le _ _) (by rw [List.length_take]; exact Nat.min_le_left _ _)
        omega
      · rw [ht, List.filter_append, List.map_append, List.filter_cons, if_pos hp]
        rfl
      · rw [ht, List.filter_append, List.map_append, List.filter_cons, if_neg (by rw [hp]; decide)]
        simp
  · obtain ⟨rfl, rfl⟩ := h
    rw [List.length_map, List.take_length]
    exact k
/-- [g x for x in xs] -/
theorem lcM (f : α → D) (xs : List α) (g : α → D) (hP : P m) (hl : xs.length ≤ sizeLine)
    (turn : ∀ x ∈ xs, ∀ (Ny : D → Mu → Prop) (Nn : Mu → Prop), Ny (g x) m → gd (f x) (wipeD δ vs) m fun δ2 m2 => ut δ2 m2 fun b m3 => if b = true then ue δ2 m3 Ny else Nn m3)
    (k : Q (.lst (xs.map g)) m) : LcD (xs.map f) P gd ut ue vs δ m Q := by
  refine lcFM f xs (fun _ => true) g hP hl (fun x hx Ny Nn h1 _ => turn x hx Ny Nn (h1 rfl)) ?_
  have e : xs.filter (fun _ => true) = xs := List.filter_eq_self.mpr fun _ _ => rfl
  rw [e]
  exact k
end
end L3
/-! len(set(xs)) of distinct texts. -/
namespace L3
open PySem PySem.Spec PyProof.Rows
section
variable {pr : Program} {wd : World} {Ar : Around} {Rr : Result → Shared → Prop} {It : Addr} {fps wrs : List Addr} {Gn : Array GenState → Array GenState → Prop} {n : Nat} {Pv : Nat → Value → Prop} {Sx : Nat → Shared → Prop}
def inFst (xs : List Str) (i : Nat) : Str → Bool := fun k => (xs.take i).any (· == k)
theorem inFst_succ {xs : List Str} {i : Nat} (h : i < xs.length) (k : Str) : (inFst xs i k || decide (k = xs.getD i Str.empty)) = inFst xs (i + 1) k := by
  have e : xs.getD i Str.empty = xs[i] := by
    rw [List.getD_eq_getElem?_getD, List.getElem?_eq_getElem h]
    rfl
  unfold inFst
  rw [e, List.take_add_one, List.getElem?_eq_getElem h, List.any_append]
  congr 1
  by_cases h2 : k = xs[i]
  · simp [h2]
  · simp [h2, Ne.symm h2]
theorem inFst_new {xs : List Str} (hd : xs.Nodup) {i : Nat} (h : i < xs.length) : inFst xs i (xs.getD i Str.empty) = false := by
  have e : xs.getD i Str.empty = xs[i] := by
    rw [List.getD_eq_getElem?_getD, List.getElem?_eq_getElem h]
    rfl
  rw [e]
  unfold inFst
  rw [List.any_eq_false]
  intro x hx
  obtain ⟨j, hj, rfl⟩ := List.getElem_of_mem hx
  rw [List.getElem_take]
  rw [List.length_take] at hj
  intro h2
  have h3 : xs[j] = xs[i] := eq_of_beq h2
  have := List.pairwise_iff_getElem.mp hd j i (by omega) h (by omega)
  exact this h3
theorem loopTx (Wk : WalksS pr wd Ar.in1 It fps wrs Gn n Pv Sx) (Sa : Addr) (hf : Sa ∉ fps) (xs : List Str) (hl : xs.length = n) (hnd : xs.Nodup) (hn : n + 1 < scanBound)
    (hv : ∀ i v, Pv i v → ∃ t, v = .str (xs.getD i Str.empty) t) :
    ∀ (left i : Nat) (s0 : Shared), n - i = left → i ≤ n → Sx i s0 → s0.heap.SetOf (PySem.strKind pr wd) Sa (inFst xs i) i →
      (∀ s1, Moved (Sa :: wrs) Gn s0 s1 → s1.heap.SetOf (PySem.strKind pr wd) Sa (inFst xs n) n → Rr (.ok (.ret .none)) s1) →
      codeAny (model pr wd) Ar (.builtin "set.update.loop" ⟨[.ref Sa, .ref It], []⟩) Rr s0 := by
  have nw : Sa ∉ wrs := fun h => hf (Wk.sub _ h)
  have sb : ∀ b ∈ wrs, b ∈ Sa :: wrs := fun b hb => List.mem_cons_of_mem _ hb
  intro left
  induction left with
  | zero =>
    intro i s0 e1 e2 st so fin
    obtain rfl : i = n := by omega
    refine codeAny_builtin PyProof.Rows.F.entry_set_update_loop ?_
    rw [Around.under_plainId PyProof.Rows.F.plain_set_update_loop _]
    refine wpAny_bind (m := pyNext (.ref It)) (Wk.done s0 _ _ st fun s1 mv => ?_)
    refine wpAny_pure (fin s1 (mv.mono sb) ?_)
    obtain ⟨o, es, ep, tb, ho, rest⟩ := so
    exact ⟨o, es, ep, tb, mv.heap Sa _ nw ho, rest⟩
  | succ left ih =>
    intro i s0 e1 e2 st so fin
    have lt : i < n := by omega
    refine codeAny_builtin PyProof.Rows.F.entry_set_update_loop ?_
    rw [Around.under_plainId PyProof.Rows.F.plain_set_update_loop _]
    refine wpAny_bind (m := pyNext (.ref It)) (Wk.item i s0 _ _ lt st fun v s1 hp st1 mv => ?_)
    obtain ⟨t, rfl⟩ := hv i v hp
    have so1 : s1.heap.SetOf (PySem.strKind pr wd) Sa (inFst xs i) i := by
      obtain ⟨o, es, ep, tb, ho, rest⟩ := so
      exact ⟨o, es, ep, tb, mv.heap Sa _ nw ho, rest⟩
    refine wpAny_bind (m := holding [Value.str (xs.getD i Str.empty) t] (setAdd Sa (.str (xs.getD i Str.empty) t))) (wpAny_holding ?_)
    unfold setAdd
    refine wpAny_holding (wpAny_bind ((PySem.strKind pr wd).pyHash (k := xs.getD i Str.empty) (strKind_is _ _ _ _) ?_))
    refine wpAny_setAddHashed_of (knd := PySem.strKind pr wd) (s := { s1 with toks := s1.toks + 1 }) (strKind_is _ _ _ _) rfl so1 (Nat.lt_of_le_of_lt (Nat.succ_le_succ e2) hn) fun hq hsb so2 => ?_
    have so3 : hq.SetOf (PySem.strKind pr wd) Sa (inFst xs (i + 1)) (i + 1) :=
      PyProof.Rows.SetOf_congr so2 (inFst_succ (by omega)) (by rw [inFst_new hnd (by omega)]; rfl)
    refine wpAny_pure ⟨plainId_quiet PyProof.Rows.F.plain_set_update_loop _, ih (i + 1) _ (by omega) lt (Wk.frame _ s1 _ _ st1 (Nat.le_succ _) fun b hb o e => ?_) so3 fun s2 mv2 so4 => ?_⟩
    · rw [hsb.2 b (fun h : b = Sa => hf (h ▸ hb))]
      exact e
    · refine fin s2 (Moved.trans Wk.gtrans ((mv.mono sb).then_heap (Nat.le_succ _) fun b o hb e => ?_) mv2) so4
      rw [hsb.2 b (fun h : b = Sa => hb (h ▸ List.mem_cons_self))]
      exact e
end
section
variable {pr : Program} {wd : World} {Ar : Around} {Ex : Value → Shared → Prop} {s0 : Shared}
abbrev newSet (led : Bool) : Obj := { cls := .type "set", dict := none, data := .set #[] 0 (.fresh 0 0 led) }
set_option maxHeartbeats 3200000 in
theorem setOfTexts {l : Addr} {its : Array Value} {xs : List Str} {Qv : Value → Shared → Prop}
    (nh : Ar.handled = none) (isl : s0.heap.IsList l its) (ar : PyProof.Rows.StrsAre its.toList xs) (hnd : xs.Nodup) (hn : its.size + 1 < scanBound)
    (fin : ∀ (hp : Heap) (tk : Nat), hp.SetOf (PySem.strKind pr wd) s0.heap.objs.size (inFst xs its.size) its.size →
      (∀ b o, b < s0.heap.objs.size → s0.heap.get? b = some o → hp.get? b = some o) → Qv (.ref s0.heap.objs.size) { s0 with heap := hp, toks := tk }) :
    wpAny (model pr wd) Ar (call (.type "set") [.ref l]) Qv Ex s0 := by
  obtain ⟨cm, tlm, mr⟩ := PySem.F.called_set.mro
  have md := PySem.F.called_set.made
  have sbt := PySem.F.called_set.sub
  refine wpAny_call (codeAny_of_tree (?_ : wpAny _ _ (callAny (.type "set") _) _ _ _))
  refine wpAny_pure ⟨Code.quiet_builtin _ (by decide +kernel), codeAny_builtin PySem.F.entry_type_call ?_⟩
  rw [Around.under_plain (weight_type_call_type "set" [.ref l] []) rfl]
  have k1 := PySem.F.called_set.notType
  have k2 := PySem.F.called_set.canCreate
  have k3 := PySem.F.typeCall_set_1 (.ref l)
  repeat (any_goals (first | assumption | wp_step))
  refine codeAny_mono (code_set_new_1 (.ref l) (E := Ex) (Q₁ := fun ob sn => ∃ led : Bool, ob = .ref s0.heap.objs.size ∧ sn = { s0 with heap := s0.heap.push (newSet led) }) fun led => ⟨led, rfl, rfl⟩) fun r sn hr => ?_
  rcases r with e | fl
  · exact hr
  cases fl with
  | ret ob =>
    obtain ⟨led, rfl, rfl⟩ := hr
    have gS : (s0.heap.push (newSet led)).get? s0.heap.objs.size = some (newSet led) := Heap.get?_push_size _ rfl
    have gT : Shared.TypeIs { s0 with heap := s0.heap.push (newSet led) } (.ref s0.heap.objs.size) "set" := ⟨_, gS, rfl⟩
    have k4 := PySem.F.called_set.init.lookup
    have k5 := PySem.F.called_set.init.bind (.ref s0.heap.objs.size)
    repeat (any_goals (first | assumption | wp_step))
    refine codeAny_mono (codeAny_call_builtin (R := wants (fun r se => r = .none ∧ ∃ hp tk, se = { s0 with heap := hp, toks := tk } ∧
        hp.SetOf (PySem.strKind pr wd) s0.heap.objs.size (inFst xs its.size) its.size ∧
        (∀ b o, b < s0.heap.objs.size → s0.heap.get? b = some o → hp.get? b = some o)) Ex) PySem.F.called_set.init.plain PySem.F.entry_set_init (check_set_init_1 gT ?_)) fun re se he => ?_
    · obtain ⟨⟨oc, od, oda, osl⟩, hol, hcl, nl, hdl⟩ := isl
      simp only at hcl hdl
      subst hcl
      subst hdl
      have hol2 : (s0.heap.push (newSet led)).get? l = some { cls := .type "list", dict := od, data := .seq its nl, slots := osl } := Heap.get?_push_of_some _ hol
      have k6 := PySem.F.sub_list_set
      have k7 := PySem.F.sub_list_frozenset
      have k8 : (Value.type "list" == Value.type "dict") = false := by decide
      have isl2 : (s0.heap.push (newSet led)).IsList l its := ⟨_, hol2, rfl, nl, rfl⟩
      unfold newSet at hol2 isl2
      unfold Builtin.«set.__init__» noKeywords Builtin.Frozenset.updateFrom
      generalize hPI : pyIter = PI
      wp_walk
      subst hPI
      refine wpAny_pyIter_list isl2 (wpAny_bind (wpAny_runValue ?_))
      have lS : l < s0.heap.objs.size := Heap.lt_size hol
      have hn3 : Ar.in1.in1.in1.handled = none := by simp [nh]
      have neI : l ≠ (s0.heap.push (newSet led)).objs.size := by
        rw [Heap.size_push]
        exact Nat.ne_of_lt (Nat.lt_succ_of_lt lS)
      have nS : s0.heap.objs.size ∉ [(s0.heap.push (newSet led)).objs.size, l] := by
        rw [Heap.size_push]
        simp only [List.mem_cons, List.not_mem_nil, or_false, not_or]
        refine ⟨Nat.ne_of_lt (Nat.lt_succ_self _), Nat.ne_of_gt lS⟩
      have len : xs.length = its.size := by rw [← StrsAre.len_eq ar, Array.length_toList]
      refine loopTx ((Walks.list hn3 _ l neI its).toS) s0.heap.objs.size nS xs len hnd hn (fun i v hv => SS.strs_at ar i v (by rw [Array.getElem?_toList]; exact hv)) (its.size - 0) 0 _ (by omega) (Nat.zero_le _)
        ⟨⟨_, Heap.get?_push_size _ rfl, rfl, rfl⟩, (isl2.push _)⟩ ?st ?en
      case st =>
        have g2 : ((s0.heap.push (newSet led)).push { cls := .type "list_iterator", data := .fields #[.ref l, .int 0 0] }).get? s0.heap.objs.size = some (newSet led) := Heap.get?_push_of_some _ gS
        exact PyProof.Rows.SetOf_congr ((PyProof.Rows.setObjOf_fresh (knd := PySem.strKind pr wd) led).setOf g2 (by decide)) (fun _ => rfl) rfl
      case en =>
        intro sf mv so
        obtain ⟨hp, gg, dd, tk, os⟩ := sf
        obtain rfl : gg = s0.gens := mv.gens
        obtain rfl : dd = s0.drawn := mv.drawn
        obtain rfl : os = s0.os := mv.os
        refine wpAny_pure (?_ : wpAny _ _ (ret Value.none) _ _ _)
        refine wpAny_pure ⟨rfl, hp, tk, rfl, so, fun b o hb e => mv.heap b o ?_ (Heap.get?_push_of_some _ (Heap.get?_push_of_some _ e))⟩
        rw [Heap.size_push]
        simp only [List.mem_cons, List.not_mem_nil, or_false, not_or]
        exact ⟨Nat.ne_of_lt hb, Nat.ne_of_lt (Nat.lt_succ_of_lt hb)⟩
    · rcases re with e | fe
      · exact he
      cases fe with
      | ret r =>
        obtain ⟨rfl, hp, tk, rfl, so, kp⟩ := he
        repeat (any_goals (first | assumption | wp_step))
        exact fin _ _ so kp
      | _ => exact he.elim
  | _ => exact hr.elim
end
end L3
namespace L3
open PySem PySem.Spec PyProof.Rows L2
section
variable {X : Cx}
/-- len(set(xs)), xs a list of distinct texts -/
def tLenSetD (K : PySem.W.Frag) (ta : TE) : TE := fun σ H Q => ta σ H fun x H1 => ∃ l, ∃ xs : List Str, x = .ref l ∧ SqL K H1 l (xs.map V.str) ∧ xs.Nodup ∧ xs.length < 4000 ∧ Q (.int xs.length) H1
theorem pe_lenSetD {a : Expr} {ta : TE} {p p2 q pos : Pos} (hc : X.calm = true) (hg : Gl X "len") (hm : X.mg "len" = none) (hg2 : Gl X "set") (hm2 : X.mg "set" = none) (ha : PE X a ta)
    (na : starEach [a] X.env = (false, eval a X.env) :: starEach [] X.env := by rfl) : PE X (.Call (.Name "len" p) [.Call (.Name "set" p2) [a] [] q] [] pos) (tLenSetD X.K ta) := by
  refine ⟨fun pins s0 σ H Q I h => Call_ (ld_blt I hg hm boot_len ?_)⟩
  refine PyProof.Rows.callWith_builtin1 (PyProof.Rows.args_cons (Call_ (ld_blt I hg2 hm2 boot_set ?_)) rfl) rfl rfl
  refine PyProof.Rows.callWith_type1 (PyProof.Rows.args_cons (thn (ha.run pins s0 σ H _ I h) fun v s1 ⟨x, H1, I1, r1, l, xs, e, hq, h1, h2, q1⟩ => PyProof.Rows.args_nil ?_) na) na rfl
  subst e
  cases r1
  obtain ⟨its, r, pl, hz⟩ := I1.list hq
  have hl : its.toArray.size = xs.length := by rw [List.size_toArray, ← r.length, List.length_map]
  refine setOfTexts (I1.ok.hd hc) pl.isList (by simpa using strsAre_of r) h1 (by rw [hl]; unfold scanBound; omega) fun hp tk so kp => PyProof.Rows.args_nil ?_
  rw [hl] at so
  obtain ⟨o, es, ep, t, ho, hex, hd, _, _, _, hf, hn⟩ := so
  have I2 : Inv X pins σ H1 { s1 with heap := hp, toks := tk } := I1.kept fun b o e => kp b o (Heap.lt_size e) e
  exact call_len_set ho hex hd hf (by rw [hn]; omega) ⟨.int xs.length, H1, I2.tok _, ⟨_, by rw [hn]⟩, q1⟩
end
def dLenSet (u : TD) : TD := fun δ m Q => u δ m fun x m1 => ∃ xs : List Str, LsD m1 x (xs.map D.str) ∧ xs.Nodup ∧ xs.length < 4000 ∧ Q (.int (xs.length : Nat)) m1
end L3
/-! min(xs, default=d), max(xs, default=d); sims. -/
namespace L3
open PySem PySem.Spec PyProof.Rows L2
theorem best_of {r : Int → Int → Bool} {le : Int → Int → Prop} (refl : ∀ a, le a a) (tr : ∀ a b c, le a b → le b c → le a c) (h1 : ∀ a b, r a b = true → le a b) (h2 : ∀ a b, r a b = false → le b a) : ∀ (ys : List Int) (y : Int),
    ys.foldl (fun a x => if r x a = true then x else a) y ∈ y :: ys ∧ ∀ j ∈ y :: ys, le (ys.foldl (fun a x => if r x a = true then x else a) y) j
  | [], y => ⟨List.mem_cons_self, fun j hj => by
    rw [List.mem_singleton.mp hj]
    exact refl y⟩
  | x :: ys, y => by
    rw [List.foldl_cons]
    cases e : r x y with
    | true =>
      rw [if_pos rfl]
      obtain ⟨a, b⟩ := best_of refl tr h1 h2 ys x
      refine ⟨List.mem_cons_of_mem _ a, fun j hj => ?_⟩
      rcases List.mem_cons.mp hj with rfl | hj
      · exact tr _ _ _ (b x List.mem_cons_self) (h1 _ _ e)
      · exact b j hj
    | false =>
      rw [if_neg Bool.false_ne_true]
      obtain ⟨a, b⟩ := best_of refl tr h1 h2 ys y
      refine ⟨?_, fun j hj => ?_⟩
      · rcases List.mem_cons.mp a with a | a
        · rw [a]
          exact List.mem_cons_self
        · exact List.mem_cons_of_mem _ (List.mem_cons_of_mem _ a)
      · rcases List.mem_cons.mp hj with rfl | hj
        · exact b _ List.mem_cons_self
        · rcases List.mem_cons.mp hj with rfl | hj
          · exact tr _ _ _ (b y List.mem_cons_self) (h2 _ _ e)
          · exact b j (List.mem_cons_of_mem _ hj)
theorem minOf_of (ys : List Int) (y : Int) : PySem.W.minOf y ys ∈ y :: ys ∧ ∀ j ∈ y :: ys, PySem.W.minOf y ys ≤ j :=
  best_of (r := fun a b => decide (a < b)) (le := fun a b => a ≤ b) Int.le_refl (fun _ _ _ => Int.le_trans) (fun _ _ h => Int.le_of_lt (of_decide_eq_true h)) (fun _ _ h => Int.not_lt.mp (of_decide_eq_false h)) ys y
theorem maxOf_of (ys : List Int) (y : Int) : PySem.W.maxOf y ys ∈ y :: ys ∧ ∀ j ∈ y :: ys, j ≤ PySem.W.maxOf y ys :=
  best_of (r := fun a b => decide (b < a)) (le := fun a b => b ≤ a) Int.le_refl (fun _ _ _ h1 h2 => Int.le_trans h2 h1) (fun _ _ h => Int.le_of_lt (of_decide_eq_true h)) (fun _ _ h => Int.not_lt.mp (of_decide_eq_false h)) ys y
section
variable {X : Cx}
def rMinDf (K : Fg) : List V → List V → Hp → VK → Prop := fun vs zs H Q => ∃ (a : Addr) (ns : List Int) (d : V), vs = [V.ref a] ∧ zs = [d] ∧ SqL K H a (ns.map V.int) ∧ (ns = [] → Q d H) ∧ ∀ x ∈ ns, (∀ j ∈ ns, x ≤ j) → Q (.int x) H
def rMaxDf (K : Fg) : List V → List V → Hp → VK → Prop := fun vs zs H Q => ∃ (a : Addr) (ns : List Int) (d : V), vs = [V.ref a] ∧ zs = [d] ∧ SqL K H a (ns.map V.int) ∧ (ns = [] → Q d H) ∧ ∀ x ∈ ns, (∀ j ∈ ns, j ≤ x) → Q (.int x) H
theorem cr_minDf (hc : X.calm = true) (hu : X.A.units + 1 < cLine) : CallRK X (.builtin "min") [Str.ofString "default"] (rMinDf X.K) := by
  intro pins s0 σ H vs zs us ws Q I r rz h
  obtain ⟨a, ns, d, rfl, rfl, hs, h0, q⟩ := h
  obtain ⟨its, rv, hl, _⟩ := I.list hs
  obtain rfl := Vals.ref1 r
  obtain ⟨w1, rfl, e1⟩ := vals1 rz
  refine PySem.W.min_list_datum_default (α := Int) (xs := ns) (d := w1) (I.ok.hd hc) hl.isList ⟨[], by rw [List.toList_toArray]; exact PyProof.Rows.IntsAre.reads s0.heap rv.ints⟩ hu (fun e hp tk kp => ⟨d, H, I.kept kp, e1, h0 e⟩) fun y ys i v hp tk e hi hd kp => ?_
  obtain ⟨as, hd⟩ := hd
  cases hd with
  | int n t =>
    obtain ⟨k1, k2⟩ := minOf_of ys y
    subst e
    exact ⟨.int _, H, I.kept kp, ⟨_, rfl⟩, q _ k1 k2⟩
theorem cr_maxDf (hc : X.calm = true) (hu : X.A.units + 1 < cLine) : CallRK X (.builtin "max") [Str.ofString "default"] (rMaxDf X.K) := by
  intro pins s0 σ H vs zs us ws Q I r rz h
  obtain ⟨a, ns, d, rfl, rfl, hs, h0, q⟩ := h
  obtain ⟨its, rv, hl, _⟩ := I.list hs
  obtain rfl := Vals.ref1 r
  obtain ⟨w1, rfl, e1⟩ := vals1 rz
  refine PySem.W.max_list_datum_default (α := Int) (xs := ns) (d := w1) (I.ok.hd hc) hl.isList ⟨[], by rw [List.toList_toArray]; exact PyProof.Rows.IntsAre.reads s0.heap rv.ints⟩ hu (fun e hp tk kp => ⟨d, H, I.kept kp, e1, h0 e⟩) fun y ys i v hp tk e hi hd kp => ?_
  obtain ⟨as, hd⟩ := hd
  cases hd with
  | int n t =>
    obtain ⟨k1, k2⟩ := maxOf_of ys y
    subst e
    exact ⟨.int _, H, I.kept kp, ⟨_, rfl⟩, q _ k1 k2⟩

/-- sorted(xs), xs a list of like data: a new list of the same items, in some order -/
def rSortedRr (K : Fg) : List V → Hp → VK → Prop := fun vs H Q => ∃ a xs ps, vs = [V.ref a] ∧ SqL K H a xs ∧ DpAll K H xs ps ∧ PySem.W.AllAlike ps ∧ PySem.W.Sortable ps ∧ (∀ d ∈ ps, d.depth ≤ 9) ∧
  ∀ ys p, ys.Perm xs → H p = none → Q (.ref p) (upd H p (.lst ys))
theorem each_zip {pins : List (Addr × Obj)} {σ : L2.St} {H : Hp} {s0 : Shared} (I : Inv X pins σ H s0) : ∀ {xs : List V} {us : List Value} {ps : List PyData}, Vals xs us → DpAll X.K H xs ps →
    PySem.W.EachIs (fun v (b : V × PyData) => RelV b.1 v) us (xs.zip ps) ∧ PySem.W.EachIs (fun v (b : V × PyData) => ∃ as, Reads s0.heap v b.2 as) us (xs.zip ps) ∧ (xs.zip ps).map Prod.fst = xs ∧ (xs.zip ps).map Prod.snd = ps
  | _, _, _, .nil, .nil => ⟨.nil, .nil, rfl, rfl⟩
  | _, _, _, .cons r t, .cons h d => by
    obtain ⟨a, b, c, e⟩ := each_zip I t d
    refine ⟨.cons r a, .cons (Dp.reads I _ _ _ h r) b, ?_, ?_⟩
    · rw [List.zip_cons_cons, List.map_cons, c]
    · rw [List.zip_cons_cons, List.map_cons, e]
theorem each_vals : ∀ {us : List Value} {bs : List (V × PyData)}, PySem.W.EachIs (fun v (b : V × PyData) => RelV b.1 v) us bs → Vals (bs.map Prod.fst) us
  | _, _, .nil => .nil
  | _, _, .cons r t => .cons r (each_vals t)
theorem cr_sortedRr (hu : X.A.units + 64 < cLine) : CallR X (.builtin "sorted") (rSortedRr X.K) := by
  intro pins s0 σ H vs us Q I r h
  obtain ⟨a, xs, ps, rfl, hs, hd, al, so, dp, q⟩ := h
  obtain ⟨its, rv, hl, hz⟩ := I.list hs
  obtain rfl := Vals.ref1 r
  obtain ⟨e1, e2, e3, e4⟩ := each_zip I rv hd
  refine PySem.W.sorted_data hl.isList e1 e2 (by rw [e4]; exact al) (by rw [e4]; exact so) (by rw [← e1.length, ← rv.length]; exact hz) (fun b hb => ?_) fun out ho eo => ?_
  · have := dp b.2 (e4 ▸ List.mem_map.mpr ⟨b, hb, rfl⟩)
    omega
  · have pm : ((xs.zip ps).mergeSort (PySem.W.dataLe false Prod.snd)).Perm (xs.zip ps) := List.mergeSort_perm _ _
    obtain ⟨n, hn⟩ := PyProof.Rows.sortedAll_at s0.heap its out.toArray
    refine ⟨.ref (s0.heap.objs.size + 1), upd H (s0.heap.objs.size + 1) (.lst _), I.laid (t' := s0.toks) (fun _ _ => PyProof.Rows.sortedAll_old) (Nat.le_succ _) ⟨?_, out, n, each_vals eo, hn⟩, rfl, q _ _ ?_ (I.hok.fresh (Nat.le_succ _))⟩
    · rw [List.length_map, pm.length_eq, ← e1.length, ← rv.length]
      exact hz
    · have := pm.map Prod.fst
      rw [e3] at this
      exact this
end
end L3
/-! enumerate(xs, k). -/
namespace L3
open PySem PySem.Spec PyProof.Rows L2
section
variable {pr : Program} {wd : World} {Ar : Around} {Ex : Value → Shared → Prop} {s0 : Shared}
theorem enumStop {e it l : Addr} {c : Int} {i : Nat} {its : Array Value} {old : Value} {Qo : Option Value → Shared → Prop} (nh : Ar.handled = none)
    (ise : IsEnum s0.heap e it c old) (isi : s0.heap.IsListIter it l i) (isl : s0.heap.IsList l its) (no : its[i]? = none)
    (fin : ∀ hp, Heap.ExtBut it s0.heap hp → Qo none { s0 with heap := hp }) : wpAny (model pr wd) Ar (pyNext (.ref e)) Qo Ex s0 := by
  have ty : s0.TypeIs (.ref e) "enumerate" := ⟨_, ise, rfl⟩
  unfold pyNext
  refine wpAny_bind (wpAny_attempt (wpAny_callSpecial?_slot (name := Str.ofString "__next__") ty PySem.F.slot_enumerate_next (wpAny_call_entry PySem.F.slot_enumerate_next ty PySem.F.entry_enumerate_next ?_ (PySem.F.args_enumerate_next_1 _))))
  refine wpAny_bind (m := field (.ref e) 2) (wpAny_field ise rfl (x := .ref it) rfl (wpAny_bind (wpAny_nextOf_list_end nh isi isl no fun hp x kp hx => ?_)))
  obtain ⟨o, ho, hc⟩ := hx
  exact wpAny_bind (wpAny_isInstance (T := "StopIteration") (b := true) ⟨o, ho, hc⟩ isSubtype_stop (wpAny_pure (fin _ kp)))
end
/-- the list at a as it stands at each turn, each item behind a count from k -/
def ItEn (K : Fg) (k : Int) (a : Addr) : It :=
  ⟨fun i H => ∃ (xs : List V) (x : V), SqL K H a xs ∧ xs[i]? = some x, fun i H v H' => ∃ T x, v = .ref T ∧ H T = none ∧ H' = upd H T (.tup [.int (k + (i : Nat)), x]) ∧ ∀ xs, SqL K H a xs → xs[i]? = some x, fun i H => ∃ xs : List V, SqL K H a xs ∧ xs.length ≤ i⟩
theorem turnEn {P : Program} {w : World} {K : Fg} {elts : List Expr} {kk : Nat} {tpos : Pos} (k : Int) (a e it : Addr) :
    Turn P w K (.Tuple elts kk tpos) (ItEn K k a) [e, it] e (fun i h => (∃ old, IsEnum h e it (k + (i : Nat)) old) ∧ h.IsListIter it a i ∧ e ≠ it) where
  mem := List.mem_cons_self
  obj := fun i h st b hb => by
    obtain ⟨⟨old, k1⟩, ⟨o, k2, _, k3⟩, _⟩ := st
    rcases (by simpa using hb : b = e ∨ b = it) with rfl | rfl
    · exact ⟨_, k1, fun v q => nomatch q⟩
    · exact ⟨o, k2, fun v q => by rw [k3] at q; cases q⟩
  keep := fun i h h' st kp => by
    obtain ⟨⟨old, k1⟩, k2, k3⟩ := st
    exact ⟨⟨old, kp e (by simp) _ k1⟩, k2.at fun o q => kp it (by simp) o q, k3⟩
  item := by
    intro X hP hw hK hc i pins s0 σ H Ex I hf st hg
    subst hP hw hK
    obtain ⟨⟨old, k1⟩, k2, k3⟩ := st
    obtain ⟨xs, x, hq, hx⟩ := hg
    obtain ⟨its, rv, p, hz⟩ := I.list hq
    obtain ⟨u, hu, ru⟩ := rv.get hx
    have le : e < s0.heap.objs.size := Heap.lt_size k1
    have li : it < s0.heap.objs.size := by
      obtain ⟨_, q, _⟩ := k2
      exact Heap.lt_size q
    have neA : a ≠ it := fun z => by
      obtain ⟨o, q, c1, _⟩ := k2
      obtain ⟨o2, q2, c2, _⟩ := p.isList
      rw [z, q] at q2
      cases q2
      rw [c1] at c2
      exact absurd c2 (by decide)
    have neE : e ∉ [it, a] := fun z => by
      rcases (by simpa using z : e = it ∨ e = a) with z | z
      · exact k3 z
      · obtain ⟨o2, q2, c2, _⟩ := p.isList
        rw [← z, k1] at q2
        cases q2
        exact absurd (Value.type.inj c2) (by decide)
    refine wpAny_pyNext_enum_itemC (Draws.list (A := X.A.in1) (show X.A.in1.handled = none from I.ok.hd hc) it a neA its.toArray) k1 ⟨k2, p.isList⟩ (by rw [List.size_toArray]; exact (List.getElem?_eq_some_iff.mp hu).1) k3 neE fun y hp tk hy out st1 hT hsz kp => ?_
    have ey : u = y := by
      have : its[i]? = some y := by simpa using hy
      rw [hu] at this
      exact Option.some.inj this
    subst ey
    refine ⟨_, rfl, wpAny_letOwnedTupleGo_enum (s := { s0 with heap := hp, toks := tk + 1 }) out fun hp2 ise sb => ?_⟩
    have hT2 : hp2.get? s0.heap.objs.size = some { cls := .type "tuple", data := .seq #[.int (k + (i : Nat)) tk, u] } := (sb.2 _ (Nat.ne_of_gt le)).trans hT
    have new : ObjOk X.prog X.w (upd H s0.heap.objs.size (.tup [.int (k + (i : Nat)), x])) hp2 s0.heap.objs.size (.tup [.int (k + (i : Nat)), x]) :=
      ⟨(by decide : 2 ≤ sizeLine), [.int (k + (i : Nat)) tk, u], .cons ⟨_, rfl⟩ (.cons ru .nil), ⟨_, hT2, rfl, _, rfl⟩⟩
    have I1 : Inv X pins σ (upd H s0.heap.objs.size (.tup [.int (k + (i : Nat)), x])) { s0 with heap := hp2, toks := tk + 1 } :=
      I.turnedNew (ch := [e, it]) (fun b ob hb q => (sb.2 b (fun z => hb (by simp [z]))).trans (kp b ob (fun z => hb (by simp [z])) (fun z => hb (by simp [z])) q)) hf (Nat.le_refl _) new
    refine ⟨.ref s0.heap.objs.size, _, I1, rfl, ⟨_, x, rfl, I.hok.fresh (Nat.le_refl _), rfl, fun ys hy => by rw [I.list_inj hy hq]; exact hx⟩, ⟨⟨u, ?_⟩, st1.1.at fun o q => (sb.2 it (Ne.symm k3)).trans q, k3⟩, fun b hb => ?_⟩
    · have e1 : k + ((i + 1 : Nat) : Int) = k + (i : Nat) + 1 := by omega
      rw [e1]
      exact ise
    · have lb : b < s0.heap.objs.size := by
        rcases (by simpa using hb : b = e ∨ b = it) with z | z
        · rw [z]
          exact le
        · rw [z]
          exact li
      rw [upd_ne (Nat.ne_of_lt lb)]
      exact (hf b hb).1
  done := by
    intro X hP hw hK hc i pins s0 σ H Ex I hf st hg
    subst hP hw hK
    obtain ⟨⟨old, k1⟩, k2, k3⟩ := st
    obtain ⟨xs, hq, hx⟩ := hg
    obtain ⟨its, rv, p, hz⟩ := I.list hq
    obtain ⟨f0, f1, f2, f3, f4, f5⟩ := hf it (by simp)
    have hl := rv.length
    exact enumStop (I.ok.hd hc) k1 k2 p.isList (by simp; omega) fun hp kp => ⟨rfl, I.turned (t' := s0.toks) (fun b o hb q => kp b o hb q) f0 f1 f3 f4 f5⟩
  self := fun Ar i s0 Qv Ex st h => by
    obtain ⟨⟨_, k1⟩, _⟩ := st
    exact wpAny_pyIter_enum k1 h
def iEnumK (K : Fg) (ta : TA) : TI := fun σ H R => ta σ H fun vs H1 => ∃ a xs k, vs = [.ref a, .int k] ∧ -(2 ^ 62) ≤ k ∧ k < 2 ^ 62 ∧ SqL K H1 a xs ∧ R (ItEn K k a) H1
theorem pi_enumK {X : Cx} {e c : Expr} {ta : TA} {p pos tpos : Pos} {elts : List Expr} {kk : Nat} (hg : Gl X "enumerate") (hm : X.mg "enumerate" = none) (ha : PA X [e, c] ta) (hs : starEach [e, c] X.env = (false, eval e X.env) :: starEach [c] X.env := by rfl)
    (hpl : (backTo pos (starEach [c] X.env)).any (·.1) = false := by rfl) :
    PI X (.Tuple elts kk tpos) (.Call (.Name "enumerate" p) [e, c] [] pos) (iEnumK X.K ta) := by
  refine ⟨fun pins s0 σ H R I h => ?_⟩
  refine Call_ (ld_blt I hg hm boot_enumerate (PyProof.Rows.callWith_type1 (thn (ha.run pos pins s0 σ H _ I h) fun us s1 ⟨vs, H1, I1, r1, a, xs, k, ex, b1, b2, hq, q⟩ => ?_) hs hpl))
  subst ex
  obtain ⟨u1, u2, rfl, r1, r2⟩ := vals2 r1
  obtain rfl : u1 = Value.ref a := r1
  obtain ⟨t, rfl⟩ := r2
  obtain ⟨its, rv, p', hz⟩ := I1.list hq
  refine enum_begins (begins_list a its.toArray) p'.isList (by omega) (by omega) fun hp ise isi hsz kp => wpAny_pyIter_enum ise ?_
  have I2 : Inv X pins σ H1 { s1 with heap := hp } := I1.kept (t' := s1.toks) kp
  refine ⟨s1.heap.objs.size + 1, [s1.heap.objs.size + 1, s1.heap.objs.size], _, _, H1, rfl, I2, turnEn k a (s1.heap.objs.size + 1) s1.heap.objs.size, ⟨⟨.none, by simpa using ise⟩, ⟨_, isi, rfl, rfl⟩, Nat.succ_ne_self _⟩, fun b hb => ?_, q⟩
  have hle : s1.heap.objs.size ≤ b := by
    rcases (by simpa using hb : b = s1.heap.objs.size + 1 ∨ b = s1.heap.objs.size) with z | z
    · rw [z]
      exact Nat.le_add_right _ _
    · rw [z]
      exact Nat.le_refl _
  exact I1.fpOk hle (I1.hok.fresh hle)
end L3
/-! Sims of the further rules; an assigned dict comprehension. -/
namespace L3
open PySem PySem.Spec PyProof.Rows L2
theorem hr65 {A : Around} {k : Nat} (r : Room k A) : A.units + 65 < cLine := by
  have := r.un
  omega
section
variable {X : Cx}
theorem sw_trueD {kx vx : Expr} {gs : List Comprehension} {scope : Scope} {pos py : Pos} {y : Str} {l : Nat} {env : Env} (hk : env.scope.kind = .function) (hy : env.scope.names.lookup y = some .local) (hl : (py.line == pos.line) = true)
    (ha : (scope.names.any fun (n, k) => n == y && (k == .local || k == .cell)) = false) : swapsWith (.DictComp kx vx gs scope pos) (some (.Name y py)) l env = pure true := by
  have e1 : env.kindOf y = some .local := hy
  have e2 : env.blockKind = .function := by
    unfold Env.blockKind
    rw [hk]
    rfl
  unfold swapsWith
  simp only [e2, e1, ha, Expr.pos, hl]
  rfl
theorem ps_setDc {i : Nat} {y : Str} {py : Pos} {kx vx tg iter : Expr} {ifs : List Expr} {scope : Scope} {own : List (Str × Nat)} {pos spos : Pos} {wi : TI} {g : TG} {tt : TT} {tk tv : TE} (hc : X.calm = true) (hN : X.N.Nodup) (hy : X.N[i]? = some y) (hyl : X.env.scope.names.lookup y = some .local)
    (hsw : swapsWith (.DictComp kx vx [⟨tg, iter, ifs, 0⟩] scope pos) (some (.Name y py)) spos.line X.env = pure true) (hi : PI X tg iter wi) (ok : BlkOk X.N X.env.scope scope own)
    (hg : ∀ (s0 : Shared) (H : Hp) (C : Addr) (cl : List (Str × Addr)) (fp : List Addr), PG (X.blk s0 H scope (compEnvC scope cl C X.env) fp) tg g) (ht : ∀ (s0 : Shared) (H : Hp) (C : Addr) (cl : List (Str × Addr)) (fp : List Addr), PTs (X.blk s0 H scope (compEnvC scope cl C X.env) fp) ifs tt)
    (hk : ∀ (s0 : Shared) (H : Hp) (C : Addr) (cl : List (Str × Addr)) (fp : List Addr), PE (X.blk s0 H scope (compEnvC scope cl C X.env) fp) kx tk)
    (he : ∀ (s0 : Shared) (H : Hp) (C : Addr) (cl : List (Str × Addr)) (fp : List Addr), PE (X.blk s0 H scope (compEnvC scope cl C X.env) fp) vx tv) (hs : ∀ x, foldedSetIterable iter X.env x = pure x := by intro _; rfl) :
    PS X (.Assign [.Name y py] (.DictComp kx vx [⟨tg, iter, ifs, 0⟩] scope pos) spos) (tAsg (tDc wi g tt tk tv (own.map (·.2))) (gName i)) := by
  refine ⟨fun pins s0 σ H D I h => ?_⟩
  rw [exec_Assign_Name_used _ _ _ _ hsw]
  refine wpAny_bind (wpAny_standAt (wpAny_bind (m := do let _ ← comprehension (.DictComp kx vx [⟨tg, iter, ifs, 0⟩] scope pos) scope X.env (firstIterPos [⟨tg, iter, ifs, 0⟩] pos) newDict false (eval iter X.env) (some (assign (.Name y py) X.env))) ?_))
  have h2 : tDc wi g tt tk tv (own.map (·.2)) σ H (fun x H1 => gName i x σ H1 D.nx) := h
  refine wpAny_bind (thn (dc_core (Qf := fun _ s1 => SP X pins D .next s1) hc hN I hi ok hg ht hk he hs h2 fun L C s1 m H' I1 q hn f => ?_) fun _ s1 hq => wpAny_pure (wpAny_pure hq))
  obtain ⟨f0, f1, f2, f3, f4, f5⟩ := f
  refine wpAny_assign_Name (store_ok2 (v := V.ref L) I1 hN hy (.inl hyl) rfl (fun s2 I2 ⟨a, sb, ha⟩ => ⟨m, hn.sameBut sb ?_, fun h3 sb3 => ⟨_, H', I2.turned (t' := s2.toks) (fun b o hb e => (sb3.2 b hb).trans e) f0 f1 f3 f4 f5, q⟩⟩) (.inr hyl))
  rcases ha with z | z
  · rw [z]
    exact f1
  · exact fun e => f4 y a z e.symm
/-- list(range(n)) -/
@[irreducible] def mRgL (te : TE) : TE := tLstRg (tRg1 te)
theorem pe_rgL {a : Expr} {p p2 q pos : Pos} {te : TE} (hc : X.calm = true) (hg2 : Gl X "range") (hm2 : X.mg "range" = none) (hg : Gl X "list") (hm : X.mg "list" = none) (ha : PE X a te)
    (na2 : starEach [a] X.env = (false, eval a X.env) :: starEach [] X.env := by rfl) (na : starEach [Expr.Call (.Name "range" p2) [a] [] q] X.env = (false, eval (Expr.Call (.Name "range" p2) [a] [] q) X.env) :: starEach [] X.env := by rfl) :
    PE X (.Call (.Name "list" p) [.Call (.Name "range" p2) [a] [] q] [] pos) (mRgL te) := by
  unfold mRgL
  exact pe_listRg hc hg hm (prg_1 hg2 hm2 ha na2) na
end
section
variable {K : Fg}
/-! a call with keywords -/
def KwS (K : Fg) (r : List V → List V → Hp → VK → Prop) (ρ : List D → List D → Mu → QD → Prop) : Prop := ∀ xs ds zs es H B m Q R, Ok K B H m → Reps K B xs ds → Reps K B zs es → ρ ds es m Q → KD K B H m Q R → r xs zs H R
def dKw (ρ : List D → List D → Mu → QD → Prop) (u w : TAD) : TD := fun δ m Q => u δ m fun ds m1 => w δ m1 fun es m2 => ρ ds es m2 Q
theorem sim_kw {r : List V → List V → Hp → VK → Prop} {ρ : List D → List D → Mu → QD → Prop} {t tk : TA} {u w : TAD} (c : KwS K r ρ) (s : SimA K t u) (z : SimA K tk w) : Sim K (tCKw r t tk) (dKw ρ u w) := fun σ H B δ m Q R ok rs h k => by
  refine s σ H B δ m _ _ ok rs h fun vs ds H1 B1 m1 o1 tr1 r q => ?_
  refine z σ H1 B1 δ m1 _ _ o1 (rs.mono tr1.le) q fun ws es H2 B2 m2 o2 tr2 r2 q2 => ?_
  exact c vs ds ws es H2 B2 m2 _ _ o2 (r.mono tr2.le) r2 q2 fun v d H3 B3 m3 o3 tr3 r3 q3 => k v d H3 B3 m3 o3 ((tr1.trans tr2).trans tr3) r3 q3
def dMinDf : List D → List D → Mu → QD → Prop := fun ds es m Q => ∃ x ns e, ds = [x] ∧ es = [e] ∧ LsD m x (ns.map D.int) ∧ (ns = [] → Q e m) ∧ ∀ x ∈ ns, (∀ j ∈ ns, x ≤ j) → Q (.int x) m
def dMaxDf : List D → List D → Mu → QD → Prop := fun ds es m Q => ∃ x ns e, ds = [x] ∧ es = [e] ∧ LsD m x (ns.map D.int) ∧ (ns = [] → Q e m) ∧ ∀ x ∈ ns, (∀ j ∈ ns, j ≤ x) → Q (.int x) m
theorem kw_minDf : KwS K (rMinDf K) dMinDf := fun xs ds zs es H B m Q R ok r z h k => by
  obtain ⟨x, ns, e, rfl, rfl, hl, h0, q⟩ := h
  obtain ⟨v, rfl, rv⟩ := reps1 r
  obtain ⟨u, rfl, ru⟩ := reps1 z
  obtain ⟨a, vs, rfl, hq, rr⟩ := lsd ok rv hl
  rw [Reps.ints rr] at hq
  exact ⟨a, ns, u, rfl, rfl, hq, fun e => KD.here k ok ru (h0 e), fun x hx hm => KD.here k ok (.int _) (q x hx hm)⟩
theorem kw_maxDf : KwS K (rMaxDf K) dMaxDf := fun xs ds zs es H B m Q R ok r z h k => by
  obtain ⟨x, ns, e, rfl, rfl, hl, h0, q⟩ := h
  obtain ⟨v, rfl, rv⟩ := reps1 r
  obtain ⟨u, rfl, ru⟩ := reps1 z
  obtain ⟨a, vs, rfl, hq, rr⟩ := lsd ok rv hl
  rw [Reps.ints rr] at hq
  exact ⟨a, ns, u, rfl, rfl, hq, fun e => KD.here k ok ru (h0 e), fun x hx hm => KD.here k ok (.int _) (q x hx hm)⟩
theorem sim_lenSet {ta : TE} {ua : TD} (s : Sim K ta ua) : Sim K (tLenSetD K ta) (dLenSet ua) := fun σ H B δ m Q R ok rs h k => by
  refine s σ H B δ m _ _ ok rs h fun v d H1 B1 m1 o1 tr1 r q => ?_
  obtain ⟨xs, hl, h1, h2, q⟩ := q
  obtain ⟨a, vs, rfl, hq, rr⟩ := lsd o1 r hl
  rw [Reps.strs rr] at hq
  exact ⟨a, xs, rfl, hq, h1, h2, k _ _ H1 B1 m1 o1 tr1 (.int _) q⟩
/-- sorted of like data: some order -/
def dSortR : SM := fun ds m Q => ∃ (x : D) (es : List D), ds = [x] ∧ LsD m x es ∧ isDs es = true ∧ PySem.W.AllAlike (pds es) ∧ PySem.W.Sortable (pds es) ∧ (∀ d ∈ pds es, d.depth ≤ 9) ∧ ∀ es', es'.Perm es → Q (.lst es') m
theorem cs_sortR : CallS K (rSortedRr K) dSortR := fun xs ds H B m Q R ok r h k => by
  obtain ⟨x, es, rfl, e, hd, al, so, dp, q⟩ := h
  obtain ⟨v, rfl, rv⟩ := reps1 r
  obtain ⟨a, vs, rfl, hq, rr⟩ := lsd ok rv e
  refine ⟨a, vs, pds es, rfl, hq, repDps ok _ _ rr hd, al, so, dp, fun ys p pm hn => ?_⟩
  obtain ⟨es', pe, re⟩ := rr.perm pm
  exact KD.new k ok hn (fun _ _ z => by cases z) (.lst upd_same (re.mono (leNew (ok.bfree hn)))) (q es' pe)
/-- list(range(n)) -/
def dRgL (u : TD) : TD := fun δ m Q => u δ m fun x m1 => ∃ n : Nat, x = .int n ∧ n ≤ 16777216 ∧ Q (.lst (rngD 0 n)) m1
theorem sim_rgL {te : TE} {ue : TD} (s : Sim K te ue) : Sim K (mRgL te) (dRgL ue) := by
  unfold mRgL
  exact fun σ H B δ m Q R ok rs h k => by
    refine s σ H B δ m _ _ ok rs h fun v d H1 B1 m1 o1 tr1 r q => ?_
    obtain ⟨n, rfl, hn, q⟩ := q
    cases r
    refine ⟨n, rfl, RgOk.of_le (Int.le_refl 0) (by omega) (by omega) (by omega), fun p hp => ?_⟩
    refine k _ _ _ _ m1 (o1.alloc hp (fun _ _ z => by cases z)) (tr1.trans (o1.allocT hp)) (.lst upd_same ?_) q
    have e : ((n : Int) - 0).toNat = n := by omega
    unfold rgV rngD
    rw [e]
    generalize upd B1 p _ = Bx
    generalize List.range n = ks
    induction ks with
    | nil => exact .nil
    | cons k ks ih => exact .cons (.int _) ih
/-- enumerate from k -/
def enumI (k : Int) (ds : List D) : List D := (enumD 0 ds).map fun d => match d with
  | .tup [.int i, x] => .tup [.int (k + i), x]
  | d => d
theorem enumI_get (k : Int) (ds : List D) (i : Nat) : (enumI k ds)[i]? = (ds[i]?).map fun d => D.tup [.int (k + (i : Nat)), d] := by
  unfold enumI
  rw [List.getElem?_map, enumD_get, Nat.zero_add]
  cases ds[i]? <;> rfl
theorem enumI_len (k : Int) (ds : List D) : (enumI k ds).length = ds.length := by
  unfold enumI
  rw [List.length_map, enumD_len]
def dEnumK (u : TAD) : TId := fun δ m R => u δ m fun vs m1 => ∃ x ds k, vs = [x, .int k] ∧ -(2 ^ 62) ≤ k ∧ k < 2 ^ 62 ∧ LsD m1 x ds ∧ R (enumI k ds) (LsP x ds) m1
theorem sim_ienumK {ta : TA} {ua : TAD} (s : SimA K ta ua) : SimI K (iEnumK K ta) (dEnumK ua) := fun σ H B δ m Q R ok rs h k => by
  refine s σ H B δ m _ _ ok rs h fun vs xs H1 B1 m1 o1 tr1 rv q => ?_
  obtain ⟨d, ds, c, rfl, b1, b2, hl, q⟩ := q
  obtain ⟨v, u, rfl, rv1, ru⟩ := reps2 rv
  clear rv
  cases ru
  obtain ⟨a, vs, rfl, hq, rr⟩ := lsd o1 rv1 hl
  refine ⟨a, vs, c, rfl, b1, b2, hq, k (ItEn K c a) _ (LsP d ds) H1 B1 m1 o1 tr1 ⟨fun B2 H2 m2 o2 e2 p2 i x hx => ?_, fun B2 H2 m2 o2 e2 p2 i hi => ?_⟩ hl q⟩
  · obtain ⟨a2, ws, e, hq2, r2⟩ := lsd o2 (rv1.mono (Le.of e2)) p2
    cases e
    rw [enumI_get] at hx
    cases e : ds[i]? with
    | none =>
      rw [e] at hx
      cases hx
    | some d1 =>
      rw [e] at hx
      cases hx
      obtain ⟨w, hw, rw'⟩ := r2.get e
      refine ⟨⟨ws, w, hq2, hw⟩, fun y H' hy => ?_⟩
      obtain ⟨T, x, rfl, hT, rfl, hy⟩ := hy
      have := hy ws hq2
      rw [hw] at this
      cases this
      exact ⟨_, o2.alloc hT (fun _ _ z => by cases z), o2.allocT hT, .tup upd_same (.cons (.int _) (.cons (rw'.mono (leNew (o2.bfree hT))) .nil))⟩
  · obtain ⟨a2, ws, e, hq2, r2⟩ := lsd o2 (rv1.mono (Le.of e2)) p2
    cases e
    rw [enumI_len] at hi
    exact ⟨ws, hq2, by rw [r2.length]; exact hi⟩
end
end L3
namespace L3
theorem ifT {A B : Prop} (h : A) : if true = true then A else B := by
  rw [if_pos rfl]
  exact h
theorem ifF {A B : Prop} (h : B) : if false = true then A else B := by
  rw [if_neg Bool.false_ne_true]
  exact h
theorem any_bl {α : Type} (f : α → Bool) (xs : List α) : (xs.map f).any id = xs.any f := by
  rw [List.any_map]
  rfl
theorem all_bl {α : Type} (f : α → Bool) (xs : List α) : (xs.map f).all id = xs.all f := by
  rw [List.all_map]
  rfl
theorem map_bl {α : Type} (f : α → Bool) (xs : List α) : xs.map (fun x => D.bl (f x)) = (xs.map f).map D.bl := by
  rw [List.map_map]
  rfl
end L3
namespace L3
theorem decUp {p q : Prop} [Decidable p] [Decidable q] {b : Bool} (h : decide p = b) (e : p ↔ q) : decide q = b := (decide_eq_decide.mpr e.symm).trans h
end L3
/-! Readings of loops over given lists. -/
namespace L3
open PySem PySem.Spec PyProof.Rows L2
theorem ifY {k : Bool} {A B : Prop} (e : k = true) (h : A) : if k = true then A else B := by
  rw [if_pos e]
  exact h
theorem ifN {k : Bool} {A B : Prop} (e : k = false) (h : B) : if k = true then A else B := by
  rw [if_neg (by rw [e]; decide)]
  exact h
theorem take_next {α : Type} {xs : List α} {i : Nat} {x : α} (e : xs[i]? = some x) : xs.take (i + 1) = xs.take i ++ [x] := by
  rw [List.take_add_one, e]
  rfl
section
variable {P : Mu → Prop} {gd gd1 : TGd} {ut ut1 : TTD} {ui1 : TId} {ue uk uv : TD} {vs vs1 : List Nat} {δ : Sl} {m : Mu} {Q : QD} {α β : Type}
theorem forX {g : TGd} {t : TSD} {E : EndsD} (f : α → D) (xs : List α) (inv : Nat → Sl → Mu → Prop) (h0 : inv 0 δ m) (hP : ∀ i δ' m', inv i δ' m' → P m')
    (step : ∀ i x δ' m', xs[i]? = some x → inv i δ' m' → g (f x) δ' m' fun δ2 m2 => t { E with nx := inv (i + 1), ct := inv (i + 1), bk := E.nx } δ2 m2)
    (fin : ∀ δ' m', inv xs.length δ' m' → E.nx δ' m') :
    ∃ W : Nat → Sl → Mu → Prop, W 0 δ m ∧ (∀ i δ' m', W i δ' m' → P m') ∧
      (∀ i d δ' m', (xs.map f)[i]? = some d → W i δ' m' → g d δ' m' fun δ2 m2 => t { E with nx := W (i + 1), ct := W (i + 1), bk := E.nx } δ2 m2) ∧ ∀ δ' m', W (xs.map f).length δ' m' → E.nx δ' m' := by
  refine ⟨inv, h0, hP, fun i d δ' m' hd h => ?_, fun δ' m' h => fin δ' m' (by rwa [List.length_map] at h)⟩
  rw [List.getElem?_map] at hd
  cases e : xs[i]? with
  | none =>
    rw [e] at hd
    cases hd
  | some x =>
    rw [e] at hd
    cases hd
    exact step i x δ' m' e h
/-- {k x : v x for x in xs if p x}, the keys apart -/
theorem dcFM (f : α → D) (xs : List α) (p : α → Bool) (k : α → Key) (v : α → D) (hP : P m) (hl : xs.length ≤ sizeLine) (nd : ((xs.filter p).map k).Nodup)
    (turn : ∀ x ∈ xs, ∀ (N : D → D → Mu → Prop) (Nn : Mu → Prop), (p x = true → N (kD (k x)) (v x) m) → (p x = false → Nn m) → gd (f x) (wipeD δ vs) m fun δ2 m2 => ut δ2 m2 fun b m3 => if b = true then uk δ2 m3 fun a m4 => uv δ2 m4 fun c m5 => N a c m5 else Nn m3)
    (q : Q (.dic ((xs.filter p).map fun x => (k x, v x))) m) : DcLoop (xs.map f) P gd ut uk uv vs δ m Q := by
  refine ⟨fun i acc m' => m' = m ∧ acc = ((xs.take i).filter p).map fun x => (k x, v x), ⟨rfl, by simp⟩, fun i acc m' h => by rw [h.1]; exact hP, fun i d acc m' hd h => ?_, fun acc m' h => ?_⟩
  · obtain ⟨rfl, rfl⟩ := h
    rw [List.getElem?_map] at hd
    cases e : xs[i]? with
    | none =>
      rw [e] at hd
      cases hd
    | some x =>
      rw [e] at hd
      cases hd
      have hx := List.mem_of_getElem? e
      have ht := take_next e
      refine turn x hx (fun a c m5 => ∃ k', a = kD k' ∧ _ ∧ _ ∧ _) _ (fun hp => ⟨k x, rfl, ?_, rfl, ?_⟩) (fun hp => ⟨rfl, ?_⟩)
      · have hi := (List.getElem?_eq_some_iff.mp e).1
        have h1 : (((xs.take i).filter p).map fun x => (k x, v x)).length ≤ i := by
          rw [List.length_map]
          exact Nat.le_trans (List.length_filter_le _ _) (by rw [List.length_take]; exact Nat.min_le_left _ _)
        omega
      · have nd2 : (((xs.take i ++ [x]).filter p).map k).Nodup := by
          rw [← ht]
          exact (((List.take_sublist _ _).filter _).map _).nodup nd
        have no : ¬ ((((xs.take i).filter p).map fun x => (k x, v x)).any fun kv => decide (kv.1 = k x)) = true := by
          intro hany
          obtain ⟨kv, h1, h2⟩ := List.any_eq_true.mp hany
          obtain ⟨z, h3, rfl⟩ := List.mem_map.mp h1
          rw [List.filter_append, List.map_append] at nd2
          have := (List.nodup_append.mp nd2).2.2 (k z) (List.mem_map.mpr ⟨z, h3, rfl⟩) (k x) (List.mem_map.mpr ⟨x, by rw [List.filter_cons, if_pos hp]; exact List.mem_cons_self, rfl⟩)
          exact this (of_decide_eq_true h2)
        unfold setD
        rw [if_neg no, ht, List.filter_append, List.map_append, List.filter_cons, if_pos hp]
        rfl
      · rw [ht, List.filter_append, List.map_append, List.filter_cons, if_neg (by rw [hp]; decide)]
        simp
  · obtain ⟨rfl, rfl⟩ := h
    rw [List.length_map, List.take_length]
    exact q
theorem dcM (f : α → D) (xs : List α) (k : α → Key) (v : α → D) (hP : P m) (hl : xs.length ≤ sizeLine) (nd : (xs.map k).Nodup)
    (turn : ∀ x ∈ xs, ∀ (N : D → D → Mu → Prop) (Nn : Mu → Prop), N (kD (k x)) (v x) m → gd (f x) (wipeD δ vs) m fun δ2 m2 => ut δ2 m2 fun b m3 => if b = true then uk δ2 m3 fun a m4 => uv δ2 m4 fun c m5 => N a c m5 else Nn m3)
    (q : Q (.dic (xs.map fun x => (k x, v x))) m) : DcLoop (xs.map f) P gd ut uk uv vs δ m Q := by
  have e : xs.filter (fun _ => true) = xs := List.filter_eq_self.mpr fun _ _ => rfl
  refine dcFM f xs (fun _ => true) k v hP hl (by rw [e]; exact nd) (fun x hx N Nn h1 _ => turn x hx N Nn (h1 rfl)) ?_
  rw [e]
  exact q
/-- [g x y for x in xs for y in ys x if p x y] -/
theorem lc2FM (f : α → D) (xs : List α) (f1 : α → β → D) (ys : α → List β) (p : α → β → Bool) (g : α → β → D) (hP : P m) (hl : (xs.flatMap ys).length ≤ sizeLine)
    (turn : ∀ x ∈ xs, ∀ (N : Sl → List D → (Mu → Prop) → Mu → Prop) (Nn : Mu → Prop), (∀ δ2 P1, P1 m → (∀ y ∈ ys x, ∀ (Ny : D → Mu → Prop) (Nz : Mu → Prop), (p x y = true → Ny (g x y) m) → (p x y = false → Nz m) →
        gd1 (f1 x y) (wipeD δ2 vs1) m fun δ3 m6 => ut1 δ3 m6 fun b m7 => if b = true then ue δ3 m7 Ny else Nz m7) → N δ2 ((ys x).map (f1 x)) P1 m) →
      gd (f x) (wipeD δ vs) m fun δ2 m2 => ut δ2 m2 fun b m3 => if b = true then ui1 δ2 m3 fun es P1 m4 => N δ2 es P1 m4 else Nn m3)
    (q : Q (.lst (xs.flatMap fun x => ((ys x).filter (p x)).map (g x))) m) : Lc2D gd ut ui1 gd1 ut1 ue vs vs1 (xs.map f) P δ m Q := by
  have len : ∀ i, (((xs.take i).flatMap fun x => ((ys x).filter (p x)).map (g x))).length ≤ ((xs.take i).flatMap ys).length := fun i => by
    generalize xs.take i = zs
    induction zs with
    | nil => exact Nat.le_refl _
    | cons z zs ih =>
      rw [List.flatMap_cons, List.flatMap_cons, List.length_append, List.length_append, List.length_map]
      exact Nat.add_le_add (List.length_filter_le _ _) ih
  refine ⟨fun i acc m' => m' = m ∧ acc = (xs.take i).flatMap fun x => ((ys x).filter (p x)).map (g x), ⟨rfl, by simp⟩, fun i acc m' h => by rw [h.1]; exact hP, fun i d acc m' hd h => ?_, fun acc m' h => ?_⟩
  · obtain ⟨rfl, rfl⟩ := h
    rw [List.getElem?_map] at hd
    cases e : xs[i]? with
    | none =>
      rw [e] at hd
      cases hd
    | some x =>
      rw [e] at hd
      cases hd
      have hx := List.mem_of_getElem? e
      have ht := take_next e
      refine turn x hx (fun δ2 es P1 m4 => Lc2I es P1 gd1 ut1 ue vs1 δ2 _ m4 _) _ fun δ2 P1 hp1 inner => ?_
      refine ⟨fun j a m5 => m5 = m' ∧ a = ((xs.take i).flatMap fun x => ((ys x).filter (p x)).map (g x)) ++ (((ys x).take j).filter (p x)).map (g x), ⟨rfl, by simp⟩, fun j a m5 h => by rw [h.1]; exact hp1, fun j d a m5 hd h => ?_, fun a m5 h => ?_⟩
      · obtain ⟨rfl, rfl⟩ := h
        rw [List.getElem?_map] at hd
        cases e2 : (ys x)[j]? with
        | none =>
          rw [e2] at hd
          cases hd
        | some y =>
          rw [e2] at hd
          cases hd
          have hy := List.mem_of_getElem? e2
          have ht2 := take_next e2
          refine inner y hy _ _ (fun hp => ⟨?_, rfl, ?_⟩) (fun hp => ⟨rfl, ?_⟩)
          · have h1 := len i
            have hj := (List.getElem?_eq_some_iff.mp e2).1
            have h2 : ((((ys x).take j).filter (p x)).map (g x)).length ≤ j := by
              rw [List.length_map]
              exact Nat.le_trans (List.length_filter_le _ _) (by rw [List.length_take]; exact Nat.min_le_left _ _)
            have h3 : ((xs.take i).flatMap ys).length + (ys x).length ≤ (xs.flatMap ys).length := by
              have e3 : xs = xs.take (i + 1) ++ xs.drop (i + 1) := (List.take_append_drop _ _).symm
              have e4 := congrArg (fun l => (l.flatMap ys).length) e3
              simp only [List.flatMap_append, List.length_append, ht, List.flatMap_cons, List.flatMap_nil, List.append_nil] at e4
              omega
            rw [List.length_append]
            omega
          · rw [ht2, List.filter_append, List.map_append, List.filter_cons, if_pos hp, List.append_assoc]
            rfl
          · rw [ht2, List.filter_append, List.map_append, List.filter_cons, if_neg (by rw [hp]; decide)]
            simp
      · obtain ⟨rfl, rfl⟩ := h
        refine ⟨rfl, ?_⟩
        rw [List.length_map, List.take_length, ht, List.flatMap_append, List.flatMap_cons, List.flatMap_nil, List.append_nil]
  · obtain ⟨rfl, rfl⟩ := h
    rw [List.length_map, List.take_length]
    exact q
end
/-- a list's length in steps -/
theorem rngD_map (n : Nat) : rngD 0 n = (List.range n).map fun (i : Nat) => D.int (i : Nat) := by
  unfold rngD
  exact List.map_congr_left fun i _ => by rw [Int.zero_add]
end L3
namespace L3
open L2
theorem at_nat {α : Type} {xs : List α} {k : Nat} {d : α} (h : xs[k]? = some d) : atI xs (k : Nat) = some d := by
  have hk := (List.getElem?_eq_some_iff.mp h).1
  unfold atI ixN
  rw [if_pos (by omega), if_pos (by omega)]
  exact h
theorem at_last {α : Type} {xs : List α} {d : α} : atI (xs ++ [d]) (-1) = some d := by
  unfold atI ixN
  rw [if_neg (by decide), if_pos (by rw [List.length_append, List.length_singleton]; omega)]
  show (xs ++ [d])[(-1 + ((xs ++ [d]).length : Int)).toNat]? = some d
  have e : (-1 + ((xs ++ [d]).length : Int)).toNat = xs.length := by
    rw [List.length_append, List.length_singleton]
    omega
  rw [e, List.getElem?_append_right (Nat.le_refl _), Nat.sub_self]
  rfl
end L3
/-! The rules whose readings ask the frame, the frame named. -/
namespace L3
open PySem PySem.Spec PyProof.Rows L2
section
variable {X : Cx} {K : Fg} {e o a b l : Expr} {es : List Expr} {ta tb tl te to : TE} {t : TA} {tg : Expr} {f : Str} {pos apos cpos pos' p : Pos}
theorem kIx (hk : X.K = K) : IxR X (rIx K) := hk ▸ ix_seq
theorem kFld (hk : X.K = K) (he : PE X e te) (hb : attributeBase e f X.env (eval e X.env) = eval e X.env) : PE X (.Attribute e f pos) (tFld K te f) := hk ▸ pe_fld he hb
theorem kList (hk : X.K = K) (h : PE X l tl) : PI X tg l (iList K tl) := hk ▸ pi_list h
theorem kTupI (hk : X.K = K) (h : PE X l tl) : PI X tg l (iTup K tl) := hk ▸ pi_tup h
theorem kEnum {elts : List Expr} {kk : Nat} {tpos : Pos} (hk : X.K = K) (hg : Gl X "enumerate") (hm : X.mg "enumerate" = none) (ha : PA X [e] t) (hs : starEach [e] X.env = [(false, eval e X.env)] := by rfl) :
    PI X (.Tuple elts kk tpos) (.Call (.Name "enumerate" p) [e] [] pos) (iEnum K t) := hk ▸ pi_enum hg hm ha hs
theorem kTup {k n : Nat} {u : TGs} (hk : X.K = K) (hc : X.calm = true) (h : PGs X es u) (hn : (assignEach es X.env).length = n := by rfl) (hst : (assignEach es X.env).findIdx? (·.1) = none := by rfl) : PG X (.Tuple es k pos) (gTup K n u) :=
  hk ▸ pg_tup hc h hn hst
theorem kSlL (hk : X.K = K) : SlR X (rSlL K) := hk ▸ sl_list
theorem kSlT (hk : X.K = K) : SlR X (rSlT K) := hk ▸ sl_tup
theorem kOrT {rest : List Expr} (hk : X.K = K) (ha : PE X a ta) (hb : PE X (.BoolOp .Or (b :: rest) pos) tb) : PE X (.BoolOp .Or (a :: b :: rest) pos) (tOrT K ta tb) := hk ▸ pe_orT ha hb
def tTrK (K : Fg) (ta : TE) : TT := fun σ H Q => ta σ H fun x H' => ∃ k, TruV K x H' k ∧ Q k H'
theorem kTru (hk : X.K = K) (ha : PE X a ta) (he : ∀ whole, isTrue a X.env whole = (do let v ← whole; standAt a.pos; holding [v] (truthy v))) : PT X a (tTrK K ta) := hk ▸ pt_truth ha he
def rLenK (K : Fg) : List V → Hp → VK → Prop := fun xs H Q => ∃ x n, xs = [x] ∧ LenV K x H n ∧ Q (.int n) H
theorem kLen (hk : X.K = K) : CallR X (.builtin "len") (rLenK K) := hk ▸ call_len
theorem kAny (hk : X.K = K) (hc : X.calm = true) : CallR X (.builtin "any") (rAny K) := hk ▸ cr_any hc
theorem kAll (hk : X.K = K) (hc : X.calm = true) : CallR X (.builtin "all") (rAll K) := hk ▸ cr_all hc
theorem kSum (hk : X.K = K) (hc : X.calm = true) : CallR X (.builtin "sum") (rSum K) := hk ▸ cr_sum hc
theorem kSortP (hk : X.K = K) : CallR X (.builtin "sorted") (rSortedP K) := hk ▸ cr_sortedP
theorem kSortS (hk : X.K = K) : CallR X (.builtin "sorted") (rSortedS K) := hk ▸ cr_sortedS
theorem kSortR (hk : X.K = K) (hu : X.A.units + 64 < cLine) : CallR X (.builtin "sorted") (rSortedRr K) := hk ▸ cr_sortedRr hu
theorem kIsi (hk : X.K = K) : CallR X (.builtin "isinstance") (rIsi K) := hk ▸ call_isi
def rListK (K : Fg) : List V → Hp → VK → Prop := fun xs H Q => ∃ p ys, xs = [.ref p] ∧ (SqL K H p ys ∨ SqT K H p ys) ∧ ∀ l, H l = none → Q (.ref l) (upd H l (.lst ys))
theorem kListOf (hk : X.K = K) : CallR X (.type "list") (rListK K) := hk ▸ call_list_of
theorem kCatT (hk : X.K = K) : OpR X (binaryOp .Add) (rCatT K) := hk ▸ op_catT
theorem kInD (hk : X.K = K) (hu : X.A.units + 65 < cLine) : OpR X (compareOp .In) (rInD K) := hk ▸ op_inD hu
theorem kNotInD (hk : X.K = K) (hu : X.A.units + 65 < cLine) : OpR X (compareOp .NotIn) (rNotInD K) := hk ▸ op_notInD hu
theorem kEqD (hk : X.K = K) (hu : X.A.units + 64 < cLine) : OpR X (compareOp .Eq) (rEqD K) := hk ▸ op_eqD hu
theorem kNeD (hk : X.K = K) (hu : X.A.units + 64 < cLine) : OpR X (compareOp .NotEq) (rNeD K) := hk ▸ op_neD hu
theorem kMemS (hk : X.K = K) : OpR X (compareOp .In) (mInS K false) := hk ▸ op_memS
theorem kNmemS (hk : X.K = K) : OpR X (compareOp .NotIn) (mInS K true) := hk ▸ op_nmemS
theorem kMemI (hk : X.K = K) : OpR X (compareOp .In) (mInI K false) := hk ▸ op_memI
theorem kNmemI (hk : X.K = K) : OpR X (compareOp .NotIn) (mInI K true) := hk ▸ op_nmemI
theorem kIndex (hk : X.K = K) : MtR X "list.index" (rIndex K) := hk ▸ mt_index
theorem kLenSet {p p2 q : Pos} (hk : X.K = K) (hc : X.calm = true) (hg : Gl X "len") (hm : X.mg "len" = none) (hg2 : Gl X "set") (hm2 : X.mg "set" = none) (ha : PE X a ta)
    (na : starEach [a] X.env = (false, eval a X.env) :: starEach [] X.env := by rfl) : PE X (.Call (.Name "len" p) [.Call (.Name "set" p2) [a] [] q] [] pos) (tLenSetD K ta) := hk ▸ pe_lenSetD hc hg hm hg2 hm2 ha na
theorem kMinDf (hk : X.K = K) (hc : X.calm = true) (hu : X.A.units + 1 < cLine) : CallRK X (.builtin "min") [Str.ofString "default"] (rMinDf K) := hk ▸ cr_minDf hc hu
theorem kMaxDf (hk : X.K = K) (hc : X.calm = true) (hu : X.A.units + 1 < cLine) : CallRK X (.builtin "max") [Str.ofString "default"] (rMaxDf K) := hk ▸ cr_maxDf hc hu
theorem kEnumK {c : Expr} {elts : List Expr} {kk : Nat} {tpos : Pos} (hk : X.K = K) (hg : Gl X "enumerate") (hm : X.mg "enumerate" = none) (ha : PA X [e, c] t) (hs : starEach [e, c] X.env = (false, eval e X.env) :: starEach [c] X.env := by rfl)
    (hpl : (backTo pos (starEach [c] X.env)).any (·.1) = false := by rfl) : PI X (.Tuple elts kk tpos) (.Call (.Name "enumerate" p) [e, c] [] pos) (iEnumK K t) := hk ▸ pi_enumK hg hm ha hs hpl
def rJoinK (K : Fg) : V → List V → Hp → VK → Prop := fun x xs H Q => ∃ a p, ∃ ys : List Str, x = .str a ∧ xs = [.ref p] ∧ (SqL K H p (ys.map V.str) ∨ SqT K H p (ys.map V.str)) ∧ (ys.map (·.length)).sum + ys.length * a.length ≤ 16777216 ∧ Q (.str (Txt.join a ys)) H
theorem kJoin (hk : X.K = K) (ho : PE X o to) (he : PE X e te) (hs : starEach [e] X.env = [(false, eval e X.env)] := by rfl) (hbase : attributeBase o "join" X.env (eval o X.env) = eval o X.env := by rfl) (hline : (apos.endLine == pos.line) = true := by rfl) :
    PE X (.Call (.Attribute o "join" apos) [e] [] pos) (tM1 (rJoinK K) to te) := hk ▸ pe_join ho he hs hbase hline
end
end L3
/-! Plain data compared. -/
namespace L3
open PySem PySem.Spec PyProof.Rows L2
def sD : Nat → D → Bool
  | _, .non => true
  | _, .int _ => true
  | _, .str x => PyData.strOk x
  | n + 1, .tup xs => xs.all (sD n)
  | n + 1, .lst xs => xs.all (sD n)
  | _, _ => false
theorem pds_map : ∀ xs : List D, pds xs = xs.map pd
  | [] => by unfold pds; rfl
  | x :: xs => by unfold pds; rw [pds_map xs]; rfl
theorem isDs_all : ∀ xs : List D, isDs xs = xs.all isD
  | [] => by unfold isDs; rfl
  | x :: xs => by unfold isDs; rw [isDs_all xs]; rfl
theorem layAll : ∀ xs : List PyData, PyData.canLayAll0 xs = xs.all PyData.canLay0
  | [] => by unfold PyData.canLayAll0; rfl
  | x :: xs => by unfold PyData.canLayAll0; rw [layAll xs]; rfl
theorem depAll {n : Nat} : ∀ xs : List PyData, (∀ x ∈ xs, x.depth ≤ n) → PyData.depthAll xs ≤ n
  | [], _ => by unfold PyData.depthAll; exact Nat.zero_le _
  | x :: xs, h => by
    unfold PyData.depthAll
    exact Nat.max_le.mpr ⟨h x List.mem_cons_self, depAll xs fun y hy => h y (List.mem_cons_of_mem _ hy)⟩
theorem sD_ok : ∀ (n : Nat) (d : D), sD n d = true → isD d = true ∧ (pd d).canLay0 = true ∧ (pd d).depth ≤ n
  | n, .non, _ => ⟨by unfold isD; rfl, by unfold pd PyData.canLay0; rfl, by unfold pd PyData.depth; exact Nat.zero_le _⟩
  | n, .int _, _ => ⟨by unfold isD; rfl, by unfold pd PyData.canLay0; rfl, by unfold pd PyData.depth; exact Nat.zero_le _⟩
  | n, .str _, h => ⟨by unfold isD; rfl, by unfold pd PyData.canLay0; unfold sD at h; exact h, by unfold pd PyData.depth; exact Nat.zero_le _⟩
  | n + 1, .tup xs, h => by
    unfold sD at h
    have ih := fun x hx => sD_ok n x (List.all_eq_true.mp h x hx)
    refine ⟨?_, ?_, ?_⟩
    · unfold isD
      rw [isDs_all]
      exact List.all_eq_true.mpr fun x hx => (ih x hx).1
    · unfold pd PyData.canLay0
      rw [layAll, pds_map]
      exact List.all_eq_true.mpr fun x hx => by
        obtain ⟨y, hy, rfl⟩ := List.mem_map.mp hx
        exact (ih y hy).2.1
    · unfold pd PyData.depth
      rw [pds_map]
      exact Nat.succ_le_succ (depAll _ fun x hx => by
        obtain ⟨y, hy, rfl⟩ := List.mem_map.mp hx
        exact (ih y hy).2.2)
  | n + 1, .lst xs, h => by
    unfold sD at h
    have ih := fun x hx => sD_ok n x (List.all_eq_true.mp h x hx)
    refine ⟨?_, ?_, ?_⟩
    · unfold isD
      rw [isDs_all]
      exact List.all_eq_true.mpr fun x hx => (ih x hx).1
    · unfold pd PyData.canLay0
      rw [layAll, pds_map]
      exact List.all_eq_true.mpr fun x hx => by
        obtain ⟨y, hy, rfl⟩ := List.mem_map.mp hx
        exact (ih y hy).2.1
    · unfold pd PyData.depth
      rw [pds_map]
      exact Nat.succ_le_succ (depAll _ fun x hx => by
        obtain ⟨y, hy, rfl⟩ := List.mem_map.mp hx
        exact (ih y hy).2.2)
  | _, .bl _, h => by unfold sD at h; cases h
  | _, .ty _, h => by unfold sD at h; cases h
  | _, .ref _, h => by unfold sD at h; cases h
  | _, .lsr _, h => by unfold sD at h; cases h
  | _, .dic _, h => by unfold sD at h; cases h
  | _, .dit _, h => by unfold sD at h; cases h
  | _, .ins _ _, h => by unfold sD at h; cases h
  | 0, .tup _, h => by unfold sD at h; cases h
  | 0, .lst _, h => by unfold sD at h; cases h
theorem sD_shaped {n : Nat} {d : D} (hn : n ≤ 64) (h : sD n d = true) : SeqAt.shaped (pd d) = true := by
  obtain ⟨_, a, b⟩ := sD_ok n d h
  unfold SeqAt.shaped
  rw [a, Bool.true_and]
  exact decide_eq_true (Nat.le_trans b hn)
theorem eqvAll_iff {n : Nat} (ih : ∀ x y : D, sD n x = true → sD n y = true → (PyData.eqv (pd x) (pd y) = true ↔ x = y)) : ∀ xs ys : List D, xs.all (sD n) = true → ys.all (sD n) = true → (PyData.eqvAll (xs.map pd) (ys.map pd) = true ↔ xs = ys)
  | [], [], _, _ => by simp [PyData.eqvAll]
  | [], y :: ys, _, _ => by simp [PyData.eqvAll]
  | x :: xs, [], _, _ => by simp [PyData.eqvAll]
  | x :: xs, y :: ys, h1, h2 => by
    rw [List.all_cons, Bool.and_eq_true] at h1 h2
    rw [List.map_cons, List.map_cons, PyData.eqvAll, Bool.and_eq_true, ih x y h1.1 h2.1, eqvAll_iff ih xs ys h1.2 h2.2, List.cons.injEq]
theorem eqv_iff : ∀ (n : Nat) (x y : D), sD n x = true → sD n y = true → (PyData.eqv (pd x) (pd y) = true ↔ x = y)
  | 0, x, y, h1, h2 => by
    cases x <;> cases y <;> first
      | (unfold sD at h1; cases h1; done)
      | (unfold sD at h2; cases h2; done)
      | simp [pd, PyData.eqv]
  | n + 1, x, y, h1, h2 => by
    have ih := eqv_iff n
    cases x <;> cases y <;> first
      | (unfold sD at h1; cases h1; done)
      | (unfold sD at h2; cases h2; done)
      | (unfold sD at h1 h2
         unfold pd
         rw [PyData.eqv, pds_map, pds_map, eqvAll_iff ih _ _ h1 h2]
         simp)
      | simp [pd, PyData.eqv]
section
variable {x y : D} {m : Mu} {Q : QD} {n : Nat}
theorem goEqD (n : Nat) (hn : n ≤ 64) (h1 : sD n x = true) (h2 : sD n y = true) (q : ∀ k, (k = true ↔ x = y) → Q (.bl k) m) : dEqD x y m Q :=
  ⟨(sD_ok n x h1).1, (sD_ok n y h2).1, sD_shaped hn h1, sD_shaped hn h2, q _ (eqv_iff n x y h1 h2)⟩
theorem goNeD (n : Nat) (hn : n ≤ 64) (h1 : sD n x = true) (h2 : sD n y = true) (q : ∀ k, (k = true ↔ x ≠ y) → Q (.bl k) m) : dNeD x y m Q :=
  ⟨(sD_ok n x h1).1, (sD_ok n y h2).1, sD_shaped hn h1, sD_shaped hn h2, q _ (by
    have := eqv_iff n x y h1 h2
    cases e : PyData.eqv (pd x) (pd y) <;> simp_all)⟩
theorem goInD (neg : Bool) (n : Nat) (hn : n ≤ 63) {ds : List D} (hl : LsD m y ds) (h1 : sD n x = true) (h2 : ∀ d ∈ ds, sD n d = true) (q : ∀ k, (k = true ↔ x ∈ ds) → Q (.bl (xb neg k)) m) : dInD neg x y m Q := by
  have h3 : sD (n + 1) (.lst ds) = true := by
    unfold sD
    exact List.all_eq_true.mpr h2
  have h4 := sD_ok _ _ h3
  refine ⟨ds, hl, (sD_ok n x h1).1, ?_, sD_shaped (by omega) h1, ?_, q _ ?_⟩
  · have := h4.1
    unfold isD at this
    exact this
  · have := sD_shaped (by omega) h3
    unfold pd at this
    exact this
  · rw [pds_map, List.any_eq_true]
    refine ⟨fun ⟨z, hz, e⟩ => ?_, fun hx => ⟨pd x, List.mem_map.mpr ⟨x, hx, rfl⟩, (eqv_iff n x x h1 h1).mpr rfl⟩⟩
    obtain ⟨d, hd, rfl⟩ := List.mem_map.mp hz
    rw [← (eqv_iff n d x (h2 d hd) h1).mp e]
    exact hd
end
end L3
namespace L3
open PySem PySem.Spec PyProof.Rows L2
theorem LsD.put {m : Mu} {a : Addr} {o u : MO} {d : D} {ds : List D} (h : LsD m d ds) (ha : m.c a = some o) (ho : ∀ es, o ≠ .lst es) : LsD (m.set a u) d ds := by
  rcases h with h | h | ⟨b, rfl, h⟩
  · exact .inl h
  · exact .inr (.inl h)
  · refine .inr (.inr ⟨b, rfl, ?_⟩)
    have hb : b ≠ a := fun e => by
      rw [e, ha] at h
      exact ho ds (Option.some.inj h)
    rw [Mu.set_ne hb]
    exact h
theorem LsD.new {m : Mu} {a : Addr} {u : MO} {d : D} {ds : List D} (h : LsD m d ds) (ha : m.c a = none) : LsD (m.set a u) d ds := by
  rcases h with h | h | ⟨b, rfl, h⟩
  · exact .inl h
  · exact .inr (.inl h)
  · refine .inr (.inr ⟨b, rfl, ?_⟩)
    have hb : b ≠ a := fun e => by
      rw [e, ha] at h
      cases h
    rw [Mu.set_ne hb]
    exact h
theorem Mu.del_set {m : Mu} {a : Addr} {o : MO} (h : m.c a = none) : (m.set a o).del a = m := by
  obtain ⟨c, fz⟩ := m
  have e : (fun b => if b = a then none else if b = a then some o else c b) = c := by
    funext b
    by_cases e : b = a
    · rw [if_pos e, e]
      exact h.symm
    · rw [if_neg e, if_neg e]
  exact congrArg (fun x => Mu.mk x fz) e
theorem Mu.set_set {m : Mu} {a : Addr} {o u : MO} : (m.set a o).set a u = m.set a u := by
  obtain ⟨c, fz⟩ := m
  have e : (fun b => if b = a then some u else if b = a then some o else c b) = fun b => if b = a then some u else c b := by
    funext b
    by_cases e : b = a
    · rw [if_pos e, if_pos e]
    · rw [if_neg e, if_neg e, if_neg e]
  exact congrArg (fun x => Mu.mk x fz) e
end L3
namespace L3
open PySem PySem.Spec PyProof.Rows L2
theorem goMaxDf {m : Mu} {Q : QD} {x e : D} (ns : List Int) (P : D → Prop) (hl : LsD m x (ns.map D.int)) (h0 : ns = [] → P e) (h1 : ∀ i ∈ ns, (∀ j ∈ ns, j ≤ i) → P (.int i)) (q : ∀ d, P d → Q d m) : dMaxDf [x] [e] m Q :=
  ⟨x, ns, e, rfl, rfl, hl, fun h => q _ (h0 h), fun i hi hm => q _ (h1 i hi hm)⟩
theorem goMinDf {m : Mu} {Q : QD} {x e : D} (ns : List Int) (P : D → Prop) (hl : LsD m x (ns.map D.int)) (h0 : ns = [] → P e) (h1 : ∀ i ∈ ns, (∀ j ∈ ns, i ≤ j) → P (.int i)) (q : ∀ d, P d → Q d m) : dMinDf [x] [e] m Q :=
  ⟨x, ns, e, rfl, rfl, hl, fun h => q _ (h0 h), fun i hi hm => q _ (h1 i hi hm)⟩
end L3
namespace L3
open PySem PySem.Spec PyProof.Rows L2
def dNeg (u : TD) : TD := fun δ m Q => u δ m fun x m1 => ∃ i, x = .int i ∧ Q (.int (-i)) m1
theorem sim_neg {K : Fg} {te : TE} {ue : TD} (s : Sim K te ue) : Sim K (tUn (rU fun i => V.int (-i)) te) (dNeg ue) := fun σ H B δ m Q R ok rs h k => by
  refine s σ H B δ m _ _ ok rs h fun v d H1 B1 m1 o1 tr1 r q => ?_
  obtain ⟨i, rfl, q⟩ := q
  cases r
  exact ⟨i, rfl, k _ _ H1 B1 m1 o1 tr1 (.int _) q⟩
end L3
namespace L3
open PySem PySem.Spec PyProof.Rows L2
theorem Mu.set_comm {m : Mu} {a b : Addr} {o u : MO} (h : a ≠ b) : (m.set a o).set b u = (m.set b u).set a o := by
  obtain ⟨c, fz⟩ := m
  have e : (fun x => if x = b then some u else if x = a then some o else c x) = fun x => if x = a then some o else if x = b then some u else c x := by
    funext x
    by_cases e1 : x = a
    · have e2 : ¬ x = b := fun z => h (e1.symm.trans z)
      rw [if_neg e2, if_pos e1, if_pos e1]
    · rw [if_neg e1, if_neg e1]
  exact congrArg (fun x => Mu.mk x fz) e
theorem setD_new {κ : Type} [DecidableEq κ] {kds : List (κ × D)} {k : κ} {v : D} (h : getD kds k = none) : setD kds k v = kds ++ [(k, v)] := by
  unfold setD
  rw [if_neg]
  intro hany
  obtain ⟨kv, h1, h2⟩ := List.any_eq_true.mp hany
  unfold getD at h
  rw [Option.map_eq_none_iff, List.find?_eq_none] at h
  exact h kv h1 h2
theorem nodup_sub_len {α : Type} [DecidableEq α] : ∀ {xs ys : List α}, xs.Nodup → (∀ x ∈ xs, x ∈ ys) → xs.length ≤ ys.length
  | [], _, _, _ => Nat.zero_le _
  | x :: xs, ys, nd, h => by
    rw [List.nodup_cons] at nd
    have hx := h x List.mem_cons_self
    have ih := nodup_sub_len (ys := ys.erase x) nd.2 fun z hz => by
      refine (List.mem_erase_of_ne fun (e : z = x) => nd.1 (e ▸ hz)).mpr (h z (List.mem_cons_of_mem _ hz))
    rw [List.length_erase_of_mem hx] at ih
    have : 0 < ys.length := List.length_pos_of_mem hx
    rw [List.length_cons]
    omega
end L3
namespace L3
open L2
theorem at_zero {α : Type} {x : α} {xs : List α} : atI (x :: xs) 0 = some x := at_nat (k := 0) (xs := x :: xs) rfl
end L3
namespace L3
open PySem PySem.Spec PyProof.Rows L2
inductive AllR {α β : Type} (R : α → β → Prop) : List α → List β → Prop
  | nil : AllR R [] []
  | cons {a : α} {b : β} {as : List α} {bs : List β} : R a b → AllR R as bs → AllR R (a :: as) (b :: bs)
theorem AllR.snoc {α β : Type} {R : α → β → Prop} {a : α} {b : β} : ∀ {as : List α} {bs : List β}, AllR R as bs → R a b → AllR R (as ++ [a]) (bs ++ [b])
  | _, _, .nil, h => .cons h .nil
  | _, _, .cons k t, h => .cons k (t.snoc h)
theorem AllR.left {α β : Type} {R : α → β → Prop} {a : α} : ∀ {as : List α} {bs : List β}, AllR R as bs → a ∈ as → ∃ b ∈ bs, R a b
  | _, _, .cons k t, h => by
    rcases List.mem_cons.mp h with h | h
    · exact ⟨_, List.mem_cons_self, h ▸ k⟩
    · obtain ⟨b, h1, h2⟩ := t.left h
      exact ⟨b, List.mem_cons_of_mem _ h1, h2⟩
theorem AllR.right {α β : Type} {R : α → β → Prop} {b : β} : ∀ {as : List α} {bs : List β}, AllR R as bs → b ∈ bs → ∃ a ∈ as, R a b
  | _, _, .cons k t, h => by
    rcases List.mem_cons.mp h with h | h
    · exact ⟨_, List.mem_cons_self, h ▸ k⟩
    · obtain ⟨b, h1, h2⟩ := t.right h
      exact ⟨b, List.mem_cons_of_mem _ h1, h2⟩
theorem AllR.length {α β : Type} {R : α → β → Prop} : ∀ {as : List α} {bs : List β}, AllR R as bs → bs.length = as.length
  | _, _, .nil => rfl
  | _, _, .cons _ t => by rw [List.length_cons, List.length_cons, t.length]
/-- [e(x) for x in xs], e by a relation -/
theorem lcRel {P : Mu → Prop} {gd : TGd} {ut : TTD} {ue : TD} {vs : List Nat} {δ : Sl} {m : Mu} {Q : QD} {α β : Type} (f : α → D) (xs : List α) (R : α → β → Prop) (e : β → D) (hP : P m) (hl : xs.length ≤ sizeLine)
    (turn : ∀ x ∈ xs, ∀ (Ny : D → Mu → Prop) (Nn : Mu → Prop), (∀ b, R x b → Ny (e b) m) → gd (f x) (wipeD δ vs) m fun δ2 m2 => ut δ2 m2 fun b m3 => if b = true then ue δ2 m3 Ny else Nn m3)
    (k : ∀ bs, AllR R xs bs → Q (.lst (bs.map e)) m) : LcD (xs.map f) P gd ut ue vs δ m Q := by
  refine ⟨fun i acc m' => m' = m ∧ ∃ bs, AllR R (xs.take i) bs ∧ acc = bs.map e, ⟨rfl, [], by simpa using AllR.nil, rfl⟩, fun i acc m' h => by rw [h.1]; exact hP, fun i d acc m' hd h => ?_, fun acc m' h => ?_⟩
  · obtain ⟨rfl, bs, hb, rfl⟩ := h
    rw [List.getElem?_map] at hd
    cases e1 : xs[i]? with
    | none =>
      rw [e1] at hd
      cases hd
    | some x =>
      rw [e1] at hd
      cases hd
      refine turn x (List.mem_of_getElem? e1) _ _ fun b rb => ⟨?_, rfl, bs ++ [b], ?_, ?_⟩
      · have hi := (List.getElem?_eq_some_iff.mp e1).1
        have := hb.length
        rw [List.length_take] at this
        rw [List.length_map]
        omega
      · rw [take_next e1]
        exact hb.snoc rb
      · rw [List.map_append]
        rfl
  · obtain ⟨rfl, bs, hb, rfl⟩ := h
    rw [List.length_map, List.take_length] at hb
    exact k bs hb
end L3
/-! A dict comprehension whose dict is changed later. -/
namespace L3
open PySem PySem.Spec PyProof.Rows L2
@[irreducible] def mDcM (wi : TI) (g : TG) (tt : TT) (tk tv : TE) (vs : List Nat) : TE := tDc wi g tt tk tv vs
section
variable {X : Cx}
theorem pe_dcM {kx vx tg iter : Expr} {ifs : List Expr} {scope : Scope} {own : List (Str × Nat)} {pos : Pos} {wi : TI} {g : TG} {tt : TT} {tk tv : TE} (hc : X.calm = true) (hN : X.N.Nodup) (hi : PI X tg iter wi) (ok : BlkOk X.N X.env.scope scope own)
    (hg : ∀ (s0 : Shared) (H : Hp) (C : Addr) (cl : List (Str × Addr)) (fp : List Addr), PG (X.blk s0 H scope (compEnvC scope cl C X.env) fp) tg g) (ht : ∀ (s0 : Shared) (H : Hp) (C : Addr) (cl : List (Str × Addr)) (fp : List Addr), PTs (X.blk s0 H scope (compEnvC scope cl C X.env) fp) ifs tt)
    (hk : ∀ (s0 : Shared) (H : Hp) (C : Addr) (cl : List (Str × Addr)) (fp : List Addr), PE (X.blk s0 H scope (compEnvC scope cl C X.env) fp) kx tk)
    (he : ∀ (s0 : Shared) (H : Hp) (C : Addr) (cl : List (Str × Addr)) (fp : List Addr), PE (X.blk s0 H scope (compEnvC scope cl C X.env) fp) vx tv) (hs : ∀ x, foldedSetIterable iter X.env x = pure x := by intro _; rfl) :
    PE X (.DictComp kx vx [⟨tg, iter, ifs, 0⟩] scope pos) (mDcM wi g tt tk tv (own.map (·.2))) := by
  unfold mDcM
  exact pe_dc hc hN hi ok hg ht hk he hs
end
def DcLoopM (ds : List D) (P : Mu → Prop) (gd : TGd) (ut : TTD) (uk uv : TD) (vs : List Nat) (δ : Sl) (m1 : Mu) (Q : QD) : Prop := ∃ W : Nat → List (Key × D) → Mu → Prop, W 0 [] m1 ∧ (∀ i acc m', W i acc m' → P m') ∧
  (∀ i d acc m', ds[i]? = some d → W i acc m' → gd d (wipeD δ vs) m' fun δ2 m2 => ut δ2 m2 fun b m3 => if b = true then uk δ2 m3 fun x m4 => uv δ2 m4 fun y m5 => ∃ k, x = kD k ∧ acc.length < sizeLine ∧ W (i + 1) (setD acc k y) m5 else W (i + 1) acc m3) ∧
  ∀ acc m' a, W ds.length acc m' → m'.c a = none → Q (.ref a) (m'.set a (.dK acc))
def dDcM (ui : TId) (gd : TGd) (ut : TTD) (uk uv : TD) (vs : List Nat) : TD := fun δ m Q => ui δ m fun ds P m1 => DcLoopM ds P gd ut uk uv vs δ m1 Q
section
variable {K : Fg} {g : TG} {gd : TGd} {ws vs : List Nat} {tt : TT} {ut : TTD} {te tk : TE} {ue uk : TD} {J : It} {ds : List D} {B1 H1 B H : Hp} {m1 m : Mu} {P : Mu → Prop} {σ : L2.St} {δ : Sl} {Q : QD} {R : VK}
theorem okClaim (x : Ok K B H m) {p : Addr} {c : MO} (hb : B p = none) (hc : RepM K B H p c) : Ok K B H (m.set p c) where
  ex := x.ex
  cl := fun a u e => by
    by_cases h : a = p
    · subst h
      rw [Mu.set_same] at e
      cases e
      exact ⟨hb, hc⟩
    · rw [Mu.set_ne h] at e
      exact x.cl a u e
  nf := x.nf
theorem trClaim (t : Tr B1 H1 m1 B H m) {p : Addr} {c : MO} (hp : H1 p = none) : Tr B1 H1 m1 B H (m.set p c) where
  b := t.b
  h := t.h
  n := t.n
  m := fun a u e q => by
    rw [Mu.set_ne (ne_of_none e hp)]
    exact t.m a u e q
theorem sim_dcM {wi : TI} {ui : TId} (si : SimI K wi ui) (sg : SimG K g gd ws) (st : SimT K tt ut) (sk : Sim K tk uk) (se : Sim K te ue) (hw : (ws.all fun i => decide (i ∈ vs)) = true) : Sim K (mDcM wi g tt tk te vs) (dDcM ui gd ut uk ue vs) := by
  unfold mDcM
  exact fun σ H B δ m Q R ok rs h k => by
    have hw' : ∀ i ∈ ws, i ∈ vs := fun i hi => of_decide_eq_true (List.all_eq_true.mp hw i hi)
    refine si σ H B δ m _ _ ok rs h fun J ds P H1 B1 m1 o1 tr1 it p q => ?_
    intro Dl hD
    obtain ⟨W, w0, wp, turn, fin⟩ := q
    refine ⟨fun i n H => n = ds.length - i ∧ i ≤ ds.length ∧ ∃ acc B m, AccK K B1 H1 m1 Dl acc B H m ∧ W i acc m, ⟨_, rfl, Nat.zero_le _, [], B1, m1, ⟨o1.junk (o1.bfree hD) (o1.cfree hD), Tr.refl.junk hD, ⟨[], upd_same, .nil⟩, o1.bfree hD, o1.cfree hD⟩, w0⟩, ?_⟩
    rintro i n H ⟨rfl, hi, acc, B, m, A, w⟩
    by_cases hlt : i < ds.length
    · obtain ⟨d, hd⟩ : ∃ d, ds[i]? = some d := ⟨ds[i], List.getElem?_eq_getElem hlt⟩
      obtain ⟨go, yl⟩ := it.step B H m A.ok A.tr.b (wp _ _ _ w) i d hd
      refine .inr ⟨go, fun H' => ∃ acc B m, AccK K B1 H1 m1 Dl acc B H' m ∧ W (i + 1) acc m, fun H' hx => ⟨_, Nat.sub_lt_sub_left hlt (Nat.lt_succ_self i), rfl, hlt, hx⟩, fun x H2 hy => ?_⟩
      obtain ⟨B2, o2, t2, rx⟩ := yl x H2 hy
      have A2 := A.step o2 t2
      refine sg x d _ H2 B2 _ m _ _ o2 (((rs.mono tr1.le).mono A2.tr.le).wipe vs) rx (turn i d acc m hd w) fun σ3 δ3 H3 B3 m3 o3 t3 rs3 hw3 q3 => ?_
      have A3 := A2.step o3 t3
      refine ⟨(hw3 vs hw').trans (wipe_wipe σ vs), ?_⟩
      refine st σ3 H3 B3 δ3 m3 _ _ o3 rs3 q3 fun b H4 B4 m4 o4 t4 q4 => ?_
      have A4 := A3.step o4 t4
      cases b with
      | false =>
        rw [if_neg Bool.false_ne_true] at q4 ⊢
        exact ⟨acc, B4, m4, A4, q4⟩
      | true =>
        rw [if_pos rfl] at q4 ⊢
        refine sk σ3 H4 B4 δ3 m4 _ _ o4 (rs3.mono t4.le) q4 fun kv kd H5 B5 m5 o5 t5 rk q5 => ?_
        refine se σ3 H5 B5 δ3 m5 _ _ o5 ((rs3.mono t4.le).mono t5.le) q5 fun v dv H6 B6 m6 o6 t6 rv q6 => ?_
        obtain ⟨key, rfl, hz, q6⟩ := q6
        have A6 := (A4.step o5 t5).step o6 t6
        obtain ⟨us, e, r⟩ := A6.at_
        exact ⟨us, key, kdV rk, e, by rw [r.length]; exact hz, _, B6, m6, ⟨A6.ok.junk A6.b A6.c, A6.tr.junk hD, ⟨_, upd_same, r.put rv⟩, A6.b, A6.c⟩, q6⟩
    · have e : i = ds.length := by omega
      subst e
      obtain ⟨us, e, r⟩ := A.at_
      refine .inl ⟨it.stop B H m A.ok A.tr.b (wp _ _ _ w) _ (Nat.le_refl _), ?_⟩
      exact k _ _ _ _ _ (okClaim A.ok (c := .dK acc) A.b ⟨us, e, r⟩) (tr1.trans (trClaim A.tr hD)) (.ref Dl) (fin acc m Dl w A.c)
end
section
variable {P : Mu → Prop} {gd : TGd} {ut : TTD} {uk uv : TD} {vs : List Nat} {δ : Sl} {m : Mu} {Q : QD} {α : Type}
theorem dcMM (f : α → D) (xs : List α) (k : α → Key) (v : α → D) (hP : P m) (hl : xs.length ≤ sizeLine) (nd : (xs.map k).Nodup)
    (turn : ∀ x ∈ xs, ∀ (N : D → D → Mu → Prop) (Nn : Mu → Prop), N (kD (k x)) (v x) m → gd (f x) (wipeD δ vs) m fun δ2 m2 => ut δ2 m2 fun b m3 => if b = true then uk δ2 m3 fun a m4 => uv δ2 m4 fun c m5 => N a c m5 else Nn m3)
    (q : ∀ a, m.c a = none → Q (.ref a) (m.set a (.dK (xs.map fun x => (k x, v x))))) : DcLoopM (xs.map f) P gd ut uk uv vs δ m Q := by
  obtain ⟨W, w0, wp, st, fin⟩ := dcM (P := P) (gd := gd) (ut := ut) (uk := uk) (uv := uv) (vs := vs) (δ := δ) (Q := fun d m' => ∃ acc, d = .dic acc ∧ m' = m ∧ acc = xs.map fun x => (k x, v x)) f xs k v hP hl nd turn ⟨_, rfl, rfl, rfl⟩
  refine ⟨W, w0, wp, st, fun acc m' a h ha => ?_⟩
  obtain ⟨acc2, e1, rfl, e2⟩ := fin acc m' h
  have e1 : acc = acc2 := by
    cases e1
    rfl
  rw [e1, e2]
  exact q a ha
end
end L3
namespace L3
theorem getD_setD {κ : Type} [DecidableEq κ] {kds : List (κ × D)} {k k' : κ} {v : D} : getD (setD kds k v) k' = if k' = k then some v else getD kds k' := by
  unfold setD
  by_cases h : (kds.any fun kv => decide (kv.1 = k)) = true
  · rw [if_pos h]
    have key : ∀ l : List (κ × D), (∃ kv ∈ l, kv.1 = k) ∨ k' ≠ k → getD (l.map fun kv => if kv.1 = k then (kv.1, v) else kv) k' = if k' = k then some v else getD l k' := fun l => by
      induction l with
      | nil =>
        intro h
        rcases h with ⟨_, h, _⟩ | h
        · cases h
        · rw [if_neg h]
          rfl
      | cons x l ih =>
        intro h
        unfold getD at ih ⊢
        rw [List.map_cons, List.find?_cons, List.find?_cons]
        by_cases e : x.1 = k
        · rw [if_pos e]
          by_cases e2 : k' = k
          · rw [decide_eq_true (show (x.1, v).1 = k' from e.trans e2.symm), if_pos e2]
            rfl
          · rw [decide_eq_false (fun z : x.1 = k' => e2 (z.symm.trans e))]
            exact ih (.inr e2)
        · rw [if_neg e]
          by_cases e2 : x.1 = k'
          · rw [decide_eq_true e2, if_neg (fun z => e (e2.trans z))]
          · rw [decide_eq_false e2]
            refine ih ?_
            rcases h with ⟨kv, h1, h2⟩ | h
            · rcases List.mem_cons.mp h1 with h1 | h1
              · exact absurd (h1 ▸ h2) e
              · exact .inl ⟨kv, h1, h2⟩
            · exact .inr h
    obtain ⟨kv, h1, h2⟩ := List.any_eq_true.mp h
    exact key kds (.inl ⟨kv, h1, of_decide_eq_true h2⟩)
  · rw [if_neg h]
    unfold getD
    rw [List.find?_append]
    by_cases e : k' = k
    · subst e
      have : kds.find? (fun kv => decide (kv.1 = k')) = none := by
        rw [List.find?_eq_none]
        exact fun x hx he => h (List.any_eq_true.mpr ⟨x, hx, he⟩)
      rw [this, if_pos rfl]
      simp
    · rw [if_neg e]
      have : [(k, v)].find? (fun kv => decide (kv.1 = k')) = none := by
        rw [List.find?_cons, decide_eq_false (fun z => e z.symm)]
        rfl
      rw [this, Option.or_none]
theorem setD_len {κ : Type} [DecidableEq κ] {kds : List (κ × D)} {k : κ} {v : D} : (setD kds k v).length ≤ kds.length + 1 := by
  unfold setD
  by_cases h : (kds.any fun kv => decide (kv.1 = k)) = true
  · rw [if_pos h, List.length_map]
    omega
  · rw [if_neg h, List.length_append, List.length_singleton]
    exact Nat.le_refl _
end L3
namespace L3
open PySem PySem.Spec PyProof.Rows L2
def dPar (i j : Nat) (u : TAD) : TSD := fun E δ m => u δ m fun ds m1 => ∃ x y, ds = [x, y] ∧ E.nx ((δ.set i (some x)).set j (some y)) m1
theorem sim_par {K : Fg} {Wx : Hp → Prop} {i j : Nat} {ta : TA} {ua : TAD} (s : SimA K ta ua) : SimS K Wx (tPar i j ta) (dPar i j ua) := fun σ H B δ m E De ok rs h k1 k2 k3 k4 k5 => by
  refine s σ H B δ m _ _ ok rs h fun vs ds H1 B1 m1 o1 tr1 r q => ?_
  obtain ⟨x, y, rfl, q⟩ := q
  obtain ⟨v, w, rfl, r1, r2⟩ := reps2 r
  exact ⟨v, w, rfl, k1 _ _ H1 B1 m1 o1 tr1 (((rs.mono tr1.le).set r1).set r2) q⟩
theorem rngD_zero (n : Nat) : rngD 0 n = (List.range n).map fun (i : Nat) => D.int (i : Nat) := rngD_map n
end L3
namespace L3
open PySem PySem.Spec PyProof.Rows L2
@[irreducible] def mCat2 : R2 := rCat
@[irreducible] def mCatM : R2 := rCat
theorem op_cat2 {X : Cx} : OpR X (binaryOp .Add) mCat2 := by
  unfold mCat2
  exact op_cat
theorem op_catM {X : Cx} : OpR X (binaryOp .Add) mCatM := by
  unfold mCatM
  exact op_cat
def LwD (m : Mu) (d : D) (ds : List D) : Prop := d = .lst ds ∨ ∃ a, d = .ref a ∧ m.c a = some (.lst ds)
theorem lwd {K : Fg} {B H : Hp} {m : Mu} {v : V} {d : D} {ds : List D} (ok : Ok K B H m) (r : Rep K B v d) (h : LwD m d ds) : ∃ a vs, v = .ref a ∧ H a = some (.lst vs) ∧ Reps K B vs ds := by
  rcases h with rfl | ⟨a, rfl, h⟩
  · cases r with
    | lst h r => exact ⟨_, _, rfl, ok.ex _ _ h, r⟩
  · cases r
    obtain ⟨_, vs, e, r⟩ := ok.cl _ _ h
    exact ⟨a, vs, rfl, e, r⟩
def dCat2 : R2D := fun x y m Q => ∃ ds es, LwD m x ds ∧ LwD m y es ∧ ds.length + es.length ≤ sizeLine ∧ Q (.lst (ds ++ es)) m
def dCatM : R2D := fun x y m Q => ∃ ds es, LwD m x ds ∧ LwD m y es ∧ ds.length + es.length ≤ sizeLine ∧ ∀ a, m.c a = none → Q (.ref a) (m.set a (.lst (ds ++ es)))
theorem Reps.app {K : Fg} {B : Hp} {es : List D} {ws : List V} (r2 : Reps K B ws es) : ∀ {vs : List V} {ds : List D}, Reps K B vs ds → Reps K B (vs ++ ws) (ds ++ es)
  | _, _, .nil => r2
  | _, _, .cons h r => .cons h (Reps.app r2 r)
theorem os_cat2 {K : Fg} : OpS K mCat2 dCat2 := by
  unfold mCat2
  exact fun x y dx dy H B m Q R ok rx ry h k => by
    obtain ⟨ds, es, hx, hy, z, q⟩ := h
    obtain ⟨a, vs, rfl, ha, ra⟩ := lwd ok rx hx
    obtain ⟨b, ws, rfl, hb, rb⟩ := lwd ok ry hy
    refine ⟨a, b, vs, ws, rfl, rfl, ha, hb, by rw [ra.length, rb.length]; exact z, fun p hp => ?_⟩
    exact KD.new k ok hp (fun _ _ z => by cases z) (.lst upd_same ((rb.app ra).mono (leNew (ok.bfree hp)))) q
theorem os_catM {K : Fg} : OpS K mCatM dCatM := by
  unfold mCatM
  exact fun x y dx dy H B m Q R ok rx ry h k => by
    obtain ⟨ds, es, hx, hy, z, q⟩ := h
    obtain ⟨a, vs, rfl, ha, ra⟩ := lwd ok rx hx
    obtain ⟨b, ws, rfl, hb, rb⟩ := lwd ok ry hy
    refine ⟨a, b, vs, ws, rfl, rfl, ha, hb, by rw [ra.length, rb.length]; exact z, fun p hp => ?_⟩
    exact k _ _ _ _ _ (ok.allocM (c := .lst (ds ++ es)) hp ⟨_, upd_same, rb.app ra⟩) (ok.allocMT hp) (.ref p) (q p (ok.cfree hp))
end L3
/-! Defs that may raise one class; try .. except of it. -/
namespace L3
open PySem PySem.Spec PyProof.Rows L2
/-- a promise of a def that may raise C() -/
abbrev SX := List D → Mu → (D → Prop) → Prop → Prop
def spX (K : Fg) (C : Addr) (S : SX) : Sp := fun vs H Q E => ∃ ds B m Qd Er, Ok K B H m ∧ m.fz = [] ∧ Reps K B vs ds ∧ S ds m Qd Er ∧ (∀ v d H' B', Ok K B' H' m → Tr B H m B' H' m → Rep K B' v d → Qd d → Q v H') ∧
  ∀ H' B', Ok K B' H' m → Tr B H m B' H' m → Er → E (.ref C) none H'
section
variable {P : Program} {w : World} {K : Fg} {mg : Str → Option Value} {base : Heap} {x qual : Str} {params : Arguments} {body : List Stmt} {scope : Scope} {dvs : List V} {kws : List (Str × V)} {f : Addr} {fd : FuncData} {N ps : List Str} {k : Nat}
theorem okX {C : Addr} {S : SX} (F : FunD K x qual params body scope dvs kws f fd) (sc : FnScope N ps scope) (hlen : ∀ ds m Qd Er, S ds m Qd Er → ds.length = ps.length)
    (h : ∀ (cdv : Value) (A : Around) (outer : List Env) (s0 : Shared) (H : Hp) (E : XK), Room k (A.deeper (envOfC qual scope s0.heap.objs.size f cdv)) →
      ∃ t u, PSs (cxOf (L2.CX P w) P w K mg base N qual scope f cdv A outer s0 H E) body t ∧ SimS K (fun H' => E (.ref C) none H') t u ∧
        ∀ ds m Qd Er, m.fz = [] → S ds m Qd Er → u { nx := fun _ m' => Sub m m' ∧ Qd .non, rt := fun d m' => Sub m m' ∧ Qd d, rs := fun m' => Sub m m' ∧ Er } (startD N ds) m) : FnOk P w K mg base (L2.CX P w) (k + 1) f fd ps (spX K C S) := by
  refine F.ok sc (fun vs H Q E q => ?_) fun cdv A outer s0 H vs Q E hr q => ?_
  · obtain ⟨ds, B, m, Qd, Er, ok, z, r, q, _⟩ := q
    rw [r.length]
    exact hlen _ _ _ _ q
  · obtain ⟨ds, B, m, Qd, Er, ok, z, r, q, kk, ke⟩ := q
    obtain ⟨t, u, hp, hs, hu⟩ := h cdv A outer s0 H E hr
    refine ⟨t, hp, hs _ H B _ m _ _ ok (relS_start r) (hu ds m Qd Er z q) (fun σ' δ' H' B' m' o' t' rs' q' => ?_) (fun v d H' B' m' o' t' r' q' => ?_) (fun _ _ _ _ _ _ _ _ q => q.elim) (fun _ _ _ _ _ _ _ _ q => q.elim) (fun H' B' m' o' t' q' => ?_)⟩
    · exact kk .non .non H' B' (o'.forget q'.1) (t'.forget q'.1) .non q'.2
    · exact kk v d H' B' (o'.forget q'.1) (t'.forget q'.1) r' q'.2
    · exact ke H' B' (o'.forget q'.1) (t'.forget q'.1) q'.2
end
section
variable {K : Fg}
/-- x = f(..), f may raise -/
def dAsgX (S : SX) (u : TAD) (g : TGd) : TSD := fun E δ m => u δ m fun ds m1 => m1.fz = [] ∧ S ds m1 (fun d => g d δ m1 E.nx) (E.rs m1)
theorem sim_asgX {C : Addr} {S : SX} {Wx : Hp → Prop} {W : WX} {ta : TA} {ua : TAD} {g : TG} {gd : TGd} {ws : List Nat} (hW : ∀ σ H, Wx H → W (.ref C) none σ H) (s : SimA K ta ua) (sg : SimG K g gd ws) : SimS K Wx (tAsg (tCallS (spX K C S) (WE W) ta) g) (dAsgX S ua gd) := fun σ H B δ m E De ok rs h k1 k2 k3 k4 k5 => by
  refine s σ H B δ m _ _ ok rs h fun vs ds H1 B1 m1 o1 tr1 r q => ?_
  obtain ⟨hz, q⟩ := q
  refine ⟨ds, B1, m1, _, _, o1, hz, r, q, fun v d H2 B2 o2 tr2 r2 q2 => ?_, fun H2 B2 o2 tr2 q2 => ?_⟩
  · exact sg v d σ H2 B2 δ m1 _ _ o2 ((rs.mono tr1.le).mono tr2.le) r2 q2 fun σ3 δ3 H3 B3 m3 o3 tr3 rs3 _ q3 => k1 σ3 δ3 H3 B3 m3 o3 ((tr1.trans tr2).trans tr3) rs3 q3
  · exact hW σ H2 (k5 H2 B2 m1 o2 (tr1.trans tr2) q2)
/-- return f(..) if c else e, f may raise -/
def dRetIfX (t : TTD) (S : SX) (u : TAD) (w : TD) : TSD := fun E δ m => t δ m fun b m1 => if b = true then u δ m1 fun ds m2 => m2.fz = [] ∧ S ds m2 (fun d => E.rt d m2) (E.rs m2) else w δ m1 E.rt
theorem sim_retIfX {C : Addr} {S : SX} {Wx : Hp → Prop} {W : WX} {tt : TT} {ut : TTD} {ta : TA} {ua : TAD} {te : TE} {ue : TD} (hW : ∀ σ H, Wx H → W (.ref C) none σ H) (st : SimT K tt ut) (s : SimA K ta ua) (se : Sim K te ue) :
    SimS K Wx (tRet (tIf tt (tCallS (spX K C S) (WE W) ta) te)) (dRetIfX ut S ua ue) := fun σ H B δ m E De ok rs h k1 k2 k3 k4 k5 => by
  refine st σ H B δ m _ _ ok rs h fun b H1 B1 m1 o1 tr1 q => ?_
  cases b with
  | true =>
    rw [if_pos rfl] at q ⊢
    refine s σ H1 B1 δ m1 _ _ o1 (rs.mono tr1.le) q fun vs ds H2 B2 m2 o2 tr2 r q => ?_
    obtain ⟨hz, q⟩ := q
    refine ⟨ds, B2, m2, _, _, o2, hz, r, q, fun v d H3 B3 o3 tr3 r3 q3 => ?_, fun H3 B3 o3 tr3 q3 => ?_⟩
    · exact k2 v d H3 B3 m2 o3 ((tr1.trans tr2).trans tr3) r3 q3
    · exact hW σ H3 (k5 H3 B3 m2 o3 ((tr1.trans tr2).trans tr3) q3)
  | false =>
    rw [if_neg Bool.false_ne_true] at q ⊢
    exact se σ H1 B1 δ m1 _ _ o1 (rs.mono tr1.le) q fun v d H2 B2 m2 o2 tr2 r2 q2 => k2 v d H2 B2 m2 o2 (tr1.trans tr2) r2 q2
/-- try: .. except C: return None -/
def dTryN (u : TSD) : TSD := fun E δ m => u { E with rs := fun m' => E.rt .non m' } δ m
theorem sim_tryN {C : Addr} {Wx : Hp → Prop} {tb : WX → TS} {ub : TSD} (ex : PySem.W.exmOne K (.ref C) (.ref C) = some true)
    (s : ∀ (W : WX) (Wy : Hp → Prop), (∀ σ H, Wy H → W (.ref C) none σ H) → SimS K Wy (tb W) ub) :
    SimS K Wx (fun D σ H => tb (wOnly K (.ref C) (fun _ _ _ => tRet (tC .non)) (fun _ _ _ _ => False) D) D σ H) (dTryN ub) := fun σ H B δ m E De ok rs h k1 k2 k3 k4 k5 => by
  refine s _ (fun H' => De.rt .non H') (fun σ' H' hw => ⟨true, ex, fun _ a _ => hw, fun q => Bool.noConfusion q⟩) σ H B δ m _ De ok rs h k1 k2 k3 k4 fun H' B' m' o' tr' q' => ?_
  exact k2 .non .non H' B' m' o' tr' .non q'
/-- what is never asked -/
def tNev : TE := fun _ _ _ => False
def dNev : TD := fun _ _ _ => False
theorem pe_nev {X : Cx} {e : Expr} : PE X e tNev := ⟨fun _ _ _ _ _ _ h => h.elim⟩
theorem sim_nev : Sim K tNev dNev := fun _ _ _ _ _ _ _ _ _ h _ => h.elim
/-- f(..), f raises nothing here -/
def dCallN (S : SX) (u : TAD) : TD := fun δ m Q => u δ m fun ds m1 => m1.fz = [] ∧ S ds m1 (fun d => Q d m1) False
theorem sim_callN {C : Addr} {S : SX} {ta : TA} {ua : TAD} (s : SimA K ta ua) : Sim K (tCall (spX K C S) [] L2.E0 ta) (dCallN S ua) := fun σ H B δ m Q R ok rs h k => by
  refine s σ H B δ m _ _ ok rs h fun vs ds H1 B1 m1 o1 tr1 r q => ?_
  obtain ⟨hz, q⟩ := q
  show spX K C S (vs ++ []) H1 R L2.E0
  rw [List.append_nil]
  exact ⟨ds, B1, m1, _, False, o1, hz, r, q, fun v d H2 B2 o2 tr2 r2 q2 => k v d H2 B2 m1 o2 (tr1.trans tr2) r2 q2, fun _ _ _ _ z => z.elim⟩
end
section
variable (P : Program) (w : World) (K : Fg) (mg : Str → Option Value) (base : Heap)
def CalX (k : Nat) (x : Str) (ps : List Str) (sp : Sp) : Prop := ∃ f fd, FnOk P w K mg base (L2.CX P w) k f fd ps sp ∧ mg x = some (.ref f) ∧ PySem.W.keepIn K (.ref f) = true ∧ Binds K fd ps []
end
section
variable {X : Cx} {k j : Nat} {x : Str} {ps : List Str} {sp : Sp} {C : Addr} {e : Expr} {es : List Expr} {p pos : Pos} {t : TA}
theorem pe_calX {W : WX} (h : CalX X.prog X.w X.K X.mg X.base k x ps sp) (hr : Room j X.A) (hj : k ≤ j) (hg : Gl X x) (tk : Takes X W) (ha : PA X (e :: es) t) (hdb : (x == ("__debug__" : Str)) = false := by decide)
    (he : starEach (e :: es) X.env = (false, eval e X.env) :: starEach es X.env := by rfl) (hpl : (backTo pos (starEach es X.env)).any (·.1) = false := by rfl) : PE X (.Call (.Name x p) (e :: es) [] pos) (tCallS sp (WE W) t) := by
  obtain ⟨f, fd, F, gm, kp, b⟩ := h
  exact pe_callS F (hr.mono hj) hg gm kp b (fun σ => passAt tk σ) ha hdb he hpl
theorem pe_calN (h : CalX X.prog X.w X.K X.mg X.base k x ps sp) (hr : Room j X.A) (hj : k ≤ j) (hg : Gl X x) (ha : PA X (e :: es) t) (hdb : (x == ("__debug__" : Str)) = false := by decide)
    (he : starEach (e :: es) X.env = (false, eval e X.env) :: starEach es X.env := by rfl) (hpl : (backTo pos (starEach es X.env)).any (·.1) = false := by rfl) : PE X (.Call (.Name x p) (e :: es) [] pos) (tCall sp [] L2.E0 t) := by
  obtain ⟨f, fd, F, gm, kp, b⟩ := h
  exact pe_call F (hr.mono hj) hg gm kp b .nil passL ha hdb he hpl
end
end L3
namespace L3
open PySem PySem.Spec PyProof.Rows L2
theorem sim_raiseE {K : Fg} {Wx : Hp → Prop} {t : TS} (h : ∀ D σ H, Wx H → t D σ H) : SimS K Wx t dRaise := fun σ H B δ m E De ok rs q k1 k2 k3 k4 k5 => h De σ H (k5 H B m ok Tr.refl q)
end L3
namespace L3
open PySem PySem.Spec PyProof.Rows L2
@[irreducible] def mTryN (K : Fg) (C : Addr) (tb : WX → TS) : TS := fun D σ H => tb (wOnly K (.ref C) (fun _ _ _ => tRet (tC .non)) (fun _ _ _ _ => False) D) D σ H
theorem ps_tryN {X : Cx} {x : Str} {C : Addr} {body : List Stmt} {b₀ : Stmt} {suite : List Stmt} {np pos pos' : Pos} {tb : WX → TS} (hs : X.stack = X.env :: X.outer) (hf : X.env.frame = some X.env.locals) (hc : Names X x (.ref C))
    (hb : ∀ (W : WX) (pn : List (Addr × Obj)) (xe : Value → Shared → Prop), Takes (X.tr pn xe) W → PassesOwn (model X.prog X.w) X.A X.env xe → PSs (X.tr pn xe) body (tb W))
    (hsu : ∀ (a : Addr) (oe : Obj) (pn : List (Addr × Obj)), PSs (X.suite a ((a, oe) :: pn)) (b₀ :: suite) (tRet (tC .non))) :
    PS X (.Try body [.ExceptHandler (some (.Name x np)) none (b₀ :: suite) pos'] [] [] pos) (mTryN X.K C tb) := by
  unfold mTryN
  exact ps_try_only hs hf hc L2.takes0 hb fun a oe cls d pn _ _ => hsu a oe pn
theorem sim_mTryN {K : Fg} {C : Addr} {Wx : Hp → Prop} {tb : WX → TS} {ub : TSD} (ex : PySem.W.exmOne K (.ref C) (.ref C) = some true)
    (s : ∀ (W : WX) (Wy : Hp → Prop), (∀ σ H, Wy H → W (.ref C) none σ H) → SimS K Wy (tb W) ub) : SimS K Wx (mTryN K C tb) (dTryN ub) := by
  unfold mTryN
  exact sim_tryN ex s
end L3
/-! A slice that is changed later. -/
namespace L3
open PySem PySem.Spec PyProof.Rows L2
@[irreducible] def mSlLM (K : Fg) : V → Option Int → Option Int → Hp → VK → Prop := rSlL K
theorem kSlLM {X : Cx} {K : Fg} (hk : X.K = K) : SlR X (mSlLM K) := by
  unfold mSlLM
  exact hk ▸ sl_list
def dSlLM (u : TD) (l h : TOD) : TD := fun δ m Q => u δ m fun x m1 => l δ m1 fun lo m2 => h δ m2 fun hi m3 => ∃ ds, LsD m3 x ds ∧ ∀ a, m3.c a = none → Q (.ref a) (m3.set a (.lst (cutD ds lo hi)))
theorem sim_slLM {K : Fg} {te : TE} {ue : TD} {tl th : TO} {ul uh : TOD} (s : Sim K te ue) (sl : SimO K tl ul) (sh : SimO K th uh) : Sim K (tSl (mSlLM K) te tl th) (dSlLM ue ul uh) := by
  unfold mSlLM
  exact fun σ H B δ m Q R ok rs h k => by
    refine s σ H B δ m _ _ ok rs h fun v d H1 B1 m1 o1 tr1 r q => ?_
    refine sl σ H1 B1 δ m1 _ _ o1 (rs.mono tr1.le) q fun lo H2 B2 m2 o2 tr2 q => ?_
    refine sh σ H2 B2 δ m2 _ _ o2 ((rs.mono tr1.le).mono tr2.le) q fun hi H3 B3 m3 o3 tr3 q => ?_
    obtain ⟨ds, hs, q⟩ := q
    obtain ⟨a, vs, rfl, hq, rr⟩ := lsd o3 ((r.mono tr2.le).mono tr3.le) hs
    refine ⟨a, vs, rfl, hq, fun p hp => ?_⟩
    exact k _ _ _ _ _ (o3.allocM (c := .lst (cutD ds lo hi)) hp ⟨_, upd_same, cut_rep rr⟩) (((tr1.trans tr2).trans tr3).trans (o3.allocMT hp)) (.ref p) (q p (o3.cfree hp))
end L3
/-! The text's places, the facts of the top, the data of logs. -/
namespace RB
open PySem PySem.Spec PyProof.Rows L2 L3
abbrev FnP (K : Fg) (x q : Str) (st : Stmt) (f : Addr) (fd : FuncData) : Prop := FunD K x q (defArgs st) (defBody st) (defScope st) [] [] f fd
/-- what the top has left -/
structure Txt (K : Fg) (mg : Str → Option Value) (CL CD CS CU GS : Addr) : Prop where
  n_len : mg "len" = none
  n_all : mg "all" = none
  n_any : mg "any" = none
  n_sum : mg "sum" = none
  n_abs : mg "abs" = none
  n_max : mg "max" = none
  n_min : mg "min" = none
  n_int : mg "int" = none
  n_str : mg "str" = none
  n_set : mg "set" = none
  n_list : mg "list" = none
  n_dict : mg "dict" = none
  n_range : mg "range" = none
  n_enumerate : mg "enumerate" = none
  n_sorted : mg "sorted" = none
  n_isinstance : mg "isinstance" = none
  sLETTERS : ∃ t, mg "LETTERS" = some (.str "abcdefghijklmnopqrstuvwxyz0123456789" t)
  sDIGITS : ∃ t, mg "DIGITS" = some (.str "0123456789" t)
  sRISES : ∃ t, mg "RISES" = some (.str "rises" t)
  sFALLS : ∃ t, mg "FALLS" = some (.str "falls" t)
  sSTAYS : ∃ t, mg "STAYS" = some (.str "stays" t)
  sANSWER : ∃ t, mg "ANSWER" = some (.str "answer" t)
  sRESET : ∃ t, mg "RESET" = some (.str "reset" t)
  iMOST_ITEMS : ∃ t, mg "MOST_ITEMS" = some (.int 20 t)
  iMOST_JUDGES : ∃ t, mg "MOST_JUDGES" = some (.int 8 t)
  iMOST_EVENTS : ∃ t, mg "MOST_EVENTS" = some (.int 120 t)
  iMOST_GRADE : ∃ t, mg "MOST_GRADE" = some (.int 9 t)
  gSORTS : mg "SORTS" = some (.ref GS)
  vSORTS : ∀ H, SqL K H GS ((["item", "grades", "judge", "event"] : List Str).map V.str)
  cLog : Cls K CL
  cDesk : Cls K CD
  cSession : Cls K CS
  a_items : NoAttr K CL "_items"
  a_grades : NoAttr K CL "_grades"
  a_judges : NoAttr K CL "_judges"
  a_events : NoAttr K CL "_events"
  a_state : NoAttr K CD "state"
  a_past : NoAttr K CD "past"
  a_future : NoAttr K CD "future"
  a_known : NoAttr K CD "known"
  a_desk : NoAttr K CS "desk"

/-! ### the data -/
inductive Ev where
  | ans (j i : Str) (g : Int)
  | rst (j : Str)
  deriving DecidableEq
structure LogD where
  items : List Str
  grades : Int
  judges : List (Str × Str)
  events : List Ev
def evD : Ev → D
  | .ans j i g => .tup [.str "answer", .str j, .str i, .int g]
  | .rst j => .tup [.str "reset", .str j]
def juD (p : Str × Str) : D := .tup [.str p.1, .str p.2]
def logD (CL : Addr) (L : LogD) : D := .ins CL [("_items", .lst (L.items.map D.str)), ("_grades", .int L.grades), ("_judges", .lst (L.judges.map juD)), ("_events", .lst (L.events.map evD))]
def LET : Str := "abcdefghijklmnopqrstuvwxyz0123456789"
def nameB (z : Str) : Bool := (decide (1 ≤ z.length) && decide (z.length ≤ 12)) && z.cps.toList.all fun c => decide (c ∈ LET.cps.toList)
end RB
/-! Good logs. -/
namespace RB
open PySem PySem.Spec PyProof.Rows L2 L3
def driftB (z : Str) : Bool := decide (z ∈ (["rises", "falls", "stays"] : List Str))
def evB (items : List Str) (g : Int) (names : List Str) : Ev → Bool
  | .ans j i k => decide (j ∈ names) && decide (i ∈ items) && decide (0 ≤ k) && decide (k ≤ g)
  | .rst j => decide (j ∈ names)
structure Names (xs : List Str) (most : Nat) : Prop where
  nd : xs.Nodup
  pos : 1 ≤ xs.length
  max : xs.length ≤ most
  good : ∀ x ∈ xs, nameB x = true
def LogD.names (L : LogD) : List Str := L.judges.map Prod.fst
structure LogOk (L : LogD) : Prop where
  it : Names L.items 5
  ju : Names L.names 3
  dr : ∀ p ∈ L.judges, driftB p.2 = true
  g1 : 1 ≤ L.grades
  g9 : L.grades ≤ 9
  ne : L.events.length ≤ 9
  ev : ∀ e ∈ L.events, evB L.items L.grades L.names e = true
theorem nameB_len {z : Str} (h : nameB z = true) : z.length ≤ 12 := by
  unfold nameB at h
  simp only [Bool.and_eq_true, decide_eq_true_eq] at h
  exact h.1.2
end RB
/-! What a log says. -/
namespace RB
open PySem PySem.Spec PyProof.Rows L2 L3
def Ev.j : Ev → Str
  | .ans j _ _ => j
  | .rst j => j
def Ev.i : Ev → Str
  | .ans _ i _ => i
  | .rst _ => Str.empty
def Ev.g : Ev → Int
  | .ans _ _ g => g
  | .rst _ => 0
def Ev.isA : Ev → Bool
  | .ans _ _ _ => true
  | .rst _ => false
def LogD.n (L : LogD) : Nat := L.events.length
def LogD.at (L : LogD) (k : Nat) : Ev := L.events.getD k (.rst Str.empty)
def LogD.isA (L : LogD) (k : Nat) : Bool := (L.at k).isA
def LogD.ans (L : LogD) : List Nat := (List.range L.n).filter L.isA
def LogD.ansOf (L : LogD) (j : Str) : List Nat := L.ans.filter fun k => decide ((L.at k).j = j)
def iD (k : Nat) : D := .int (k : Nat)
def LogD.drift (L : LogD) (j : Str) : Str := ((L.judges.find? fun p => decide (p.1 = j)).map (·.2)).getD Str.empty
/-- no reset of j from a up to b -/
def LogD.noRst (L : LogD) (j : Str) (a b : Nat) : Bool := (List.range b).all fun k => decide (k < a) || decide (L.at k ≠ .rst j)
def LogD.sm (L : LogD) (j : Str) (a b : Nat) : Bool := L.noRst j (min a b) (max a b)
def LogD.str (L : LogD) (j : Str) (p : Nat) : List Nat := (L.ansOf j).filter fun k => L.sm j p k
def wayB (dr : Str) (a b : Nat) : Bool := decide (dr = ("stays" : Str)) || (decide (decide (a < b) = decide (dr = ("rises" : Str))))
def LogD.lk (L : LogD) (a b : Nat) : Bool := (L.isA a && L.isA b && decide ((L.at a).j = (L.at b).j) && L.sm (L.at a).j a b) && (decide ((L.at a).g < (L.at b).g) && wayB (L.drift (L.at a).j) a b)
def LogD.Link (L : LogD) (p : Nat × Nat) : Prop := p.1 < L.n ∧ p.2 < L.n ∧ L.lk p.1 p.2 = true
def LogD.ed (L : LogD) (x y : Str) : Bool := (List.range L.n).any fun a => (List.range L.n).any fun b => L.lk a b && (decide ((L.at a).i = x) && decide ((L.at b).i = y))
def prD (p : Nat × Nat) : D := .tup [.int (p.1 : Nat), .int (p.2 : Nat)]
def war (items : List Str) (E : Str → Str → Bool) : Str → Str → Bool := items.foldl (fun F m a b => F a b || (F a m && F m b)) E
def LogD.up (L : LogD) : Str → Str → Bool := war L.items L.ed
def kS (a : Str) : Key := .inr a
def kI (i : Nat) : Key := .inl (i : Nat)
def tabD (items : List Str) (F : Str → Str → Bool) : D := .dic (items.map fun a => (kS a, .lst ((items.filter (F a)).map D.str)))
theorem LogD.at_get {L : LogD} {k : Nat} (h : k < L.n) : L.events[k]? = some (L.at k) := by
  unfold LogD.at LogD.n at *
  rw [List.getElem?_eq_getElem h, List.getD_eq_getElem?_getD, List.getElem?_eq_getElem h]
  rfl
end RB
namespace RB
open PySem PySem.Spec PyProof.Rows L2 L3
theorem strOk_name {z : Str} (h : nameB z = true) : PyData.strOk z = true := by
  unfold nameB at h
  rw [Bool.and_eq_true] at h
  have h2 := List.all_eq_true.mp h.2
  unfold PyData.strOk
  rw [← Array.all_toList, List.all_eq_true]
  intro c hc
  have h3 : c ∈ LET.cps.toList := of_decide_eq_true (h2 c hc)
  have h4 : LET.cps.toList.all (fun c => decide (c < 0x110000)) = true := by decide +kernel
  exact List.all_eq_true.mp h4 c h3
theorem strOk_drift {z : Str} (h : driftB z = true) : PyData.strOk z = true := by
  have h := of_decide_eq_true h
  simp only [List.mem_cons, List.not_mem_nil, or_false] at h
  rcases h with rfl | rfl | rfl <;> decide +kernel
theorem Names.le {xs : List Str} {a b : Nat} (h : Names xs a) (e : a ≤ b) : Names xs b := ⟨h.nd, h.pos, Nat.le_trans h.max e, h.good⟩
theorem sD_ju {L : LogD} (h : LogOk L) {p : Str × Str} (hp : p ∈ L.judges) : sD 1 (juD p) = true := by
  have h1 := strOk_name (h.ju.good p.1 (List.mem_map.mpr ⟨p, hp, rfl⟩))
  have h2 := strOk_drift (h.dr p hp)
  simp [juD, sD, h1, h2]
theorem sD_ev {L : LogD} (h : LogOk L) {e : Ev} (he : e ∈ L.events) : sD 1 (evD e) = true := by
  have h0 := h.ev e he
  cases e with
  | ans j i g =>
    unfold evB at h0
    simp only [Bool.and_eq_true, decide_eq_true_eq] at h0
    have h1 := strOk_name (h.ju.good j h0.1.1.1)
    have h2 := strOk_name (h.it.good i h0.1.1.2)
    have h3 : PyData.strOk "answer" = true := by decide +kernel
    simp [evD, sD, h1, h2, h3]
  | rst j =>
    have h1 := strOk_name (h.ju.good j (of_decide_eq_true h0))
    have h3 : PyData.strOk "reset" = true := by decide +kernel
    simp [evD, sD, h1, h3]
theorem sD_mono : ∀ (n k : Nat) (d : D), n ≤ k → sD n d = true → sD k d = true
  | n, k, .non, _, _ => by unfold sD; rfl
  | n, k, .int _, _, _ => by unfold sD; rfl
  | n, k, .str _, _, h => by unfold sD at h ⊢; exact h
  | n + 1, k + 1, .tup xs, e, h => by
    unfold sD at h ⊢
    exact List.all_eq_true.mpr fun x hx => sD_mono n k x (by omega) (List.all_eq_true.mp h x hx)
  | n + 1, k + 1, .lst xs, e, h => by
    unfold sD at h ⊢
    exact List.all_eq_true.mpr fun x hx => sD_mono n k x (by omega) (List.all_eq_true.mp h x hx)
  | n + 1, 0, _, e, _ => by omega
  | _, _, .bl _, _, h => by unfold sD at h; cases h
  | _, _, .ty _, _, h => by unfold sD at h; cases h
  | _, _, .ref _, _, h => by unfold sD at h; cases h
  | _, _, .lsr _, _, h => by unfold sD at h; cases h
  | _, _, .dic _, _, h => by unfold sD at h; cases h
  | _, _, .dit _, _, h => by unfold sD at h; cases h
  | _, _, .ins _ _, _, h => by unfold sD at h; cases h
  | 0, _, .tup _, _, h => by unfold sD at h; cases h
  | 0, _, .lst _, _, h => by unfold sD at h; cases h
theorem sD_strs {xs : List Str} (h : ∀ x ∈ xs, nameB x = true) : sD 1 (.lst (xs.map D.str)) = true := by
  unfold sD
  rw [List.all_eq_true]
  intro d hd
  obtain ⟨x, hx, rfl⟩ := List.mem_map.mp hd
  unfold sD
  exact strOk_name (h x hx)
theorem sD_lst {α : Type} {n : Nat} {f : α → D} {xs : List α} (h : ∀ x ∈ xs, sD n (f x) = true) : sD (n + 1) (.lst (xs.map f)) = true := by
  unfold sD
  rw [List.all_eq_true]
  intro d hd
  obtain ⟨x, hx, rfl⟩ := List.mem_map.mp hd
  exact h x hx
def toldD (L : LogD) : D := .tup [.lst (L.items.map D.str), .int L.grades, .lst (L.judges.map juD), .lst (L.events.map evD)]
theorem sD_told {L : LogD} (h : LogOk L) : sD 3 (toldD L) = true := by
  have h1 := sD_mono 1 2 _ (by decide) (sD_strs h.it.good)
  have h2 : sD 2 (.lst (L.judges.map juD)) = true := sD_lst fun p hp => sD_ju h hp
  have h3 : sD 2 (.lst (L.events.map evD)) = true := sD_lst fun p hp => sD_ev h hp
  have h4 : sD 2 (.int L.grades) = true := by unfold sD; rfl
  unfold toldD
  unfold sD
  rw [List.all_cons, List.all_cons, List.all_cons, List.all_cons, h1, h2, h3, h4]
  rfl
end RB
namespace RB
open PySem PySem.Spec PyProof.Rows L2 L3
theorem noRst_iff {L : LogD} {j : Str} {a b : Nat} : L.noRst j a b = true ↔ ∀ i, a ≤ i → i < b → L.at i ≠ .rst j := by
  unfold LogD.noRst
  rw [List.all_eq_true]
  refine ⟨fun h i h1 h2 => ?_, fun h i hi => ?_⟩
  · have := h i (List.mem_range.mpr h2)
    rw [Bool.or_eq_true] at this
    rcases this with h3 | h3
    · exact absurd (of_decide_eq_true h3) (by omega)
    · exact of_decide_eq_true h3
  · rw [Bool.or_eq_true]
    by_cases h3 : i < a
    · exact .inl (decide_eq_true h3)
    · exact .inr (decide_eq_true (h i (by omega) (List.mem_range.mp hi)))
theorem bool_iff {a b : Bool} (h : a = true ↔ b = true) : a = b := by
  cases a <;> cases b <;> simp_all
/-- from a up to b: what k stands among, of judge j -/
def SpanLo (L : LogD) (j : Str) (k a : Nat) : Prop := a ≤ k ∧ ∀ i, i < k → decide (a ≤ i) = L.noRst j i k
def SpanHi (L : LogD) (j : Str) (k b : Nat) : Prop := k ≤ b ∧ ∀ i, k ≤ i → i < L.n → L.at i ≠ .rst j → decide (i < b) = L.noRst j k i
def LogD.rs (L : LogD) (j : Str) : List Nat := (List.range L.n).filter fun i => decide (L.at i = .rst j)
theorem mem_rs {L : LogD} {j : Str} {i : Nat} : i ∈ L.rs j ↔ i < L.n ∧ L.at i = .rst j := by
  unfold LogD.rs
  rw [List.mem_filter, List.mem_range, decide_eq_true_eq]
theorem lo_none {L : LogD} {j : Str} {k : Nat} (hk : k ≤ L.n) (h : (L.rs j).filter (fun i => decide (i < k)) = []) : SpanLo L j k 0 := by
  refine ⟨Nat.zero_le _, fun i hi => bool_iff ⟨fun _ => noRst_iff.mpr fun r h1 h2 h3 => ?_, fun _ => decide_eq_true (Nat.zero_le _)⟩⟩
  have : r ∈ (L.rs j).filter (fun i => decide (i < k)) := List.mem_filter.mpr ⟨mem_rs.mpr ⟨by omega, h3⟩, decide_eq_true h2⟩
  rw [h] at this
  cases this
theorem lo_some {L : LogD} {j : Str} {k r : Nat} (hk : k ≤ L.n) (h1 : r ∈ (L.rs j).filter (fun i => decide (i < k))) (h2 : ∀ i ∈ (L.rs j).filter (fun i => decide (i < k)), i ≤ r) : SpanLo L j k (r + 1) := by
  obtain ⟨h3, h4⟩ := List.mem_filter.mp h1
  have h4 := of_decide_eq_true h4
  obtain ⟨h5, h6⟩ := mem_rs.mp h3
  refine ⟨h4, fun i hi => bool_iff ⟨fun e => noRst_iff.mpr fun x a b c => ?_, fun e => decide_eq_true ?_⟩⟩
  · have e := of_decide_eq_true e
    have := h2 x (List.mem_filter.mpr ⟨mem_rs.mpr ⟨by omega, c⟩, decide_eq_true b⟩)
    omega
  · rcases Nat.lt_or_ge r i with h7 | h7
    · exact h7
    · exact absurd h6 (noRst_iff.mp e r h7 h4)
theorem hi_none {L : LogD} {j : Str} {k : Nat} (hk : k ≤ L.n) (h : (L.rs j).filter (fun i => decide (k ≤ i)) = []) : SpanHi L j k L.n := by
  refine ⟨hk, fun i h1 h2 _ => bool_iff ⟨fun _ => noRst_iff.mpr fun r h3 h4 h5 => ?_, fun _ => decide_eq_true h2⟩⟩
  have : r ∈ (L.rs j).filter (fun i => decide (k ≤ i)) := List.mem_filter.mpr ⟨mem_rs.mpr ⟨by omega, h5⟩, decide_eq_true h3⟩
  rw [h] at this
  cases this
theorem hi_some {L : LogD} {j : Str} {k r : Nat} (h1 : r ∈ (L.rs j).filter (fun i => decide (k ≤ i))) (h2 : ∀ i ∈ (L.rs j).filter (fun i => decide (k ≤ i)), r ≤ i) : SpanHi L j k r := by
  obtain ⟨h3, h4⟩ := List.mem_filter.mp h1
  have h4 := of_decide_eq_true h4
  obtain ⟨h5, h6⟩ := mem_rs.mp h3
  refine ⟨h4, fun i hi hn no => bool_iff ⟨fun e => noRst_iff.mpr fun x a b c => ?_, fun e => decide_eq_true ?_⟩⟩
  · have e := of_decide_eq_true e
    have := h2 x (List.mem_filter.mpr ⟨mem_rs.mpr ⟨by omega, c⟩, decide_eq_true a⟩)
    omega
  · rcases Nat.lt_or_ge i r with h7 | h7
    · exact h7
    · rcases Nat.lt_or_eq_of_le h7 with h8 | h8
      · exact absurd h6 (noRst_iff.mp e r h4 h8)
      · exact absurd (h8 ▸ h6) no
theorem enum_map (L : LogD) : enumD 0 (L.events.map evD) = (List.range L.n).map fun i => D.tup [.int (i : Nat), evD (L.at i)] := by
  refine List.ext_getElem? fun i => ?_
  rw [enumD_get, List.getElem?_map, List.getElem?_map, Nat.zero_add]
  by_cases h : i < L.n
  · rw [LogD.at_get h, List.getElem?_range h]
    rfl
  · rw [List.getElem?_eq_none (by unfold LogD.n at h; omega), List.getElem?_eq_none (by rw [List.length_range]; omega)]
    rfl
theorem evD_rst {e : Ev} {j : Str} : evD e = .tup [.str "reset", .str j] ↔ e = .rst j := by
  cases e with
  | ans a b c => simp [evD]
  | rst a => simp [evD]
end RB
namespace RB
open PySem PySem.Spec PyProof.Rows L2 L3
theorem mem_ans {L : LogD} {i : Nat} : i ∈ L.ans ↔ i < L.n ∧ L.isA i = true := by
  unfold LogD.ans
  rw [List.mem_filter, List.mem_range]
theorem mem_ansOf {L : LogD} {j : Str} {i : Nat} : i ∈ L.ansOf j ↔ (i < L.n ∧ L.isA i = true) ∧ (L.at i).j = j := by
  unfold LogD.ansOf
  rw [List.mem_filter, mem_ans, decide_eq_true_eq]
theorem isA_rst {L : LogD} {i : Nat} (h : L.isA i = true) (j : Str) : L.at i ≠ .rst j := fun e => by
  unfold LogD.isA at h
  rw [e] at h
  cases h
theorem span_sm {L : LogD} {j : Str} {k a b i : Nat} (ha : SpanLo L j k a) (hb : SpanHi L j k b) (hi : i < L.n) (hA : L.isA i = true) : (decide (a ≤ i) && decide (i < b)) = L.sm j k i := by
  unfold LogD.sm
  have h1 := ha.1
  have h2 := hb.1
  rcases Nat.lt_or_ge i k with h | h
  · rw [Nat.min_eq_right (by omega), Nat.max_eq_left (by omega), ← ha.2 i h, decide_eq_true (show i < b by omega), Bool.and_true]
  · rw [Nat.min_eq_left (by omega), Nat.max_eq_right (by omega), ← hb.2 i h hi (isA_rst hA j), decide_eq_true (show a ≤ i by omega), Bool.true_and]
theorem isA_name {L : LogD} (ok : LogOk L) {k : Nat} (h : k < L.n) (hA : L.isA k = true) : (L.at k).j ∈ L.names ∧ (L.at k).i ∈ L.items ∧ 0 ≤ (L.at k).g ∧ (L.at k).g ≤ L.grades := by
  have h0 := ok.ev (L.at k) (List.mem_of_getElem? (LogD.at_get h))
  unfold LogD.isA at hA
  cases e : L.at k with
  | ans j i g =>
    rw [e] at h0
    unfold evB at h0
    simp only [Bool.and_eq_true, decide_eq_true_eq] at h0
    exact ⟨h0.1.1.1, h0.1.1.2, h0.1.2, h0.2⟩
  | rst j =>
    rw [e] at hA
    cases hA
theorem ans_len (L : LogD) : L.ans.length ≤ L.n := by
  refine Nat.le_trans (List.length_filter_le _ _) ?_
  rw [List.length_range]
  exact Nat.le_refl _
theorem ansOf_len (L : LogD) (j : Str) : (L.ansOf j).length ≤ L.n := Nat.le_trans (List.length_filter_le _ _) (ans_len L)
theorem str_len (L : LogD) (j : Str) (k : Nat) : (L.str j k).length ≤ L.n := Nat.le_trans (List.length_filter_le _ _) (ansOf_len L j)
theorem LogOk.n9 {L : LogD} (ok : LogOk L) : L.n ≤ 9 := ok.ne
theorem LogOk.j3 {L : LogD} (ok : LogOk L) : L.judges.length ≤ 3 := by
  have := ok.ju.max
  unfold LogD.names at this
  rwa [List.length_map] at this
theorem sz {k : Nat} (h : k ≤ 10000) : k ≤ sizeLine := Nat.le_trans h (by decide)
end RB
namespace RB
open PySem PySem.Spec PyProof.Rows L2 L3
theorem nodup_map {α β : Type} {f : α → β} {xs : List α} (h : xs.Nodup) (inj : ∀ a b, f a = f b → a = b) : (xs.map f).Nodup := List.Pairwise.map f (fun a b hne e => hne (inj a b e)) h
theorem getD_map {α κ : Type} [DecidableEq κ] {f : α → κ} {v : α → D} (inj : ∀ a b, f a = f b → a = b) : ∀ {xs : List α} {x : α}, x ∈ xs → getD (xs.map fun x => (f x, v x)) (f x) = some (v x)
  | y :: ys, x, h => by
    unfold getD
    rw [List.map_cons, List.find?_cons]
    by_cases e : f y = f x
    · rw [decide_eq_true e]
      rw [inj _ _ e]
      rfl
    · rw [decide_eq_false e]
      rcases List.mem_cons.mp h with h | h
      · exact absurd (h ▸ rfl) e
      · exact getD_map inj h
theorem getD_none {α κ : Type} [DecidableEq κ] {f : α → κ} {v : α → D} {k : κ} : ∀ {xs : List α}, (∀ x ∈ xs, f x ≠ k) → getD (xs.map fun x => (f x, v x)) k = none
  | [], _ => rfl
  | y :: ys, h => by
    unfold getD
    rw [List.map_cons, List.find?_cons, decide_eq_false (h y List.mem_cons_self)]
    exact getD_none fun x hx => h x (List.mem_cons_of_mem _ hx)
end RB
namespace RB
open PySem PySem.Spec PyProof.Rows L2 L3
theorem sm_self (L : LogD) (j : Str) (a : Nat) : L.sm j a a = true := noRst_iff.mpr fun i h1 h2 => by
  rw [Nat.min_self] at h1
  rw [Nat.max_self] at h2
  omega
theorem sm_comm (L : LogD) (j : Str) (a b : Nat) : L.sm j a b = L.sm j b a := by
  unfold LogD.sm
  rw [Nat.min_comm, Nat.max_comm]
theorem sm_trans {L : LogD} {j : Str} {a b c : Nat} (h1 : L.sm j a b = true) (h2 : L.sm j b c = true) : L.sm j a c = true := noRst_iff.mpr fun i h3 h4 => by
  have k1 := noRst_iff.mp h1 i
  have k2 := noRst_iff.mp h2 i
  by_cases e1 : min a b ≤ i ∧ i < max a b
  · exact k1 e1.1 e1.2
  · exact k2 (by omega) (by omega)
theorem mem_str {L : LogD} {j : Str} {p i : Nat} : i ∈ L.str j p ↔ i ∈ L.ansOf j ∧ L.sm j p i = true := by
  unfold LogD.str
  rw [List.mem_filter]
theorem str_nodup (L : LogD) (j : Str) (p : Nat) : (L.str j p).Nodup := ((List.nodup_range.filter _).filter _).filter _
theorem drift_of_mem {L : LogD} (ok : LogOk L) {j d : Str} (h : (j, d) ∈ L.judges) : L.drift j = d := by
  have nd := ok.ju.nd
  unfold LogD.names at nd
  unfold LogD.drift
  generalize L.judges = js at h nd
  induction js with
  | nil => cases h
  | cons x xs ih =>
    rw [List.map_cons, List.nodup_cons] at nd
    rw [List.find?_cons]
    by_cases e : x.1 = j
    · rw [decide_eq_true e]
      rcases List.mem_cons.mp h with h | h
      · rw [← h]
        rfl
      · exact absurd (List.mem_map.mpr ⟨_, h, e.symm⟩) nd.1
    · rw [decide_eq_false e]
      rcases List.mem_cons.mp h with h | h
      · exact absurd (by rw [← h]) e
      · exact ih h nd.2
/-- a list whose order does not matter, back from data -/
theorem perm_back {α : Type} {f : α → D} {es : List D} {xs : List α} (h : es.Perm (xs.map f)) : ∃ ys : List α, es = ys.map f ∧ ys.Perm xs := by
  have key : ∀ {es : List D} {zs : List D}, es.Perm zs → ∀ xs : List α, zs = xs.map f → ∃ ys : List α, es = ys.map f ∧ ys.Perm xs := by
    intro es zs p
    induction p with
    | nil => intro xs e; exact ⟨[], rfl, by rw [List.map_eq_nil_iff.mp e.symm]⟩
    | cons x _ ih =>
      intro xs e
      cases xs with
      | nil => cases e
      | cons y ys =>
        rw [List.map_cons] at e
        injection e with e1 e2
        obtain ⟨zs, h1, h2⟩ := ih ys e2
        exact ⟨y :: zs, by rw [List.map_cons, e1, h1], h2.cons y⟩
    | swap x y l =>
      intro xs e
      cases xs with
      | nil => cases e
      | cons a as =>
        cases as with
        | nil => cases e
        | cons b bs =>
          rw [List.map_cons, List.map_cons] at e
          injection e with e1 e2
          injection e2 with e2 e3
          exact ⟨b :: a :: bs, by rw [List.map_cons, List.map_cons, e1, e2, e3], .swap _ _ _⟩
    | trans _ _ ih1 ih2 =>
      intro xs e
      obtain ⟨ys, h1, h2⟩ := ih2 xs e
      obtain ⟨zs, h3, h4⟩ := ih1 ys h1
      exact ⟨zs, h3, h4.trans h2⟩
  exact key h xs rfl
end RB
namespace RB
/-- one step or more -/
inductive Tc {α : Type} (E : α → α → Prop) : α → α → Prop
  | one {a b : α} : E a b → Tc E a b
  | cons {a b c : α} : E a b → Tc E b c → Tc E a c
theorem Tc.trans {α : Type} {E : α → α → Prop} {a b c : α} (h : Tc E a b) (k : Tc E b c) : Tc E a c := by
  induction h with
  | one e => exact .cons e k
  | cons e _ ih => exact .cons e (ih k)
theorem Tc.mono {α : Type} {E F : α → α → Prop} (h : ∀ a b, E a b → F a b) {a b : α} (t : Tc E a b) : Tc F a b := by
  induction t with
  | one e => exact .one (h _ _ e)
  | cons e _ ih => exact .cons (h _ _ e) ih
end RB
namespace RB
open PySem PySem.Spec PyProof.Rows L2 L3
def LogD.E (L : LogD) (x y : Str) : Prop := ∃ p, L.Link p ∧ (L.at p.1).i = x ∧ (L.at p.2).i = y
theorem ed_iff {L : LogD} {x y : Str} : L.ed x y = true ↔ L.E x y := by
  unfold LogD.ed LogD.E LogD.Link
  rw [List.any_eq_true]
  refine ⟨fun ⟨a, ha, h⟩ => ?_, fun ⟨p, ⟨h1, h2, h3⟩, e1, e2⟩ => ⟨p.1, List.mem_range.mpr h1, List.any_eq_true.mpr ⟨p.2, List.mem_range.mpr h2, ?_⟩⟩⟩
  · obtain ⟨b, hb, h⟩ := List.any_eq_true.mp h
    simp only [Bool.and_eq_true, decide_eq_true_eq] at h
    exact ⟨(a, b), ⟨List.mem_range.mp ha, List.mem_range.mp hb, h.1⟩, h.2.1, h.2.2⟩
  · rw [h3, decide_eq_true e1, decide_eq_true e2]
    rfl
/-- a ring: an item that is worse than itself -/
def LogD.Ring (L : LogD) : Prop := ∃ x ∈ L.items, Tc L.E x x
end RB
namespace RB
open PySem PySem.Spec PyProof.Rows L2 L3
def d0 : LogD := ⟨[], 0, [], []⟩
def onm (o : Nat) : Str := Str.empty ++ Str.ofString "o" ++ Str.ofString (toString (o : Int)) ++ Str.ofString "j" ++ Str.ofString (toString (0 : Int))
def LogD.dr0 (l : LogD) : Str := (l.judges.headD (Str.empty, Str.empty)).2
def LogD.jd0 (l : LogD) : Str := (l.judges.headD (Str.empty, Str.empty)).1
def renE (o : Nat) : Ev → Ev
  | .ans _ i g => .ans (onm o) i g
  | .rst _ => .rst (onm o)
def at0 (Ls : List LogD) (o : Nat) : LogD := Ls.getD o d0
def joinL (Ls : List LogD) : LogD where
  items := (at0 Ls 0).items
  grades := (at0 Ls 0).grades
  judges := (List.range Ls.length).map fun o => (onm o, (at0 Ls o).dr0)
  events := (List.range Ls.length).flatMap fun o => (at0 Ls o).events.map (renE o)
/-- logs of one judge each -/
structure Solo (Ls : List LogD) : Prop where
  ok : ∀ l ∈ Ls, LogOk l
  one : ∀ l ∈ Ls, l.judges = [(l.jd0, l.dr0)]
  pos : 1 ≤ Ls.length
  max : Ls.length ≤ 3
  it : ∀ l ∈ Ls, l.items = (at0 Ls 0).items
  gr : ∀ l ∈ Ls, l.grades = (at0 Ls 0).grades
  ev : (joinL Ls).n ≤ 9
theorem at0_mem {Ls : List LogD} {o : Nat} (h : o < Ls.length) : at0 Ls o ∈ Ls := by
  unfold at0
  rw [List.getD_eq_getElem?_getD, List.getElem?_eq_getElem h]
  exact List.getElem_mem h
theorem at0_get {Ls : List LogD} {o : Nat} (h : o < Ls.length) : Ls[o]? = some (at0 Ls o) := by
  unfold at0
  rw [List.getD_eq_getElem?_getD, List.getElem?_eq_getElem h]
  rfl
theorem onm_ok : ∀ o, o < 3 → nameB (onm o) = true
  | 0, _ => by decide +kernel
  | 1, _ => by decide +kernel
  | 2, _ => by decide +kernel
  | n + 3, h => by omega
theorem onm_inj : ∀ a b, a < 3 → b < 3 → onm a = onm b → a = b := by
  have h : ∀ a, a < 3 → ∀ b, b < 3 → onm a = onm b → a = b := by decide +kernel
  exact fun a b ha hb => h a ha b hb
theorem Solo.join {Ls : List LogD} (h : Solo Ls) : LogOk (joinL Ls) := by
  have h0 := at0_mem (Ls := Ls) (o := 0) (by have := h.pos; omega)
  have ok0 := h.ok _ h0
  have hm := h.max
  have nm : (joinL Ls).names = (List.range Ls.length).map onm := by
    unfold LogD.names joinL
    rw [List.map_map]
    rfl
  have mj : ∀ o, o < Ls.length → onm o ∈ (joinL Ls).names := fun o ho => by
    rw [nm]
    exact List.mem_map.mpr ⟨o, List.mem_range.mpr ho, rfl⟩
  refine ⟨ok0.it, ⟨?_, ?_, ?_, ?_⟩, ?_, ok0.g1, ok0.g9, h.ev, ?_⟩
  · rw [nm]
    refine List.pairwise_map.mpr (List.Pairwise.imp_of_mem (fun ha hb hne e => ?_) (List.nodup_range (n := Ls.length)))
    exact hne (onm_inj _ _ (by have := List.mem_range.mp ha; omega) (by have := List.mem_range.mp hb; omega) e)
  · rw [nm, List.length_map, List.length_range]
    exact h.pos
  · rw [nm, List.length_map, List.length_range]
    exact hm
  · rw [nm]
    intro x hx
    obtain ⟨o, ho, rfl⟩ := List.mem_map.mp hx
    exact onm_ok o (by have := List.mem_range.mp ho; omega)
  · intro p hp
    obtain ⟨o, ho, rfl⟩ := List.mem_map.mp hp
    have hl := at0_mem (List.mem_range.mp ho)
    have := (h.ok _ hl).dr (_, _) (by rw [h.one _ hl]; exact List.mem_cons_self)
    exact this
  · intro e he
    obtain ⟨o, ho, he⟩ := List.mem_flatMap.mp he
    obtain ⟨e0, h1, rfl⟩ := List.mem_map.mp he
    have ho := List.mem_range.mp ho
    have hl := at0_mem ho
    have h2 := (h.ok _ hl).ev e0 h1
    cases e0 with
    | ans j i g =>
      unfold evB at h2
      simp only [Bool.and_eq_true, decide_eq_true_eq] at h2
      rw [h.it _ hl, h.gr _ hl] at h2
      show (decide (onm o ∈ (joinL Ls).names) && decide (i ∈ (at0 Ls 0).items) && decide (0 ≤ g) && decide (g ≤ (at0 Ls 0).grades)) = true
      rw [decide_eq_true (mj o ho), decide_eq_true h2.1.1.2, decide_eq_true h2.1.2, decide_eq_true h2.2]
      rfl
    | rst j => exact decide_eq_true (mj o ho)
end RB
namespace RB
open PySem PySem.Spec PyProof.Rows L2 L3
theorem enum_logs (f : LogD → D) (Ls : List LogD) : enumD 0 (Ls.map f) = (List.range Ls.length).map fun (o : Nat) => D.tup [.int (o : Nat), f (at0 Ls o)] := by
  refine List.ext_getElem? fun i => ?_
  rw [enumD_get, List.getElem?_map, List.getElem?_map, Nat.zero_add]
  by_cases h : i < Ls.length
  · rw [at0_get h, List.getElem?_range h]
    rfl
  · rw [List.getElem?_eq_none (by omega), List.getElem?_eq_none (by rw [List.length_range]; omega)]
    rfl
end RB
/-! Texts of logs. -/
namespace RB
open PySem PySem.Spec PyProof.Rows L2 L3
/-- no blank, no new line -/
def Clean (x : Str) : Prop := 32 ∉ TL.tl x ∧ 10 ∉ TL.tl x
instance (x : Str) : Decidable (Clean x) := by unfold Clean; infer_instance
theorem clean_name {x : Str} (h : nameB x = true) : Clean x := by
  unfold nameB at h
  rw [Bool.and_eq_true] at h
  have h2 := List.all_eq_true.mp h.2
  have k : ∀ c, c ∈ TL.tl x → c ∈ LET.cps.toList := fun c hc => of_decide_eq_true (h2 c hc)
  have e : 32 ∉ LET.cps.toList ∧ 10 ∉ LET.cps.toList := by decide +kernel
  exact ⟨fun z => e.1 (k _ z), fun z => e.2 (k _ z)⟩
theorem clean_drift {x : Str} (h : driftB x = true) : Clean x := by
  have h := of_decide_eq_true h
  simp only [List.mem_cons, List.not_mem_nil, or_false] at h
  rcases h with rfl | rfl | rfl <;> decide +kernel
/-- the text of a number -/
def numT (g : Int) : Str := Str.ofString (toString g)
theorem num_ok : ∀ g : Nat, g < 10 → Clean (numT g) ∧ (numT g).length = 1 ∧ PySem.intText? (numT g) = some (g : Int) ∧ PyData.strOk (numT g) = true := by decide +kernel
theorem g_nat {g : Int} (h0 : 0 ≤ g) (h9 : g ≤ 9) : ∃ k : Nat, g = (k : Nat) ∧ k < 10 := ⟨g.toNat, by omega, by omega⟩
theorem clean_num {g : Int} (h0 : 0 ≤ g) (h9 : g ≤ 9) : Clean (numT g) := by
  obtain ⟨k, rfl, hk⟩ := g_nat h0 h9
  exact (num_ok k hk).1
def sp : Str := Str.ofString " "
def nl : Str := Str.ofString "\n"
theorem sp_tl : TL.tl sp = [32] := by decide +kernel
theorem nl_tl : TL.tl nl = [10] := by decide +kernel
theorem split_sp {ws : List Str} (hne : ws ≠ []) (h : ∀ x ∈ ws, Clean x) : Txt.split (Txt.join sp ws) sp = ws := TL.split_join sp_tl (by decide +kernel) hne fun p hp => (h p hp).1
theorem split_nl {ws : List Str} (hne : ws ≠ []) (h : ∀ x ∈ ws, 10 ∉ TL.tl x) : Txt.split (Txt.join nl ws) nl = ws := TL.split_join nl_tl (by decide +kernel) hne h
def lnI (x : Str) : Str := Str.empty ++ Str.ofString "item " ++ x
def lnG (g : Int) : Str := Str.empty ++ Str.ofString "grades " ++ numT g
def lnJ (p : Str × Str) : Str := Str.empty ++ Str.ofString "judge " ++ p.1 ++ Str.ofString " " ++ p.2
def evW : Ev → List Str
  | .ans j i g => [Str.ofString "answer", j, i, numT g]
  | .rst j => [Str.ofString "reset", j]
def evT (e : Ev) : Str := Txt.join sp (evW e)
theorem lnI_eq (x : Str) : lnI x = Txt.join sp [Str.ofString "item", x] := by
  refine TL.ext_tl ?_
  unfold lnI
  rw [TL.join_eq, TL.tl_join, TL.tl_append]
  show TL.tl (Str.empty ++ Str.ofString "item ") ++ TL.tl x = TL.tl (Str.ofString "item") ++ (TL.tl sp ++ TL.tl x)
  rw [← List.append_assoc]
  exact congrArg (· ++ TL.tl x) (by decide +kernel)
theorem lnG_eq (g : Int) : lnG g = Txt.join sp [Str.ofString "grades", numT g] := by
  refine TL.ext_tl ?_
  unfold lnG
  rw [TL.join_eq, TL.tl_join, TL.tl_append]
  show TL.tl (Str.empty ++ Str.ofString "grades ") ++ TL.tl (numT g) = TL.tl (Str.ofString "grades") ++ (TL.tl sp ++ TL.tl (numT g))
  rw [← List.append_assoc]
  exact congrArg (· ++ TL.tl (numT g)) (by decide +kernel)
theorem lnJ_eq (p : Str × Str) : lnJ p = Txt.join sp [Str.ofString "judge", p.1, p.2] := by
  refine TL.ext_tl ?_
  unfold lnJ
  rw [TL.join_eq, TL.tl_join, TL.tl_append, TL.tl_append, TL.tl_append]
  show TL.tl (Str.empty ++ Str.ofString "judge ") ++ TL.tl p.1 ++ TL.tl (Str.ofString " ") ++ TL.tl p.2 = TL.tl (Str.ofString "judge") ++ (TL.tl sp ++ (TL.tl p.1 ++ (TL.tl sp ++ TL.tl p.2)))
  have e : TL.tl (Str.empty ++ Str.ofString "judge ") = TL.tl (Str.ofString "judge") ++ TL.tl sp := by decide +kernel
  rw [e]
  simp only [List.append_assoc]
  rfl
theorem clean_evW {L : LogD} (ok : LogOk L) {e : Ev} (he : e ∈ L.events) : ∀ x ∈ evW e, Clean x := by
  have h0 := ok.ev e he
  have g9 := ok.g9
  cases e with
  | ans j i g =>
    unfold evB at h0
    simp only [Bool.and_eq_true, decide_eq_true_eq] at h0
    intro x hx
    simp only [evW, List.mem_cons, List.not_mem_nil, or_false] at hx
    rcases hx with rfl | rfl | rfl | rfl
    · decide +kernel
    · exact clean_name (ok.ju.good _ h0.1.1.1)
    · exact clean_name (ok.it.good _ h0.1.1.2)
    · exact clean_num h0.1.2 (by omega)
  | rst j =>
    intro x hx
    simp only [evW, List.mem_cons, List.not_mem_nil, or_false] at hx
    rcases hx with rfl | rfl
    · decide +kernel
    · exact clean_name (ok.ju.good _ (of_decide_eq_true h0))
theorem nonl_join {ws : List Str} (h : ∀ x ∈ ws, 10 ∉ TL.tl x) : 10 ∉ TL.tl (Txt.join sp ws) := by
  rw [TL.join_eq, TL.tl_join, sp_tl]
  induction ws with
  | nil => exact fun z => by cases z
  | cons x r ih =>
    cases r with
    | nil => exact h x List.mem_cons_self
    | cons y r =>
      intro hm
      rcases List.mem_append.mp hm with hm | hm
      · exact h x List.mem_cons_self hm
      · rcases List.mem_append.mp hm with hm | hm
        · simp at hm
        · exact ih (fun z hz => h z (List.mem_cons_of_mem _ hz)) hm
def linesL (L : LogD) : List Str := L.items.map lnI ++ [lnG L.grades] ++ L.judges.map lnJ ++ L.events.map evT
def fmtL (L : LogD) : Str := Txt.join nl (linesL L)
theorem nonl_lines {L : LogD} (ok : LogOk L) : ∀ x ∈ linesL L, 10 ∉ TL.tl x := by
  have g1 := ok.g1
  have g9 := ok.g9
  intro x hx
  unfold linesL at hx
  simp only [List.mem_append, List.mem_map, List.mem_singleton] at hx
  rcases hx with ((⟨i, hi, rfl⟩ | rfl) | ⟨p, hp, rfl⟩) | ⟨e, he, rfl⟩
  · rw [lnI_eq]
    refine nonl_join fun z hz => ?_
    simp only [List.mem_cons, List.not_mem_nil, or_false] at hz
    rcases hz with rfl | rfl
    · decide +kernel
    · exact (clean_name (ok.it.good _ hi)).2
  · rw [lnG_eq]
    refine nonl_join fun z hz => ?_
    simp only [List.mem_cons, List.not_mem_nil, or_false] at hz
    rcases hz with rfl | rfl
    · decide +kernel
    · exact (clean_num (by omega) g9).2
  · rw [lnJ_eq]
    refine nonl_join fun z hz => ?_
    simp only [List.mem_cons, List.not_mem_nil, or_false] at hz
    rcases hz with rfl | rfl | rfl
    · decide +kernel
    · exact (clean_name (ok.ju.good _ (List.mem_map.mpr ⟨p, hp, rfl⟩))).2
    · exact (clean_drift (ok.dr p hp)).2
  · exact nonl_join fun z hz => (clean_evW ok he z hz).2
theorem split_fmt {L : LogD} (ok : LogOk L) : Txt.split (fmtL L) nl = linesL L := split_nl (by unfold linesL; simp) (nonl_lines ok)
theorem joinL_len (S : List Nat) : ∀ ps : List (List Nat), (TL.joinL S ps).length ≤ (ps.map List.length).sum + ps.length * S.length
  | [] => Nat.zero_le _
  | [p] => by simp [TL.joinL]
  | p :: q :: r => by
    have ih := joinL_len S (q :: r)
    show (p ++ (S ++ TL.joinL S (q :: r))).length ≤ _
    rw [List.length_append, List.length_append, List.map_cons, List.sum_cons, List.length_cons, Nat.add_mul]
    omega
theorem join_len (y : Str) (ws : List Str) : (Txt.join y ws).length ≤ (ws.map Str.length).sum + ws.length * y.length := by
  have h := joinL_len (TL.tl y) (ws.map TL.tl)
  rw [TL.join_eq, TL.len_tl, TL.tl_join]
  rw [List.map_map, List.length_map] at h
  have e : ws.map (List.length ∘ TL.tl) = ws.map Str.length := List.map_congr_left fun x _ => (TL.len_tl x).symm
  rw [e, ← TL.len_tl] at h
  exact h
theorem sp_len : sp.length = 1 := by decide +kernel
theorem nl_len : nl.length = 1 := by decide +kernel
theorem evT_len {L : LogD} (ok : LogOk L) {e : Ev} (he : e ∈ L.events) : (evT e).length ≤ 40 := by
  have h0 := ok.ev e he
  have g9 := ok.g9
  have h := join_len sp (evW e)
  rw [sp_len] at h
  unfold evT
  cases e with
  | ans j i g =>
    unfold evB at h0
    simp only [Bool.and_eq_true, decide_eq_true_eq] at h0
    obtain ⟨k, rfl, hk⟩ := g_nat (show 0 ≤ g from h0.1.2) (by omega)
    have lj := nameB_len (ok.ju.good _ h0.1.1.1)
    have li := nameB_len (ok.it.good _ h0.1.1.2)
    have h6 : (Str.ofString "answer").length = 6 := by decide +kernel
    simp only [evW, List.map_cons, List.map_nil, List.sum_cons, List.sum_nil, List.length_cons, List.length_nil, h6, (num_ok k hk).2.1] at h ⊢
    omega
  | rst j =>
    have lj := nameB_len (ok.ju.good _ (of_decide_eq_true h0))
    have h6 : (Str.ofString "reset").length = 5 := by decide +kernel
    simp only [evW, List.map_cons, List.map_nil, List.sum_cons, List.sum_nil, List.length_cons, List.length_nil, h6] at h ⊢
    omega
theorem lnI_len {x : Str} (h : nameB x = true) : (lnI x).length ≤ 40 := by
  have l := nameB_len h
  have k := join_len sp [Str.ofString "item", x]
  have h6 : (Str.ofString "item").length = 4 := by decide +kernel
  rw [lnI_eq]
  simp only [List.map_cons, List.map_nil, List.sum_cons, List.sum_nil, List.length_cons, List.length_nil, h6, sp_len] at k
  omega
theorem lnG_len {g : Int} (h0 : 0 ≤ g) (h9 : g ≤ 9) : (lnG g).length ≤ 40 := by
  obtain ⟨n, rfl, hn⟩ := g_nat h0 h9
  have k := join_len sp [Str.ofString "grades", numT (n : Nat)]
  have h6 : (Str.ofString "grades").length = 6 := by decide +kernel
  rw [lnG_eq]
  simp only [List.map_cons, List.map_nil, List.sum_cons, List.sum_nil, List.length_cons, List.length_nil, h6, sp_len, (num_ok n hn).2.1] at k
  omega
theorem drift_len {x : Str} (h : driftB x = true) : x.length = 5 := by
  have h := of_decide_eq_true h
  simp only [List.mem_cons, List.not_mem_nil, or_false] at h
  rcases h with rfl | rfl | rfl <;> decide +kernel
theorem lnJ_len {p : Str × Str} (h : nameB p.1 = true) (d : driftB p.2 = true) : (lnJ p).length ≤ 40 := by
  have l := nameB_len h
  have l2 := drift_len d
  have k := join_len sp [Str.ofString "judge", p.1, p.2]
  have h6 : (Str.ofString "judge").length = 5 := by decide +kernel
  rw [lnJ_eq]
  simp only [List.map_cons, List.map_nil, List.sum_cons, List.sum_nil, List.length_cons, List.length_nil, h6, sp_len] at k
  omega
end RB
namespace RB
open PySem PySem.Spec PyProof.Rows L2 L3
/-- the class Unexplained, at CU -/
structure TxU (K : Fg) (mg : Str → Option Value) (CU : Addr) : Prop where
  gU : mg "Unexplained" = some (.ref CU)
  xU : PySem.W.excIn K CU [.type "ValueError", .type "Exception", .type "BaseException", .type "object"] "ValueError.__new__" = true
  kU : PySem.W.keepIn K (.ref CU) = true
  bU : PySem.W.subIn K (.ref CU) (.type "BaseException") = some true
  tU : PySem.W.typeIn K (.ref CU) = some (.type "type")
  eU : PySem.W.exmOne K (.ref CU) (.ref CU) = some true
end RB
namespace RB
open PySem PySem.Spec PyProof.Rows L2 L3
local macro_rules
  | `(tactic| walk_at "op") => `(tactic| first
    | exact os_cat2 | exact os_catM | exact os_eq | exact os_ix | exact os_mInS | exact os_mInI | exact os_eqD | exact os_neD | exact os_ne
    | exact os_I0 (fun _ _ _ => .int _) | exact os_I0 (fun _ _ _ => .bl _) | exact os_IC (fun _ _ _ => .int _)
    | exact os_isN | exact os_notN | exact os_notB | exact os_inC | exact os_cat | exact os_catT | exact os_inD | exact os_ninD | exact os_ext2 | exact os_ip)
local macro_rules
  | `(tactic| walk_at "cs") => `(tactic| first
    | exact cs_len | exact cs_any | exact cs_all | exact cs_sum | exact cs_abs | exact cs_max2 | exact cs_int1 | exact cs_intS | exact cs_list | exact cs_str | exact cs_sortP | exact cs_sortS | exact cs_sortR | exact cs_isi)
local macro_rules
  | `(tactic| walk_at "sim") => `(tactic| repeat' (first
    | with_reducible exact os_cat2
    | with_reducible exact os_catM
    | with_reducible exact sim_var
    | with_reducible exact sim_nil
    | with_reducible exact sim_next
    | with_reducible exact sim_never
    | with_reducible exact sim_retN
    | with_reducible exact sim_break
    | with_reducible exact sim_cont
    | with_reducible exact sim_gname
    | with_reducible exact sim_gnil
    | with_reducible exact sim_yes
    | with_reducible exact sim_noPart
    | with_reducible exact sim_newK
    | with_reducible exact sim_mNewKt
    | with_reducible exact sim_newT
    | with_reducible exact SimL.nil
    | with_reducible exact sim_disp1 (fun _ => .int _)
    | with_reducible exact sim_c (fun _ => .str _)
    | with_reducible exact sim_c (fun _ => .int _)
    | with_reducible exact sim_c (fun _ => .bl _)
    | with_reducible exact sim_c (fun _ => .non)
    | with_reducible exact sim_c (fun _ => .ty _)
    | with_reducible apply sim_asgX (fun _ _ h => h)
    | with_reducible apply sim_op
    | with_reducible apply sim_test
    | with_reducible apply sim_neg
    | with_reducible apply sim_B
    | with_reducible apply sim_and
    | with_reducible apply sim_or
    | with_reducible apply sim_not
    | with_reducible apply sim_cons
    | with_reducible apply sim_call
    | with_reducible apply sim_meth
    | with_reducible apply sim_prop
    | with_reducible apply sim_fld
    | with_reducible apply sim_tup
    | with_reducible apply sim_lst
    | with_reducible apply sim_mLst
    | with_reducible apply sim_CB
    | with_reducible apply sim_seq
    | with_reducible apply sim_asg
    | with_reducible apply sim_ret
    | with_reducible apply sim_mRetF
    | with_reducible apply sim_drop
    | with_reducible apply sim_ifS
    | with_reducible apply sim_mFrz
    | with_reducible apply sim_gcons
    | with_reducible apply sim_gtup
    | with_reducible apply sim_lc
    | with_reducible apply sim_ilist
    | with_reducible apply sim_irng1
    | with_reducible apply sim_istr
    | with_reducible apply sim_ienum
    | with_reducible apply sim_itup
    | with_reducible apply sim_for
    | with_reducible apply sim_while
    | with_reducible apply sim_andV
    | with_reducible apply sim_orV
    | with_reducible apply sim_notV
    | with_reducible apply sim_chain
    | with_reducible apply sim_dget
    | with_reducible apply sim_din
    | with_reducible apply sim_dnin
    | with_reducible apply sim_dget1
    | with_reducible apply sim_app
    | with_reducible apply sim_ext
    | with_reducible apply sim_popAt
    | with_reducible apply sim_indexS
    | with_reducible apply sim_dput
    | with_reducible apply sim_fldS
    | with_reducible apply sim_aug
    | with_reducible apply sim_slLM
    | with_reducible apply sim_slL
    | with_reducible apply sim_slT
    | with_reducible apply sim_part
    | with_reducible apply sim_if
    | with_reducible apply sim_tru
    | with_reducible apply sim_orT
    | with_reducible assumption
    | exact sim_nev
    | exact sim_raiseE (fun _ _ _ h => h)
    | with_reducible apply sim_callN
    | with_reducible apply sim_dc
    | with_reducible apply sim_par
    | with_reducible apply sim_dcM
    | with_reducible apply sim_lc2
    | with_reducible (apply sim_lock; apply simF_lc)
    | with_reducible (apply sim_lock; apply simF_lc2)
    | with_reducible apply sim_split
    | with_reducible apply sim_join
    | with_reducible apply sim_fmt
    | with_reducible apply sim_joined
    | with_reducible apply SimL.cons
    | with_reducible apply sim_callM
    | with_reducible apply sim_methM
    | with_reducible apply sim_make
    | with_reducible apply sim_lenSet
    | with_reducible apply sim_rgL
    | with_reducible apply sim_ienumK
    | with_reducible apply sim_kw kw_minDf
    | with_reducible apply sim_kw kw_maxDf
    | exact sim_var
    | exact sim_nil
    | exact sim_next
    | exact sim_never
    | exact sim_retN
    | exact sim_break
    | exact sim_cont
    | exact sim_gname
    | exact sim_gnil
    | exact sim_yes
    | exact sim_noPart
    | exact sim_newK
    | exact sim_mNewKt
    | exact sim_newT
    | exact SimL.nil
    | exact sim_disp1 (fun _ => .int _)
    | exact sim_c (fun _ => .str _)
    | exact sim_c (fun _ => .int _)
    | exact sim_c (fun _ => .bl _)
    | exact sim_c (fun _ => .non)
    | exact sim_c (fun _ => .ty _)
    | apply sim_call
    | apply sim_meth
    | apply sim_prop
    | apply sim_CB
    | apply sim_op
    | apply sim_test
    | apply sim_B
    | apply sim_and
    | apply sim_or
    | apply sim_not
    | apply sim_cons
    | apply sim_fld
    | apply sim_tup
    | apply sim_lst
    | apply sim_mLst
    | apply sim_seq
    | apply sim_asg
    | apply sim_ret
    | apply sim_mRetF
    | apply sim_drop
    | apply sim_ifS
    | apply sim_mFrz
    | apply sim_gcons
    | apply sim_gtup
    | apply sim_lc
    | apply sim_ilist
    | apply sim_irng1
    | apply sim_istr
    | apply sim_ienum
    | apply sim_itup
    | apply sim_for
    | apply sim_while
    | apply sim_andV
    | apply sim_orV
    | apply sim_notV
    | apply sim_chain
    | apply sim_dget
    | apply sim_din
    | apply sim_dnin
    | apply sim_dget1
    | apply sim_app
    | apply sim_ext
    | apply sim_popAt
    | apply sim_indexS
    | apply sim_dput
    | apply sim_fldS
    | apply sim_aug
    | apply sim_slL
    | apply sim_slT
    | apply sim_part
    | apply sim_if
    | apply sim_tru
    | apply sim_orT
    | apply sim_dc
    | apply sim_lc2
    | (apply sim_lock; apply simF_lc)
    | (apply sim_lock; apply simF_lc2)
    | apply sim_split
    | apply sim_join
    | apply sim_fmt
    | apply sim_joined
    | apply SimL.cons
    | apply sim_callM
    | apply sim_methM
    | apply sim_make
    | apply sim_lenSet
    | apply sim_rgL
    | apply sim_ienumK
    | apply sim_kw kw_minDf
    | apply sim_kw kw_maxDf
    | exact rfl
    | (walk_at "op")
    | (walk_at "cs")))
local macro_rules
  | `(tactic| walk_at "rd") => `(tactic| repeat (first | refine ⟨_, rfl, ?_⟩ | refine ⟨_, _, rfl, ?_⟩ | refine ⟨_, _, rfl, rfl, ?_⟩))
namespace F__law_row
abbrev sDef : Stmt := top 94
abbrev sN : List Str := ["_law_cell", "_law_many", "_law_row_here", "_law_rest", "_law_state", "_law_k"]
abbrev sP : List Str := ["_law_cell", "_law_many"]
theorem sc : FnScope sN sP (defScope sDef) := ⟨rfl, rfl, rfl, by decide +kernel, rfl, by decide +kernel, by decide +kernel⟩
def Low (ns : List Int) : Prop := ∀ x ∈ ns, 0 ≤ x ∧ x < 1009
theorem Low.snoc {ns : List Int} (h : Low ns) (x : Int) : Low (ns ++ [x % 1009]) := fun y hy => by
  rcases List.mem_append.mp hy with hy | hy
  · exact h y hy
  · rw [List.mem_singleton.mp hy]
    omega
def S : SD := fun ds m Q => ∃ (c : Int) (n : Nat), ds = [.int c, .int n] ∧ n ≤ 100 ∧ ∀ ns : List Int, ns.length = n → Low ns → Q (.lst (ns.map D.int))
theorem ok {P : Program} {w : World} {K : Fg} {mg : Str → Option Value} {base : Heap} {CL CD CS CU GS f : Addr} {fd : FuncData} (F : FnP K "_law_row" "_law_row" sDef f fd) (T : Txt K mg CL CD CS CU GS)  : FnOk P w K mg base CX0 1 f fd sP (spP K (S)) := by
  refine okP F sc (fun ds m Qd h => ?_) fun cdv A outer s H E hr => ?_
  · obtain ⟨c, n, rfl, hn, q⟩ := h
    rfl
  have hu := hu_of hr
  refine ⟨_, _, (pss_cons (ps_set (i := 2) sc.nd rfl (Or.inl rfl) (pe_lstM pa_nil)) (pss_cons (ps_set (i := 3) sc.nd rfl (Or.inl rfl) pe_int) (pss_cons (ps_if (pt_cmpR op_ge (pe_callB call_abs (by rfl) T.n_abs (by decide +kernel) (pa_cons (pv 0) pa_nil)) (pe_op op_pow pe_int pe_int) (by rfl)) (pss_one (ps_set (i := 3) sc.nd rfl (Or.inl rfl) (pe_callB call_abs (by rfl) T.n_abs (by decide +kernel) (pa_cons (pv 0) pa_nil)))) pss_nil) (pss_cons (ps_set (i := 4) sc.nd rfl (Or.inl rfl) (pe_op op_mod (pe_callTy call_int1 (by rfl) T.n_int (by decide +kernel) (pa_cons (pe_callB call_abs (by rfl) T.n_abs (by decide +kernel) (pa_cons (pv 0) pa_nil)) pa_nil)) pe_int)) (pss_cons (ps_for PassesOwn.never rfl (pi_range1 rfl T.n_range (pa_cons (pv 1) pa_nil)) (pg_name (i := 5) sc.nd rfl (by first | exact Or.inl rfl | exact Or.inr rfl)) (pss_cons (ps_set (i := 4) sc.nd rfl (Or.inl rfl) (pe_op op_mod (pe_callTy call_int1 (by rfl) T.n_int (by decide +kernel) (pa_cons (pe_op op_add (pe_op op_mul (pe_op op_add (pv 4) pe_int) pe_int) (pe_op op_mul pe_int (pv 5))) pa_nil)) pe_int)) (pss_one (ps_if (pt_cmpR op_gt (pv 3) pe_int (by rfl)) (pss_cons (ps_expr (pe_bm PySem.F.plainAttrs_list PySem.F.slot_list_append PySem.F.type_list_append mt_append (pv 2) (pa_cons (pe_op op_mod (pe_callTy call_int1 (by rfl) T.n_int (by decide +kernel) (pa_cons (pv 3) pa_nil)) pe_int) pa_nil))) (pss_one (ps_set (i := 3) sc.nd rfl (Or.inl rfl) (pe_op op_fdiv (pv 3) pe_int)))) (pss_one (ps_expr (pe_bm PySem.F.plainAttrs_list PySem.F.slot_list_append PySem.F.type_list_append mt_append (pv 2) (pa_cons (pe_op op_mod (pe_callTy call_int1 (by rfl) T.n_int (by decide +kernel) (pa_cons (pe_op op_fdiv (pv 4) pe_int) pa_nil)) pe_int) pa_nil)))))))) (pss_one (ps_retF (pv 2)))))))), by walk_at "sim", ?h⟩
  intro ds m Qd hz h
  obtain ⟨c, n, rfl, hn, q⟩ := h
  refine ⟨(by decide : 0 ≤ sizeLine), fun a ha => ?_⟩
  have go : ∀ r : Int, dSeq
          (dAsg
            (dOp (dIC (fun x j => 0 < j) fun x x_1 => D.int (x % x_1))
              (dCB dInt1 (dCons (dCB dAbs (dCons (dVar 0) dNil)) dNil)) (dC (D.int 2147483647)))
            (hName 4))
          (dSeq
            (dFor (dRng1 (dCons (dVar 1) dNil)) (hName 5)
              (dSeq
                (dAsg
                  (dOp (dIC (fun x j => 0 < j) fun x x_1 => D.int (x % x_1))
                    (dCB dInt1
                      (dCons
                        (dOp (dI0 fun x x_1 => D.int (x + x_1))
                          (dOp (dIC CMul fun x x_1 => D.int (x * x_1))
                            (dOp (dI0 fun x x_1 => D.int (x + x_1)) (dVar 4) (dC (D.int 1))) (dC (D.int 48271)))
                          (dOp (dIC CMul fun x x_1 => D.int (x * x_1)) (dC (D.int 69621)) (dVar 5)))
                        dNil))
                    (dC (D.int 2147483647)))
                  (hName 4))
                (dIfS (dTest (dOp (dI0 fun x x_1 => D.bl (decide (x_1 < x))) (dVar 3) (dC (D.int 0))))
                  (dSeq
                    (dDrop
                      (dApp (dVar 2)
                        (dCons
                          (dOp (dIC (fun x j => 0 < j) fun x x_1 => D.int (x % x_1)) (dCB dInt1 (dCons (dVar 3) dNil))
                            (dC (D.int 1009)))
                          dNil)))
                    (dAsg (dOp (dIC CDiv fun x x_1 => D.int (x / x_1)) (dVar 3) (dC (D.int 1009))) (hName 3)))
                  (dDrop
                    (dApp (dVar 2)
                      (dCons
                        (dOp (dIC (fun x j => 0 < j) fun x x_1 => D.int (x % x_1))
                          (dCB dInt1
                            (dCons (dOp (dIC CDiv fun x x_1 => D.int (x / x_1)) (dVar 4) (dC (D.int 2048))) dNil))
                          (dC (D.int 1009)))
                        dNil))))))
            (dRetF (dVar 2)))
    { nx := fun x m' => L3.Sub m m' ∧ Qd D.non, rt := fun d m' => L3.Sub m m' ∧ Qd d } [some (.int c), some (.int n), some (.ref a), some (.int r), none, none] (m.set a (.lst [])) := fun r => by
    refine ⟨_, rfl, c, rfl, _, rfl, _, _, rfl, rfl, (show (0 : Int) < 2147483647 by decide), _, rfl, n, rfl, by omega, by omega, ?_⟩
    rw [Int.toNat_natCast, rngD_map]
    refine forX (fun (i : Nat) => D.int (i : Nat)) (List.range n) (fun i δ' m' => ∃ ns : List Int, m' = m.set a (.lst (ns.map D.int)) ∧ (∃ r s k, δ' = [some (.int c), some (.int n), some (.ref a), some (.int r), some (.int s), k]) ∧ ns.length = i ∧ Low ns)
      ⟨[], rfl, ⟨_, _, _, rfl⟩, rfl, fun x hx => by cases hx⟩ (fun _ _ _ _ => trivial) (fun i x δ' m' hx h => ?_) fun δ' m' h => ?_
    · obtain ⟨ns, rfl, ⟨r, s, k, rfl⟩, hl, hlow⟩ := h
      have hi := (List.getElem?_eq_some_iff.mp hx).1
      rw [List.length_range] at hi
      have lc : LsD (m.set a (.lst (ns.map D.int))) (.ref a) (ns.map D.int) := .inr (.inr ⟨a, rfl, Mu.set_same⟩)
      have len : (ns.map D.int).length < sizeLine := by
        rw [List.length_map]
        exact Nat.lt_of_lt_of_le (show ns.length < 10000 by omega) (by decide)
      have nx : ∀ (v : Int) (r s : Int) (k : Option D), ∃ ns2 : List Int, (m.set a (.lst (ns.map D.int))).set a (.lst (ns.map D.int ++ [.int (v % 1009)])) = m.set a (.lst (ns2.map D.int)) ∧ (∃ r' s' k', [some (.int c), some (.int n), some (.ref a), some (.int r), some (.int s), k] = [some (.int c), some (.int n), some (.ref a), some (.int r'), some (.int s'), k']) ∧ ns2.length = i + 1 ∧ Low ns2 := fun v r s k => by
        refine ⟨ns ++ [v % 1009], ?_, ⟨_, _, _, rfl⟩, ?_, hlow.snoc v⟩
        · rw [Mu.set_set, List.map_append]
          rfl
        · rw [List.length_append, hl]
          rfl
      refine ⟨_, rfl, _, _, rfl, rfl, _, _, rfl, rfl, .inr (by decide), _, rfl, _, _, rfl, rfl, .inl (by decide), _, _, rfl, rfl, _, rfl, _, _, rfl, rfl, (show (0 : Int) < 2147483647 by decide), ?_⟩
      refine ⟨_, rfl, _, _, rfl, rfl, _, rfl, iteB (fun h1 => ?_) fun h1 => ?_⟩
      · exact ⟨_, rfl, ⟨_, lc⟩, _, rfl, _, rfl, _, _, rfl, rfl, (show (0 : Int) < 1009 by decide), a, _, _, rfl, rfl, Mu.set_same, len, _, rfl, _, _, rfl, rfl, (show (0 : Int) < 1009 ∧ (1009 : Int) < 1073741824 by decide), nx _ _ _ _⟩
      · exact ⟨_, rfl, ⟨_, lc⟩, _, rfl, _, _, rfl, rfl, (show (0 : Int) < 2048 ∧ (2048 : Int) < 1073741824 by decide), _, rfl, _, _, rfl, rfl, (show (0 : Int) < 1009 by decide), a, _, _, rfl, rfl, Mu.set_same, len, nx _ _ _ _⟩
    · obtain ⟨ns, rfl, ⟨r, s, k, rfl⟩, hl, hlow⟩ := h
      rw [List.length_range] at hl
      refine ⟨_, rfl, a, _, rfl, Mu.set_same, ?_, q ns hl hlow⟩
      rw [Mu.del_set ha]
      exact .refl
  exact ⟨_, rfl, c, rfl, _, _, rfl, rfl, ⟨by decide, by decide, by decide⟩, _, _, rfl, rfl, _, rfl, iteB (fun h => ⟨_, rfl, c, rfl, go _⟩) fun h => go 0⟩
end F__law_row
namespace F__law_numbers
abbrev sDef : Stmt := top 95
abbrev sN : List Str := ["_law_script", "_law_many", "_law_cells", "_law_each", "_law_numbers_here", "_law_cell", "_law_number"]
abbrev sP : List Str := ["_law_script", "_law_many"]
theorem sc : FnScope sN sP (defScope sDef) := ⟨rfl, rfl, rfl, by decide +kernel, rfl, by decide +kernel, by decide +kernel⟩
open F__law_row
theorem cut_to (ds : List D) (k : Nat) : L3.cutD ds none (some (k : Nat)) = ds.take k := by
  unfold L3.cutD
  rw [HT.sIx_none, HT.sIx_nat, Nat.sub_zero, List.drop_zero]
  rcases Nat.le_total k ds.length with h | h
  · rw [Nat.min_eq_left h]
  · rw [Nat.min_eq_right h, List.take_length, List.take_of_length_le h]
theorem cut_from (ds : List D) (k : Nat) : L3.cutD ds (some (k : Nat)) none = ds.drop k := by
  unfold L3.cutD
  rw [HT.sIx_none, HT.sIx_nat]
  rcases Nat.le_total k ds.length with h | h
  · rw [Nat.min_eq_left h, List.take_of_length_le (by rw [List.length_drop]; omega)]
  · rw [Nat.min_eq_right h, Nat.sub_self, List.take_zero, List.drop_eq_nil_of_le h]
theorem Low.add {xs ys : List Int} (h : Low xs) (k : Low ys) : Low (xs ++ ys) := fun y hy => by
  rcases List.mem_append.mp hy with hy | hy
  · exact h y hy
  · exact k y hy
theorem Low.take {xs : List Int} (h : Low xs) (k : Nat) : Low (xs.take k) := fun y hy => h y (List.mem_of_mem_take hy)
def S : SD := fun ds m Q => ∃ (x : D) (xs : List Int), ds = [x, .int 50] ∧ LsD m x (xs.map D.int) ∧ ∀ ns : List Int, ns.length = 50 → Low ns → Q (.lst (ns.map D.int))
theorem ok {P : Program} {w : World} {K : Fg} {mg : Str → Option Value} {base : Heap} {CL CD CS CU GS f : Addr} {fd : FuncData} (F : FnP K "_law_numbers" "_law_numbers" sDef f fd) (T : Txt K mg CL CD CS CU GS) (hlaw_row : Cal P w K mg base 1 "_law_row" ["_law_cell", "_law_many"] (spP K (F__law_row.S))) : FnOk P w K mg base CX0 2 f fd sP (spP K (S)) := by
  refine okP F sc (fun ds m Qd h => ?_) fun cdv A outer s H E hr => ?_
  · obtain ⟨x, xs, rfl, hx, q⟩ := h
    rfl
  have hu := hu_of hr
  refine ⟨_, _, (pss_cons (ps_set (i := 2) sc.nd rfl (Or.inl rfl) (pe_slice (kSlL (K := K) (by rfl)) (pv 0) po_none (po_some pe_int))) (pss_cons (ps_set (i := 3) sc.nd rfl (Or.inl rfl) (pe_op op_add pe_int (pe_op op_fdiv (pv 1) (pe_callB (call_max2 rfl) (by rfl) T.n_max (by decide +kernel) (pa_cons pe_int (pa_cons (pe_callB (kLen (K := K) (by rfl)) (by rfl) T.n_len PySem.boot_len (pa_cons (pv 2) pa_nil)) pa_nil)))))) (pss_cons (ps_set (i := 4) sc.nd rfl (Or.inl rfl) (pe_lstM pa_nil)) (pss_cons (ps_for PassesOwn.never rfl (kList (K := K) (by rfl) (pv 2)) (pg_name (i := 5) sc.nd rfl (by first | exact Or.inl rfl | exact Or.inr rfl)) (pss_one (ps_for PassesOwn.never rfl (kList (K := K) (by rfl) (pe_cal hlaw_row hr (by decide) rfl (pa_cons (pv 5) (pa_cons (pv 3) pa_nil)))) (pg_name (i := 6) sc.nd rfl (by first | exact Or.inl rfl | exact Or.inr rfl)) (pss_one (ps_expr (pe_bm PySem.F.plainAttrs_list PySem.F.slot_list_append PySem.F.type_list_append mt_append (pv 4) (pa_cons (pv 6) pa_nil))))))) (pss_cons (ps_while PassesOwn.never (pt_cmpR op_lt (pe_callB (kLen (K := K) (by rfl)) (by rfl) T.n_len PySem.boot_len (pa_cons (pv 4) pa_nil)) (pv 1) (by rfl)) (pss_one (ps_expr (pe_bm PySem.F.plainAttrs_list PySem.F.slot_list_append PySem.F.type_list_append mt_append (pv 4) (pa_cons pe_int pa_nil))))) (pss_one (ps_frz 4 (ps_ret (pe_slice (kSlL (K := K) (by rfl)) (pv 4) po_none (po_some (pv 1))))))))))), by walk_at "sim", ?h⟩
  intro ds m Qd hz h
  obtain ⟨x, xs, rfl, hx, q⟩ := h
  refine ⟨_, rfl, _, rfl, _, hx, ?_⟩
  have ec : L3.cutD (xs.map D.int) none (some 63) = (xs.take 63).map D.int := (cut_to _ 63).trans (by rw [List.map_take])
  rw [ec]
  have cl : (xs.take 63).length ≤ 63 := by
    rw [List.length_take]
    omega
  generalize xs.take 63 = cs at cl ec
  have cl2 : (cs.map D.int).length = cs.length := List.length_map _
  obtain ⟨e, he, e1⟩ : ∃ e : Nat, (1 : Int) + 50 / (if (((cs.map D.int).length : Nat) : Int) > 1 then (((cs.map D.int).length : Nat) : Int) else 1) = (e : Nat) ∧ e ≤ 51 := by
    rw [cl2]
    split
    · rename_i h
      refine ⟨(1 + 50 / ((cs.length : Nat) : Int)).toNat, ?_, ?_⟩
      · have : 0 ≤ (50 : Int) / ((cs.length : Nat) : Int) := Int.ediv_nonneg (by decide) (by omega)
        omega
      · have : (50 : Int) / ((cs.length : Nat) : Int) ≤ 50 := Int.ediv_le_self _ (by decide)
        omega
    · exact ⟨51, by decide, by decide⟩
  refine ⟨_, rfl, _, rfl, _, _, rfl, .inl ⟨_, .inl (.inl rfl), rfl⟩, _, _, rfl, _, _, rfl, rfl, ?_, _, _, rfl, rfl, ?_⟩
  · constructor
    · split <;> omega
    · rw [cl2]
      split <;> omega
  dsimp only
  rw [he]
  refine ⟨(by decide : 0 ≤ sizeLine), fun a ha => ?_⟩
  refine ⟨_, rfl, _, .inl rfl, ?_⟩
  refine forX D.int cs (fun i δ' m' => ∃ ns : List Int, m' = m.set a (.lst (ns.map D.int)) ∧ (∃ p r, δ' = [some x, some (.int 50), some (.lst (cs.map D.int)), some (iD e), some (.ref a), p, r]) ∧ ns.length ≤ 51 * i ∧ Low ns)
    ⟨[], rfl, ⟨_, _, rfl⟩, Nat.le_refl _, fun x hx => by cases hx⟩ (fun _ _ _ _ => .inl rfl) (fun i c δ' m' hc h => ?_) fun δ' m' h => ?_
  · obtain ⟨ns, rfl, ⟨p, r, rfl⟩, hl, hlow⟩ := h
    have hi := (List.getElem?_eq_some_iff.mp hc).1
    refine ⟨_, rfl, _, rfl, hz, c, e, rfl, by omega, fun ys yl ylow => ⟨_, .inl rfl, ?_⟩⟩
    refine forX D.int ys (fun j δ' m' => m' = m.set a (.lst ((ns ++ ys.take j).map D.int)) ∧ (∃ r, δ' = [some x, some (.int 50), some (.lst (cs.map D.int)), some (iD e), some (.ref a), some (.int c), r]))
      ⟨by simp, ⟨_, rfl⟩⟩ (fun _ _ _ _ => .inl rfl) (fun j y δ' m' hy h => ?_) fun δ' m' h => ?_
    · obtain ⟨rfl, ⟨r, rfl⟩⟩ := h
      have hj := (List.getElem?_eq_some_iff.mp hy).1
      refine ⟨_, rfl, ⟨_, .inr (.inr ⟨a, rfl, Mu.set_same⟩)⟩, _, rfl, a, _, _, rfl, rfl, Mu.set_same, ?_, ?_, ⟨_, rfl⟩⟩
      · rw [List.length_map, List.length_append, List.length_take]
        exact Nat.lt_of_lt_of_le (show _ < 10000 by omega) (by decide)
      · rw [Mu.set_set, take_next hy, ← List.append_assoc, List.map_append (l₂ := [y])]
        rfl
    · obtain ⟨rfl, ⟨r, rfl⟩⟩ := h
      rw [List.take_length]
      refine ⟨ns ++ ys, rfl, ⟨_, _, rfl⟩, ?_, Low.add hlow ylow⟩
      rw [List.length_append]
      omega
  · obtain ⟨ns, rfl, ⟨p, r, rfl⟩, hl, hlow⟩ := h
    refine ⟨fun k δ' m' => ∃ ns : List Int, m' = m.set a (.lst (ns.map D.int)) ∧ (∃ p r, δ' = [some x, some (.int 50), some (.lst (cs.map D.int)), some (iD e), some (.ref a), p, r]) ∧ ns.length ≤ 5000 ∧ Low ns ∧ k = 50 - ns.length, ⟨_, ns, rfl, ⟨_, _, rfl⟩, by omega, hlow, rfl⟩, fun k δ' m' h => ?_⟩
    obtain ⟨ns, rfl, ⟨p, r, rfl⟩, hl, hlow, rfl⟩ := h
    have nl : (ns.map D.int).length = ns.length := List.length_map _
    refine ⟨_, rfl, _, _, rfl, .inl ⟨_, .inl (.inr (.inr ⟨a, rfl, Mu.set_same⟩)), rfl⟩, _, rfl, _, _, rfl, rfl, _, rfl, iteB (fun h1 => ?_) fun h1 => ?_⟩
    · have h1 := of_decide_eq_true h1
      refine ⟨_, rfl, ⟨_, .inr (.inr ⟨a, rfl, Mu.set_same⟩)⟩, a, _, _, rfl, rfl, Mu.set_same, ?_, 50 - (ns ++ [0]).length, ?_, ns ++ [0], ?_, ⟨_, _, rfl⟩, ?_, ?_, rfl⟩
      · rw [nl]
        exact Nat.lt_of_lt_of_le (show _ < 10000 by omega) (by decide)
      · rw [List.length_append, List.length_singleton]
        omega
      · rw [Mu.set_set, List.map_append]
        rfl
      · rw [List.length_append, List.length_singleton]
        omega
      · refine Low.add hlow fun y hy => ?_
        rw [List.mem_singleton.mp hy]
        decide
    · have h1 := of_decide_eq_false h1
      refine ⟨a, _, rfl, Mu.set_same, ?_⟩
      refine ⟨_, rfl, _, rfl, _, rfl, _, .inl rfl, ?_⟩
      have ec2 : L3.cutD (ns.map D.int) none (some 50) = (ns.take 50).map D.int := (cut_to _ 50).trans (by rw [List.map_take])
      rw [ec2, Mu.del_set ha]
      refine ⟨.refl, q _ ?_ (Low.take hlow 50)⟩
      rw [List.length_take]
      omega
end F__law_numbers
namespace F__law_parts
abbrev sDef : Stmt := top 96
abbrev sN : List Str := ["_law_numbers_here", "_law_at", "_law_many", "_law_more", "_law_things", "_law_grades", "_law_judges", "_law_k", "_law_events", "_law_place", "_law_judge"]
abbrev sP : List Str := ["_law_numbers_here", "_law_at", "_law_many", "_law_more"]
theorem sc : FnScope sN sP (defScope sDef) := ⟨rfl, rfl, rfl, by decide +kernel, rfl, by decide +kernel, by decide +kernel⟩
open F__law_row F__law_numbers
def T8 : List Str := ["pear", "a", "x9", "b", "fig", "q0", "zz", "c"]
def J3 : List Str := ["ann", "a", "j2"]
def D3 : List Str := ["rises", "falls", "stays"]
theorem t8_ok : T8.Nodup ∧ ∀ x ∈ T8, nameB x = true := by decide +kernel
theorem j3_ok : J3.Nodup ∧ ∀ x ∈ J3, nameB x = true := by decide +kernel
theorem d3_ok : ∀ k, k < 3 → ∃ d, (D3.map D.str)[k]? = some (.str d) ∧ driftB d = true
  | 0, _ => ⟨_, rfl, by decide +kernel⟩
  | 1, _ => ⟨_, rfl, by decide +kernel⟩
  | 2, _ => ⟨_, rfl, by decide +kernel⟩
  | n + 3, h => by omega
theorem g5_ok : ∀ k, k < 5 → ∃ g : Int, ([.int 1, .int 1, .int 2, .int 3, .int 9] : List D)[k]? = some (.int g) ∧ 1 ≤ g ∧ g ≤ 9
  | 0, _ => ⟨1, rfl, by decide, by decide⟩
  | 1, _ => ⟨1, rfl, by decide, by decide⟩
  | 2, _ => ⟨2, rfl, by decide, by decide⟩
  | 3, _ => ⟨3, rfl, by decide, by decide⟩
  | 4, _ => ⟨9, rfl, by decide, by decide⟩
  | n + 5, h => by omega
theorem names_take {xs : List Str} {k t : Nat} (h : xs.Nodup ∧ ∀ x ∈ xs, nameB x = true) (h1 : 1 ≤ k) (h2 : k ≤ t) (h3 : t ≤ xs.length) : Names (xs.take k) t :=
  ⟨(List.take_sublist _ _).nodup h.1, by rw [List.length_take]; omega, by rw [List.length_take]; omega, fun x hx => h.2 x (List.mem_of_mem_take hx)⟩
def S : SD := fun ds m Q => ∃ (ns : List Int), ds = [.lst (ns.map D.int), .int 0, .int 5, .int 9] ∧ ns.length = 50 ∧ Low ns ∧ ∀ L, LogOk L → Q (toldD L)
theorem ok {P : Program} {w : World} {K : Fg} {mg : Str → Option Value} {base : Heap} {CL CD CS CU GS f : Addr} {fd : FuncData} (F : FnP K "_law_parts" "_law_parts" sDef f fd) (T : Txt K mg CL CD CS CU GS)  : FnOk P w K mg base CX0 1 f fd sP (spP K (S)) := by
  refine okP F sc (fun ds m Qd h => ?_) fun cdv A outer s H E hr => ?_
  · obtain ⟨ns, rfl, hl, low, q⟩ := h
    rfl
  have hu := hu_of hr
  refine ⟨_, _, (pss_cons (ps_set (i := 4) sc.nd rfl (Or.inl rfl) (pe_slice (kSlL (K := K) (by rfl)) (pe_lst (pa_cons pe_str (pa_cons pe_str (pa_cons pe_str (pa_cons pe_str (pa_cons pe_str (pa_cons pe_str (pa_cons pe_str (pa_cons pe_str pa_nil))))))))) po_none (po_some (pe_op op_add pe_int (pe_op op_mod (pe_callTy call_int1 (by rfl) T.n_int (by decide +kernel) (pa_cons (pe_ix (kIx (K := K) (by rfl)) (pv 0) (pv 1) (fun _ _ => rfl)) pa_nil)) (pv 2)))))) (pss_cons (ps_set (i := 5) sc.nd rfl (Or.inl rfl) (pe_ix (kIx (K := K) (by rfl)) (pe_lst (pa_cons pe_int (pa_cons pe_int (pa_cons pe_int (pa_cons pe_int (pa_cons pe_int pa_nil)))))) (pe_op op_mod (pe_callTy call_int1 (by rfl) T.n_int (by decide +kernel) (pa_cons (pe_ix (kIx (K := K) (by rfl)) (pv 0) (pe_op op_add (pv 1) pe_int) (fun _ _ => rfl)) pa_nil)) pe_int) (fun _ _ => rfl))) (pss_cons (ps_set (i := 6) sc.nd rfl (Or.inl rfl) (pe_lstM pa_nil)) (pss_cons (ps_for PassesOwn.never rfl (pi_range1 rfl T.n_range (pa_cons (pe_op op_add pe_int (pe_op op_mod (pe_callTy call_int1 (by rfl) T.n_int (by decide +kernel) (pa_cons (pe_ix (kIx (K := K) (by rfl)) (pv 0) (pe_op op_add (pv 1) pe_int) (fun _ _ => rfl)) pa_nil)) pe_int)) pa_nil)) (pg_name (i := 7) sc.nd rfl (by first | exact Or.inl rfl | exact Or.inr rfl)) (pss_one (ps_expr (pe_bm PySem.F.plainAttrs_list PySem.F.slot_list_append PySem.F.type_list_append mt_append (pv 6) (pa_cons (pe_tup (pa_cons (pe_ix (kIx (K := K) (by rfl)) (pe_lst (pa_cons pe_str (pa_cons pe_str (pa_cons pe_str pa_nil)))) (pv 7) (fun _ _ => rfl)) (pa_cons (pe_ix (kIx (K := K) (by rfl)) (pe_lst (pa_cons pe_str (pa_cons pe_str (pa_cons pe_str pa_nil)))) (pe_op op_mod (pe_callTy call_int1 (by rfl) T.n_int (by decide +kernel) (pa_cons (pe_ix (kIx (K := K) (by rfl)) (pv 0) (pe_op op_add (pe_op op_add (pv 1) pe_int) (pv 7)) (fun _ _ => rfl)) pa_nil)) pe_int) (fun _ _ => rfl)) pa_nil))) pa_nil))))) (pss_cons (ps_set (i := 8) sc.nd rfl (Or.inl rfl) (pe_lstM pa_nil)) (pss_cons (ps_for PassesOwn.never rfl (pi_range1 rfl T.n_range (pa_cons (pe_op op_mod (pe_callTy call_int1 (by rfl) T.n_int (by decide +kernel) (pa_cons (pe_ix (kIx (K := K) (by rfl)) (pv 0) (pe_op op_add (pv 1) pe_int) (fun _ _ => rfl)) pa_nil)) (pe_op op_add (pv 3) pe_int)) pa_nil)) (pg_name (i := 7) sc.nd rfl (by first | exact Or.inl rfl | exact Or.inr rfl)) (pss_cons (ps_set (i := 9) sc.nd rfl (Or.inl rfl) (pe_op op_add (pe_op op_add (pv 1) pe_int) (pe_op op_mul pe_int (pv 7)))) (pss_cons (ps_set (i := 10) sc.nd rfl (Or.inl rfl) (pe_ix (kIx (K := K) (by rfl)) (pe_ix (kIx (K := K) (by rfl)) (pv 6) (pe_op op_mod (pe_callTy call_int1 (by rfl) T.n_int (by decide +kernel) (pa_cons (pe_ix (kIx (K := K) (by rfl)) (pv 0) (pv 9) (fun _ _ => rfl)) pa_nil)) (pe_callB (kLen (K := K) (by rfl)) (by rfl) T.n_len PySem.boot_len (pa_cons (pv 6) pa_nil))) (fun _ _ => rfl)) pe_int (fun _ _ => rfl))) (pss_one (ps_if (pt_cmpR op_eq (pe_op op_mod (pe_op op_fdiv (pe_callTy call_int1 (by rfl) T.n_int (by decide +kernel) (pa_cons (pe_ix (kIx (K := K) (by rfl)) (pv 0) (pv 9) (fun _ _ => rfl)) pa_nil)) pe_int) pe_int) pe_int (by rfl)) (pss_one (ps_expr (pe_bm PySem.F.plainAttrs_list PySem.F.slot_list_append PySem.F.type_list_append mt_append (pv 8) (pa_cons (pe_tup (pa_cons pe_str (pa_cons (pv 10) pa_nil))) pa_nil)))) (pss_one (ps_expr (pe_bm PySem.F.plainAttrs_list PySem.F.slot_list_append PySem.F.type_list_append mt_append (pv 8) (pa_cons (pe_tup (pa_cons pe_str (pa_cons (pv 10) (pa_cons (pe_ix (kIx (K := K) (by rfl)) (pv 4) (pe_op op_mod (pe_callTy call_int1 (by rfl) T.n_int (by decide +kernel) (pa_cons (pe_ix (kIx (K := K) (by rfl)) (pv 0) (pe_op op_add (pv 9) pe_int) (fun _ _ => rfl)) pa_nil)) (pe_callB (kLen (K := K) (by rfl)) (by rfl) T.n_len PySem.boot_len (pa_cons (pv 4) pa_nil))) (fun _ _ => rfl)) (pa_cons (pe_op op_mod (pe_callTy call_int1 (by rfl) T.n_int (by decide +kernel) (pa_cons (pe_ix (kIx (K := K) (by rfl)) (pv 0) (pe_op op_add (pv 9) pe_int) (fun _ _ => rfl)) pa_nil)) (pe_op op_add (pv 5) pe_int)) pa_nil))))) pa_nil))))))))) (pss_one (ps_frz 8 (ps_frz 6 (ps_ret (pe_tup (pa_cons (pv 4) (pa_cons (pv 5) (pa_cons (pv 6) (pa_cons (pv 8) pa_nil))))))))))))))), by walk_at "sim", ?h⟩
  intro ds m Qd hz h
  obtain ⟨ns, rfl, hl, low, q⟩ := h
  have num : ∀ i, i < 50 → ∃ v : Nat, (ns.map D.int)[i]? = some (.int (v : Nat)) := fun i hi => by
    have hx : ns[i]? = some ns[i] := List.getElem?_eq_getElem (by omega)
    obtain ⟨h1, h2⟩ := low ns[i] (List.getElem_mem _)
    refine ⟨ns[i].toNat, ?_⟩
    rw [List.getElem?_map, hx, Int.toNat_of_nonneg h1]
    rfl
  have ix : ∀ {i : Nat} {v : Nat} {z : Int} (Q : QD) (m : Mu), (ns.map D.int)[i]? = some (.int (v : Nat)) → z = (i : Nat) → Q (.int (v : Nat)) m → dIx (.lst (ns.map D.int)) (.int z) m Q := fun Q m h e q => ⟨_, _, _, .inl (.inl rfl), rfl, by rw [e]; exact at_nat h, q⟩
  obtain ⟨v0, h0⟩ := num 0 (by decide)
  obtain ⟨v1, h1⟩ := num 1 (by decide)
  obtain ⟨v2, h2⟩ := num 2 (by decide)
  obtain ⟨v6, h6⟩ := num 6 (by decide)
  -- things
  have tl : 1 + v0 % 5 ≤ 5 := by omega
  have ec : L3.cutD (T8.map D.str) none (some (1 + ((v0 : Nat) : Int) % 5)) = (T8.take (1 + v0 % 5)).map D.str := by
    have e : (1 + ((v0 : Nat) : Int) % 5) = ((1 + v0 % 5 : Nat) : Int) := by omega
    rw [e, cut_to, List.map_take]
  have tn : Names (T8.take (1 + v0 % 5)) 5 := names_take t8_ok (by omega) tl (by decide)
  refine ⟨(by decide : 8 ≤ sizeLine), _, rfl, _, rfl, ix _ _ h0 rfl ⟨_, rfl, _, rfl, _, _, rfl, rfl, (show (0 : Int) < 5 by decide), _, _, rfl, rfl, _, rfl, T8.map D.str, .inl rfl, ?_⟩⟩
  rw [ec]
  generalize T8.take (1 + v0 % 5) = th at tn
  -- grades
  obtain ⟨g, hg, g1, g9⟩ := g5_ok (v1 % 5) (by omega)
  refine ⟨(by decide : 5 ≤ sizeLine), _, rfl, _, rfl, _, _, rfl, rfl, ix _ _ h1 rfl ⟨_, rfl, _, _, rfl, rfl, (show (0 : Int) < 5 by decide), _, _, _, .inl (.inl rfl), rfl, at_nat (k := v1 % 5) hg, ?_⟩⟩
  refine ⟨(by decide : 0 ≤ sizeLine), fun a ha => ?_⟩
  refine ⟨_, rfl, _, rfl, _, _, rfl, rfl, ix _ _ h2 rfl ⟨_, rfl, _, _, rfl, rfl, (show (0 : Int) < 3 by decide), _, _, rfl, rfl, _, rfl, by omega, by omega, ?_⟩⟩
  have ej : (1 + ((v2 : Nat) : Int) % 3).toNat = 1 + v2 % 3 := by omega
  rw [ej, rngD_map]
  refine forX (fun (i : Nat) => D.int (i : Nat)) (List.range (1 + v2 % 3)) (fun i δ' m' => ∃ js : List (Str × Str), m' = m.set a (.lst (js.map juD)) ∧ (∃ p q r s, δ' = [some (.lst (ns.map D.int)), some (.int 0), some (.int 5), some (.int 9), some (.lst (th.map D.str)), some (.int g), some (.ref a), p, q, r, s]) ∧ js.map Prod.fst = J3.take i ∧ ∀ p ∈ js, driftB p.2 = true)
    ⟨[], rfl, ⟨_, _, _, _, rfl⟩, rfl, fun p hp => by cases hp⟩ (fun _ _ _ _ => trivial) (fun i k δ' m' hk h => ?_) fun δ' m' h => ?_
  · obtain ⟨js, rfl, ⟨p, q1, r, s, rfl⟩, hj, hd⟩ := h
    obtain ⟨hi, rfl⟩ := List.getElem?_eq_some_iff.mp hk
    rw [List.length_range] at hi
    rw [List.getElem_range]
    have hJ : J3[i]? = some (J3.getD i Str.empty) := by
      have : i < J3.length := Nat.lt_of_lt_of_le hi (by show 1 + v2 % 3 ≤ 3; omega)
      rw [List.getD_eq_getElem?_getD, List.getElem?_eq_getElem this]
      rfl
    have hJd : (J3.map D.str)[i]? = some (.str (J3.getD i Str.empty)) := by rw [List.getElem?_map, hJ]; rfl
    obtain ⟨v, hv⟩ := num (3 + i) (by omega)
    obtain ⟨d, hd1, hd2⟩ := d3_ok (v % 3) (by omega)
    refine ⟨_, rfl, ⟨_, .inr (.inr ⟨a, rfl, Mu.set_same⟩)⟩, (by decide : 3 ≤ sizeLine), _, rfl, _, _, _, .inl (.inl rfl), rfl, at_nat hJd, (by decide : 3 ≤ sizeLine), _, rfl, _, rfl, _, _, rfl, rfl, _, rfl, _, _, rfl, rfl, ?_⟩
    refine ix _ _ hv (by omega) ⟨_, rfl, _, _, rfl, rfl, (show (0 : Int) < 3 by decide), _, _, _, .inl (.inl rfl), rfl, at_nat (k := v % 3) hd1, (by decide : 2 ≤ sizeLine), a, _, _, rfl, rfl, Mu.set_same, ?_, js ++ [(J3.getD i Str.empty, d)], ?_, ⟨_, _, _, _, rfl⟩, ?_, ?_⟩
    · have e := congrArg List.length hj
      rw [List.length_map, List.length_take] at e
      rw [List.length_map]
      exact Nat.lt_of_lt_of_le (show js.length < 10000 by omega) (by decide)
    · rw [Mu.set_set, List.map_append]
      rfl
    · rw [List.map_append, hj, take_next hJ]
      rfl
    · intro p hp
      rcases List.mem_append.mp hp with hp | hp
      · exact hd p hp
      · rw [List.mem_singleton.mp hp]
        exact hd2
  · obtain ⟨js, rfl, ⟨p, q1, r, s, rfl⟩, hj, hd⟩ := h
    rw [List.length_range] at hj
    have jn : Names (js.map Prod.fst) 3 := by
      rw [hj]
      exact names_take j3_ok (by omega) (by omega) (by decide)
    have jlen : js.length = (js.map Prod.fst).length := (List.length_map _).symm
    have j1 := jn.pos
    have j3 := jn.max
    refine ⟨(by decide : 0 ≤ sizeLine), fun b hb => ?_⟩
    have hab : a ≠ b := fun e => by
      rw [← e, Mu.set_same] at hb
      cases hb
    have hb0 : m.c b = none := by
      rw [Mu.set_ne hab.symm] at hb
      exact hb
    have ca : ∀ X Y, ((m.set a X).set b Y).c a = some X := fun X Y => by rw [Mu.set_ne hab, Mu.set_same]
    have cb : ∀ X Y, ((m.set a X).set b Y).c b = some Y := fun X Y => Mu.set_same
    refine ⟨_, rfl, _, rfl, _, _, rfl, rfl, ix _ _ h6 rfl ⟨_, rfl, _, rfl, _, _, rfl, rfl, _, _, rfl, rfl, (show (0 : Int) < 9 + 1 by decide), _, rfl, by omega, by omega, ?_⟩⟩
    have ee : (((v6 : Nat) : Int) % (9 + 1)).toNat = v6 % 10 := by omega
    rw [ee, rngD_map]
    refine forX (fun (i : Nat) => D.int (i : Nat)) (List.range (v6 % 10)) (fun i δ' m' => ∃ es : List Ev, m' = (m.set a (.lst (js.map juD))).set b (.lst (es.map evD)) ∧ (∃ p r s, δ' = [some (.lst (ns.map D.int)), some (.int 0), some (.int 5), some (.int 9), some (.lst (th.map D.str)), some (.int g), some (.ref a), p, some (.ref b), r, s]) ∧ es.length = i ∧ ∀ e ∈ es, evB th g (js.map Prod.fst) e = true)
      ⟨[], rfl, ⟨_, _, _, rfl⟩, rfl, fun p hp => by cases hp⟩ (fun _ _ _ _ => trivial) (fun i k δ' m' hk h => ?_) fun δ' m' h => ?_
    · obtain ⟨es, rfl, ⟨p, r, s, rfl⟩, hl, he⟩ := h
      obtain ⟨hi, rfl⟩ := List.getElem?_eq_some_iff.mp hk
      rw [List.length_range] at hi
      rw [List.getElem_range]
      obtain ⟨v, hv⟩ := num (7 + 3 * i) (by omega)
      obtain ⟨u, hu⟩ := num (8 + 3 * i) (by omega)
      obtain ⟨w1, hw⟩ := num (9 + 3 * i) (by omega)
      have ep : (0 : Int) + 7 + 3 * ((i : Nat) : Int) = ((7 + 3 * i : Nat) : Int) := by omega
      have hjx : v % js.length < js.length := Nat.mod_lt _ (by omega)
      have hjv : (js.map juD)[v % js.length]? = some (juD js[v % js.length]) := by
        rw [List.getElem?_map, List.getElem?_eq_getElem hjx]
        rfl
      have hjm : js[v % js.length].1 ∈ js.map Prod.fst := List.mem_map.mpr ⟨_, List.getElem_mem hjx, rfl⟩
      have tpos := tn.pos
      have htx : u % th.length < th.length := Nat.mod_lt _ (by omega)
      have htv : (th.map D.str)[u % th.length]? = some (.str th[u % th.length]) := by
        rw [List.getElem?_map, List.getElem?_eq_getElem htx]
        rfl
      have htm : th[u % th.length] ∈ th := List.getElem_mem htx
      have jl2 : (js.map juD).length = js.length := List.length_map _
      have tl2 : (th.map D.str).length = th.length := List.length_map _
      have lsb : LsD ((m.set a (.lst (js.map juD))).set b (.lst (es.map evD))) (.ref b) (es.map evD) := .inr (.inr ⟨b, rfl, cb _ _⟩)
      have lsa : LsD ((m.set a (.lst (js.map juD))).set b (.lst (es.map evD))) (.ref a) (js.map juD) := .inr (.inr ⟨a, rfl, ca _ _⟩)
      have len : (es.map evD).length < sizeLine := by
        rw [List.length_map]
        exact Nat.lt_of_lt_of_le (show es.length < 10000 by omega) (by decide)
      have nx : ∀ (e : Ev) (p r s : Option D), evB th g (js.map Prod.fst) e = true → ∃ es2 : List Ev, ((m.set a (.lst (js.map juD))).set b (.lst (es.map evD))).set b (.lst (es.map evD ++ [evD e])) = (m.set a (.lst (js.map juD))).set b (.lst (es2.map evD)) ∧ (∃ p' r' s', [some (.lst (ns.map D.int)), some (.int 0), some (.int 5), some (.int 9), some (.lst (th.map D.str)), some (.int g), some (.ref a), p, some (.ref b), r, s] = [some (.lst (ns.map D.int)), some (.int 0), some (.int 5), some (.int 9), some (.lst (th.map D.str)), some (.int g), some (.ref a), p', some (.ref b), r', s']) ∧ es2.length = i + 1 ∧ ∀ e ∈ es2, evB th g (js.map Prod.fst) e = true := fun e p r s h => by
        refine ⟨es ++ [e], ?_, ⟨_, _, _, rfl⟩, ?_, fun x hx => ?_⟩
        · rw [Mu.set_set, List.map_append]
          rfl
        · rw [List.length_append, hl]
          rfl
        · rcases List.mem_append.mp hx with hx | hx
          · exact he x hx
          · rw [List.mem_singleton.mp hx]
            exact h
      refine ⟨_, rfl, _, _, rfl, rfl, _, rfl, _, _, rfl, rfl, .inl (by decide), _, _, rfl, rfl, ?_⟩
      refine ⟨_, rfl, _, rfl, _, rfl, ix _ _ hv ep ⟨_, rfl, _, rfl, _, _, rfl, .inl ⟨_, .inl lsa, rfl⟩, _, _, rfl, rfl, ?_, _, _, juD js[v % js.length], .inl lsa, rfl, ?_, _, _, _, .inr rfl, rfl, rfl, ?_⟩⟩
      · show (0 : Int) < ((js.map juD).length : Nat)
        rw [jl2]
        omega
      · rw [jl2]
        exact at_nat (k := v % js.length) hjv
      refine ⟨_, rfl, _, rfl, ix _ _ hv ep ⟨_, rfl, _, _, rfl, rfl, (show (0 : Int) < 8 ∧ (8 : Int) < 1073741824 by decide), _, _, rfl, rfl, (show (0 : Int) < 6 by decide), _, rfl, _, rfl, iteB (fun _ => ?_) fun _ => ?_⟩⟩
      · exact ⟨_, rfl, ⟨_, lsb⟩, _, rfl, (by decide : 2 ≤ sizeLine), b, _, _, rfl, rfl, cb _ _, len, nx (.rst js[v % js.length].1) _ _ _ (decide_eq_true hjm)⟩
      · refine ⟨_, rfl, ⟨_, lsb⟩, _, rfl, _, rfl, _, rfl, _, rfl, _, _, rfl, rfl, ix _ _ hu (by rw [ep]; omega) ⟨_, rfl, _, rfl, _, _, rfl, .inl ⟨_, .inl (.inl rfl), rfl⟩, _, _, rfl, rfl, ?_, _, _, .str th[u % th.length], .inl (.inl rfl), rfl, ?_, ?_⟩⟩
        · show (0 : Int) < ((th.map D.str).length : Nat)
          rw [tl2]
          omega
        · rw [tl2]
          exact at_nat (k := u % th.length) htv
        refine ⟨_, rfl, _, rfl, _, _, rfl, rfl, ix _ _ hw (by rw [ep]; omega) ⟨_, rfl, _, rfl, _, _, rfl, rfl, _, _, rfl, rfl, (show (0 : Int) < g + 1 by omega), (by decide : 4 ≤ sizeLine), b, _, _, rfl, rfl, cb _ _, len, nx (.ans js[v % js.length].1 th[u % th.length] (((w1 : Nat) : Int) % (g + 1))) _ _ _ ?_⟩⟩
        have k1 : 0 ≤ ((w1 : Nat) : Int) % (g + 1) := Int.emod_nonneg _ (by omega)
        have k2 : ((w1 : Nat) : Int) % (g + 1) < g + 1 := Int.emod_lt_of_pos _ (by omega)
        show (decide (js[v % js.length].1 ∈ js.map Prod.fst) && decide (th[u % th.length] ∈ th) && decide (0 ≤ ((w1 : Nat) : Int) % (g + 1)) && decide (((w1 : Nat) : Int) % (g + 1) ≤ g)) = true
        rw [decide_eq_true hjm, decide_eq_true htm, decide_eq_true k1, decide_eq_true (show ((w1 : Nat) : Int) % (g + 1) ≤ g by omega)]
        rfl
    · obtain ⟨es, rfl, ⟨p, r, s, rfl⟩, hl, he⟩ := h
      rw [List.length_range] at hl
      refine ⟨b, _, rfl, cb _ _, a, .lst (js.map juD), rfl, ?_, ?_⟩
      · rw [Mu.del_set hb]
        exact Mu.set_same
      · refine ⟨_, rfl, _, rfl, _, rfl, _, rfl, (by decide : 4 ≤ sizeLine), ?_, q ⟨th, g, js, es⟩ ⟨tn, jn, hd, g1, g9, by show es.length ≤ 9; omega, he⟩⟩
        rw [Mu.del_set hb, Mu.del_set ha]
        exact .refl
end F__law_parts
namespace F_is_drift
abbrev sDef : Stmt := top 40
abbrev sN : List Str := ["text"]
abbrev sP : List Str := ["text"]
theorem sc : FnScope sN sP (defScope sDef) := ⟨rfl, rfl, rfl, by decide +kernel, rfl, by decide +kernel, by decide +kernel⟩
def S : SD := fun ds m Q => ∃ z : Str, ds = [.str z] ∧ Q (.bl (driftB z))
theorem ok {P : Program} {w : World} {K : Fg} {mg : Str → Option Value} {base : Heap} {CL CD CS CU GS f : Addr} {fd : FuncData} (F : FnP K "is_drift" "is_drift" sDef f fd) (T : Txt K mg CL CD CS CU GS)  : FnOk P w K mg base CX0 1 f fd sP (spP K (S)) := by
  refine okP F sc (fun ds m Qd h => ?_) fun cdv A outer s H E hr => ?_
  · obtain ⟨z, rfl, q⟩ := h
    rfl
  have hu := hu_of hr
  refine ⟨_, _, (pss_one (ps_ret (pe_cmpR (kMemS (K := K) (by rfl)) (pv 0) (pe_tup (pa_cons (pe_gstr rfl T.sRISES) (pa_cons (pe_gstr rfl T.sFALLS) (pa_cons (pe_gstr rfl T.sSTAYS) pa_nil)))) (by rfl)))), by walk_at "sim", ?h⟩
  intro ds m Qd hz h
  obtain ⟨z, rfl, q⟩ := h
  exact ⟨_, rfl, (by decide : 3 ≤ sizeLine), z, ["rises", "falls", "stays"], rfl, .inr rfl, .refl, q⟩
end F_is_drift
namespace F_is_name
abbrev sDef : Stmt := top 39
abbrev sN : List Str := ["text", "sign"]
abbrev sP : List Str := ["text"]
theorem sc : FnScope sN sP (defScope sDef) := ⟨rfl, rfl, rfl, by decide +kernel, rfl, by decide +kernel, by decide +kernel⟩
def S : SD := fun ds m Q => ∃ z : Str, ds = [.str z] ∧ z.length ≤ sizeLine ∧ Q (.bl (nameB z))
theorem ok {P : Program} {w : World} {K : Fg} {mg : Str → Option Value} {base : Heap} {CL CD CS CU GS f : Addr} {fd : FuncData} (F : FnP K "is_name" "is_name" sDef f fd) (T : Txt K mg CL CD CS CU GS)  : FnOk P w K mg base CX0 1 f fd sP (spP K (S)) := by
  refine okP F sc (fun ds m Qd h => ?_) fun cdv A outer s H E hr => ?_
  · obtain ⟨z, rfl, hl, q⟩ := h
    rfl
  have hu := hu_of hr
  refine ⟨_, _, (pss_one (ps_ret (pe_and (pe_chain op_le op_le pe_int (pe_callB (kLen (K := K) (by rfl)) (by rfl) T.n_len PySem.boot_len (pa_cons (pv 0) pa_nil)) pe_int) (pe_one (pe_callB (kAll (K := K) (by rfl) (by rfl)) (by rfl) T.n_all (by decide +kernel) (pa_cons (pe_lc (own := [("sign", 1)]) rfl sc.nd (pi_str (pv 0)) (blkOk_by (N := sN) (sc := defScope sDef) (by decide +kernel)) (fun _ _ _ _ _ => (pg_name (i := 1) sc.nd rfl (by first | exact Or.inl rfl | exact Or.inr rfl))) (fun _ _ _ _ _ => pts_nil) (fun _ _ _ _ _ => (pe_cmpR op_in_sign (pv 1) (pe_gstr rfl T.sLETTERS) (by rfl)))) pa_nil)))))), by walk_at "sim", ?h⟩
  intro ds m Qd hz h
  obtain ⟨z, rfl, hl, q⟩ := h
  have fin : ∀ b, nameB z = b → L3.Sub m m ∧ Qd (.bl b) := fun b e => ⟨.refl, e ▸ q⟩
  unfold nameB at fin
  refine ⟨.str z, rfl, _, _, rfl, .inr ⟨z, rfl, hl, rfl⟩, _, _, rfl, rfl, _, rfl, iteB (fun h1 => ?_) fun h1 => ?_⟩
  · refine ⟨_, _, rfl, rfl, _, rfl, iteB (fun h2 => ?_) fun h2 => ?_⟩
    · refine ⟨_, rfl, _, rfl, ?_⟩
      refine lcM (fun c => .str ⟨#[c]⟩) z.cps.toList (fun c => .bl (decide (c ∈ LET.cps.toList))) trivial hl (fun c hc Ny Nn ny => ⟨_, rfl, c, _, rfl, rfl, ny⟩) ?_
      refine ⟨_, _, rfl, .inl (by rw [map_bl]), ?_⟩
      rw [all_bl]
      refine fin _ ?_
      have e1 : decide (1 ≤ z.length) = true := decUp h1 (by omega)
      have e2 : decide (z.length ≤ 12) = true := decUp h2 (by omega)
      rw [e1, e2]
      rfl
    · refine fin _ ?_
      have e2 : decide (z.length ≤ 12) = false := decUp h2 (by omega)
      rw [e2, Bool.and_false]
      rfl
  · refine ⟨_, rfl, fin _ ?_⟩
    have e1 : decide (1 ≤ z.length) = false := decUp h1 (by omega)
    rw [e1]
    rfl
end F_is_name
namespace F_are_names
abbrev sDef : Stmt := top 41
abbrev sN : List Str := ["texts", "most", "text"]
abbrev sP : List Str := ["texts", "most"]
theorem sc : FnScope sN sP (defScope sDef) := ⟨rfl, rfl, rfl, by decide +kernel, rfl, by decide +kernel, by decide +kernel⟩
def S : SD := fun ds m Q => ∃ (x : D) (xs : List Str) (n : Nat), ds = [x, .int n] ∧ LsD m x (xs.map D.str) ∧ Names xs n ∧ n ≤ 100 ∧ Q (.bl true)
theorem ok {P : Program} {w : World} {K : Fg} {mg : Str → Option Value} {base : Heap} {CL CD CS CU GS f : Addr} {fd : FuncData} (F : FnP K "are_names" "are_names" sDef f fd) (T : Txt K mg CL CD CS CU GS) (his_name : Cal P w K mg base 1 "is_name" ["text"] (spP K (F_is_name.S))) : FnOk P w K mg base CX0 2 f fd sP (spP K (S)) := by
  refine okP F sc (fun ds m Qd h => ?_) fun cdv A outer s H E hr => ?_
  · obtain ⟨x, xs, n, rfl, hl, ok, hn, q⟩ := h
    rfl
  have hu := hu_of hr
  refine ⟨_, _, (pss_one (ps_ret (pe_and (pe_chain op_le op_le pe_int (pe_callB (kLen (K := K) (by rfl)) (by rfl) T.n_len PySem.boot_len (pa_cons (pv 0) pa_nil)) (pv 1)) (pe_and (pe_callB (kAll (K := K) (by rfl) (by rfl)) (by rfl) T.n_all (by decide +kernel) (pa_cons (pe_lc (own := [("text", 2)]) rfl sc.nd (kList (K := K) (by rfl) (pv 0)) (blkOk_by (N := sN) (sc := defScope sDef) (by decide +kernel)) (fun _ _ _ _ _ => (pg_name (i := 2) sc.nd rfl (by first | exact Or.inl rfl | exact Or.inr rfl))) (fun _ _ _ _ _ => pts_nil) (fun _ _ _ _ _ => (pe_cal his_name hr (by decide) rfl (pa_cons (pv 2) pa_nil)))) pa_nil)) (pe_one (pe_cmpR op_eq (kLenSet (K := K) (by rfl) rfl rfl T.n_len rfl T.n_set (pv 0)) (pe_callB (kLen (K := K) (by rfl)) (by rfl) T.n_len PySem.boot_len (pa_cons (pv 0) pa_nil)) (by rfl))))))), by walk_at "sim", ?h⟩
  intro ds m Qd hz h
  obtain ⟨x, xs, n, rfl, hl, ok, hn, q⟩ := h
  have hln := ok.max
  have hp := ok.pos
  have el : (xs.map D.str).length = xs.length := List.length_map _
  have z : ∀ k, k ≤ 100 → k ≤ sizeLine := fun k h => Nat.le_trans h (by decide)
  refine ⟨_, rfl, _, _, rfl, .inl ⟨_, .inl hl, rfl⟩, _, _, rfl, rfl, _, rfl, ifY (decide_eq_true (by omega)) ?_⟩
  refine ⟨_, rfl, _, _, rfl, rfl, _, rfl, ifY (decide_eq_true (by omega)) ?_⟩
  refine ⟨_, rfl, _, hl, lcM D.str xs (fun _ => .bl true) hl (z _ (by omega)) (fun t ht Ny Nn ny => ?_) ?_⟩
  · refine ⟨_, rfl, hz, t, rfl, z _ (Nat.le_trans (nameB_len (ok.good t ht)) (by decide)), ?_⟩
    rw [ok.good t ht]
    exact ny
  · refine ⟨_, xs.map fun _ => true, rfl, .inl (by rw [List.map_map]; rfl), ?_⟩
    have e : (xs.map fun _ => true).all id = true := by simp
    rw [e]
    refine ⟨_, rfl, _, rfl, _, hl, ok.nd, by omega, _, rfl, _, _, rfl, .inl ⟨_, .inl hl, rfl⟩, true, ?_, .refl, q⟩
    rw [el]
    simp [eqS]
end F_are_names
namespace F_is_event
abbrev sDef : Stmt := top 42
abbrev sN : List Str := ["event", "items", "grades", "judges"]
abbrev sP : List Str := ["event", "items", "grades", "judges"]
theorem sc : FnScope sN sP (defScope sDef) := ⟨rfl, rfl, rfl, by decide +kernel, rfl, by decide +kernel, by decide +kernel⟩
def S : SD := fun ds m Q => ∃ (e : Ev) (xi : D) (items : List Str) (g : Int) (xj : D) (names : List Str), ds = [evD e, xi, .int g, xj] ∧ LsD m xi (items.map D.str) ∧ LsD m xj (names.map D.str) ∧ evB items g names e = true ∧ Q (.bl true)
theorem ok {P : Program} {w : World} {K : Fg} {mg : Str → Option Value} {base : Heap} {CL CD CS CU GS f : Addr} {fd : FuncData} (F : FnP K "is_event" "is_event" sDef f fd) (T : Txt K mg CL CD CS CU GS)  : FnOk P w K mg base CX0 1 f fd sP (spP K (S)) := by
  refine okP F sc (fun ds m Qd h => ?_) fun cdv A outer s H E hr => ?_
  · obtain ⟨e, xi, items, g, xj, names, rfl, hi, hj, ev, q⟩ := h
    rfl
  have hu := hu_of hr
  refine ⟨_, _, (pss_cons (ps_if (PW.pt (pw_and (pt_cmpR op_eq (pe_callB (kLen (K := K) (by rfl)) (by rfl) T.n_len PySem.boot_len (pa_cons (pv 0) pa_nil)) pe_int (by rfl)) (pw_and1 (pt_cmpR op_eq (pe_ix (kIx (K := K) (by rfl)) (pv 0) pe_int (fun _ _ => rfl)) (pe_gstr rfl T.sRESET) (by rfl))))) (pss_one (ps_ret (pe_cmpR (kMemS (K := K) (by rfl)) (pe_ix (kIx (K := K) (by rfl)) (pv 0) pe_int (fun _ _ => rfl)) (pv 3) (by rfl)))) pss_nil) (pss_cons (ps_if (PW.pt (pw_or (pt_cmpR op_ne (pe_callB (kLen (K := K) (by rfl)) (by rfl) T.n_len PySem.boot_len (pa_cons (pv 0) pa_nil)) pe_int (by rfl)) (pw_or1 (pt_cmpR op_ne (pe_ix (kIx (K := K) (by rfl)) (pv 0) pe_int (fun _ _ => rfl)) (pe_gstr rfl T.sANSWER) (by rfl))))) (pss_one (ps_ret pe_bl)) pss_nil) (pss_one (ps_ret (pe_and (pe_cmpR (kMemS (K := K) (by rfl)) (pe_ix (kIx (K := K) (by rfl)) (pv 0) pe_int (fun _ _ => rfl)) (pv 3) (by rfl)) (pe_and (pe_cmpR (kMemS (K := K) (by rfl)) (pe_ix (kIx (K := K) (by rfl)) (pv 0) pe_int (fun _ _ => rfl)) (pv 1) (by rfl)) (pe_one (pe_chain op_le op_le pe_int (pe_ix (kIx (K := K) (by rfl)) (pv 0) pe_int (fun _ _ => rfl)) (pv 2))))))))), by walk_at "sim", ?h⟩
  intro ds m Qd hz h
  obtain ⟨e, xi, items, g, xj, names, rfl, hi, hj, ev, q⟩ := h
  have fin : ∀ b, b = true → L3.Sub m m ∧ Qd (.bl b) := fun b e => ⟨.refl, e.symm ▸ q⟩
  cases e with
  | ans j i k =>
    unfold evB at ev
    simp only [Bool.and_eq_true, decide_eq_true_eq] at ev
    obtain ⟨⟨⟨e1, e2⟩, e3⟩, e4⟩ := ev
    refine ⟨_, rfl, _, _, rfl, .inl ⟨_, .inr rfl, rfl⟩, false, rfl, _, rfl, ?_⟩
    refine ⟨_, rfl, _, _, rfl, .inl ⟨_, .inr rfl, rfl⟩, true, rfl, _, rfl, ?_⟩
    refine ⟨_, rfl, _, _, _, .inr rfl, rfl, rfl, true, rfl, _, rfl, ?_⟩
    refine ⟨_, rfl, _, _, _, .inr rfl, rfl, rfl, _, rfl, _, names, rfl, .inl hj, _, rfl, ifY (decide_eq_true e1) ?_⟩
    refine ⟨_, rfl, _, _, _, .inr rfl, rfl, rfl, _, rfl, _, items, rfl, .inl hi, _, rfl, ifY (decide_eq_true e2) ?_⟩
    refine ⟨_, rfl, _, _, _, .inr rfl, rfl, rfl, _, _, rfl, rfl, _, rfl, ifY (decide_eq_true e3) ?_⟩
    exact ⟨_, rfl, _, _, rfl, rfl, fin _ (decide_eq_true e4)⟩
  | rst j =>
    have e1 : decide (j ∈ names) = true := ev
    refine ⟨_, rfl, _, _, rfl, .inl ⟨_, .inr rfl, rfl⟩, true, rfl, _, rfl, ?_⟩
    refine ⟨_, rfl, _, _, _, .inr rfl, rfl, rfl, true, rfl, _, rfl, ?_⟩
    exact ⟨_, rfl, _, _, _, .inr rfl, rfl, rfl, _, rfl, _, names, rfl, .inl hj, fin _ e1⟩
end F_is_event
namespace F_Log___init__
abbrev sDef : Stmt := inClass (top 43) 0
abbrev sN : List Str := ["self", "items", "grades", "judges", "events", "judge", "names", "event"]
abbrev sP : List Str := ["self", "items", "grades", "judges", "events"]
theorem sc : FnScope sN sP (defScope sDef) := ⟨rfl, rfl, rfl, by decide +kernel, rfl, by decide +kernel, by decide +kernel⟩
def S (CL : Addr) : SM := fun ds m Q => ∃ (a : Addr) (xi xj xe : D) (L : LogD), ds = [.ref a, xi, .int L.grades, xj, xe] ∧ m.c a = some (.ins CL []) ∧ LsD m xi (L.items.map D.str) ∧ LsD m xj (L.judges.map juD) ∧ LsD m xe (L.events.map evD) ∧ LogOk L ∧
  Q .non (m.set a (.ins CL [("_items", .lst (L.items.map D.str)), ("_grades", .int L.grades), ("_judges", .lst (L.judges.map juD)), ("_events", .lst (L.events.map evD))]))
theorem ok {P : Program} {w : World} {K : Fg} {mg : Str → Option Value} {base : Heap} {CL CD CS CU GS f : Addr} {fd : FuncData} (F : FnP K "__init__" "Log.__init__" sDef f fd) (T : Txt K mg CL CD CS CU GS) (his_drift : Cal P w K mg base 1 "is_drift" ["text"] (spP K (F_is_drift.S))) (hare_names : Cal P w K mg base 2 "are_names" ["texts", "most"] (spP K (F_are_names.S))) (his_event : Cal P w K mg base 1 "is_event" ["event", "items", "grades", "judges"] (spP K (F_is_event.S))) : FnOk P w K mg base CX0 3 f fd sP (spM K (S CL)) := by
  refine okM F sc (fun ds m Qd h => ?_) fun cdv A outer s H E hr => ?_
  · obtain ⟨a, xi, xj, xe, L, rfl, ha, hi, hj, he, ok, q⟩ := h
    rfl
  have hu := hu_of hr
  refine ⟨_, _, (pss_cons (ps_if (pt_not (pt_val (pe_callB (kAll (K := K) (by rfl) (by rfl)) (by rfl) T.n_all (by decide +kernel) (pa_cons (pe_lc (own := [("judge", 5)]) rfl sc.nd (kList (K := K) (by rfl) (pv 3)) (blkOk_by (N := sN) (sc := defScope sDef) (by decide +kernel)) (fun _ _ _ _ _ => (pg_name (i := 5) sc.nd rfl (by first | exact Or.inl rfl | exact Or.inr rfl))) (fun _ _ _ _ _ => pts_nil) (fun _ _ _ _ _ => (pe_and (pe_cmpR op_eq (pe_callB (kLen (K := K) (by rfl)) (by rfl) T.n_len PySem.boot_len (pa_cons (pv 5) pa_nil)) pe_int (by rfl)) (pe_one (pe_cal his_drift hr (by decide) rfl (pa_cons (pe_ix (kIx (K := K) (by rfl)) (pv 5) pe_int (fun _ _ => rfl)) pa_nil)))))) pa_nil)))) (pss_one ps_never) pss_nil) (pss_cons (ps_set (i := 6) sc.nd rfl (Or.inr rfl) (pe_lc (own := [("judge", 5)]) rfl sc.nd (kList (K := K) (by rfl) (pv 3)) (blkOk_by (N := sN) (sc := defScope sDef) (by decide +kernel)) (fun _ _ _ _ _ => (pg_name (i := 5) sc.nd rfl (by first | exact Or.inl rfl | exact Or.inr rfl))) (fun _ _ _ _ _ => pts_nil) (fun _ _ _ _ _ => (pe_ix (kIx (K := K) (by rfl)) (pv 5) pe_int (fun _ _ => rfl))))) (pss_cons (ps_if (PW.pt (pw_or (pt_not (pt_val (pe_cal hare_names hr (by decide) rfl (pa_cons (pv 1) (pa_cons (pe_gint rfl T.iMOST_ITEMS) pa_nil))))) (pw_or (pt_not (pt_val (pe_cal hare_names hr (by decide) rfl (pa_cons (pv 6) (pa_cons (pe_gint rfl T.iMOST_JUDGES) pa_nil))))) (pw_or1 (pt_not (pt_chain op_le op_le pe_int (pv 2) (pe_gint rfl T.iMOST_GRADE))))))) (pss_one ps_never) pss_nil) (pss_cons (ps_if (PW.pt (pw_or (pt_cmpR op_gt (pe_callB (kLen (K := K) (by rfl)) (by rfl) T.n_len PySem.boot_len (pa_cons (pv 4) pa_nil)) (pe_gint rfl T.iMOST_EVENTS) (by rfl)) (pw_or1 (pt_not (pt_val (pe_callB (kAll (K := K) (by rfl) (by rfl)) (by rfl) T.n_all (by decide +kernel) (pa_cons (pe_lc (own := [("event", 7)]) rfl sc.nd (kList (K := K) (by rfl) (pv 4)) (blkOk_by (N := sN) (sc := defScope sDef) (by decide +kernel)) (fun _ _ _ _ _ => (pg_name (i := 7) sc.nd rfl (by first | exact Or.inl rfl | exact Or.inr rfl))) (fun _ _ _ _ _ => pts_nil) (fun _ _ _ _ _ => (pe_cal his_event hr (by decide) rfl (pa_cons (pv 7) (pa_cons (pv 1) (pa_cons (pv 2) (pa_cons (pv 6) pa_nil))))))) pa_nil))))))) (pss_one ps_never) pss_nil) (pss_cons (ps_fld (pv 0) (pe_callTy (kListOf (K := K) (by rfl)) (by rfl) T.n_list (by decide +kernel) (pa_cons (pv 1) pa_nil)) (by rfl)) (pss_cons (ps_fld (pv 0) (pv 2) (by rfl)) (pss_cons (ps_fld (pv 0) (pe_callTy (kListOf (K := K) (by rfl)) (by rfl) T.n_list (by decide +kernel) (pa_cons (pv 3) pa_nil)) (by rfl)) (pss_one (ps_fld (pv 0) (pe_callTy (kListOf (K := K) (by rfl)) (by rfl) T.n_list (by decide +kernel) (pa_cons (pv 4) pa_nil)) (by rfl)))))))))), by walk_at "sim", ?h⟩
  intro ds m Qd hz h
  obtain ⟨a, xi, xj, xe, L, rfl, ha, hi, hj, he, ok, q⟩ := h
  have jl : L.judges.length ≤ 3 := by
    have := ok.ju.max
    unfold LogD.names at this
    rwa [List.length_map] at this
  have el : (L.events.map evD).length = L.events.length := List.length_map _
  have ne := ok.ne
  have no : ∀ (fs : List (Str × D)) (es : List D), MO.ins CL fs ≠ .lst es := fun fs es e => by cases e
  have all1 : ∀ {α : Type} (xs : List α), (xs.map fun _ => true).all id = true := fun xs => by simp
  have nm : LsD m (.lst (L.judges.map fun p => D.str p.1)) (L.names.map D.str) := .inl (by unfold LogD.names; rw [List.map_map]; rfl)
  refine ⟨_, rfl, _, hj, ?_⟩
  refine lcM juD L.judges (fun _ => .bl true) hj (Nat.le_trans jl (by decide)) (fun p hp Ny Nn ny => ?_) ?_
  · refine ⟨_, rfl, _, _, rfl, .inl ⟨_, .inr rfl, rfl⟩, true, rfl, _, rfl, _, rfl, _, _, _, .inr rfl, rfl, rfl, hz, p.2, rfl, ?_⟩
    rw [ok.dr p hp]
    exact ny
  refine ⟨_, L.judges.map fun _ => true, rfl, .inl (by rw [List.map_map]; rfl), _, rfl, ?_⟩
  rw [all1]
  refine ⟨_, rfl, _, hj, lcM juD L.judges (fun p => .str p.1) hj (Nat.le_trans jl (by decide)) (fun p hp Ny Nn ny => ⟨_, rfl, _, _, _, .inr rfl, rfl, rfl, ny⟩) ?_⟩
  refine ⟨_, rfl, hz, xi, L.items, 20, rfl, hi, ok.it.le (by decide), by decide, _, rfl, ?_⟩
  refine ⟨_, rfl, hz, _, L.names, 8, rfl, nm, ok.ju.le (by decide), by decide, _, rfl, ?_⟩
  refine ⟨_, rfl, _, _, rfl, rfl, _, rfl, ifY (decide_eq_true ok.g1) ⟨_, _, rfl, rfl, _, rfl, ?_⟩⟩
  rw [decide_eq_true ok.g9]
  refine ⟨_, rfl, _, _, rfl, .inl ⟨_, .inl he, rfl⟩, _, _, rfl, rfl, _, rfl, ?_⟩
  have gt : decide ((120 : Int) < ((L.events.map evD).length : Nat)) = false := decide_eq_false (by omega)
  rw [gt]
  refine ⟨_, rfl, _, he, lcM evD L.events (fun _ => .bl true) he (Nat.le_trans ne (by decide)) (fun e hE Ny Nn ny => ⟨_, rfl, _, rfl, _, rfl, _, rfl, hz, e, xi, L.items, L.grades, _, L.names, rfl, hi, nm, ok.ev e hE, ny⟩) ?_⟩
  refine ⟨_, L.events.map fun _ => true, rfl, .inl (by rw [List.map_map]; rfl), _, rfl, ?_⟩
  rw [all1]
  refine ⟨_, rfl, _, _, rfl, .inl hi, _, rfl, a, CL, _, rfl, ha, T.cLog, T.a_items, (by decide), ?_⟩
  refine ⟨_, rfl, _, rfl, a, CL, _, rfl, Mu.set_same, T.cLog, T.a_grades, (show 1 < 1000 by decide), ?_⟩
  refine ⟨_, rfl, _, _, rfl, .inl ((hj.put ha (no _)).put Mu.set_same (no _)), _, rfl, a, CL, _, rfl, Mu.set_same, T.cLog, T.a_judges, (show 2 < 1000 by decide), ?_⟩
  refine ⟨_, rfl, _, _, rfl, .inl (((he.put ha (no _)).put Mu.set_same (no _)).put Mu.set_same (no _)), _, rfl, a, CL, _, rfl, Mu.set_same, T.cLog, T.a_events, (show 3 < 1000 by decide), ?_⟩
  refine ⟨_, .refl, ?_⟩
  rw [Mu.set_set, Mu.set_set, Mu.set_set]
  exact q
end F_Log___init__
namespace F__law_log
abbrev sDef : Stmt := top 97
abbrev sN : List Str := ["_law_parts_here", "_law_things", "_law_grades", "_law_judges", "_law_events"]
abbrev sP : List Str := ["_law_parts_here"]
theorem sc : FnScope sN sP (defScope sDef) := ⟨rfl, rfl, rfl, by decide +kernel, rfl, by decide +kernel, by decide +kernel⟩
def S (CL : Addr) : SD := fun ds m Q => ∃ (L : LogD), ds = [toldD L] ∧ LogOk L ∧ Q (logD CL L)
theorem ok {P : Program} {w : World} {K : Fg} {mg : Str → Option Value} {base : Heap} {CL CD CS CU GS f : Addr} {fd : FuncData} (F : FnP K "_law_log" "_law_log" sDef f fd) (T : Txt K mg CL CD CS CU GS) (hLog : CalC P w K mg base CL 3 "Log" ["self", "items", "grades", "judges", "events"] (spM K (F_Log___init__.S CL))) : FnOk P w K mg base CX0 5 f fd sP (spP K (S CL)) := by
  refine okP F sc (fun ds m Qd h => ?_) fun cdv A outer s H E hr => ?_
  · obtain ⟨L, rfl, ok, q⟩ := h
    rfl
  have hu := hu_of hr
  refine ⟨_, _, (pss_cons (ps_asg (pv 0) (kTup (K := K) (n := 4) (by rfl) rfl (pgs_cons (pg_name (i := 1) sc.nd rfl (by first | exact Or.inl rfl | exact Or.inr rfl)) (pgs_cons (pg_name (i := 2) sc.nd rfl (by first | exact Or.inl rfl | exact Or.inr rfl)) (pgs_cons (pg_name (i := 3) sc.nd rfl (by first | exact Or.inl rfl | exact Or.inr rfl)) (pgs_cons (pg_name (i := 4) sc.nd rfl (by first | exact Or.inl rfl | exact Or.inr rfl)) pgs_nil)))))) (pss_one (ps_ret (pe_calC hLog hr (by decide) rfl (pa_cons (pv 1) (pa_cons (pv 2) (pa_cons (pv 3) (pa_cons (pv 4) pa_nil)))))))), by walk_at "sim", ?h⟩
  intro ds m Qd hz h
  obtain ⟨L, rfl, ok, q⟩ := h
  refine ⟨_, rfl, _, rfl, rfl, _, _, rfl, _, _, rfl, _, _, rfl, _, _, rfl, rfl, ?_⟩
  refine ⟨_, rfl, _, rfl, _, rfl, _, rfl, hz, fun c hc => ?_⟩
  refine ⟨c, _, _, _, L, rfl, Mu.set_same, .inl rfl, .inl rfl, .inl rfl, ok, rfl, _, Mu.set_same, ?_, q⟩
  rw [Mu.set_set, Mu.del_set hc]
  exact .refl
end F__law_log
namespace F__law_alone
abbrev sDef : Stmt := top 108
abbrev sN : List Str := ["_law_parts_here", "_law_judge", "_law_things", "_law_grades", "_law_judges", "_law_events", "_law_some", "_law_event"]
abbrev sP : List Str := ["_law_parts_here", "_law_judge"]
theorem sc : FnScope sN sP (defScope sDef) := ⟨rfl, rfl, rfl, by decide +kernel, rfl, by decide +kernel, by decide +kernel⟩
def aloneL (L : LogD) (j : Str) : LogD := ⟨L.items, L.grades, L.judges.filter fun p => decide (p.1 = j), L.events.filter fun e => decide (e.j = j)⟩
def S : SD := fun ds m Q => ∃ (L : LogD) (j : Str), ds = [toldD L, .str j] ∧ LogOk L ∧ j ∈ L.names ∧ Q (toldD (aloneL L j))
theorem ok {P : Program} {w : World} {K : Fg} {mg : Str → Option Value} {base : Heap} {CL CD CS CU GS f : Addr} {fd : FuncData} (F : FnP K "_law_alone" "_law_alone" sDef f fd) (T : Txt K mg CL CD CS CU GS)  : FnOk P w K mg base CX0 1 f fd sP (spP K (S)) := by
  refine okP F sc (fun ds m Qd h => ?_) fun cdv A outer s H E hr => ?_
  · obtain ⟨L, j, rfl, ok, hj, q⟩ := h
    rfl
  have hu := hu_of hr
  refine ⟨_, _, (pss_cons (ps_asg (pv 0) (kTup (K := K) (n := 4) (by rfl) rfl (pgs_cons (pg_name (i := 2) sc.nd rfl (by first | exact Or.inl rfl | exact Or.inr rfl)) (pgs_cons (pg_name (i := 3) sc.nd rfl (by first | exact Or.inl rfl | exact Or.inr rfl)) (pgs_cons (pg_name (i := 4) sc.nd rfl (by first | exact Or.inl rfl | exact Or.inr rfl)) (pgs_cons (pg_name (i := 5) sc.nd rfl (by first | exact Or.inl rfl | exact Or.inr rfl)) pgs_nil)))))) (pss_one (ps_ret (pe_tup (pa_cons (pv 2) (pa_cons (pv 3) (pa_cons (pe_lc (own := [("_law_some", 6)]) rfl sc.nd (kList (K := K) (by rfl) (pv 4)) (blkOk_by (N := sN) (sc := defScope sDef) (by decide +kernel)) (fun _ _ _ _ _ => (pg_name (i := 6) sc.nd rfl (by first | exact Or.inl rfl | exact Or.inr rfl))) (fun _ _ _ _ _ => pts_one (pt_cmpR op_eq (pe_ix (kIx (K := K) (by rfl)) (pv 6) pe_int (fun _ _ => rfl)) (pv 1) (by rfl))) (fun _ _ _ _ _ => (pv 6))) (pa_cons (pe_lc (own := [("_law_event", 7)]) rfl sc.nd (kList (K := K) (by rfl) (pv 5)) (blkOk_by (N := sN) (sc := defScope sDef) (by decide +kernel)) (fun _ _ _ _ _ => (pg_name (i := 7) sc.nd rfl (by first | exact Or.inl rfl | exact Or.inr rfl))) (fun _ _ _ _ _ => pts_one (pt_cmpR op_eq (pe_ix (kIx (K := K) (by rfl)) (pv 7) pe_int (fun _ _ => rfl)) (pv 1) (by rfl))) (fun _ _ _ _ _ => (pv 7))) pa_nil)))))))), by walk_at "sim", ?h⟩
  intro ds m Qd hz h
  obtain ⟨L, j, rfl, ok, hj, q⟩ := h
  have n9 := ok.n9
  have j3 := ok.j3
  refine ⟨_, rfl, _, rfl, rfl, _, _, rfl, _, _, rfl, _, _, rfl, _, _, rfl, rfl, ?_⟩
  refine ⟨_, rfl, _, rfl, _, rfl, _, .inl rfl, lcFM juD L.judges (fun p => decide (p.1 = j)) juD (.inl rfl) (sz (by omega)) (fun p hp Ny Nn y n => ?_) ?_⟩
  · exact ⟨_, rfl, _, _, _, .inr rfl, rfl, rfl, _, rfl, _, rfl, _, rfl, iteB (fun h => ⟨_, rfl, y h⟩) n⟩
  refine ⟨_, rfl, _, .inl rfl, lcFM evD L.events (fun e => decide (e.j = j)) evD (.inl rfl) (sz (Nat.le_trans n9 (by decide))) (fun e he Ny Nn y n => ?_) ⟨(by decide : 4 ≤ sizeLine), .refl, q⟩⟩
  cases e with
  | ans a b c => exact ⟨_, rfl, _, _, _, .inr rfl, rfl, rfl, _, rfl, _, rfl, _, rfl, iteB (fun h => ⟨_, rfl, y h⟩) n⟩
  | rst a => exact ⟨_, rfl, _, _, _, .inr rfl, rfl, rfl, _, rfl, _, rfl, _, rfl, iteB (fun h => ⟨_, rfl, y h⟩) n⟩
end F__law_alone
namespace F_Log_judges
abbrev sDef : Stmt := inClass (top 43) 3
abbrev sN : List Str := ["self"]
abbrev sP : List Str := ["self"]
theorem sc : FnScope sN sP (defScope sDef) := ⟨rfl, rfl, rfl, by decide +kernel, rfl, by decide +kernel, by decide +kernel⟩
def S (CL : Addr) : SD := fun ds m Q => ∃ L : LogD, ds = [logD CL L] ∧ Q (.lst (L.judges.map juD))
theorem ok {P : Program} {w : World} {K : Fg} {mg : Str → Option Value} {base : Heap} {CL CD CS CU GS f : Addr} {fd : FuncData} (F : FnP K "judges" "Log.judges" sDef f fd) (T : Txt K mg CL CD CS CU GS)  : FnOk P w K mg base CX0 1 f fd sP (spP K (S CL)) := by
  refine okP F sc (fun ds m Qd h => ?_) fun cdv A outer s H E hr => ?_
  · obtain ⟨L, rfl, q⟩ := h
    rfl
  have hu := hu_of hr
  refine ⟨_, _, (pss_one (ps_ret (pe_callTy (kListOf (K := K) (by rfl)) (by rfl) T.n_list (by decide +kernel) (pa_cons (kFld (K := K) (by rfl) (pv 0) (by rfl)) pa_nil)))), by walk_at "sim", ?h⟩
  intro ds m Qd hz h
  obtain ⟨L, rfl, q⟩ := h
  exact ⟨_, rfl, CL, _, _, .inl rfl, T.cLog, T.a_judges, rfl, _, _, rfl, .inl (.inl rfl), .refl, q⟩
end F_Log_judges
namespace F_Log_drift_of
abbrev sDef : Stmt := inClass (top 43) 5
abbrev sN : List Str := ["self", "judge", "name", "drift"]
abbrev sP : List Str := ["self", "judge"]
theorem sc : FnScope sN sP (defScope sDef) := ⟨rfl, rfl, rfl, by decide +kernel, rfl, by decide +kernel, by decide +kernel⟩
def S (CL : Addr) : SD := fun ds m Q => ∃ (L : LogD) (j : Str), ds = [logD CL L, .str j] ∧ j ∈ L.names ∧ Q (.str (L.drift j))
theorem ok {P : Program} {w : World} {K : Fg} {mg : Str → Option Value} {base : Heap} {CL CD CS CU GS f : Addr} {fd : FuncData} (F : FnP K "drift_of" "Log.drift_of" sDef f fd) (T : Txt K mg CL CD CS CU GS)  : FnOk P w K mg base CX0 1 f fd sP (spP K (S CL)) := by
  refine okP F sc (fun ds m Qd h => ?_) fun cdv A outer s H E hr => ?_
  · obtain ⟨L, j, rfl, hj, q⟩ := h
    rfl
  have hu := hu_of hr
  refine ⟨_, _, (pss_cons (ps_for PassesOwn.never rfl (kList (K := K) (by rfl) (kFld (K := K) (by rfl) (pv 0) (by rfl))) (kTup (K := K) (n := 2) (by rfl) rfl (pgs_cons (pg_name (i := 2) sc.nd rfl (by first | exact Or.inl rfl | exact Or.inr rfl)) (pgs_cons (pg_name (i := 3) sc.nd rfl (by first | exact Or.inl rfl | exact Or.inr rfl)) pgs_nil))) (pss_one (ps_if (pt_cmpR op_eq (pv 2) (pv 1) (by rfl)) (pss_one (ps_ret (pv 3))) pss_nil))) (pss_one ps_never)), by walk_at "sim", ?h⟩
  intro ds m Qd hz h
  obtain ⟨L, j, rfl, hj, q⟩ := h
  have q : ∀ z, L.drift j = z → Qd (.str z) := fun z e => e ▸ q
  unfold LogD.drift at q
  refine ⟨_, rfl, CL, _, _, .inl rfl, T.cLog, T.a_judges, rfl, _, .inl rfl, ?_⟩
  refine forX juD L.judges (fun i δ' m' => m' = m ∧ (∃ a b, δ' = [some (logD CL L), some (.str j), a, b]) ∧ ∀ p ∈ L.judges.take i, p.1 ≠ j) ⟨rfl, ⟨_, _, rfl⟩, by simp⟩ (fun i δ' m' h => .inl rfl) (fun i p δ' m' hp h => ?_) fun δ' m' h => ?_
  · obtain ⟨rfl, ⟨a, b, rfl⟩, no⟩ := h
    refine ⟨_, rfl, rfl, _, _, rfl, _, _, rfl, rfl, _, rfl, _, rfl, _, rfl, _, rfl, iteB (fun h => ?_) fun h => ?_⟩
    · have e : p.1 = j := of_decide_eq_true h
      refine ⟨_, rfl, .refl, q _ ?_⟩
      have e2 : L.judges.find? (fun p => decide (p.1 = j)) = some p := by
        rw [List.find?_eq_some_iff_getElem]
        obtain ⟨hi, he⟩ := List.getElem?_eq_some_iff.mp hp
        refine ⟨decide_eq_true e, i, hi, he, fun k hk => ?_⟩
        have := no (L.judges[k]) (List.mem_take_iff_getElem.mpr ⟨k, by omega, rfl⟩)
        simp [this]
      rw [e2]
      rfl
    · refine ⟨rfl, ⟨_, _, rfl⟩, fun x hx => ?_⟩
      rw [take_next hp] at hx
      rcases List.mem_append.mp hx with hx | hx
      · exact no x hx
      · rw [List.mem_singleton.mp hx]
        exact of_decide_eq_false h
  · obtain ⟨p, hp, e⟩ := List.mem_map.mp hj
    have := h.2.2 p (by rw [List.take_length]; exact hp)
    exact this e
end F_Log_drift_of
namespace F_Log_is_answer
abbrev sDef : Stmt := inClass (top 43) 6
abbrev sN : List Str := ["self", "place"]
abbrev sP : List Str := ["self", "place"]
theorem sc : FnScope sN sP (defScope sDef) := ⟨rfl, rfl, rfl, by decide +kernel, rfl, by decide +kernel, by decide +kernel⟩
def S (CL : Addr) : SD := fun ds m Q => ∃ (L : LogD) (k : Nat), ds = [logD CL L, iD k] ∧ Q (.bl (decide (k < L.n) && L.isA k))
theorem ok {P : Program} {w : World} {K : Fg} {mg : Str → Option Value} {base : Heap} {CL CD CS CU GS f : Addr} {fd : FuncData} (F : FnP K "is_answer" "Log.is_answer" sDef f fd) (T : Txt K mg CL CD CS CU GS)  : FnOk P w K mg base CX0 1 f fd sP (spP K (S CL)) := by
  refine okP F sc (fun ds m Qd h => ?_) fun cdv A outer s H E hr => ?_
  · obtain ⟨L, k, rfl, q⟩ := h
    rfl
  have hu := hu_of hr
  refine ⟨_, _, (pss_one (ps_ret (pe_and (pe_chain op_le op_lt pe_int (pv 1) (pe_callB (kLen (K := K) (by rfl)) (by rfl) T.n_len PySem.boot_len (pa_cons (kFld (K := K) (by rfl) (pv 0) (by rfl)) pa_nil))) (pe_one (pe_cmpR op_eq (pe_ix (kIx (K := K) (by rfl)) (pe_ix (kIx (K := K) (by rfl)) (kFld (K := K) (by rfl) (pv 0) (by rfl)) (pv 1) (fun _ _ => rfl)) pe_int (fun _ _ => rfl)) (pe_gstr rfl T.sANSWER) (by rfl)))))), by walk_at "sim", ?h⟩
  intro ds m Qd hz h
  obtain ⟨L, k, rfl, q⟩ := h
  have el : (L.events.map evD).length = L.n := List.length_map _
  refine ⟨_, rfl, _, _, rfl, rfl, _, rfl, ifY (decide_eq_true (by omega)) ?_⟩
  refine ⟨_, rfl, CL, _, _, .inl rfl, T.cLog, T.a_events, rfl, _, _, rfl, .inl ⟨_, .inl (.inl rfl), rfl⟩, _, _, rfl, rfl, _, rfl, iteB (fun h => ?_) fun h => ?_⟩
  · have hk : k < L.n := by
      have := of_decide_eq_true h
      omega
    have hg : (L.events.map evD)[k]? = some (evD (L.at k)) := by rw [List.getElem?_map, LogD.at_get hk]; rfl
    refine ⟨_, rfl, CL, _, _, .inl rfl, T.cLog, T.a_events, rfl, _, rfl, _, _, _, .inl (.inl rfl), rfl, at_nat hg, ?_⟩
    rw [decide_eq_true hk, Bool.true_and] at q
    unfold LogD.isA at q
    cases e : L.at k with
    | ans a b c =>
      rw [e] at q
      exact ⟨_, _, _, .inr rfl, rfl, rfl, true, rfl, .refl, q⟩
    | rst a =>
      rw [e] at q
      exact ⟨_, _, _, .inr rfl, rfl, rfl, false, rfl, .refl, q⟩
  · have hk : ¬ k < L.n := by
      have := of_decide_eq_false h
      omega
    rw [decide_eq_false hk] at q
    exact ⟨.refl, q⟩
end F_Log_is_answer
namespace F_Log_answers
abbrev sDef : Stmt := inClass (top 43) 7
abbrev sN : List Str := ["self", "place"]
abbrev sP : List Str := ["self"]
theorem sc : FnScope sN sP (defScope sDef) := ⟨rfl, rfl, rfl, by decide +kernel, rfl, by decide +kernel, by decide +kernel⟩
def S (CL : Addr) : SD := fun ds m Q => ∃ (L : LogD), ds = [logD CL L] ∧ L.n ≤ 1000 ∧ Q (.lst (L.ans.map iD))
theorem ok {P : Program} {w : World} {K : Fg} {mg : Str → Option Value} {base : Heap} {CL CD CS CU GS f : Addr} {fd : FuncData} (F : FnP K "answers" "Log.answers" sDef f fd) (T : Txt K mg CL CD CS CU GS) (hLog_is_answer : CalM P w K mg base CL 1 "is_answer" ["self", "place"] (spP K (F_Log_is_answer.S CL))) : FnOk P w K mg base CX0 2 f fd sP (spP K (S CL)) := by
  refine okP F sc (fun ds m Qd h => ?_) fun cdv A outer s H E hr => ?_
  · obtain ⟨L, rfl, hn, q⟩ := h
    rfl
  have hu := hu_of hr
  refine ⟨_, _, (pss_one (ps_ret (pe_lc (own := [("place", 1)]) rfl sc.nd (pi_range1 rfl T.n_range (pa_cons (pe_callB (kLen (K := K) (by rfl)) (by rfl) T.n_len PySem.boot_len (pa_cons (kFld (K := K) (by rfl) (pv 0) (by rfl)) pa_nil)) pa_nil)) (blkOk_by (N := sN) (sc := defScope sDef) (by decide +kernel)) (fun _ _ _ _ _ => (pg_name (i := 1) sc.nd rfl (by first | exact Or.inl rfl | exact Or.inr rfl))) (fun _ _ _ _ _ => pts_one (pt_val (pe_calM hLog_is_answer T.cLog hr (by decide) (pv 0) (pa_cons (pv 1) pa_nil)))) (fun _ _ _ _ _ => (pv 1))))), by walk_at "sim", ?h⟩
  intro ds m Qd hz h
  obtain ⟨L, rfl, hn, q⟩ := h
  have el : (L.events.map evD).length = L.n := List.length_map _
  refine ⟨_, rfl, CL, _, _, .inl rfl, T.cLog, T.a_events, rfl, _, _, rfl, .inl ⟨_, .inl (.inl rfl), rfl⟩, _, rfl, by omega, by omega, ?_⟩
  rw [rngD_map, el]
  refine lcFM (fun (i : Nat) => D.int (i : Nat)) (List.range L.n) L.isA iD trivial (by rw [List.length_range]; exact Nat.le_trans hn (by decide)) (fun k hk Ny Nn y n => ?_) ⟨.refl, q⟩
  refine ⟨_, rfl, _, .inl rfl, rfl, _, rfl, hz, L, k, rfl, _, rfl, ?_⟩
  rw [decide_eq_true (List.mem_range.mp hk), Bool.true_and]
  exact iteB (fun h => ⟨_, rfl, y h⟩) n
end F_Log_answers
namespace F_Log_answers_of
abbrev sDef : Stmt := inClass (top 43) 8
abbrev sN : List Str := ["self", "judge", "place"]
abbrev sP : List Str := ["self", "judge"]
theorem sc : FnScope sN sP (defScope sDef) := ⟨rfl, rfl, rfl, by decide +kernel, rfl, by decide +kernel, by decide +kernel⟩
def S (CL : Addr) : SD := fun ds m Q => ∃ (L : LogD) (j : Str), ds = [logD CL L, .str j] ∧ L.n ≤ 1000 ∧ j ∈ L.names ∧ Q (.lst ((L.ansOf j).map iD))
theorem ok {P : Program} {w : World} {K : Fg} {mg : Str → Option Value} {base : Heap} {CL CD CS CU GS f : Addr} {fd : FuncData} (F : FnP K "answers_of" "Log.answers_of" sDef f fd) (T : Txt K mg CL CD CS CU GS) (hLog_drift_of : CalM P w K mg base CL 1 "drift_of" ["self", "judge"] (spP K (F_Log_drift_of.S CL))) (hLog_answers : CalM P w K mg base CL 2 "answers" ["self"] (spP K (F_Log_answers.S CL))) : FnOk P w K mg base CX0 3 f fd sP (spP K (S CL)) := by
  refine okP F sc (fun ds m Qd h => ?_) fun cdv A outer s H E hr => ?_
  · obtain ⟨L, j, rfl, hn, hj, q⟩ := h
    rfl
  have hu := hu_of hr
  refine ⟨_, _, (pss_cons (ps_expr (pe_calM hLog_drift_of T.cLog hr (by decide) (pv 0) (pa_cons (pv 1) pa_nil))) (pss_one (ps_ret (pe_lc (own := [("place", 2)]) rfl sc.nd (kList (K := K) (by rfl) (pe_calM0 hLog_answers T.cLog hr (by decide) (pv 0))) (blkOk_by (N := sN) (sc := defScope sDef) (by decide +kernel)) (fun _ _ _ _ _ => (pg_name (i := 2) sc.nd rfl (by first | exact Or.inl rfl | exact Or.inr rfl))) (fun _ _ _ _ _ => pts_one (pt_cmpR op_eq (pe_ix (kIx (K := K) (by rfl)) (pe_ix (kIx (K := K) (by rfl)) (kFld (K := K) (by rfl) (pv 0) (by rfl)) (pv 2) (fun _ _ => rfl)) pe_int (fun _ _ => rfl)) (pv 1) (by rfl))) (fun _ _ _ _ _ => (pv 2)))))), by walk_at "sim", ?h⟩
  intro ds m Qd hz h
  obtain ⟨L, j, rfl, hn, hj, q⟩ := h
  refine ⟨_, rfl, _, .inl rfl, rfl, _, rfl, hz, L, j, rfl, hj, ?_⟩
  refine ⟨_, rfl, _, .inl rfl, rfl, hz, L, rfl, hn, _, .inl rfl, ?_⟩
  refine lcFM iD L.ans (fun k => decide ((L.at k).j = j)) iD (.inl rfl) ?_ (fun k hk Ny Nn y n => ?_) ⟨.refl, q⟩
  · refine Nat.le_trans (List.length_filter_le _ _) ?_
    rw [List.length_range]
    exact Nat.le_trans hn (by decide)
  · have hk := List.mem_range.mp ((List.mem_filter.mp hk).1)
    have hg : (L.events.map evD)[k]? = some (evD (L.at k)) := by rw [List.getElem?_map, LogD.at_get hk]; rfl
    refine ⟨_, rfl, CL, _, _, .inl rfl, T.cLog, T.a_events, rfl, _, rfl, _, _, _, .inl (.inl rfl), rfl, at_nat hg, ?_⟩
    cases e : L.at k with
    | ans a b c =>
      rw [e] at y n
      exact ⟨_, _, _, .inr rfl, rfl, rfl, _, rfl, _, rfl, _, rfl, iteB (fun h => ⟨_, rfl, y h⟩) n⟩
    | rst a =>
      rw [e] at y n
      exact ⟨_, _, _, .inr rfl, rfl, rfl, _, rfl, _, rfl, _, rfl, iteB (fun h => ⟨_, rfl, y h⟩) n⟩
end F_Log_answers_of
namespace F_Log_answer_at
abbrev sDef : Stmt := inClass (top 43) 9
abbrev sN : List Str := ["self", "place"]
abbrev sP : List Str := ["self", "place"]
theorem sc : FnScope sN sP (defScope sDef) := ⟨rfl, rfl, rfl, by decide +kernel, rfl, by decide +kernel, by decide +kernel⟩
def S (CL : Addr) : SD := fun ds m Q => ∃ (L : LogD) (k : Nat), ds = [logD CL L, iD k] ∧ k < L.n ∧ L.isA k = true ∧ Q (evD (L.at k))
theorem ok {P : Program} {w : World} {K : Fg} {mg : Str → Option Value} {base : Heap} {CL CD CS CU GS f : Addr} {fd : FuncData} (F : FnP K "answer_at" "Log.answer_at" sDef f fd) (T : Txt K mg CL CD CS CU GS) (hLog_is_answer : CalM P w K mg base CL 1 "is_answer" ["self", "place"] (spP K (F_Log_is_answer.S CL))) : FnOk P w K mg base CX0 2 f fd sP (spP K (S CL)) := by
  refine okP F sc (fun ds m Qd h => ?_) fun cdv A outer s H E hr => ?_
  · obtain ⟨L, k, rfl, hk, ha, q⟩ := h
    rfl
  have hu := hu_of hr
  refine ⟨_, _, (pss_cons (ps_if (pt_not (pt_val (pe_calM hLog_is_answer T.cLog hr (by decide) (pv 0) (pa_cons (pv 1) pa_nil)))) (pss_one ps_never) pss_nil) (pss_one (ps_ret (pe_ix (kIx (K := K) (by rfl)) (kFld (K := K) (by rfl) (pv 0) (by rfl)) (pv 1) (fun _ _ => rfl))))), by walk_at "sim", ?h⟩
  intro ds m Qd hz h
  obtain ⟨L, k, rfl, hk, ha, q⟩ := h
  have hg : (L.events.map evD)[k]? = some (evD (L.at k)) := by rw [List.getElem?_map, LogD.at_get hk]; rfl
  refine ⟨_, rfl, _, .inl rfl, rfl, _, rfl, hz, L, k, rfl, _, rfl, ?_⟩
  rw [decide_eq_true hk, ha]
  exact ⟨_, rfl, CL, _, _, .inl rfl, T.cLog, T.a_events, rfl, _, rfl, _, _, _, .inl (.inl rfl), rfl, at_nat hg, .refl, q⟩
end F_Log_answer_at
namespace F_Log_judge_at
abbrev sDef : Stmt := inClass (top 43) 10
abbrev sN : List Str := ["self", "place"]
abbrev sP : List Str := ["self", "place"]
theorem sc : FnScope sN sP (defScope sDef) := ⟨rfl, rfl, rfl, by decide +kernel, rfl, by decide +kernel, by decide +kernel⟩
def S (CL : Addr) : SD := fun ds m Q => ∃ (L : LogD) (k : Nat), ds = [logD CL L, iD k] ∧ k < L.n ∧ L.isA k = true ∧ Q (.str (L.at k).j)
theorem ok {P : Program} {w : World} {K : Fg} {mg : Str → Option Value} {base : Heap} {CL CD CS CU GS f : Addr} {fd : FuncData} (F : FnP K "judge_at" "Log.judge_at" sDef f fd) (T : Txt K mg CL CD CS CU GS) (hLog_answer_at : CalM P w K mg base CL 2 "answer_at" ["self", "place"] (spP K (F_Log_answer_at.S CL))) : FnOk P w K mg base CX0 3 f fd sP (spP K (S CL)) := by
  refine okP F sc (fun ds m Qd h => ?_) fun cdv A outer s H E hr => ?_
  · obtain ⟨L, k, rfl, hk, ha, q⟩ := h
    rfl
  have hu := hu_of hr
  refine ⟨_, _, (pss_one (ps_ret (pe_ix (kIx (K := K) (by rfl)) (pe_calM hLog_answer_at T.cLog hr (by decide) (pv 0) (pa_cons (pv 1) pa_nil)) pe_int (fun _ _ => rfl)))), by walk_at "sim", ?h⟩
  intro ds m Qd hz h
  obtain ⟨L, k, rfl, hk, ha, q⟩ := h
  refine ⟨_, rfl, _, .inl rfl, rfl, _, rfl, hz, L, k, rfl, hk, ha, ?_⟩
  unfold LogD.isA at ha
  cases e : L.at k with
  | ans a b c =>
    rw [e] at q
    exact ⟨_, _, _, .inr rfl, rfl, rfl, .refl, q⟩
  | rst a =>
    rw [e] at ha
    cases ha
end F_Log_judge_at
namespace F_Log_span_at
abbrev sDef : Stmt := inClass (top 43) 13
abbrev sN : List Str := ["self", "judge", "place", "resets", "at", "event", "first"]
abbrev sP : List Str := ["self", "judge", "place"]
theorem sc : FnScope sN sP (defScope sDef) := ⟨rfl, rfl, rfl, by decide +kernel, rfl, by decide +kernel, by decide +kernel⟩
def S (CL : Addr) : SD := fun ds m Q => ∃ (L : LogD) (j : Str) (k : Nat), ds = [logD CL L, .str j, iD k] ∧ LogOk L ∧ nameB j = true ∧ k ≤ L.n ∧ ∀ a b, SpanLo L j k a → SpanHi L j k b → Q (.tup [iD a, iD b])
theorem ok {P : Program} {w : World} {K : Fg} {mg : Str → Option Value} {base : Heap} {CL CD CS CU GS f : Addr} {fd : FuncData} (F : FnP K "span_at" "Log.span_at" sDef f fd) (T : Txt K mg CL CD CS CU GS)  : FnOk P w K mg base CX0 1 f fd sP (spP K (S CL)) := by
  refine okP F sc (fun ds m Qd h => ?_) fun cdv A outer s H E hr => ?_
  · obtain ⟨L, j, k, rfl, ok, hj, hk, q⟩ := h
    rfl
  have hu := hu_of hr
  refine ⟨_, _, (pss_cons (ps_setLc (i := 3) (own := [("at", 4), ("event", 5)]) rfl sc.nd rfl rfl (sw_true rfl rfl rfl (by decide +kernel)) (kEnum (K := K) (by rfl) rfl T.n_enumerate (pa_cons (kFld (K := K) (by rfl) (pv 0) (by rfl)) pa_nil)) (blkOk_by (N := sN) (sc := defScope sDef) (by decide +kernel)) (fun _ _ _ _ _ => (kTup (K := K) (n := 2) (by rfl) rfl (pgs_cons (pg_name (i := 4) sc.nd rfl (by first | exact Or.inl rfl | exact Or.inr rfl)) (pgs_cons (pg_name (i := 5) sc.nd rfl (by first | exact Or.inl rfl | exact Or.inr rfl)) pgs_nil)))) (fun _ _ _ _ _ => pts_one (pt_cmpR (kEqD (K := K) (by rfl) hr.units) (pv 5) (pe_tup (pa_cons (pe_gstr rfl T.sRESET) (pa_cons (pv 1) pa_nil))) (by rfl))) (fun _ _ _ _ _ => (pv 4))) (pss_cons (ps_set (i := 6) sc.nd rfl (Or.inl rfl) (pe_callBK (kMaxDf (K := K) (by rfl) (by rfl) hu) rfl T.n_max (by decide +kernel) (pa_cons (pe_lc (own := [("at", 4)]) rfl sc.nd (kList (K := K) (by rfl) (pv 3)) (blkOk_by (N := sN) (sc := defScope sDef) (by decide +kernel)) (fun _ _ _ _ _ => (pg_name (i := 4) sc.nd rfl (by first | exact Or.inl rfl | exact Or.inr rfl))) (fun _ _ _ _ _ => pts_one (pt_cmpR op_lt (pv 4) (pv 2) (by rfl))) (fun _ _ _ _ _ => (pe_op op_add (pv 4) pe_int))) pa_nil) (pk_cons pe_int pk_nil))) (pss_one (ps_ret (pe_tup (pa_cons (pv 6) (pa_cons (pe_callBK (kMinDf (K := K) (by rfl) (by rfl) hu) rfl T.n_min (by decide +kernel) (pa_cons (pe_lc (own := [("at", 4)]) rfl sc.nd (kList (K := K) (by rfl) (pv 3)) (blkOk_by (N := sN) (sc := defScope sDef) (by decide +kernel)) (fun _ _ _ _ _ => (pg_name (i := 4) sc.nd rfl (by first | exact Or.inl rfl | exact Or.inr rfl))) (fun _ _ _ _ _ => pts_one (pt_cmpR op_ge (pv 4) (pv 2) (by rfl))) (fun _ _ _ _ _ => (pv 4))) pa_nil) (pk_cons (pe_callB (kLen (K := K) (by rfl)) (by rfl) T.n_len PySem.boot_len (pa_cons (kFld (K := K) (by rfl) (pv 0) (by rfl)) pa_nil)) pk_nil)) pa_nil))))))), by walk_at "sim", ?h⟩
  intro ds m Qd hz h
  obtain ⟨L, j, k, rfl, ok, hj, hk, q⟩ := h
  have ne : L.n ≤ 9 := ok.ne
  have rl : (L.rs j).length ≤ sizeLine := by
    refine Nat.le_trans (List.length_filter_le _ _) ?_
    rw [List.length_range]
    exact Nat.le_trans ne (by decide)
  have hs : sD 1 (.tup [.str "reset", .str j]) = true := by
    have h2 := strOk_name hj
    have h3 : PyData.strOk "reset" = true := by decide +kernel
    simp [sD, h2, h3]
  have mi : ∀ (xs : List Nat), (xs.map fun i => D.int (i : Nat)) = (xs.map fun i => ((i : Nat) : Int)).map D.int := fun xs => by rw [List.map_map]; rfl
  refine ⟨_, rfl, CL, _, _, .inl rfl, T.cLog, T.a_events, rfl, _, _, rfl, .inl rfl, ?_⟩
  rw [enum_map]
  refine lcFM (fun i => .tup [.int (i : Nat), evD (L.at i)]) (List.range L.n) (fun i => decide (L.at i = .rst j)) iD (.inl rfl) (by rw [List.length_range]; exact Nat.le_trans ne (by decide)) (fun i hi Ny Nn y n => ?_) ?_
  · have hi := List.mem_range.mp hi
    refine ⟨_, rfl, rfl, _, _, rfl, _, _, rfl, rfl, _, rfl, _, rfl, (by decide : 2 ≤ sizeLine), ?_⟩
    refine goEqD 1 (by decide) (sD_ev ok (List.mem_of_getElem? (LogD.at_get hi))) hs fun b e => ⟨_, rfl, ?_⟩
    rw [evD_rst] at e
    cases b with
    | true => exact ⟨_, rfl, y (decide_eq_true (e.mp rfl))⟩
    | false => exact n (decide_eq_false fun h => by cases e.mpr h)
  refine ⟨_, rfl, _, .inl rfl, lcFM iD (L.rs j) (fun i => decide (i < k)) (fun i => .int (i + 1 : Nat)) (.inl rfl) rl (fun i hi Ny Nn y n => ⟨_, rfl, _, rfl, _, _, rfl, rfl, _, rfl, iteB (fun h => ⟨_, rfl, _, _, rfl, rfl, y (decUp h (by omega))⟩) fun h => n (decUp h (by omega))⟩) ?_⟩
  refine goMaxDf (((L.rs j).filter fun i => decide (i < k)).map fun i => ((i + 1 : Nat) : Int)) (fun d => ∃ a, d = iD a ∧ SpanLo L j k a) (.inl (by rw [List.map_map]; rfl)) (fun e => ⟨0, rfl, lo_none hk (List.map_eq_nil_iff.mp e)⟩) (fun x hx hm => ?_) fun d hd => ?_
  · obtain ⟨r, hr, rfl⟩ := List.mem_map.mp hx
    refine ⟨r + 1, rfl, lo_some hk hr fun i hi => ?_⟩
    have := hm _ (List.mem_map.mpr ⟨i, hi, rfl⟩)
    omega
  obtain ⟨a, rfl, ha⟩ := hd
  refine ⟨_, rfl, _, rfl, _, .inl rfl, lcFM iD (L.rs j) (fun i => decide (k ≤ i)) iD (.inl rfl) rl (fun i hi Ny Nn y n => ⟨_, rfl, _, rfl, _, _, rfl, rfl, _, rfl, iteB (fun h => ⟨_, rfl, y (decUp h (by omega))⟩) fun h => n (decUp h (by omega))⟩) ?_⟩
  refine ⟨_, rfl, CL, _, _, .inl rfl, T.cLog, T.a_events, rfl, _, _, rfl, .inl ⟨_, .inl (.inl rfl), rfl⟩, ?_⟩
  refine goMinDf (((L.rs j).filter fun i => decide (k ≤ i)).map fun i => ((i : Nat) : Int)) (fun d => ∃ b, d = iD b ∧ SpanHi L j k b) (.inl (by rw [List.map_map]; rfl)) (fun e => ⟨L.n, by rw [List.length_map]; rfl, hi_none hk (List.map_eq_nil_iff.mp e)⟩) (fun x hx hm => ?_) fun d hd => ?_
  · obtain ⟨r, hr, rfl⟩ := List.mem_map.mp hx
    refine ⟨r, rfl, hi_some hr fun i hi => ?_⟩
    have := hm _ (List.mem_map.mpr ⟨i, hi, rfl⟩)
    omega
  obtain ⟨b, rfl, hb⟩ := hd
  exact ⟨(by decide : 2 ≤ sizeLine), .refl, q a b ha hb⟩
end F_Log_span_at
namespace F_Log_stretch_at
abbrev sDef : Stmt := inClass (top 43) 14
abbrev sN : List Str := ["self", "judge", "place", "answers", "first", "last", "at"]
abbrev sP : List Str := ["self", "judge", "place"]
theorem sc : FnScope sN sP (defScope sDef) := ⟨rfl, rfl, rfl, by decide +kernel, rfl, by decide +kernel, by decide +kernel⟩
def S (CL : Addr) : SD := fun ds m Q => ∃ (L : LogD) (j : Str) (k : Nat), ds = [logD CL L, .str j, iD k] ∧ LogOk L ∧ j ∈ L.names ∧ k ≤ L.n ∧ Q (.lst ((L.str j k).map iD))
theorem ok {P : Program} {w : World} {K : Fg} {mg : Str → Option Value} {base : Heap} {CL CD CS CU GS f : Addr} {fd : FuncData} (F : FnP K "stretch_at" "Log.stretch_at" sDef f fd) (T : Txt K mg CL CD CS CU GS) (hLog_answers_of : CalM P w K mg base CL 3 "answers_of" ["self", "judge"] (spP K (F_Log_answers_of.S CL))) (hLog_span_at : CalM P w K mg base CL 1 "span_at" ["self", "judge", "place"] (spP K (F_Log_span_at.S CL))) : FnOk P w K mg base CX0 4 f fd sP (spP K (S CL)) := by
  refine okP F sc (fun ds m Qd h => ?_) fun cdv A outer s H E hr => ?_
  · obtain ⟨L, j, k, rfl, ok, hj, hk, q⟩ := h
    rfl
  have hu := hu_of hr
  refine ⟨_, _, (pss_cons (ps_set (i := 3) sc.nd rfl (Or.inl rfl) (pe_calM hLog_answers_of T.cLog hr (by decide) (pv 0) (pa_cons (pv 1) pa_nil))) (pss_cons (ps_if (pt_not (pt_chain op_le op_le pe_int (pv 2) (pe_callB (kLen (K := K) (by rfl)) (by rfl) T.n_len PySem.boot_len (pa_cons (kFld (K := K) (by rfl) (pv 0) (by rfl)) pa_nil)))) (pss_one ps_never) pss_nil) (pss_cons (ps_asg (pe_calM hLog_span_at T.cLog hr (by decide) (pv 0) (pa_cons (pv 1) (pa_cons (pv 2) pa_nil))) (kTup (K := K) (n := 2) (by rfl) rfl (pgs_cons (pg_name (i := 4) sc.nd rfl (by first | exact Or.inl rfl | exact Or.inr rfl)) (pgs_cons (pg_name (i := 5) sc.nd rfl (by first | exact Or.inl rfl | exact Or.inr rfl)) pgs_nil)))) (pss_one (ps_ret (pe_lc (own := [("at", 6)]) rfl sc.nd (kList (K := K) (by rfl) (pv 3)) (blkOk_by (N := sN) (sc := defScope sDef) (by decide +kernel)) (fun _ _ _ _ _ => (pg_name (i := 6) sc.nd rfl (by first | exact Or.inl rfl | exact Or.inr rfl))) (fun _ _ _ _ _ => pts_one (pt_chain op_le op_lt (pv 4) (pv 6) (pv 5))) (fun _ _ _ _ _ => (pv 6)))))))), by walk_at "sim", ?h⟩
  intro ds m Qd hz h
  obtain ⟨L, j, k, rfl, ok, hj, hk, q⟩ := h
  have n9 := ok.n9
  have el : (L.events.map evD).length = L.n := List.length_map _
  refine ⟨_, rfl, _, .inl rfl, rfl, _, rfl, hz, L, j, rfl, Nat.le_trans n9 (by decide), hj, ?_⟩
  refine ⟨_, rfl, _, _, rfl, rfl, _, rfl, ifY (decide_eq_true (by omega)) ?_⟩
  refine ⟨_, rfl, CL, _, _, .inl rfl, T.cLog, T.a_events, rfl, _, _, rfl, .inl ⟨_, .inl (.inl rfl), rfl⟩, _, _, rfl, rfl, _, rfl, ?_⟩
  have h1 : decide ((k : Int) ≤ ((L.events.map evD).length : Nat)) = true := decide_eq_true (by omega)
  rw [h1]
  refine ⟨_, rfl, _, .inl rfl, rfl, _, rfl, _, rfl, hz, L, j, k, rfl, ok, ok.ju.good j hj, hk, fun a b ha hb => ?_⟩
  refine ⟨_, rfl, rfl, _, _, rfl, _, _, rfl, rfl, ?_⟩
  refine ⟨_, rfl, _, .inl rfl, lcFM iD (L.ansOf j) (fun i => L.sm j k i) iD (.inl rfl) (sz (Nat.le_trans (ansOf_len L j) (by omega))) (fun i hi Ny Nn y n => ?_) ⟨.refl, q⟩⟩
  have hi := mem_ansOf.mp hi
  rw [← span_sm ha hb hi.1.1 hi.1.2] at y n
  refine ⟨_, rfl, _, rfl, _, _, rfl, rfl, _, rfl, iteB (fun h => ?_) fun h => ?_⟩
  · rw [decUp (q := a ≤ i) h (by omega), Bool.true_and] at y n
    exact ⟨_, rfl, _, _, rfl, rfl, _, rfl, iteB (fun h => ⟨_, rfl, y (decUp h (by omega))⟩) fun h => n (decUp h (by omega))⟩
  · rw [decUp (q := a ≤ i) h (by omega), Bool.false_and] at n
    exact ⟨_, rfl, n rfl⟩
end F_Log_stretch_at
namespace F_Log_stretch_of
abbrev sDef : Stmt := inClass (top 43) 15
abbrev sN : List Str := ["self", "place"]
abbrev sP : List Str := ["self", "place"]
theorem sc : FnScope sN sP (defScope sDef) := ⟨rfl, rfl, rfl, by decide +kernel, rfl, by decide +kernel, by decide +kernel⟩
def S (CL : Addr) : SD := fun ds m Q => ∃ (L : LogD) (k : Nat), ds = [logD CL L, iD k] ∧ LogOk L ∧ k < L.n ∧ L.isA k = true ∧ Q (.lst ((L.str (L.at k).j k).map iD))
theorem ok {P : Program} {w : World} {K : Fg} {mg : Str → Option Value} {base : Heap} {CL CD CS CU GS f : Addr} {fd : FuncData} (F : FnP K "stretch_of" "Log.stretch_of" sDef f fd) (T : Txt K mg CL CD CS CU GS) (hLog_judge_at : CalM P w K mg base CL 3 "judge_at" ["self", "place"] (spP K (F_Log_judge_at.S CL))) (hLog_stretch_at : CalM P w K mg base CL 4 "stretch_at" ["self", "judge", "place"] (spP K (F_Log_stretch_at.S CL))) : FnOk P w K mg base CX0 5 f fd sP (spP K (S CL)) := by
  refine okP F sc (fun ds m Qd h => ?_) fun cdv A outer s H E hr => ?_
  · obtain ⟨L, k, rfl, ok, hk, ha, q⟩ := h
    rfl
  have hu := hu_of hr
  refine ⟨_, _, (pss_one (ps_ret (pe_calM hLog_stretch_at T.cLog hr (by decide) (pv 0) (pa_cons (pe_calM hLog_judge_at T.cLog hr (by decide) (pv 0) (pa_cons (pv 1) pa_nil)) (pa_cons (pv 1) pa_nil))))), by walk_at "sim", ?h⟩
  intro ds m Qd hz h
  obtain ⟨L, k, rfl, ok, hk, ha, q⟩ := h
  exact ⟨_, rfl, _, .inl rfl, rfl, _, rfl, _, .inl rfl, rfl, _, rfl, hz, L, k, rfl, hk, ha, _, rfl, hz, L, _, k, rfl, ok, (isA_name ok hk ha).1, Nat.le_of_lt hk, .refl, q⟩
end F_Log_stretch_of
namespace F_Log_stretches
abbrev sDef : Stmt := inClass (top 43) 16
abbrev sN : List Str := ["self", "judge", "found", "place"]
abbrev sP : List Str := ["self", "judge"]
theorem sc : FnScope sN sP (defScope sDef) := ⟨rfl, rfl, rfl, by decide +kernel, rfl, by decide +kernel, by decide +kernel⟩
def stD (s : List Nat) : D := .lst (s.map iD)
/-- the stretches of judge j -/
def Strs (L : LogD) (j : Str) (ss : List (List Nat)) : Prop := ss.length ≤ 9 ∧ (∀ s ∈ ss, ∃ p ∈ L.ansOf j, s = L.str j p) ∧ ∀ p ∈ L.ansOf j, ∃ s ∈ ss, p ∈ s
def S (CL : Addr) : SD := fun ds m Q => ∃ (L : LogD) (j : Str), ds = [logD CL L, .str j] ∧ LogOk L ∧ j ∈ L.names ∧ ∀ ss, Strs L j ss → Q (.lst (ss.map stD))
theorem ok {P : Program} {w : World} {K : Fg} {mg : Str → Option Value} {base : Heap} {CL CD CS CU GS f : Addr} {fd : FuncData} (F : FnP K "stretches" "Log.stretches" sDef f fd) (T : Txt K mg CL CD CS CU GS) (hLog_answers_of : CalM P w K mg base CL 3 "answers_of" ["self", "judge"] (spP K (F_Log_answers_of.S CL))) (hLog_stretch_of : CalM P w K mg base CL 5 "stretch_of" ["self", "place"] (spP K (F_Log_stretch_of.S CL))) : FnOk P w K mg base CX0 6 f fd sP (spP K (S CL)) := by
  refine okP F sc (fun ds m Qd h => ?_) fun cdv A outer s H E hr => ?_
  · obtain ⟨L, j, rfl, ok, hj, q⟩ := h
    rfl
  have hu := hu_of hr
  refine ⟨_, _, (pss_cons (ps_set (i := 2) sc.nd rfl (Or.inl rfl) (pe_lstM pa_nil)) (pss_cons (ps_for PassesOwn.never rfl (kList (K := K) (by rfl) (pe_calM hLog_answers_of T.cLog hr (by decide) (pv 0) (pa_cons (pv 1) pa_nil))) (pg_name (i := 3) sc.nd rfl (by first | exact Or.inl rfl | exact Or.inr rfl)) (pss_one (ps_if (PW.pt (pw_or (pt_cmpR op_eq (pe_callB (kLen (K := K) (by rfl)) (by rfl) T.n_len PySem.boot_len (pa_cons (pv 2) pa_nil)) pe_int (by rfl)) (pw_or1 (pt_cmpR (kNmemI (K := K) (by rfl)) (pv 3) (pe_ix (kIx (K := K) (by rfl)) (pv 2) (pe_un un_neg pe_int) (fun _ _ => rfl)) (by rfl))))) (pss_one (ps_expr (pe_bm PySem.F.plainAttrs_list PySem.F.slot_list_append PySem.F.type_list_append mt_append (pv 2) (pa_cons (pe_calM hLog_stretch_of T.cLog hr (by decide) (pv 0) (pa_cons (pv 3) pa_nil)) pa_nil)))) pss_nil))) (pss_one (ps_retF (pv 2))))), by walk_at "sim", ?h⟩
  intro ds m Qd hz h
  obtain ⟨L, j, rfl, ok, hj, q⟩ := h
  have n9 := ok.n9
  have al := ansOf_len L j
  refine ⟨(by decide : 0 ≤ sizeLine), fun a ha => ?_⟩
  refine ⟨_, rfl, _, .inl rfl, rfl, _, rfl, hz, L, j, rfl, Nat.le_trans n9 (by decide), hj, _, .inl rfl, ?_⟩
  refine forX iD (L.ansOf j) (fun i δ' m' => ∃ ss : List (List Nat), m' = m.set a (.lst (ss.map stD)) ∧ (∃ p, δ' = [some (logD CL L), some (.str j), some (.ref a), p]) ∧ ss.length ≤ i ∧ (∀ s ∈ ss, ∃ p ∈ L.ansOf j, s = L.str j p) ∧ ∀ p ∈ (L.ansOf j).take i, ∃ s ∈ ss, p ∈ s)
    ⟨[], rfl, ⟨_, rfl⟩, Nat.le_refl _, (fun s hs => by cases hs), by simp⟩ (fun i δ' m' h => .inl rfl) (fun i p δ' m' hp h => ?_) fun δ' m' h => ?_
  · obtain ⟨ss, rfl, ⟨x, rfl⟩, hl, hs, hc⟩ := h
    have hpm := List.mem_of_getElem? hp
    have hpa := mem_ansOf.mp hpm
    have hi := (List.getElem?_eq_some_iff.mp hp).1
    have self : p ∈ L.str j p := by
      unfold LogD.str
      refine List.mem_filter.mpr ⟨hpm, noRst_iff.mpr fun i h1 h2 => ?_⟩
      rw [Nat.min_self] at h1
      rw [Nat.max_self] at h2
      omega
    have put : ∃ ss2 : List (List Nat), (m.set a (.lst (ss.map stD))).set a (.lst (ss.map stD ++ [stD (L.str j p)])) = m.set a (.lst (ss2.map stD)) ∧ (∃ q, [some (logD CL L), some (.str j), some (.ref a), some (iD p)] = [some (logD CL L), some (.str j), some (.ref a), q]) ∧ ss2.length ≤ i + 1 ∧ (∀ s ∈ ss2, ∃ p ∈ L.ansOf j, s = L.str j p) ∧ ∀ p ∈ (L.ansOf j).take (i + 1), ∃ s ∈ ss2, p ∈ s := by
      refine ⟨ss ++ [L.str j p], ?_, ⟨_, rfl⟩, ?_, ?_, ?_⟩
      · rw [Mu.set_set, List.map_append]
        rfl
      · rw [List.length_append]
        exact Nat.succ_le_succ hl
      · intro s h
        rcases List.mem_append.mp h with h | h
        · exact hs s h
        · exact ⟨p, hpm, List.mem_singleton.mp h⟩
      · intro z h
        rw [take_next hp] at h
        rcases List.mem_append.mp h with h | h
        · obtain ⟨s, h1, h2⟩ := hc z h
          exact ⟨s, List.mem_append_left _ h1, h2⟩
        · rw [List.mem_singleton.mp h]
          exact ⟨_, List.mem_append_right _ (List.mem_singleton.mpr rfl), self⟩
    have hcell : (m.set a (.lst (ss.map stD))).c a = some (.lst (ss.map stD)) := Mu.set_same
    have app : dDrop (dApp (dVar 2) (dCons (dMeth CL (Str.ofString "stretch_of") (F_Log_stretch_of.S CL) (dVar 0) (dCons (dVar 3) dNil)) dNil))
        { nx := fun δ' m' => ∃ ss : List (List Nat), m' = m.set a (.lst (ss.map stD)) ∧ (∃ p, δ' = [some (logD CL L), some (.str j), some (.ref a), p]) ∧ ss.length ≤ i + 1 ∧ (∀ s ∈ ss, ∃ p ∈ L.ansOf j, s = L.str j p) ∧ ∀ p ∈ (L.ansOf j).take (i + 1), ∃ s ∈ ss, p ∈ s, rt := fun d m' => L3.Sub m m' ∧ Qd d } [some (logD CL L), some (.str j), some (.ref a), some (iD p)] (m.set a (.lst (ss.map stD))) := by
      refine ⟨_, rfl, ⟨_, .inr (.inr ⟨a, rfl, hcell⟩)⟩, _, rfl, _, .inl rfl, rfl, _, rfl, hz, L, p, rfl, ok, hpa.1.1, hpa.1.2, a, _, _, rfl, rfl, hcell, ?_, ?_⟩
      · rw [List.length_map]
        exact Nat.lt_of_le_of_lt (Nat.le_trans hl (Nat.le_of_lt (Nat.lt_of_lt_of_le hi (Nat.le_trans al n9)))) (by decide)
      · rw [hpa.2]
        exact put
    rcases List.eq_nil_or_concat ss with e | ⟨r, s, e⟩
    · subst e
      exact ⟨_, rfl, _, _, rfl, .inl ⟨_, .inl (.inr (.inr ⟨a, rfl, hcell⟩)), rfl⟩, true, rfl, _, rfl, app⟩
    · have e0 : ss ≠ [] := by
        rw [e]
        simp
      have e1 : ((ss.map stD).length : Int) ≠ 0 := by
        rw [List.length_map]
        have := List.length_pos_iff.mpr e0
        omega
      have e2 : ss.map stD = r.map stD ++ [stD s] := by rw [e, List.concat_eq_append, List.map_append]; rfl
      have e3 : s ∈ ss := by
        rw [e]
        simp
      refine ⟨_, rfl, _, _, rfl, .inl ⟨_, .inl (.inr (.inr ⟨a, rfl, hcell⟩)), rfl⟩, false, (show some (decide (((ss.map stD).length : Int) = 0)) = some false by rw [decide_eq_false e1]), _, rfl, ?_⟩
      refine ⟨_, rfl, _, rfl, _, rfl, _, _, stD s, .inl (.inr (.inr ⟨a, rfl, hcell⟩)), rfl, (by rw [e2]; exact at_last), _, s.map (fun i => ((i : Nat) : Int)), rfl, .inl (.inl (by unfold stD; rw [List.map_map]; rfl)), _, rfl, iteB (fun h => app) fun h => ?_⟩
      have hps : p ∈ s := by
        have h2 : decide (((p : Nat) : Int) ∈ s.map (fun i => ((i : Nat) : Int))) = true := by
          cases hb : decide (((p : Nat) : Int) ∈ s.map (fun i => ((i : Nat) : Int))) with
          | true => rfl
          | false =>
            rw [hb] at h
            cases h
        obtain ⟨x, hx, ex⟩ := List.mem_map.mp (of_decide_eq_true h2)
        have : x = p := by omega
        exact this ▸ hx
      refine ⟨ss, rfl, ⟨_, rfl⟩, Nat.le_succ_of_le hl, hs, fun z h => ?_⟩
      rw [take_next hp] at h
      rcases List.mem_append.mp h with h | h
      · exact hc z h
      · rw [List.mem_singleton.mp h]
        exact ⟨s, e3, hps⟩
  · obtain ⟨ss, rfl, ⟨x, rfl⟩, hl, hs, hc⟩ := h
    rw [List.take_length] at hc
    refine ⟨_, rfl, a, _, rfl, Mu.set_same, ?_, q ss ⟨Nat.le_trans hl (Nat.le_trans al n9), hs, hc⟩⟩
    rw [Mu.del_set ha]
    exact .refl
end F_Log_stretches
namespace F_Log_grade_at
abbrev sDef : Stmt := inClass (top 43) 12
abbrev sN : List Str := ["self", "place"]
abbrev sP : List Str := ["self", "place"]
theorem sc : FnScope sN sP (defScope sDef) := ⟨rfl, rfl, rfl, by decide +kernel, rfl, by decide +kernel, by decide +kernel⟩
def S (CL : Addr) : SD := fun ds m Q => ∃ (L : LogD) (k : Nat), ds = [logD CL L, iD k] ∧ k < L.n ∧ L.isA k = true ∧ Q (.int (L.at k).g)
theorem ok {P : Program} {w : World} {K : Fg} {mg : Str → Option Value} {base : Heap} {CL CD CS CU GS f : Addr} {fd : FuncData} (F : FnP K "grade_at" "Log.grade_at" sDef f fd) (T : Txt K mg CL CD CS CU GS) (hLog_answer_at : CalM P w K mg base CL 2 "answer_at" ["self", "place"] (spP K (F_Log_answer_at.S CL))) : FnOk P w K mg base CX0 3 f fd sP (spP K (S CL)) := by
  refine okP F sc (fun ds m Qd h => ?_) fun cdv A outer s H E hr => ?_
  · obtain ⟨L, k, rfl, hk, ha, q⟩ := h
    rfl
  have hu := hu_of hr
  refine ⟨_, _, (pss_one (ps_ret (pe_ix (kIx (K := K) (by rfl)) (pe_calM hLog_answer_at T.cLog hr (by decide) (pv 0) (pa_cons (pv 1) pa_nil)) pe_int (fun _ _ => rfl)))), by walk_at "sim", ?h⟩
  intro ds m Qd hz h
  obtain ⟨L, k, rfl, hk, ha, q⟩ := h
  refine ⟨_, rfl, _, .inl rfl, rfl, _, rfl, hz, L, k, rfl, hk, ha, ?_⟩
  unfold LogD.isA at ha
  cases e : L.at k with
  | ans a b c =>
    rw [e] at q
    exact ⟨_, _, _, .inr rfl, rfl, rfl, .refl, q⟩
  | rst a =>
    rw [e] at ha
    cases ha
end F_Log_grade_at
namespace F_links_in
abbrev sDef : Stmt := top 17
abbrev sN : List Str := ["log", "drift", "stretch", "grades", "place", "found", "first", "second"]
abbrev sP : List Str := ["log", "drift", "stretch"]
theorem sc : FnScope sN sP (defScope sDef) := ⟨rfl, rfl, rfl, by decide +kernel, rfl, by decide +kernel, by decide +kernel⟩
def lkIn (L : LogD) (d : Str) (a b : Nat) : Bool := decide ((L.at a).g < (L.at b).g) && wayB d a b
def lksIn (L : LogD) (d : Str) (s : List Nat) : List (Nat × Nat) := s.flatMap fun a => (s.filter (lkIn L d a)).map fun b => (a, b)
def S (CL : Addr) : SD := fun ds m Q => ∃ (L : LogD) (d : Str) (s : List Nat), ds = [logD CL L, .str d, .lst (s.map iD)] ∧ LogOk L ∧ (∀ p ∈ s, p < L.n ∧ L.isA p = true) ∧ s.Nodup ∧ s.length ≤ 9 ∧ Q (.lst ((lksIn L d s).map prD))
theorem ok {P : Program} {w : World} {K : Fg} {mg : Str → Option Value} {base : Heap} {CL CD CS CU GS f : Addr} {fd : FuncData} (F : FnP K "links_in" "links_in" sDef f fd) (T : Txt K mg CL CD CS CU GS) (hLog_grade_at : CalM P w K mg base CL 3 "grade_at" ["self", "place"] (spP K (F_Log_grade_at.S CL))) : FnOk P w K mg base CX0 4 f fd sP (spP K (S CL)) := by
  refine okP F sc (fun ds m Qd h => ?_) fun cdv A outer s H E hr => ?_
  · obtain ⟨L, d, s, rfl, ok, hs, nd, hl, q⟩ := h
    rfl
  have hu := hu_of hr
  refine ⟨_, _, (pss_cons (ps_setDc (i := 3) (own := [("place", 4)]) rfl sc.nd rfl rfl (sw_trueD rfl rfl rfl (by decide +kernel)) (kList (K := K) (by rfl) (pv 2)) (blkOk_by (N := sN) (sc := defScope sDef) (by decide +kernel)) (fun _ _ _ _ _ => (pg_name (i := 4) sc.nd rfl (by first | exact Or.inl rfl | exact Or.inr rfl))) (fun _ _ _ _ _ => pts_nil) (fun _ _ _ _ _ => (pv 4)) (fun _ _ _ _ _ => (pe_calM hLog_grade_at T.cLog hr (by decide) (pv 0) (pa_cons (pv 4) pa_nil)))) (pss_cons (ps_set (i := 5) sc.nd rfl (Or.inl rfl) (pe_lstM pa_nil)) (pss_cons (ps_for PassesOwn.never rfl (kList (K := K) (by rfl) (pv 2)) (pg_name (i := 6) sc.nd rfl (by first | exact Or.inl rfl | exact Or.inr rfl)) (pss_one (ps_for PassesOwn.never rfl (kList (K := K) (by rfl) (pv 2)) (pg_name (i := 7) sc.nd rfl (by first | exact Or.inl rfl | exact Or.inr rfl)) (pss_one (ps_if (PW.pt (pw_and (pt_cmpR op_lt (pe_dget hu (pv 3) (pv 6) (fun _ _ => rfl)) (pe_dget hu (pv 3) (pv 7) (fun _ _ => rfl)) (by rfl)) (pw_and1 (PW.pt (pw_or (pt_cmpR op_eq (pv 1) pe_str (by rfl)) (pw_or1 (pt_cmpR op_eq (pe_cmpR op_lt (pv 6) (pv 7) (by rfl)) (pe_cmpR op_eq (pv 1) pe_str (by rfl)) (by rfl)))))))) (pss_one (ps_expr (pe_bm PySem.F.plainAttrs_list PySem.F.slot_list_append PySem.F.type_list_append mt_append (pv 5) (pa_cons (pe_tup (pa_cons (pv 6) (pa_cons (pv 7) pa_nil))) pa_nil)))) pss_nil))))) (pss_one (ps_retF (pv 5)))))), by walk_at "sim", ?h⟩
  intro ds m Qd hz h
  obtain ⟨L, d, s, rfl, ok, hs, nd, hl, q⟩ := h
  have kinj : ∀ a b : Nat, kI a = kI b → a = b := fun a b e => by
    have e1 := Sum.inl.inj e
    omega
  refine ⟨_, rfl, _, .inl rfl, dcM iD s kI (fun p => .int (L.at p).g) (.inl rfl) (sz (by omega)) (nodup_map nd kinj) (fun p hp N Nn y => ?_) ?_⟩
  · have := hs p hp
    exact ⟨_, rfl, _, rfl, _, .inl rfl, rfl, _, rfl, hz, L, p, rfl, this.1, this.2, y⟩
  refine ⟨(by decide : 0 ≤ sizeLine), fun a ha => ?_⟩
  have gl : ∀ t : List Nat, (t.flatMap fun x => (s.filter (lkIn L d x)).map fun b => (x, b)).length ≤ 9 * t.length := fun t => by
    induction t with
    | nil => exact Nat.le_refl _
    | cons z t ih =>
      rw [List.flatMap_cons, List.length_append, List.length_map, List.length_cons]
      have := List.length_filter_le (lkIn L d z) s
      omega
  refine ⟨_, rfl, _, .inl rfl, ?_⟩
  refine forX iD s (fun i δ' m' => m' = m.set a (.lst (((s.take i).flatMap fun x => (s.filter (lkIn L d x)).map fun b => (x, b)).map prD)) ∧ ∃ o p q, δ' = [some (logD CL L), some (.str d), some (.lst (s.map iD)), some (.dic (s.map fun x => (kI x, .int (L.at x).g))), o, some (.ref a), p, q])
    ⟨rfl, _, _, _, rfl⟩ (fun i δ' m' h => .inl rfl) (fun i x δ' m' hx h => ?_) fun δ' m' h => ?_
  · obtain ⟨rfl, o, p, q0, rfl⟩ := h
    have hi := (List.getElem?_eq_some_iff.mp hx).1
    have hxm := List.mem_of_getElem? hx
    refine ⟨_, rfl, _, .inl rfl, ?_⟩
    refine forX iD s (fun j δ' m' => m' = m.set a (.lst ((((s.take i).flatMap fun x => (s.filter (lkIn L d x)).map fun b => (x, b)) ++ ((s.take j).filter (lkIn L d x)).map fun b => (x, b)).map prD)) ∧ ∃ q, δ' = [some (logD CL L), some (.str d), some (.lst (s.map iD)), some (.dic (s.map fun x => (kI x, .int (L.at x).g))), o, some (.ref a), some (iD x), q])
      ⟨by simp, _, rfl⟩ (fun i δ' m' h => .inl rfl) (fun j y δ' m' hy h => ?_) fun δ' m' h => ?_
    · obtain ⟨rfl, q1, rfl⟩ := h
      have hj := (List.getElem?_eq_some_iff.mp hy).1
      have hym := List.mem_of_getElem? hy
      have no : lkIn L d x y = false → (m.set a (.lst ((((s.take i).flatMap fun x => (s.filter (lkIn L d x)).map fun b => (x, b)) ++ ((s.take j).filter (lkIn L d x)).map fun b => (x, b)).map prD))) = (m.set a (.lst ((((s.take i).flatMap fun x => (s.filter (lkIn L d x)).map fun b => (x, b)) ++ ((s.take (j + 1)).filter (lkIn L d x)).map fun b => (x, b)).map prD))) := fun e => by
        rw [take_next hy, List.filter_append, List.filter_cons, if_neg (by rw [e]; decide), List.filter_nil, List.append_nil]
      have yes : lkIn L d x y = true → ((((s.take i).flatMap fun x => (s.filter (lkIn L d x)).map fun b => (x, b)) ++ ((s.take j).filter (lkIn L d x)).map fun b => (x, b)).map prD) ++ [prD (x, y)] = ((((s.take i).flatMap fun x => (s.filter (lkIn L d x)).map fun b => (x, b)) ++ ((s.take (j + 1)).filter (lkIn L d x)).map fun b => (x, b)).map prD) := fun e => by
        rw [take_next hy, List.filter_append, List.filter_cons, if_pos e, List.filter_nil]
        simp
      have wv : decide (d = ("stays" : Str)) = false → wayB d x y = decide (decide ((x : Int) < (y : Int)) = decide (d = ("rises" : Str))) := fun h => by
        unfold wayB
        rw [h, Bool.false_or, show decide ((x : Int) < (y : Int)) = decide (x < y) from decide_eq_decide.mpr (by omega)]
      have len : ((((s.take i).flatMap fun x => (s.filter (lkIn L d x)).map fun b => (x, b)) ++ ((s.take j).filter (lkIn L d x)).map fun b => (x, b)).map prD).length < sizeLine := by
        have h1 := gl (s.take i)
        rw [List.length_take] at h1
        have h2 := List.length_filter_le (lkIn L d x) (s.take j)
        rw [List.length_take] at h2
        rw [List.length_map, List.length_append, List.length_map]
        exact Nat.lt_of_le_of_lt (show _ ≤ 1000 by omega) (by decide)
      refine ⟨_, rfl, _, rfl, _, .inl ⟨_, kI x, .inl rfl, rfl, (getD_map kinj hxm).symm⟩, _, rfl, _, rfl, _, .inl ⟨_, kI y, .inl rfl, rfl, (getD_map kinj hym).symm⟩, _, _, rfl, rfl, _, rfl, iteB (fun h1 => ?_) fun h1 => ?_⟩
      · have app : wayB d x y = true → dDrop (dApp (dVar 5) (dCons (dTup (dCons (dVar 6) (dCons (dVar 7) dNil))) dNil))
          { nx := fun δ' m' => m' = m.set a (.lst ((((s.take i).flatMap fun x => (s.filter (lkIn L d x)).map fun b => (x, b)) ++ ((s.take (j + 1)).filter (lkIn L d x)).map fun b => (x, b)).map prD)) ∧ ∃ q, δ' = [some (logD CL L), some (.str d), some (.lst (s.map iD)), some (.dic (s.map fun x => (kI x, .int (L.at x).g))), o, some (.ref a), some (iD x), q], rt := fun d m' => L3.Sub m m' ∧ Qd d }
          [some (logD CL L), some (.str d), some (.lst (s.map iD)), some (.dic (s.map fun x => (kI x, .int (L.at x).g))), o, some (.ref a), some (iD x), some (iD y)] (m.set a (.lst ((((s.take i).flatMap fun x => (s.filter (lkIn L d x)).map fun b => (x, b)) ++ ((s.take j).filter (lkIn L d x)).map fun b => (x, b)).map prD))) := fun hw => by
          refine ⟨_, rfl, ⟨_, .inr (.inr ⟨a, rfl, Mu.set_same⟩)⟩, _, rfl, _, rfl, (by decide : 2 ≤ sizeLine), a, _, _, rfl, rfl, Mu.set_same, len, ?_, _, rfl⟩
          rw [Mu.set_set]
          have e := yes (by unfold lkIn; rw [h1, hw]; rfl)
          exact congrArg (fun l => m.set a (.lst l)) e
        refine ⟨_, rfl, _, rfl, _, rfl, iteB (fun h2 => ?_) fun h2 => ?_⟩
        · exact app (by unfold wayB; rw [h2]; rfl)
        · refine ⟨_, rfl, _, rfl, _, _, rfl, rfl, _, rfl, _, rfl, _, rfl, _, rfl, iteB (fun h3 => ?_) fun h3 => ?_⟩
          · exact app ((wv h2).trans h3)
          · refine ⟨no ?_, _, rfl⟩
            unfold lkIn
            rw [(wv h2).trans h3, Bool.and_false]
      · refine ⟨no ?_, _, rfl⟩
        unfold lkIn
        rw [h1]
        rfl
    · obtain ⟨rfl, q1, rfl⟩ := h
      refine ⟨?_, _, _, _, rfl⟩
      rw [List.take_length, take_next hx, List.flatMap_append, List.flatMap_cons, List.flatMap_nil, List.append_nil]
  · obtain ⟨rfl, o, p, q0, rfl⟩ := h
    rw [List.take_length]
    refine ⟨_, rfl, a, _, rfl, Mu.set_same, ?_, q⟩
    rw [Mu.del_set ha]
    exact .refl
end F_links_in
namespace F_links_of
abbrev sDef : Stmt := top 18
abbrev sN : List Str := ["log", "found", "judge", "drift", "stretch"]
abbrev sP : List Str := ["log"]
theorem sc : FnScope sN sP (defScope sDef) := ⟨rfl, rfl, rfl, by decide +kernel, rfl, by decide +kernel, by decide +kernel⟩
open F_links_in F_Log_stretches in
theorem mem_lks {L : LogD} {d : Str} {s : List Nat} {p : Nat × Nat} : p ∈ lksIn L d s ↔ p.1 ∈ s ∧ p.2 ∈ s ∧ lkIn L d p.1 p.2 = true := by
  unfold lksIn
  rw [List.mem_flatMap]
  refine ⟨fun ⟨a, h1, h2⟩ => ?_, fun ⟨h1, h2, h3⟩ => ⟨p.1, h1, List.mem_map.mpr ⟨p.2, List.mem_filter.mpr ⟨h2, h3⟩, rfl⟩⟩⟩
  obtain ⟨b, h3, rfl⟩ := List.mem_map.mp h2
  exact ⟨h1, (List.mem_filter.mp h3).1, (List.mem_filter.mp h3).2⟩
open F_links_in F_Log_stretches in
theorem strs_links {L : LogD} (ok : LogOk L) {j d : Str} (hj : (j, d) ∈ L.judges) {ss : List (List Nat)} (h : Strs L j ss) {p : Nat × Nat} : (∃ s ∈ ss, p ∈ lksIn L d s) ↔ L.Link p ∧ (L.at p.1).j = j := by
  refine ⟨fun ⟨s, h1, h2⟩ => ?_, fun ⟨⟨h1, h2, h3⟩, h4⟩ => ?_⟩
  · obtain ⟨h3, h4, h5⟩ := mem_lks.mp h2
    obtain ⟨p0, h6, rfl⟩ := h.2.1 s h1
    obtain ⟨k1, k2⟩ := mem_str.mp h3
    obtain ⟨k3, k4⟩ := mem_str.mp h4
    obtain ⟨⟨a1, a2⟩, a3⟩ := mem_ansOf.mp k1
    obtain ⟨⟨b1, b2⟩, b3⟩ := mem_ansOf.mp k3
    refine ⟨⟨a1, b1, ?_⟩, a3⟩
    unfold LogD.lk
    unfold lkIn at h5
    rw [a2, b2, a3, b3, decide_eq_true rfl, sm_trans (sm_comm L j p0 p.1 ▸ k2) k4, drift_of_mem ok hj]
    exact h5
  · unfold LogD.lk at h3
    rw [h4, drift_of_mem ok hj] at h3
    simp only [Bool.and_eq_true, decide_eq_true_eq] at h3
    obtain ⟨⟨⟨⟨k1, k2⟩, k3⟩, k4⟩, k5, k6⟩ := h3
    have ha : p.1 ∈ L.ansOf j := mem_ansOf.mpr ⟨⟨h1, k1⟩, h4⟩
    have hb : p.2 ∈ L.ansOf j := mem_ansOf.mpr ⟨⟨h2, k2⟩, k3.symm⟩
    obtain ⟨s, hs, hp⟩ := h.2.2 p.1 ha
    obtain ⟨p0, h6, rfl⟩ := h.2.1 s hs
    refine ⟨_, hs, mem_lks.mpr ⟨hp, mem_str.mpr ⟨hb, sm_trans (mem_str.mp hp).2 k4⟩, ?_⟩⟩
    unfold lkIn
    rw [decide_eq_true k5, k6]
    rfl
open F_links_in in
theorem lks_len {L : LogD} {d : Str} {s : List Nat} (h : s.length ≤ 9) : (lksIn L d s).length ≤ 81 := by
  have gl : ∀ t : List Nat, (t.flatMap fun x => (s.filter (lkIn L d x)).map fun b => (x, b)).length ≤ 9 * t.length := fun t => by
    induction t with
    | nil => exact Nat.le_refl _
    | cons z t ih =>
      rw [List.flatMap_cons, List.length_append, List.length_map, List.length_cons]
      have := List.length_filter_le (lkIn L d z) s
      omega
  have := gl s
  unfold lksIn
  omega
/-- the links, in any order -/
def Lks (L : LogD) (ls : List (Nat × Nat)) : Prop := ls.length ≤ 3000 ∧ ∀ p, p ∈ ls ↔ L.Link p
def S (CL : Addr) : SD := fun ds m Q => ∃ (L : LogD), ds = [logD CL L] ∧ LogOk L ∧ ∀ ls, Lks L ls → Q (.lst (ls.map prD))
theorem ok {P : Program} {w : World} {K : Fg} {mg : Str → Option Value} {base : Heap} {CL CD CS CU GS f : Addr} {fd : FuncData} (F : FnP K "links_of" "links_of" sDef f fd) (T : Txt K mg CL CD CS CU GS) (hLog_judges : CalP P w K mg base CL 1 "judges" (spP K (F_Log_judges.S CL))) (hLog_stretches : CalM P w K mg base CL 6 "stretches" ["self", "judge"] (spP K (F_Log_stretches.S CL))) (hlinks_in : Cal P w K mg base 4 "links_in" ["log", "drift", "stretch"] (spP K (F_links_in.S CL))) : FnOk P w K mg base CX0 7 f fd sP (spP K (S CL)) := by
  refine okP F sc (fun ds m Qd h => ?_) fun cdv A outer s H E hr => ?_
  · obtain ⟨L, rfl, ok, q⟩ := h
    rfl
  have hu := hu_of hr
  refine ⟨_, _, (pss_cons (ps_set (i := 1) sc.nd rfl (Or.inl rfl) (pe_lstM pa_nil)) (pss_cons (ps_for PassesOwn.never rfl (kList (K := K) (by rfl) (pe_calP hLog_judges T.cLog hr (by decide) (pv 0))) (kTup (K := K) (n := 2) (by rfl) rfl (pgs_cons (pg_name (i := 2) sc.nd rfl (by first | exact Or.inl rfl | exact Or.inr rfl)) (pgs_cons (pg_name (i := 3) sc.nd rfl (by first | exact Or.inl rfl | exact Or.inr rfl)) pgs_nil))) (pss_one (ps_for PassesOwn.never rfl (kList (K := K) (by rfl) (pe_calM hLog_stretches T.cLog hr (by decide) (pv 0) (pa_cons (pv 2) pa_nil))) (pg_name (i := 4) sc.nd rfl (by first | exact Or.inl rfl | exact Or.inr rfl)) (pss_one (ps_aug (i := 1) sc.nd rfl (Or.inl rfl) (pe_cal hlinks_in hr (by decide) rfl (pa_cons (pv 0) (pa_cons (pv 3) (pa_cons (pv 4) pa_nil)))) iop_ext))))) (pss_one (ps_ret (pe_callB (kSortP (K := K) (by rfl)) (by rfl) T.n_sorted (by decide +kernel) (pa_cons (pv 1) pa_nil)))))), by walk_at "sim", ?h⟩
  intro ds m Qd hz h
  obtain ⟨L, rfl, ok, q⟩ := h
  have j3 := ok.j3
  refine ⟨(by decide : 0 ≤ sizeLine), fun a ha => ?_⟩
  refine ⟨_, rfl, _, .inl rfl, hz, L, rfl, _, .inl rfl, ?_⟩
  refine forX juD L.judges (fun i δ' m' => ∃ ls : List (Nat × Nat), m' = m.set a (.lst (ls.map prD)) ∧ (∃ x y z, δ' = [some (logD CL L), some (.ref a), x, y, z]) ∧ ls.length ≤ 729 * i ∧ ∀ p, p ∈ ls ↔ ∃ jd ∈ L.judges.take i, L.Link p ∧ (L.at p.1).j = jd.1)
    ⟨[], rfl, ⟨_, _, _, rfl⟩, Nat.le_refl _, by simp⟩ (fun i δ' m' h => .inl rfl) (fun i jd δ' m' hjd h => ?_) fun δ' m' h => ?_
  · obtain ⟨ls, rfl, ⟨x, y, z, rfl⟩, hl, hm⟩ := h
    have hi := (List.getElem?_eq_some_iff.mp hjd).1
    have hj := List.mem_of_getElem? hjd
    refine ⟨_, rfl, rfl, _, _, rfl, _, _, rfl, rfl, ?_⟩
    refine ⟨_, rfl, _, .inl rfl, rfl, _, rfl, hz, L, jd.1, rfl, ok, List.mem_map.mpr ⟨jd, hj, rfl⟩, fun ss hs => ⟨_, .inl rfl, ?_⟩⟩
    refine forX F_Log_stretches.stD ss (fun k δ' m' => ∃ l2 : List (Nat × Nat), m' = m.set a (.lst ((ls ++ l2).map prD)) ∧ (∃ z, δ' = [some (logD CL L), some (.ref a), some (.str jd.1), some (.str jd.2), z]) ∧ l2.length ≤ 81 * k ∧ ∀ p, p ∈ l2 ↔ ∃ s ∈ ss.take k, p ∈ F_links_in.lksIn L jd.2 s)
      ⟨[], by simp, ⟨_, rfl⟩, Nat.le_refl _, by simp⟩ (fun i δ' m' h => .inl rfl) (fun k s δ' m' hs2 h => ?_) fun δ' m' h => ?_
    · obtain ⟨l2, rfl, ⟨z2, rfl⟩, hl2, hm2⟩ := h
      have hk := (List.getElem?_eq_some_iff.mp hs2).1
      have hsm := List.mem_of_getElem? hs2
      obtain ⟨p0, h6, e⟩ := hs.2.1 s hsm
      have s9 : s.length ≤ 9 := by
        rw [e]
        exact Nat.le_trans (str_len L jd.1 p0) ok.n9
      have ss9 := hs.1
      refine ⟨_, rfl, _, rfl, _, rfl, _, rfl, hz, L, jd.2, s, rfl, ok, ?_, ?_, s9, ?_⟩
      · intro p hp
        rw [e] at hp
        exact (mem_ansOf.mp (mem_str.mp hp).1).1
      · rw [e]
        exact str_nodup L jd.1 p0
      · have b := lks_len (L := L) (d := jd.2) s9
        refine ⟨a, _, _, rfl, rfl, Mu.set_same, ?_, l2 ++ F_links_in.lksIn L jd.2 s, ?_, ⟨_, rfl⟩, ?_, fun p => ?_⟩
        · rw [List.length_map, List.length_map, List.length_append]
          exact sz (by omega)
        · rw [Mu.set_set, List.map_append, List.map_append, List.map_append, List.append_assoc]
        · rw [List.length_append]
          omega
        · rw [List.mem_append, hm2, take_next hs2]
          refine ⟨fun h => ?_, fun ⟨t, h1, h2⟩ => ?_⟩
          · rcases h with ⟨t, h1, h2⟩ | h
            · exact ⟨t, List.mem_append_left _ h1, h2⟩
            · exact ⟨s, List.mem_append_right _ (List.mem_singleton.mpr rfl), h⟩
          · rcases List.mem_append.mp h1 with h1 | h1
            · exact .inl ⟨t, h1, h2⟩
            · exact .inr (List.mem_singleton.mp h1 ▸ h2)
    · obtain ⟨l2, rfl, ⟨z2, rfl⟩, hl2, hm2⟩ := h
      have ss9 := hs.1
      refine ⟨ls ++ l2, rfl, ⟨_, _, _, rfl⟩, ?_, fun p => ?_⟩
      · rw [List.length_append]
        omega
      · rw [List.mem_append, hm, hm2, List.take_length, strs_links ok hj hs, take_next hjd]
        refine ⟨fun h => ?_, fun ⟨t, h1, h2⟩ => ?_⟩
        · rcases h with ⟨t, h1, h2⟩ | h
          · exact ⟨t, List.mem_append_left _ h1, h2⟩
          · exact ⟨jd, List.mem_append_right _ (List.mem_singleton.mpr rfl), h⟩
        · rcases List.mem_append.mp h1 with h1 | h1
          · exact .inl ⟨t, h1, h2⟩
          · exact .inr (List.mem_singleton.mp h1 ▸ h2)
  · obtain ⟨ls, rfl, ⟨x, y, z, rfl⟩, hl, hm⟩ := h
    rw [List.take_length] at hm
    refine ⟨_, rfl, _, _, rfl, .inr (.inr ⟨a, rfl, Mu.set_same⟩), ?_, fun es pe => ?_⟩
    · intro d hd
      obtain ⟨p, _, rfl⟩ := List.mem_map.mp hd
      exact ⟨_, _, rfl⟩
    · obtain ⟨ys, rfl, py⟩ := perm_back pe
      refine ⟨L3.Sub.refl.set ha, q ys ⟨?_, fun p => ?_⟩⟩
      · rw [py.length_eq]
        omega
      · rw [py.mem_iff, hm]
        refine ⟨fun ⟨_, _, h, _⟩ => h, fun h => ?_⟩
        have hA : L.isA p.1 = true := by
          have := h.2.2
          unfold LogD.lk at this
          simp only [Bool.and_eq_true] at this
          exact this.1.1.1.1
        obtain ⟨jd, h1, h2⟩ := List.mem_map.mp (isA_name ok h.1 hA).1
        exact ⟨jd, h1, h, h2.symm⟩
end F_links_of
namespace F_reached
abbrev sDef : Stmt := top 23
abbrev sN : List Str := ["items", "ends", "found", "end", "item", "middle"]
abbrev sP : List Str := ["items", "ends"]
theorem sc : FnScope sN sP (defScope sDef) := ⟨rfl, rfl, rfl, by decide +kernel, rfl, by decide +kernel, by decide +kernel⟩
def tabL (items : List Str) (R : Str → Str → Bool) : List (Key × D) := items.map fun a => (kS a, .lst ((items.filter (R a)).map D.str))
theorem kS_inj : ∀ a b : Str, kS a = kS b → a = b := fun a b e => Sum.inr.inj e
theorem setD_tab {items : List Str} {R : Str → Str → Bool} {y : Str} {g : Str → Bool} (hy : y ∈ items) : setD (tabL items R) (kS y) (.lst ((items.filter g).map D.str)) = tabL items (fun a => if a = y then g else R a) := by
  have any : ((tabL items R).any fun kv => decide (kv.1 = kS y)) = true := List.any_eq_true.mpr ⟨(kS y, _), List.mem_map.mpr ⟨y, hy, rfl⟩, decide_eq_true rfl⟩
  unfold setD
  rw [if_pos any]
  unfold tabL
  rw [List.map_map]
  refine List.map_congr_left fun a ha => ?_
  show (if kS a = kS y then (kS a, D.lst ((items.filter g).map D.str)) else (kS a, D.lst ((items.filter (R a)).map D.str))) = (kS a, D.lst ((items.filter (if a = y then g else R a)).map D.str))
  by_cases e : a = y
  · rw [if_pos e, if_pos (by rw [e])]
  · rw [if_neg (fun h => e (kS_inj _ _ h)), if_neg e]
theorem tab_congr {items : List Str} {R S : Str → Str → Bool} (h : ∀ a ∈ items, R a = S a) : tabL items R = tabL items S := List.map_congr_left fun a ha => by rw [h a ha]
theorem row_mem {items : List Str} {f : Str → Bool} {b : Str} (hb : b ∈ items) : decide (b ∈ items.filter f) = f b := bool_iff ⟨fun h => (List.mem_filter.mp (of_decide_eq_true h)).2, fun h => decide_eq_true (List.mem_filter.mpr ⟨hb, h⟩)⟩
abbrev stp (F : Str → Str → Bool) (m : Str) : Str → Str → Bool := fun a b => F a b || (F a m && F m b)
theorem war_next {items : List Str} {E : Str → Str → Bool} {i : Nat} {x : Str} (h : items[i]? = some x) : war (items.take (i + 1)) E = stp (war (items.take i) E) x := by
  unfold war
  rw [take_next h, List.foldl_append]
  rfl
theorem stp_mid (F : Str → Str → Bool) (m : Str) : stp F m m = F m := by
  funext b
  show (F m b || (F m m && F m b)) = F m b
  cases F m b <;> simp
def S : SD := fun ds m Q => ∃ (items : List Str) (E : Str → Str → Bool) (x : D), ds = [.lst (items.map D.str), x] ∧ items.Nodup ∧ items.length ≤ 100 ∧ (∃ kds, DtD m x kds ∧ ∀ a b, (getD kds [kS a, kS b]).isSome = E a b) ∧ Q (tabD items (war items E))
theorem ok {P : Program} {w : World} {K : Fg} {mg : Str → Option Value} {base : Heap} {CL CD CS CU GS f : Addr} {fd : FuncData} (F : FnP K "reached" "reached" sDef f fd) (T : Txt K mg CL CD CS CU GS)  : FnOk P w K mg base CX0 1 f fd sP (spP K (S)) := by
  refine okP F sc (fun ds m Qd h => ?_) fun cdv A outer s H E hr => ?_
  · obtain ⟨items, F0, x, rfl, nd, hl, he, q⟩ := h
    rfl
  have hu := hu_of hr
  refine ⟨_, _, (pss_cons (ps_set (i := 2) sc.nd rfl (Or.inr rfl) (pe_dcM (own := [("item", 4)]) rfl sc.nd (kList (K := K) (by rfl) (pv 0)) (blkOk_by (N := sN) (sc := defScope sDef) (by decide +kernel)) (fun _ _ _ _ _ => (pg_name (i := 4) sc.nd rfl (by first | exact Or.inl rfl | exact Or.inr rfl))) (fun _ _ _ _ _ => pts_nil) (fun _ _ _ _ _ => (pv 4)) (fun _ _ _ _ _ => (pe_lc (own := [("end", 3)]) rfl sc.nd (kList (K := K) (by rfl) (pv 0)) (blkOk_by (N := sN) (by rfl)) (fun _ _ _ _ _ => (pg_name (i := 3) sc.nd rfl (by first | exact Or.inl rfl | exact Or.inr rfl))) (fun _ _ _ _ _ => pts_one (pt_cmp (pc_din hu (pe_tup (pa_cons (pv 4) (pa_cons (pv 3) pa_nil))) (pv 1)) rfl)) (fun _ _ _ _ _ => (pv 3)))))) (pss_cons (ps_for PassesOwn.never rfl (kList (K := K) (by rfl) (pv 0)) (pg_name (i := 5) sc.nd rfl (by first | exact Or.inl rfl | exact Or.inr rfl)) (pss_one (ps_for PassesOwn.never rfl (kList (K := K) (by rfl) (pv 0)) (pg_name (i := 4) sc.nd rfl (by first | exact Or.inl rfl | exact Or.inr rfl)) (pss_one (ps_if (pt_cmpR (kMemS (K := K) (by rfl)) (pv 5) (pe_dget hu (pv 2) (pv 4) (fun _ _ => rfl)) (by rfl)) (pss_one (ps_dput hu (pv 2) (pv 4) (pe_lc (own := [("end", 3)]) rfl sc.nd (kList (K := K) (by rfl) (pv 0)) (blkOk_by (N := sN) (sc := defScope sDef) (by decide +kernel)) (fun _ _ _ _ _ => (pg_name (i := 3) sc.nd rfl (by first | exact Or.inl rfl | exact Or.inr rfl))) (fun _ _ _ _ _ => pts_one (PW.pt (pw_or (pt_cmpR (kMemS (K := K) (by rfl)) (pv 3) (pe_dget hu (pv 2) (pv 4) (fun _ _ => rfl)) (by rfl)) (pw_or1 (pt_cmpR (kMemS (K := K) (by rfl)) (pv 3) (pe_dget hu (pv 2) (pv 5) (fun _ _ => rfl)) (by rfl)))))) (fun _ _ _ _ _ => (pv 3))) rfl)) pss_nil))))) (pss_one (ps_retF (pv 2))))), by walk_at "sim", ?h⟩
  intro ds m Qd hz h
  obtain ⟨items, F0, x, rfl, nd, hl, he, q⟩ := h
  obtain ⟨kds, hd, he⟩ := he
  have l1 : items.length ≤ sizeLine := sz (by omega)
  refine ⟨_, rfl, _, .inl rfl, dcMM D.str items kS (fun a => .lst ((items.filter (F0 a)).map D.str)) (.inl rfl) l1 (nodup_map nd kS_inj) (fun y hy N Nn k => ?_) fun a ha => ?_⟩
  · refine ⟨_, rfl, _, rfl, _, .inl rfl, lcFM D.str items (F0 y) D.str (.inl rfl) l1 (fun b hb Ny Nn2 k1 k2 => ?_) k⟩
    refine ⟨_, rfl, _, rfl, (by decide : 2 ≤ sizeLine), _, rfl, _, .inr ⟨kds, [kS y, kS b], hd, rfl, rfl⟩, _, rfl, ?_⟩
    rw [he]
    exact iteB (fun h => ⟨_, rfl, k1 h⟩) k2
  refine ⟨_, rfl, _, .inl rfl, ?_⟩
  refine forX D.str items (fun i δ' m' => m' = m.set a (.dK (tabL items (war (items.take i) F0))) ∧ ∃ p q r, δ' = [some (.lst (items.map D.str)), some x, some (.ref a), p, q, r])
    ⟨rfl, _, _, _, rfl⟩ (fun i δ' m' h => .inl rfl) (fun i mid δ' m' hmid h => ?_) fun δ' m' h => ?_
  · obtain ⟨rfl, p, q1, r, rfl⟩ := h
    have hmm := List.mem_of_getElem? hmid
    generalize eF : war (items.take i) F0 = F
    refine ⟨_, rfl, _, .inl rfl, ?_⟩
    refine forX D.str items (fun j δ' m' => m' = m.set a (.dK (tabL items (fun z => if z ∈ items.take j then stp F mid z else F z))) ∧ ∃ p q, δ' = [some (.lst (items.map D.str)), some x, some (.ref a), p, q, some (.str mid)])
      ⟨by simp, _, _, rfl⟩ (fun i δ' m' h => .inl rfl) (fun j y δ' m' hy h => ?_) fun δ' m' h => ?_
    · obtain ⟨rfl, p2, q2, rfl⟩ := h
      have hym := List.mem_of_getElem? hy
      have hj := (List.getElem?_eq_some_iff.mp hy)
      have hny : y ∉ items.take j := fun h => by
        obtain ⟨k, hk, e⟩ := List.mem_take_iff_getElem.mp h
        have := (List.pairwise_iff_getElem.mp nd) k j (by omega) hj.1 (by omega)
        exact this (e.trans hj.2.symm)
      have row : (if y ∈ items.take j then stp F mid y else F y) = F y := if_neg hny
      have rowm : (if mid ∈ items.take j then stp F mid mid else F mid) = F mid := by
        by_cases h : mid ∈ items.take j
        · rw [if_pos h, stp_mid]
        · rw [if_neg h]
      have nxt : (fun z => if z = y then stp F mid y else if z ∈ items.take j then stp F mid z else F z) = fun z => if z ∈ items.take (j + 1) then stp F mid z else F z := by
        funext z
        rw [take_next hy]
        by_cases e : z = y
        · subst e
          rw [if_pos rfl, if_pos (List.mem_append_right _ (List.mem_singleton.mpr rfl))]
        · rw [if_neg e]
          by_cases h : z ∈ items.take j
          · rw [if_pos h, if_pos (List.mem_append_left _ h)]
          · rw [if_neg h, if_neg]
            intro h2
            rcases List.mem_append.mp h2 with h2 | h2
            · exact h h2
            · exact e (List.mem_singleton.mp h2)
      have gy := getD_map (f := kS) (v := fun z => D.lst ((items.filter (if z ∈ items.take j then stp F mid z else F z)).map D.str)) kS_inj hym
      have gm := getD_map (f := kS) (v := fun z => D.lst ((items.filter (if z ∈ items.take j then stp F mid z else F z)).map D.str)) kS_inj hmm
      rw [row] at gy
      rw [rowm] at gm
      refine ⟨_, rfl, _, rfl, _, rfl, _, .inl ⟨_, kS y, .inr ⟨a, rfl, Mu.set_same⟩, rfl, gy.symm⟩, mid, items.filter (F y), rfl, .inl (.inl rfl), _, rfl, ?_⟩
      have rm := row_mem (f := F y) hmm
      refine iteB (fun h1 => ?_) fun h1 => ?_
      · have h1 : F y mid = true := rm ▸ h1
        refine ⟨_, rfl, _, .inl rfl, lcFM D.str items (stp F mid y) D.str (.inl rfl) l1 (fun b hb Ny Nn k1 k2 => ?_) ?_⟩
        · have e0 : stp F mid y b = (F y b || F mid b) := by
            show (F y b || (F y mid && F mid b)) = _
            rw [h1, Bool.true_and]
          rw [e0] at k1 k2
          refine ⟨_, rfl, _, rfl, _, rfl, _, .inl ⟨_, kS y, .inr ⟨a, rfl, Mu.set_same⟩, rfl, gy.symm⟩, b, items.filter (F y), rfl, .inl (.inl rfl), _, rfl, ?_⟩
          refine iteB (fun h2 => ?_) fun h2 => ?_
          · have h2 : F y b = true := row_mem (f := F y) hb ▸ h2
            exact ⟨_, rfl, k1 (by rw [h2]; rfl)⟩
          · have h2 : F y b = false := row_mem (f := F y) hb ▸ h2
            rw [h2, Bool.false_or] at k1 k2
            refine ⟨_, rfl, _, rfl, _, rfl, _, .inl ⟨_, kS mid, .inr ⟨a, rfl, Mu.set_same⟩, rfl, gm.symm⟩, b, items.filter (F mid), rfl, .inl (.inl rfl), _, rfl, ?_⟩
            exact iteB (fun h3 => ⟨_, rfl, k1 (row_mem (f := F mid) hb ▸ h3)⟩) fun h3 => k2 (row_mem (f := F mid) hb ▸ h3)
        · refine ⟨_, rfl, _, rfl, a, rfl, .inl ⟨_, kS y, Mu.set_same, rfl, ?_, ?_, _, _, rfl⟩⟩
          · unfold tabL
            rw [List.length_map]
            exact Nat.lt_of_le_of_lt hl (by decide)
          · rw [Mu.set_set, setD_tab hym, nxt]
      · have h1 : F y mid = false := rm ▸ h1
        refine ⟨?_, _, _, rfl⟩
        rw [← nxt]
        refine congrArg (fun t => m.set a (.dK t)) (tab_congr fun z hz => ?_)
        by_cases e : z = y
        · subst e
          rw [row, if_pos rfl]
          funext b
          show F z b = (F z b || (F z mid && F mid b))
          rw [h1, Bool.false_and, Bool.or_false]
        · rw [if_neg e]
    · obtain ⟨rfl, p2, q2, rfl⟩ := h
      refine ⟨?_, _, _, _, rfl⟩
      rw [List.take_length, war_next hmid, eF]
      exact congrArg (fun t => m.set a (.dK t)) (tab_congr fun z hz => if_pos hz)
  · obtain ⟨rfl, p, q1, r, rfl⟩ := h
    rw [List.take_length]
    refine ⟨_, rfl, a, _, rfl, Mu.set_same, ?_, q⟩
    rw [Mu.del_set ha]
    exact .refl
end F_reached
namespace F__law_links
abbrev sDef : Stmt := top 102
abbrev sN : List Str := ["_law_parts_here", "_law_drifts", "_law_resets", "_law_judge", "_law_drift_here", "_law_marks", "_law_event", "_law_found", "_law_one", "_law_other"]
abbrev sP : List Str := ["_law_parts_here"]
theorem sc : FnScope sN sP (defScope sDef) := ⟨rfl, rfl, rfl, by decide +kernel, rfl, by decide +kernel, by decide +kernel⟩
open F_reached
/-- resets of j before k -/
def rc (L : LogD) (j : Str) (k : Nat) : Nat := ((List.range k).filter fun i => decide (L.at i = .rst j)).length
theorem rc_succ (L : LogD) (j : Str) (k : Nat) : rc L j (k + 1) = rc L j k + if L.at k = .rst j then 1 else 0 := by
  unfold rc
  rw [List.range_succ, List.filter_append, List.length_append]
  by_cases h : L.at k = .rst j
  · simp [h]
  · simp [h]
theorem rc_add (L : LogD) (j : Str) (a : Nat) : ∀ d, rc L j a ≤ rc L j (a + d) ∧ (rc L j a = rc L j (a + d) ↔ L.noRst j a (a + d) = true)
  | 0 => ⟨Nat.le_refl _, fun _ => noRst_iff.mpr fun i h1 h2 => by omega, fun _ => rfl⟩
  | d + 1 => by
    obtain ⟨h1, h2⟩ := rc_add L j a d
    have e : rc L j (a + (d + 1)) = rc L j (a + d) + if L.at (a + d) = .rst j then 1 else 0 := rc_succ L j (a + d)
    rw [e]
    refine ⟨by omega, fun h => ?_, fun h => ?_⟩
    · have h3 : L.at (a + d) ≠ .rst j := fun z => by
        rw [if_pos z] at h
        omega
      rw [if_neg h3] at h
      refine noRst_iff.mpr fun i k1 k2 => ?_
      rcases Nat.lt_or_eq_of_le (show i ≤ a + d by omega) with k3 | k3
      · exact noRst_iff.mp (h2.mp h) i k1 k3
      · rw [k3]
        exact h3
    · have h3 := noRst_iff.mp h (a + d) (by omega) (by omega)
      rw [if_neg h3]
      exact h2.mpr (noRst_iff.mpr fun i k1 k2 => noRst_iff.mp h i k1 (by omega))
theorem rc_sm (L : LogD) (j : Str) (a b : Nat) : decide (rc L j a = rc L j b) = L.sm j a b := by
  refine bool_iff ?_
  rw [decide_eq_true_eq]
  unfold LogD.sm
  rcases Nat.le_total a b with h | h
  · obtain ⟨d, rfl⟩ := Nat.exists_eq_add_of_le h
    rw [Nat.min_eq_left h, Nat.max_eq_right h]
    exact (rc_add L j a d).2
  · obtain ⟨d, rfl⟩ := Nat.exists_eq_add_of_le h
    rw [Nat.min_eq_right h, Nat.max_eq_left h]
    exact ⟨fun e => (rc_add L j b d).2.mp e.symm, fun e => ((rc_add L j b d).2.mpr e).symm⟩
def mkD (L : LogD) (k : Nat) : D := match L.at k with
  | .ans j _ _ => .tup [.str j, .int (rc L j k : Nat)]
  | .rst _ => .non
theorem setD_map {α : Type} {f : α → Key} {v : α → D} {xs : List α} {y : α} (hy : y ∈ xs) {w : D} : setD (xs.map fun x => (f x, v x)) (f y) w = xs.map fun x => (f x, if f x = f y then w else v x) := by
  have any : ((xs.map fun x => (f x, v x)).any fun kv => decide (kv.1 = f y)) = true := List.any_eq_true.mpr ⟨(f y, v y), List.mem_map.mpr ⟨y, hy, rfl⟩, decide_eq_true rfl⟩
  unfold setD
  rw [if_pos any, List.map_map]
  refine List.map_congr_left fun x hx => ?_
  show (if f x = f y then (f x, w) else (f x, v x)) = _
  by_cases e : f x = f y
  · rw [if_pos e, if_pos e]
  · rw [if_neg e, if_neg e]
theorem getD_no {xs : List (Str × Str)} {v : Str × Str → D} {t : Str} (h : t ∉ xs.map Prod.fst) : getD (xs.map fun p => (kS p.1, v p)) (kS t) = none := by
  unfold getD
  rw [Option.map_eq_none_iff, List.find?_eq_none]
  intro kv hkv
  obtain ⟨p, hp, rfl⟩ := List.mem_map.mp hkv
  rw [decide_eq_true_eq]
  intro e
  exact h (List.mem_map.mpr ⟨p, hp, Sum.inr.inj e⟩)
theorem take_no {L : LogD} (ok : LogOk L) {i : Nat} {p : Str × Str} (h : L.judges[i]? = some p) : p.1 ∉ (L.judges.take i).map Prod.fst := fun hm => by
  have e : L.names = (L.judges.take i).map Prod.fst ++ (L.judges.drop i).map Prod.fst := by
    unfold LogD.names
    rw [← List.map_append, List.take_append_drop]
  have nd := ok.ju.nd
  rw [e] at nd
  refine (List.nodup_append.mp nd).2.2 _ hm p.1 ?_ rfl
  obtain ⟨hi, e2⟩ := List.getElem?_eq_some_iff.mp h
  rw [List.drop_eq_getElem_cons hi, e2]
  exact List.mem_cons_self
def DR (L : LogD) : MO := .dK (L.judges.map fun p => (kS p.1, .str p.2))
def RS (L : LogD) (i : Nat) : MO := .dK (L.judges.map fun p => (kS p.1, .int (rc L p.1 i : Nat)))
def MK (L : LogD) (i : Nat) : MO := .lst ((List.range i).map (mkD L))
theorem RS_next {L : LogD} {i : Nat} (h : ∀ j, L.at i ≠ .rst j) : RS L (i + 1) = RS L i := by
  unfold RS
  refine congrArg MO.dK (List.map_congr_left fun p _ => ?_)
  rw [rc_succ, if_neg (h _), Nat.add_zero]
theorem RS_rst {L : LogD} {i : Nat} {p : Str × Str} (hp : p ∈ L.judges) (h : L.at i = .rst p.1) : .dK (setD (L.judges.map fun p => (kS p.1, D.int (rc L p.1 i : Nat))) (kS p.1) (.int ((rc L p.1 i : Nat) + 1))) = RS L (i + 1) := by
  unfold RS
  rw [setD_map (f := fun p : Str × Str => kS p.1) (v := fun p : Str × Str => D.int (rc L p.1 i : Nat)) hp]
  refine congrArg MO.dK (List.map_congr_left fun q _ => ?_)
  rw [rc_succ, h]
  by_cases e : q.1 = p.1
  · rw [if_pos (congrArg kS e), if_pos (by rw [e]), e]
    rfl
  · rw [if_neg (c := kS q.1 = kS p.1) fun z => e (Sum.inr.inj z), if_neg fun z => e (Ev.rst.inj z).symm, Nat.add_zero]
theorem MK_next {L : LogD} {i : Nat} : (.lst ((List.range i).map (mkD L) ++ [mkD L i]) : MO) = MK L (i + 1) := by
  unfold MK
  rw [List.range_succ, List.map_append]
  rfl
theorem mkD_ans {L : LogD} {i : Nat} {j it : Str} {g : Int} (h : L.at i = .ans j it g) : mkD L i = .tup [.str j, .int (rc L j i : Nat)] := by
  unfold mkD
  rw [h]
theorem mkD_rst {L : LogD} {i : Nat} {j : Str} (h : L.at i = .rst j) : mkD L i = .non := by
  unfold mkD
  rw [h]
theorem RS_get {L : LogD} {i : Nat} {p : Str × Str} (ok : LogOk L) (hp : p ∈ L.judges) : getD (L.judges.map fun p => (kS p.1, D.int (rc L p.1 i : Nat))) (kS p.1) = some (.int (rc L p.1 i : Nat)) := by
  have key : ∀ xs : List (Str × Str), p ∈ xs → getD (xs.map fun p => (kS p.1, D.int (rc L p.1 i : Nat))) (kS p.1) = some (.int (rc L p.1 i : Nat)) := fun xs => by
    induction xs with
    | nil => intro h; cases h
    | cons y ys ih =>
      intro h
      unfold getD
      rw [List.map_cons, List.find?_cons]
      by_cases e : kS y.1 = kS p.1
      · rw [decide_eq_true e, Sum.inr.inj e]
        rfl
      · rw [decide_eq_false e]
        rcases List.mem_cons.mp h with h | h
        · exact absurd (by rw [h]) e
        · exact ih h
  exact key _ hp
theorem mem_names {L : LogD} {j : Str} (h : j ∈ L.names) : ∃ p ∈ L.judges, p.1 = j := by
  obtain ⟨p, hp, e⟩ := List.mem_map.mp h
  exact ⟨p, hp, e⟩
def Fi (L : LogD) (x k : Nat) : List (Nat × Nat) := ((List.range k).filter (L.lk x)).map fun y => (x, y)
def Fo (L : LogD) (k : Nat) : List (Nat × Nat) := (List.range k).flatMap fun x => Fi L x L.n
theorem Fi_len (L : LogD) (x k : Nat) : (Fi L x k).length ≤ k := by
  unfold Fi
  rw [List.length_map]
  exact Nat.le_trans (List.length_filter_le _ _) (by rw [List.length_range]; exact Nat.le_refl _)
theorem Fo_succ (L : LogD) (k : Nat) : Fo L (k + 1) = Fo L k ++ Fi L k L.n := by
  unfold Fo
  rw [List.range_succ, List.flatMap_append, List.flatMap_singleton]
theorem Fo_len (L : LogD) : ∀ k, (Fo L k).length ≤ k * L.n
  | 0 => Nat.zero_le _
  | k + 1 => by
    have h1 := Fo_len L k
    have h2 := Fi_len L k L.n
    rw [Fo_succ, List.length_append, Nat.succ_mul]
    omega
theorem Fi_succ (L : LogD) (x k : Nat) : Fi L x (k + 1) = Fi L x k ++ if L.lk x k = true then [(x, k)] else [] := by
  unfold Fi
  rw [List.range_succ, List.filter_append, List.map_append]
  by_cases h : L.lk x k = true
  · rw [if_pos h, List.filter_cons_of_pos h]
    rfl
  · rw [if_neg h, List.filter_cons_of_neg h]
    rfl
theorem range_get {n i x : Nat} (h : (List.range n)[i]? = some x) : i < n ∧ i = x := by
  obtain ⟨h1, h2⟩ := List.getElem?_eq_some_iff.mp h
  rw [List.length_range] at h1
  rw [List.getElem_range] at h2
  exact ⟨h1, h2⟩
theorem sD_mk {L : LogD} (ok : LogOk L) {k : Nat} (hk : k < L.n) : sD 1 (mkD L k) = true := by
  have h0 := ok.ev (L.at k) (List.mem_of_getElem? (LogD.at_get hk))
  cases e : L.at k with
  | ans j i g =>
    rw [mkD_ans e]
    rw [e] at h0
    unfold evB at h0
    simp only [Bool.and_eq_true, decide_eq_true_eq] at h0
    have h1 := strOk_name (ok.ju.good j h0.1.1.1)
    simp [sD, h1]
  | rst j =>
    rw [mkD_rst e]
    unfold sD
    rfl
theorem DR_find (j : Str) : ∀ xs : List (Str × Str), getD (xs.map fun p => (kS p.1, D.str p.2)) (kS j) = (xs.find? fun p => decide (p.1 = j)).map fun p => D.str p.2
  | [] => rfl
  | x :: xs => by
    have ih := DR_find j xs
    unfold getD at ih ⊢
    rw [List.map_cons, List.find?_cons, List.find?_cons]
    by_cases e : x.1 = j
    · rw [decide_eq_true (show kS x.1 = kS j by rw [e]), decide_eq_true e]
      rfl
    · rw [decide_eq_false (fun z : kS x.1 = kS j => e (Sum.inr.inj z)), decide_eq_false e]
      exact ih
theorem DR_get {L : LogD} {j : Str} (hj : j ∈ L.names) : getD (L.judges.map fun p => (kS p.1, D.str p.2)) (kS j) = some (.str (L.drift j)) := by
  rw [DR_find]
  unfold LogD.drift
  cases e : L.judges.find? fun p => decide (p.1 = j) with
  | none =>
    obtain ⟨p, hp, e2⟩ := mem_names hj
    exact absurd (decide_eq_true e2) (List.find?_eq_none.mp e p hp)
  | some p => rfl
theorem lk_ans {L : LogD} {i j : Nat} {j1 i1 j2 i2 : Str} {g1 g2 : Int} (e1 : L.at i = .ans j1 i1 g1) (e2 : L.at j = .ans j2 i2 g2) : L.lk i j = ((decide (j1 = j2) && L.sm j1 i j) && (decide (g1 < g2) && wayB (L.drift j1) i j)) := by
  unfold LogD.lk LogD.isA
  rw [e1, e2]
  rfl
theorem lk_rst {L : LogD} {i j : Nat} {j2 : Str} (e2 : L.at j = .rst j2) : L.lk i j = false := by
  unfold LogD.lk LogD.isA
  rw [e2]
  have h : (Ev.rst j2).isA = false := rfl
  rw [h, Bool.and_false, Bool.false_and, Bool.false_and, Bool.false_and]
def S : SD := fun ds m Q => ∃ (L : LogD), ds = [toldD L] ∧ LogOk L ∧ ∀ ls, F_links_of.Lks L ls → Q (.lst (ls.map prD))
theorem ok {P : Program} {w : World} {K : Fg} {mg : Str → Option Value} {base : Heap} {CL CD CS CU GS f : Addr} {fd : FuncData} (F : FnP K "_law_links" "_law_links" sDef f fd) (T : Txt K mg CL CD CS CU GS)  : FnOk P w K mg base CX0 1 f fd sP (spP K (S)) := by
  refine okP F sc (fun ds m Qd h => ?_) fun cdv A outer s H E hr => ?_
  · obtain ⟨L, rfl, ok, q⟩ := h
    rfl
  have hu := hu_of hr
  refine ⟨_, _, (pss_cons (ps_set (i := 1) sc.nd rfl (Or.inl rfl) pe_dnewK) (pss_cons (ps_set (i := 2) sc.nd rfl (Or.inl rfl) pe_dnewK) (pss_cons (ps_for PassesOwn.never rfl (kList (K := K) (by rfl) (pe_ix (kIx (K := K) (by rfl)) (pv 0) pe_int (fun _ _ => rfl))) (kTup (K := K) (n := 2) (by rfl) rfl (pgs_cons (pg_name (i := 3) sc.nd rfl (by first | exact Or.inl rfl | exact Or.inr rfl)) (pgs_cons (pg_name (i := 4) sc.nd rfl (by first | exact Or.inl rfl | exact Or.inr rfl)) pgs_nil))) (pss_cons (ps_dput hu (pv 1) (pv 3) (pv 4) rfl) (pss_one (ps_dput hu (pv 2) (pv 3) pe_int rfl)))) (pss_cons (ps_set (i := 5) sc.nd rfl (Or.inl rfl) (pe_lstM pa_nil)) (pss_cons (ps_for PassesOwn.never rfl (kList (K := K) (by rfl) (pe_ix (kIx (K := K) (by rfl)) (pv 0) pe_int (fun _ _ => rfl))) (pg_name (i := 6) sc.nd rfl (by first | exact Or.inl rfl | exact Or.inr rfl)) (pss_one (ps_if (pt_cmpR op_eq (pe_ix (kIx (K := K) (by rfl)) (pv 6) pe_int (fun _ _ => rfl)) pe_str (by rfl)) (pss_cons (ps_dput hu (pv 2) (pe_ix (kIx (K := K) (by rfl)) (pv 6) pe_int (fun _ _ => rfl)) (pe_op op_add (pe_dget hu (pv 2) (pe_ix (kIx (K := K) (by rfl)) (pv 6) pe_int (fun _ _ => rfl)) (fun _ _ => rfl)) pe_int) rfl) (pss_one (ps_expr (pe_bm PySem.F.plainAttrs_list PySem.F.slot_list_append PySem.F.type_list_append mt_append (pv 5) (pa_cons pe_non pa_nil))))) (pss_one (ps_expr (pe_bm PySem.F.plainAttrs_list PySem.F.slot_list_append PySem.F.type_list_append mt_append (pv 5) (pa_cons (pe_tup (pa_cons (pe_ix (kIx (K := K) (by rfl)) (pv 6) pe_int (fun _ _ => rfl)) (pa_cons (pe_dget hu (pv 2) (pe_ix (kIx (K := K) (by rfl)) (pv 6) pe_int (fun _ _ => rfl)) (fun _ _ => rfl)) pa_nil))) pa_nil))))))) (pss_cons (ps_set (i := 7) sc.nd rfl (Or.inl rfl) (pe_lstM pa_nil)) (pss_cons (ps_for PassesOwn.never rfl (pi_range1 rfl T.n_range (pa_cons (pe_callB (kLen (K := K) (by rfl)) (by rfl) T.n_len PySem.boot_len (pa_cons (pv 5) pa_nil)) pa_nil)) (pg_name (i := 8) sc.nd rfl (by first | exact Or.inl rfl | exact Or.inr rfl)) (pss_one (ps_for PassesOwn.never rfl (pi_range1 rfl T.n_range (pa_cons (pe_callB (kLen (K := K) (by rfl)) (by rfl) T.n_len PySem.boot_len (pa_cons (pv 5) pa_nil)) pa_nil)) (pg_name (i := 9) sc.nd rfl (by first | exact Or.inl rfl | exact Or.inr rfl)) (pss_one (ps_if (PW.pt (pw_and (pt_cmpR op_notN (pe_ix (kIx (K := K) (by rfl)) (pv 5) (pv 8) (fun _ _ => rfl)) pe_non (by rfl)) (pw_and (pt_cmpR (kEqD (K := K) (by rfl) hr.units) (pe_ix (kIx (K := K) (by rfl)) (pv 5) (pv 8) (fun _ _ => rfl)) (pe_ix (kIx (K := K) (by rfl)) (pv 5) (pv 9) (fun _ _ => rfl)) (by rfl)) (pw_and1 (pt_cmpR op_lt (pe_ix (kIx (K := K) (by rfl)) (pe_ix (kIx (K := K) (by rfl)) (pe_ix (kIx (K := K) (by rfl)) (pv 0) pe_int (fun _ _ => rfl)) (pv 8) (fun _ _ => rfl)) pe_int (fun _ _ => rfl)) (pe_ix (kIx (K := K) (by rfl)) (pe_ix (kIx (K := K) (by rfl)) (pe_ix (kIx (K := K) (by rfl)) (pv 0) pe_int (fun _ _ => rfl)) (pv 9) (fun _ _ => rfl)) pe_int (fun _ _ => rfl)) (by rfl)))))) (pss_cons (ps_set (i := 4) sc.nd rfl (Or.inl rfl) (pe_dget hu (pv 1) (pe_ix (kIx (K := K) (by rfl)) (pe_ix (kIx (K := K) (by rfl)) (pe_ix (kIx (K := K) (by rfl)) (pv 0) pe_int (fun _ _ => rfl)) (pv 8) (fun _ _ => rfl)) pe_int (fun _ _ => rfl)) (fun _ _ => rfl))) (pss_one (ps_if (PW.pt (pw_or (pt_cmpR op_eq (pv 4) pe_str (by rfl)) (pw_or1 (pt_cmpR op_eq (pe_cmpR op_lt (pv 8) (pv 9) (by rfl)) (pe_cmpR op_eq (pv 4) pe_str (by rfl)) (by rfl))))) (pss_one (ps_expr (pe_bm PySem.F.plainAttrs_list PySem.F.slot_list_append PySem.F.type_list_append mt_append (pv 7) (pa_cons (pe_tup (pa_cons (pv 8) (pa_cons (pv 9) pa_nil))) pa_nil)))) pss_nil))) pss_nil))))) (pss_one (ps_retF (pv 7)))))))))), by walk_at "sim", ?h⟩
  intro ds m Qd hz h
  obtain ⟨L, rfl, ok, q⟩ := h
  have n9 := ok.n9
  have j3 := ok.j3
  refine fun a ha b hb => ?_
  have hab : a ≠ b := fun e => by
    rw [e, Mu.set_same] at hb
    cases hb
  rw [Mu.set_ne hab.symm] at hb
  have ca : ∀ X Y, ((m.set a X).set b Y).c a = some X := fun X Y => by rw [Mu.set_ne hab, Mu.set_same]
  have sa : ∀ X Y Z, ((m.set a X).set b Y).set a Z = (m.set a Z).set b Y := fun X Y Z => by rw [Mu.set_comm hab.symm, Mu.set_set]
  refine ⟨_, rfl, _, _, _, .inr rfl, rfl, rfl, _, .inl rfl, ?_⟩
  refine forX juD L.judges (fun i δ' m' => m' = (m.set a (.dK ((L.judges.take i).map fun p => (kS p.1, .str p.2)))).set b (.dK ((L.judges.take i).map fun p => (kS p.1, .int 0))) ∧ ∃ p q, δ' = [some (toldD L), some (.ref a), some (.ref b), p, q, none, none, none, none, none])
    ⟨rfl, _, _, rfl⟩ (fun _ _ _ _ => .inl rfl) (fun i p δ' m' hp h => ?_) fun δ' m' h => ?_
  · obtain ⟨rfl, p1, q1, rfl⟩ := h
    have hn := take_no ok hp
    have hl : (L.judges.take i).length ≤ 3 := by
      rw [List.length_take]
      omega
    refine ⟨_, rfl, rfl, _, _, rfl, _, _, rfl, rfl, _, rfl, _, rfl, _, rfl, a, rfl, .inl ⟨_, kS p.1, ca _ _, rfl, ?_, ?_⟩⟩
    · rw [List.length_map]
      exact Nat.lt_of_le_of_lt hl (by decide)
    rw [setD_new (getD_no hn), sa]
    refine ⟨_, rfl, _, rfl, b, rfl, .inl ⟨_, kS p.1, Mu.set_same, rfl, ?_, ?_⟩⟩
    · rw [List.length_map]
      exact Nat.lt_of_le_of_lt hl (by decide)
    rw [setD_new (getD_no hn), Mu.set_set]
    refine ⟨?_, _, _, rfl⟩
    rw [take_next hp, List.map_append, List.map_append]
    rfl
  obtain ⟨rfl, p1, q1, rfl⟩ := h
  rw [List.take_length]
  have e0 : (.dK (L.judges.map fun p => (kS p.1, D.int 0)) : MO) = RS L 0 := rfl
  rw [e0]
  refine ⟨(by decide : 0 ≤ sizeLine), fun c hc => ?_⟩
  have hca : c ≠ a := fun e => by
    rw [e, ca] at hc
    cases hc
  have hcb : c ≠ b := fun e => by
    rw [e, Mu.set_same] at hc
    cases hc
  rw [Mu.set_ne hcb, Mu.set_ne hca] at hc
  have da : ∀ X Y Z, (((m.set a X).set b Y).set c Z).c a = some X := fun X Y Z => by rw [Mu.set_ne hca.symm, ca]
  have db : ∀ X Y Z, (((m.set a X).set b Y).set c Z).c b = some Y := fun X Y Z => by rw [Mu.set_ne hcb.symm, Mu.set_same]
  have sb : ∀ X Y Z W, (((m.set a X).set b Y).set c Z).set b W = ((m.set a X).set b W).set c Z := fun X Y Z W => by rw [Mu.set_comm hcb, Mu.set_set]
  refine ⟨_, rfl, _, _, _, .inr rfl, rfl, rfl, _, .inl rfl, ?_⟩
  refine forX evD L.events (fun i δ' m' => m' = ((m.set a (DR L)).set b (RS L i)).set c (MK L i) ∧ ∃ p q r, δ' = [some (toldD L), some (.ref a), some (.ref b), p, q, some (.ref c), r, none, none, none])
    ⟨rfl, _, _, _, rfl⟩ (fun _ _ _ _ => .inl rfl) (fun i e δ' m' he h => ?_) fun δ' m' h => ?_
  · obtain ⟨rfl, p2, q2, r2, rfl⟩ := h
    have hi := (List.getElem?_eq_some_iff.mp he).1
    have ea : L.at i = e := by
      rw [LogD.at_get hi] at he
      exact Option.some.inj he
    have eb := ok.ev e (List.mem_of_getElem? he)
    have ml : ((List.range i).map (mkD L)).length < 20000 := by
      rw [List.length_map, List.length_range]
      have : i < L.n := hi
      omega
    cases e with
    | ans j it g =>
      unfold evB at eb
      simp only [Bool.and_eq_true, decide_eq_true_eq] at eb
      obtain ⟨pj, hpj, rfl⟩ := mem_names eb.1.1.1
      refine ⟨_, rfl, _, _, _, .inr rfl, rfl, rfl, _, rfl, _, rfl, iteB (fun h => absurd h (by decide)) fun _ => ?_⟩
      refine ⟨_, rfl, ⟨_, .inr (.inr ⟨c, rfl, Mu.set_same⟩)⟩, _, rfl, _, _, _, .inr rfl, rfl, rfl, _, rfl, _, rfl, _, _, _, .inr rfl, rfl, rfl, _, .inl ⟨_, kS pj.1, .inr ⟨b, rfl, db _ _ _⟩, rfl, (RS_get ok hpj).symm⟩, (by decide : 2 ≤ sizeLine), c, _, _, rfl, rfl, Mu.set_same, Nat.lt_of_lt_of_le ml (by decide), ?_, _, _, _, rfl⟩
      rw [Mu.set_set, ← mkD_ans ea, MK_next, RS_next fun j z => by rw [ea] at z; cases z]
    | rst j =>
      unfold evB at eb
      rw [decide_eq_true_eq] at eb
      obtain ⟨pj, hpj, rfl⟩ := mem_names eb
      refine ⟨_, rfl, _, _, _, .inr rfl, rfl, rfl, _, rfl, _, rfl, iteB (fun _ => ?_) fun h => absurd h (by decide)⟩
      have rl : (L.judges.map fun p => (kS p.1, D.int (rc L p.1 i : Nat))).length < 20000 := by
        rw [List.length_map]
        omega
      refine ⟨_, rfl, _, rfl, _, _, _, .inr rfl, rfl, rfl, _, .inl ⟨_, kS pj.1, .inr ⟨b, rfl, db _ _ _⟩, rfl, (RS_get ok hpj).symm⟩, _, _, rfl, rfl, _, rfl, _, rfl, _, _, _, .inr rfl, rfl, rfl, b, rfl, .inl ⟨_, kS pj.1, db _ _ _, rfl, Nat.lt_of_lt_of_le rl (by decide), ?_⟩⟩
      rw [RS_rst hpj ea, sb]
      refine ⟨_, rfl, ⟨_, .inr (.inr ⟨c, rfl, Mu.set_same⟩)⟩, c, _, _, rfl, rfl, Mu.set_same, Nat.lt_of_lt_of_le ml (by decide), ?_, _, _, _, rfl⟩
      rw [Mu.set_set, ← MK_next, mkD_rst ea]
  obtain ⟨rfl, p2, q2, r2, rfl⟩ := h
  refine ⟨(by decide : 0 ≤ sizeLine), fun d hd => ?_⟩
  have hdc : d ≠ c := fun e => by
    rw [e, Mu.set_same] at hd
    cases hd
  have hda : d ≠ a := fun e => by
    rw [e, da] at hd
    cases hd
  have hdb : d ≠ b := fun e => by
    rw [e, db] at hd
    cases hd
  have hd3 := hd
  rw [Mu.set_ne hdc, Mu.set_ne hdb, Mu.set_ne hda] at hd
  have fa : ∀ X Y Z W, ((((m.set a X).set b Y).set c Z).set d W).c a = some X := fun X Y Z W => by rw [Mu.set_ne hda.symm, da]
  have fc : ∀ X Y Z W, ((((m.set a X).set b Y).set c Z).set d W).c c = some Z := fun X Y Z W => by rw [Mu.set_ne hdc.symm, Mu.set_same]
  have nl : ((List.range L.n).map (mkD L)).length = L.n := by rw [List.length_map, List.length_range]
  have el : L.events.length = L.n := rfl
  rw [el] at hd3 ⊢
  have n0 : (((List.range L.n).map (mkD L)).length : Int).toNat = L.n := by rw [nl]; rfl
  refine ⟨_, rfl, _, _, rfl, .inl ⟨_, .inl (.inr (.inr ⟨c, rfl, fc _ _ _ _⟩)), rfl⟩, _, rfl, by omega, by omega, ?_⟩
  rw [n0, rngD_map]
  refine forX (fun (i : Nat) => D.int (i : Nat)) (List.range L.n) (fun i δ' m' => m' = (((m.set a (DR L)).set b (RS L L.n)).set c (MK L L.n)).set d (.lst ((Fo L i).map prD)) ∧ ∃ p q r s t, δ' = [some (toldD L), some (.ref a), some (.ref b), p, q, some (.ref c), r, some (.ref d), s, t])
    ⟨rfl, _, _, _, _, _, rfl⟩ (fun _ _ _ _ => trivial) (fun i x δ' m' hx h => ?_) fun δ' m' h => ?_
  · obtain ⟨rfl, p3, q3, r3, s3, t3, rfl⟩ := h
    obtain ⟨hi, rfl⟩ := range_get hx
    refine ⟨_, rfl, _, _, rfl, .inl ⟨_, .inl (.inr (.inr ⟨c, rfl, fc _ _ _ _⟩)), rfl⟩, _, rfl, by omega, by omega, ?_⟩
    rw [n0, rngD_map]
    refine forX (fun (i : Nat) => D.int (i : Nat)) (List.range L.n) (fun j δ' m' => m' = (((m.set a (DR L)).set b (RS L L.n)).set c (MK L L.n)).set d (.lst ((Fo L i ++ Fi L i j).map prD)) ∧ ∃ p q r t, δ' = [some (toldD L), some (.ref a), some (.ref b), p, q, some (.ref c), r, some (.ref d), some (.int (i : Nat)), t])
      ⟨by rw [show Fi L i 0 = [] from rfl, List.append_nil], _, _, _, _, rfl⟩ (fun _ _ _ _ => trivial) (fun j x δ' m' hx h => ?_) fun δ' m' h => ?_
    · obtain ⟨rfl, p4, q4, r4, t4, rfl⟩ := h
      obtain ⟨hj, rfl⟩ := range_get hx
      have mi : ((List.range L.n).map (mkD L))[i]? = some (mkD L i) := by rw [List.getElem?_map, List.getElem?_range hi]; rfl
      have mj : ((List.range L.n).map (mkD L))[j]? = some (mkD L j) := by rw [List.getElem?_map, List.getElem?_range hj]; rfl
      have Ei : (L.events.map evD)[i]? = some (evD (L.at i)) := by rw [List.getElem?_map, LogD.at_get hi]; rfl
      have Ej : (L.events.map evD)[j]? = some (evD (L.at j)) := by rw [List.getElem?_map, LogD.at_get hj]; rfl
      refine ⟨_, rfl, _, rfl, _, _, mkD L i, .inl (.inr (.inr ⟨c, rfl, fc _ _ _ _⟩)), rfl, at_nat mi, rfl, _, rfl, ?_⟩
      have skip : ∀ p q r t, L.lk i j = false → (((m.set a (DR L)).set b (RS L L.n)).set c (MK L L.n)).set d (.lst ((Fo L i ++ Fi L i j).map prD)) = (((m.set a (DR L)).set b (RS L L.n)).set c (MK L L.n)).set d (.lst ((Fo L i ++ Fi L i (j + 1)).map prD)) ∧ ∃ p' q' r' t', ([some (toldD L), some (.ref a), some (.ref b), p, q, some (.ref c), r, some (.ref d), some (.int (i : Nat)), t] : Sl) = [some (toldD L), some (.ref a), some (.ref b), p', q', some (.ref c), r', some (.ref d), some (.int (i : Nat)), t'] := fun p q r t h => by
        rw [Fi_succ, h, if_neg (by decide), List.append_nil]
        exact ⟨rfl, _, _, _, _, rfl⟩
      cases e1 : L.at i with
      | rst j1 =>
        rw [mkD_rst e1]
        refine ifN (by decide) (ifN (by decide) (skip _ _ _ _ ?_))
        unfold LogD.lk LogD.isA
        rw [e1]
        rfl
      | ans j1 i1 g1 =>
        rw [e1] at Ei
        rw [mkD_ans e1] at mi ⊢
        refine ifY rfl ?_
        refine ⟨_, rfl, _, rfl, _, _, _, .inl (.inr (.inr ⟨c, rfl, fc _ _ _ _⟩)), rfl, at_nat mi, _, rfl, _, rfl, _, _, _, .inl (.inr (.inr ⟨c, rfl, fc _ _ _ _⟩)), rfl, at_nat mj, ?_⟩
        refine goEqD 1 (by decide) (mkD_ans e1 ▸ sD_mk ok hi) (sD_mk ok hj) fun k hk => ⟨_, rfl, ?_⟩
        cases e2 : L.at j with
        | rst j2 =>
          rw [mkD_rst e2] at hk
          have hk : k = false := by
            cases k with
            | false => rfl
            | true => exact D.noConfusion (hk.mp rfl)
          exact ifN hk (ifN rfl (skip _ _ _ _ (lk_rst e2)))
        | ans j2 i2 g2 =>
          rw [e2] at Ej
          rw [mkD_ans e2] at hk
          have lkv := lk_ans (L := L) e1 e2
          refine iteB (fun kt => ?_) fun kf => ifN rfl (skip _ _ _ _ ?_)
          · obtain ⟨h1, h2⟩ : j1 = j2 ∧ rc L j1 i = rc L j2 j := by
              have := hk.mp kt
              simp only [D.tup.injEq, List.cons.injEq, D.str.injEq, D.int.injEq, and_true] at this
              exact ⟨this.1, by omega⟩
            subst h1
            have hsm : L.sm j1 i j = true := by
              rw [← rc_sm]
              exact decide_eq_true h2
            rw [decide_eq_true rfl, hsm, Bool.and_self, Bool.true_and] at lkv
            have hjn : j1 ∈ L.names := by
              have := (isA_name ok hi (by unfold LogD.isA; rw [e1]; rfl)).1
              rw [e1] at this
              exact this
            have app : ∀ (E : EndsD) (p q r : Option D), (∀ δ' m', (m' = (((m.set a (DR L)).set b (RS L L.n)).set c (MK L L.n)).set d (.lst ((Fo L i ++ Fi L i (j + 1)).map prD)) ∧ ∃ p q r t, δ' = [some (toldD L), some (.ref a), some (.ref b), p, q, some (.ref c), r, some (.ref d), some (.int (i : Nat)), t]) → E.nx δ' m') → L.lk i j = true → dDrop (dApp (dVar 7) (dCons (dTup (dCons (dVar 8) (dCons (dVar 9) dNil))) dNil)) E
                [some (toldD L), some (.ref a), some (.ref b), p, q, some (.ref c), r, some (.ref d), some (.int (i : Nat)), some (.int (j : Nat))] ((((m.set a (DR L)).set b (RS L L.n)).set c (MK L L.n)).set d (.lst ((Fo L i ++ Fi L i j).map prD))) := fun E p q r hE h => by
              refine ⟨_, rfl, ⟨_, .inr (.inr ⟨d, rfl, Mu.set_same⟩)⟩, _, rfl, _, rfl, (by decide : 2 ≤ sizeLine), d, _, _, rfl, rfl, Mu.set_same, ?_, hE _ _ ⟨?_, _, _, _, _, rfl⟩⟩
              · have h1 := Fo_len L i
                have h2 := Fi_len L i j
                have h3 : i * L.n ≤ 9 * 9 := Nat.mul_le_mul (by omega) n9
                rw [List.length_map, List.length_append]
                exact Nat.lt_of_lt_of_le (show _ < 10000 by omega) (by decide)
              · rw [Mu.set_set, Fi_succ, if_pos h]
                simp only [List.map_append, List.append_assoc]
                rfl
            have ei : decide (((i : Nat) : Int) < ((j : Nat) : Int)) = decide (i < j) := decide_eq_decide.mpr (by omega)
            refine ⟨_, rfl, _, _, _, .inr rfl, rfl, rfl, _, rfl, _, _, _, .inl (.inl rfl), rfl, at_nat Ei, _, _, _, .inr rfl, rfl, rfl, _, rfl, _, _, _, .inr rfl, rfl, rfl, _, rfl, _, _, _, .inl (.inl rfl), rfl, at_nat Ej, _, _, _, .inr rfl, rfl, rfl, _, _, rfl, rfl, _, rfl, iteB (fun h5 => ?_) fun h5 => skip _ _ _ _ ?_⟩
            · have h5 : decide (g1 < g2) = true := h5
              rw [h5, Bool.true_and] at lkv
              refine ⟨_, rfl, _, rfl, _, _, _, .inr rfl, rfl, rfl, _, rfl, _, _, _, .inl (.inl rfl), rfl, at_nat Ei, _, _, _, .inr rfl, rfl, rfl, _, .inl ⟨_, kS j1, .inr ⟨a, rfl, fa _ _ _ _⟩, rfl, (DR_get hjn).symm⟩, ?_⟩
              unfold wayB at lkv
              refine ⟨_, rfl, _, rfl, _, rfl, iteB (fun h6 => ifY rfl (app _ _ _ _ (fun _ _ h => h) ?_)) fun h6 => ?_⟩
              · rw [lkv, show decide (L.drift j1 = ("stays" : Str)) = true from h6]
                rfl
              · rw [show decide (L.drift j1 = ("stays" : Str)) = false from h6, Bool.false_or] at lkv
                refine ⟨_, rfl, _, rfl, _, _, rfl, rfl, _, rfl, _, rfl, _, rfl, _, rfl, iteB (fun h7 => app _ _ _ _ (fun _ _ h => h) ?_) fun h7 => skip _ _ _ _ ?_⟩
                · rw [lkv, ← ei]
                  exact h7
                · rw [lkv, ← ei]
                  exact h7
            · rw [lkv, show decide (g1 < g2) = false from h5]
              rfl
          · have this : (decide (j1 = j2) && L.sm j1 i j) = false := by
              by_cases h1 : j1 = j2
              · subst h1
                rw [decide_eq_true rfl, Bool.true_and, ← rc_sm]
                refine decide_eq_false fun h2 => ?_
                rw [hk.mpr (by rw [h2])] at kf
                cases kf
              · rw [decide_eq_false h1, Bool.false_and]
            rw [lkv, this, Bool.false_and]
    · obtain ⟨rfl, p4, q4, r4, t4, rfl⟩ := h
      rw [List.length_range, ← Fo_succ]
      exact ⟨rfl, _, _, _, _, _, rfl⟩
  obtain ⟨rfl, p3, q3, r3, s3, t3, rfl⟩ := h
  rw [List.length_range]
  refine ⟨_, rfl, d, _, rfl, Mu.set_same, ?_, q (Fo L L.n) ?_⟩
  · rw [Mu.del_set hd3]
    exact ((L3.Sub.refl.set ha).set hb).set hc
  · refine ⟨?_, fun p => ?_⟩
    · have := Fo_len L L.n
      have : L.n * L.n ≤ 9 * 9 := Nat.mul_le_mul n9 n9
      omega
    · constructor
      · intro h
        obtain ⟨x, hx, h⟩ := List.mem_flatMap.mp h
        obtain ⟨y, hy, rfl⟩ := List.mem_map.mp h
        obtain ⟨h1, h2⟩ := List.mem_filter.mp hy
        exact ⟨List.mem_range.mp hx, List.mem_range.mp h1, h2⟩
      · rintro ⟨h1, h2, h3⟩
        exact List.mem_flatMap.mpr ⟨p.1, List.mem_range.mpr h1, List.mem_map.mpr ⟨p.2, List.mem_filter.mpr ⟨List.mem_range.mpr h2, h3⟩, rfl⟩⟩
end F__law_links
namespace F_Log_item_at
abbrev sDef : Stmt := inClass (top 43) 11
abbrev sN : List Str := ["self", "place"]
abbrev sP : List Str := ["self", "place"]
theorem sc : FnScope sN sP (defScope sDef) := ⟨rfl, rfl, rfl, by decide +kernel, rfl, by decide +kernel, by decide +kernel⟩
def S (CL : Addr) : SD := fun ds m Q => ∃ (L : LogD) (k : Nat), ds = [logD CL L, iD k] ∧ k < L.n ∧ L.isA k = true ∧ Q (.str (L.at k).i)
theorem ok {P : Program} {w : World} {K : Fg} {mg : Str → Option Value} {base : Heap} {CL CD CS CU GS f : Addr} {fd : FuncData} (F : FnP K "item_at" "Log.item_at" sDef f fd) (T : Txt K mg CL CD CS CU GS) (hLog_answer_at : CalM P w K mg base CL 2 "answer_at" ["self", "place"] (spP K (F_Log_answer_at.S CL))) : FnOk P w K mg base CX0 3 f fd sP (spP K (S CL)) := by
  refine okP F sc (fun ds m Qd h => ?_) fun cdv A outer s H E hr => ?_
  · obtain ⟨L, k, rfl, hk, ha, q⟩ := h
    rfl
  have hu := hu_of hr
  refine ⟨_, _, (pss_one (ps_ret (pe_ix (kIx (K := K) (by rfl)) (pe_calM hLog_answer_at T.cLog hr (by decide) (pv 0) (pa_cons (pv 1) pa_nil)) pe_int (fun _ _ => rfl)))), by walk_at "sim", ?h⟩
  intro ds m Qd hz h
  obtain ⟨L, k, rfl, hk, ha, q⟩ := h
  refine ⟨_, rfl, _, .inl rfl, rfl, _, rfl, hz, L, k, rfl, hk, ha, ?_⟩
  unfold LogD.isA at ha
  cases e : L.at k with
  | ans a b c =>
    rw [e] at q
    exact ⟨_, _, _, .inr rfl, rfl, rfl, .refl, q⟩
  | rst a =>
    rw [e] at ha
    cases ha
end F_Log_item_at
namespace F_ends_of
abbrev sDef : Stmt := top 19
abbrev sN : List Str := ["log", "items", "place", "first", "second"]
abbrev sP : List Str := ["log"]
theorem sc : FnScope sN sP (defScope sDef) := ⟨rfl, rfl, rfl, by decide +kernel, rfl, by decide +kernel, by decide +kernel⟩
def enD (it : Nat → Str) (p : Nat × Nat) : D := .tup [prD p, .str (it p.1), .str (it p.2)]
def S (CL : Addr) : SD := fun ds m Q => ∃ (L : LogD), ds = [logD CL L] ∧ LogOk L ∧ ∀ ls, F_links_of.Lks L ls → Q (.lst (ls.map (enD fun k => (L.at k).i)))
theorem ok {P : Program} {w : World} {K : Fg} {mg : Str → Option Value} {base : Heap} {CL CD CS CU GS f : Addr} {fd : FuncData} (F : FnP K "ends_of" "ends_of" sDef f fd) (T : Txt K mg CL CD CS CU GS) (hLog_item_at : CalM P w K mg base CL 3 "item_at" ["self", "place"] (spP K (F_Log_item_at.S CL))) (hLog_answers : CalM P w K mg base CL 2 "answers" ["self"] (spP K (F_Log_answers.S CL))) (hlinks_of : Cal P w K mg base 7 "links_of" ["log"] (spP K (F_links_of.S CL))) : FnOk P w K mg base CX0 8 f fd sP (spP K (S CL)) := by
  refine okP F sc (fun ds m Qd h => ?_) fun cdv A outer s H E hr => ?_
  · obtain ⟨L, rfl, ok, q⟩ := h
    rfl
  have hu := hu_of hr
  refine ⟨_, _, (pss_cons (ps_set (i := 1) sc.nd rfl (Or.inr rfl) (pe_dc (own := [("place", 2)]) rfl sc.nd (kList (K := K) (by rfl) (pe_calM0 hLog_answers T.cLog hr (by decide) (pv 0))) (blkOk_by (N := sN) (sc := defScope sDef) (by decide +kernel)) (fun _ _ _ _ _ => (pg_name (i := 2) sc.nd rfl (by first | exact Or.inl rfl | exact Or.inr rfl))) (fun _ _ _ _ _ => pts_nil) (fun _ _ _ _ _ => (pv 2)) (fun _ _ _ _ _ => (pe_calM hLog_item_at T.cLog hr (by decide) (pv 0) (pa_cons (pv 2) pa_nil))))) (pss_one (ps_ret (pe_lc (own := [("first", 3), ("second", 4)]) rfl sc.nd (kList (K := K) (by rfl) (pe_cal hlinks_of hr (by decide) rfl (pa_cons (pv 0) pa_nil))) (blkOk_by (N := sN) (sc := defScope sDef) (by decide +kernel)) (fun _ _ _ _ _ => (kTup (K := K) (n := 2) (by rfl) rfl (pgs_cons (pg_name (i := 3) sc.nd rfl (by first | exact Or.inl rfl | exact Or.inr rfl)) (pgs_cons (pg_name (i := 4) sc.nd rfl (by first | exact Or.inl rfl | exact Or.inr rfl)) pgs_nil)))) (fun _ _ _ _ _ => pts_nil) (fun _ _ _ _ _ => (pe_tup (pa_cons (pe_tup (pa_cons (pv 3) (pa_cons (pv 4) pa_nil))) (pa_cons (pe_dget hu (pv 1) (pv 3) (fun _ _ => rfl)) (pa_cons (pe_dget hu (pv 1) (pv 4) (fun _ _ => rfl)) pa_nil))))))))), by walk_at "sim", ?h⟩
  intro ds m Qd hz h
  obtain ⟨L, rfl, ok, q⟩ := h
  have n9 := ok.n9
  have kinj : ∀ a b : Nat, kI a = kI b → a = b := fun a b e => by
    have e1 := Sum.inl.inj e
    omega
  refine ⟨_, rfl, _, .inl rfl, rfl, hz, L, rfl, (by omega), _, .inl rfl, ?_⟩
  refine dcM iD L.ans kI (fun p => .str (L.at p).i) (.inl rfl) (sz (Nat.le_trans (ans_len L) (by omega))) (nodup_map (List.nodup_range.filter _) kinj) (fun p hp N Nn y => ?_) ?_
  · have hp := mem_ans.mp hp
    exact ⟨_, rfl, _, rfl, _, .inl rfl, rfl, _, rfl, hz, L, p, rfl, hp.1, hp.2, y⟩
  refine ⟨_, rfl, hz, L, rfl, ok, fun ls hls => ⟨_, .inl rfl, ?_⟩⟩
  refine lcM prD ls (enD fun k => (L.at k).i) (.inl rfl) (sz (Nat.le_trans hls.1 (by decide))) (fun p hp Ny Nn y => ?_) ⟨.refl, q ls hls⟩
  have hk := (hls.2 p).mp hp
  have hA : L.isA p.1 = true ∧ L.isA p.2 = true := by
    have := hk.2.2
    unfold LogD.lk at this
    simp only [Bool.and_eq_true] at this
    exact this.1.1.1
  refine ⟨_, rfl, rfl, _, _, rfl, _, _, rfl, rfl, _, rfl, _, rfl, (by decide : 2 ≤ sizeLine), ?_⟩
  refine ⟨_, rfl, _, rfl, _, .inl ⟨_, kI p.1, .inl rfl, rfl, (getD_map kinj (mem_ans.mpr ⟨hk.1, hA.1⟩)).symm⟩, ?_⟩
  exact ⟨_, rfl, _, rfl, _, .inl ⟨_, kI p.2, .inl rfl, rfl, (getD_map kinj (mem_ans.mpr ⟨hk.2.1, hA.2⟩)).symm⟩, (by decide : 3 ≤ sizeLine), y⟩
end F_ends_of
namespace F_Log_item_names
abbrev sDef : Stmt := inClass (top 43) 1
abbrev sN : List Str := ["self"]
abbrev sP : List Str := ["self"]
theorem sc : FnScope sN sP (defScope sDef) := ⟨rfl, rfl, rfl, by decide +kernel, rfl, by decide +kernel, by decide +kernel⟩
def S (CL : Addr) : SD := fun ds m Q => ∃ L : LogD, ds = [logD CL L] ∧ Q (.lst (L.items.map D.str))
theorem ok {P : Program} {w : World} {K : Fg} {mg : Str → Option Value} {base : Heap} {CL CD CS CU GS f : Addr} {fd : FuncData} (F : FnP K "item_names" "Log.item_names" sDef f fd) (T : Txt K mg CL CD CS CU GS)  : FnOk P w K mg base CX0 1 f fd sP (spP K (S CL)) := by
  refine okP F sc (fun ds m Qd h => ?_) fun cdv A outer s H E hr => ?_
  · obtain ⟨L, rfl, q⟩ := h
    rfl
  have hu := hu_of hr
  refine ⟨_, _, (pss_one (ps_ret (pe_callTy (kListOf (K := K) (by rfl)) (by rfl) T.n_list (by decide +kernel) (pa_cons (kFld (K := K) (by rfl) (pv 0) (by rfl)) pa_nil)))), by walk_at "sim", ?h⟩
  intro ds m Qd hz h
  obtain ⟨L, rfl, q⟩ := h
  exact ⟨_, rfl, CL, _, _, .inl rfl, T.cLog, T.a_items, rfl, _, _, rfl, .inl (.inl rfl), .refl, q⟩
end F_Log_item_names
namespace F_better_by
abbrev sDef : Stmt := top 24
abbrev sN : List Str := ["log", "places", "kept", "place", "pairs", "first", "second", "begin", "end"]
abbrev sP : List Str := ["log", "places"]
theorem sc : FnScope sN sP (defScope sDef) := ⟨rfl, rfl, rfl, by decide +kernel, rfl, by decide +kernel, by decide +kernel⟩
open F_ends_of
def S (CL : Addr) : SD := fun ds m Q => ∃ (L : LogD), ds = [logD CL L, .lst (L.ans.map iD)] ∧ LogOk L ∧ Q (tabD L.items L.up)
theorem ok {P : Program} {w : World} {K : Fg} {mg : Str → Option Value} {base : Heap} {CL CD CS CU GS f : Addr} {fd : FuncData} (F : FnP K "better_by" "better_by" sDef f fd) (T : Txt K mg CL CD CS CU GS) (hends_of_links : Cal P w K mg base 8 "ends_of_links" ["log"] (spP K (F_ends_of.S CL))) (hLog_item_names : CalP P w K mg base CL 1 "item_names" (spP K (F_Log_item_names.S CL))) (hreached : Cal P w K mg base 1 "reached" ["items", "ends"] (spP K (F_reached.S))) : FnOk P w K mg base CX0 9 f fd sP (spP K (S CL)) := by
  refine okP F sc (fun ds m Qd h => ?_) fun cdv A outer s H E hr => ?_
  · obtain ⟨L, rfl, ok, q⟩ := h
    rfl
  have hu := hu_of hr
  refine ⟨_, _, (pss_cons (ps_setDc (i := 2) (own := [("place", 3)]) rfl sc.nd rfl rfl (sw_trueD rfl rfl rfl (by decide +kernel)) (kList (K := K) (by rfl) (pv 1)) (blkOk_by (N := sN) (sc := defScope sDef) (by decide +kernel)) (fun _ _ _ _ _ => (pg_name (i := 3) sc.nd rfl (by first | exact Or.inl rfl | exact Or.inr rfl))) (fun _ _ _ _ _ => pts_nil) (fun _ _ _ _ _ => (pv 3)) (fun _ _ _ _ _ => pe_bl)) (pss_cons (ps_set (i := 4) sc.nd rfl (Or.inl rfl) pe_dnewT) (pss_cons (ps_for PassesOwn.never rfl (kList (K := K) (by rfl) (pe_cal hends_of_links hr (by decide) rfl (pa_cons (pv 0) pa_nil))) (kTup (K := K) (n := 3) (by rfl) rfl (pgs_cons (kTup (K := K) (n := 2) (by rfl) rfl (pgs_cons (pg_name (i := 5) sc.nd rfl (by first | exact Or.inl rfl | exact Or.inr rfl)) (pgs_cons (pg_name (i := 6) sc.nd rfl (by first | exact Or.inl rfl | exact Or.inr rfl)) pgs_nil))) (pgs_cons (pg_name (i := 7) sc.nd rfl (by first | exact Or.inl rfl | exact Or.inr rfl)) (pgs_cons (pg_name (i := 8) sc.nd rfl (by first | exact Or.inl rfl | exact Or.inr rfl)) pgs_nil)))) (pss_one (ps_if (PW.pt (pw_and (pt_cmp (pc_din hu (pv 5) (pv 2)) rfl) (pw_and1 (pt_cmp (pc_din hu (pv 6) (pv 2)) rfl)))) (pss_one (ps_dput hu (pv 4) (pe_tup (pa_cons (pv 7) (pa_cons (pv 8) pa_nil))) pe_bl rfl)) pss_nil))) (pss_one (ps_ret (pe_cal hreached hr (by decide) rfl (pa_cons (pe_calP hLog_item_names T.cLog hr (by decide) (pv 0)) (pa_cons (pv 4) pa_nil)))))))), by walk_at "sim", ?h⟩
  intro ds m Qd hz h
  obtain ⟨L, rfl, ok, q⟩ := h
  have n9 := ok.n9
  have i5 := ok.it.max
  have kinj : ∀ a b : Nat, kI a = kI b → a = b := fun a b e => by
    have e1 := Sum.inl.inj e
    omega
  refine ⟨_, rfl, _, .inl rfl, dcM iD L.ans kI (fun _ => .bl true) (.inl rfl) (sz (Nat.le_trans (ans_len L) (by omega))) (nodup_map (List.nodup_range.filter _) kinj) (fun p hp N Nn y => ⟨_, rfl, y⟩) ?_⟩
  intro a ha
  refine ⟨_, rfl, hz, L, rfl, ok, fun ls hls => ⟨_, .inl rfl, ?_⟩⟩
  have l3 := hls.1
  refine forX (enD fun k => (L.at k).i) ls (fun i δ' m' => ∃ kds, m' = m.set a (.dT kds) ∧ (∃ p q r s t, δ' = [some (logD CL L), some (.lst (L.ans.map iD)), some (.dic (L.ans.map fun x => (kI x, .bl true))), p, some (.ref a), q, r, s, t]) ∧ kds.length ≤ i ∧ ∀ x y, (getD kds [kS x, kS y]).isSome = true ↔ ∃ p ∈ ls.take i, (L.at p.1).i = x ∧ (L.at p.2).i = y)
    ⟨[], rfl, ⟨_, _, _, _, _, rfl⟩, Nat.le_refl _, fun x y => by simp [getD]⟩ (fun i δ' m' h => .inl rfl) (fun i p δ' m' hp h => ?_) fun δ' m' h => ?_
  · obtain ⟨kds, rfl, ⟨s1, s2, s3, s4, s5, rfl⟩, hlen, hm⟩ := h
    have hpm := List.mem_of_getElem? hp
    have hi := (List.getElem?_eq_some_iff.mp hp).1
    have hk := (hls.2 p).mp hpm
    have hA : L.isA p.1 = true ∧ L.isA p.2 = true := by
      have := hk.2.2
      unfold LogD.lk at this
      simp only [Bool.and_eq_true] at this
      exact this.1.1.1
    refine ⟨_, rfl, rfl, _, _, rfl, ⟨_, rfl, rfl, _, _, rfl, _, _, rfl, rfl, _, _, rfl, _, _, rfl, rfl, ?_⟩⟩
    refine ⟨_, rfl, _, rfl, _, .inl ⟨_, kI p.1, .inl rfl, rfl, (getD_map kinj (mem_ans.mpr ⟨hk.1, hA.1⟩)).symm⟩, _, rfl, ?_⟩
    refine ⟨_, rfl, _, rfl, _, .inl ⟨_, kI p.2, .inl rfl, rfl, (getD_map kinj (mem_ans.mpr ⟨hk.2.1, hA.2⟩)).symm⟩, _, rfl, ?_⟩
    refine ⟨_, rfl, _, rfl, _, rfl, (by decide : 2 ≤ sizeLine), a, rfl, .inr ⟨kds, [kS (L.at p.1).i, kS (L.at p.2).i], Mu.set_same, rfl, Nat.lt_of_le_of_lt (show kds.length ≤ 10000 by omega) (by decide), ?_⟩⟩
    refine ⟨_, Mu.set_set, ⟨_, _, _, _, _, rfl⟩, Nat.le_trans setD_len (by omega), fun x y => ?_⟩
    rw [getD_setD, take_next hp]
    by_cases e : [kS x, kS y] = [kS (L.at p.1).i, kS (L.at p.2).i]
    · rw [if_pos e]
      refine ⟨fun _ => ⟨p, List.mem_append_right _ (List.mem_singleton.mpr rfl), ?_⟩, fun _ => rfl⟩
      simp only [List.cons.injEq, and_true] at e
      exact ⟨(Sum.inr.inj e.1).symm, (Sum.inr.inj e.2).symm⟩
    · rw [if_neg e, hm]
      refine ⟨fun ⟨z, h1, h2⟩ => ⟨z, List.mem_append_left _ h1, h2⟩, fun ⟨z, h1, h2, h3⟩ => ?_⟩
      rcases List.mem_append.mp h1 with h1 | h1
      · exact ⟨z, h1, h2, h3⟩
      · rw [List.mem_singleton.mp h1] at h2 h3
        exact absurd (by rw [h2, h3]) e
  · obtain ⟨kds, rfl, ⟨s1, s2, s3, s4, s5, rfl⟩, hlen, hm⟩ := h
    rw [List.take_length] at hm
    refine ⟨_, rfl, _, .inl rfl, hz, L, rfl, _, rfl, hz, L.items, L.ed, _, rfl, ok.it.nd, by omega, ⟨kds, .inr ⟨a, rfl, Mu.set_same⟩, fun x y => bool_iff ?_⟩, L3.Sub.refl.set ha, q⟩
    rw [hm, ed_iff]
    exact ⟨fun ⟨p, hp, e⟩ => ⟨p, (hls.2 p).mp hp, e⟩, fun ⟨p, hp, e⟩ => ⟨p, (hls.2 p).mpr hp, e⟩⟩
end F_better_by
namespace F_worse_than
abbrev sDef : Stmt := top 25
abbrev sN : List Str := ["log", "better", "worse", "item"]
abbrev sP : List Str := ["log"]
theorem sc : FnScope sN sP (defScope sDef) := ⟨rfl, rfl, rfl, by decide +kernel, rfl, by decide +kernel, by decide +kernel⟩
open F_reached
def S (CL : Addr) : SD := fun ds m Q => ∃ (L : LogD), ds = [logD CL L] ∧ LogOk L ∧ Q (tabD L.items fun a w => L.up w a)
theorem ok {P : Program} {w : World} {K : Fg} {mg : Str → Option Value} {base : Heap} {CL CD CS CU GS f : Addr} {fd : FuncData} (F : FnP K "worse_than" "worse_than" sDef f fd) (T : Txt K mg CL CD CS CU GS) (hLog_answers : CalM P w K mg base CL 2 "answers" ["self"] (spP K (F_Log_answers.S CL))) (hbetter_by : Cal P w K mg base 9 "better_by" ["log", "places"] (spP K (F_better_by.S CL))) (hLog_item_names : CalP P w K mg base CL 1 "item_names" (spP K (F_Log_item_names.S CL))) : FnOk P w K mg base CX0 10 f fd sP (spP K (S CL)) := by
  refine okP F sc (fun ds m Qd h => ?_) fun cdv A outer s H E hr => ?_
  · obtain ⟨L, rfl, ok, q⟩ := h
    rfl
  have hu := hu_of hr
  refine ⟨_, _, (pss_cons (ps_set (i := 1) sc.nd rfl (Or.inr rfl) (pe_cal hbetter_by hr (by decide) rfl (pa_cons (pv 0) (pa_cons (pe_calM0 hLog_answers T.cLog hr (by decide) (pv 0)) pa_nil)))) (pss_one (ps_ret (pe_dc (own := [("item", 3)]) rfl sc.nd (kList (K := K) (by rfl) (pe_calP hLog_item_names T.cLog hr (by decide) (pv 0))) (blkOk_by (N := sN) (sc := defScope sDef) (by decide +kernel)) (fun _ _ _ _ _ => (pg_name (i := 3) sc.nd rfl (by first | exact Or.inl rfl | exact Or.inr rfl))) (fun _ _ _ _ _ => pts_nil) (fun _ _ _ _ _ => (pv 3)) (fun _ _ _ _ _ => (pe_lc (own := [("worse", 2)]) rfl sc.nd (kList (K := K) (by rfl) (pe_calP hLog_item_names T.cLog hr (by decide) (pv 0))) (blkOk_by (N := sN) (by rfl)) (fun _ _ _ _ _ => (pg_name (i := 2) sc.nd rfl (by first | exact Or.inl rfl | exact Or.inr rfl))) (fun _ _ _ _ _ => pts_one (pt_cmpR (kMemS (K := K) (by rfl)) (pv 3) (pe_dget hu (pv 1) (pv 2) (fun _ _ => rfl)) (by rfl))) (fun _ _ _ _ _ => (pv 2)))))))), by walk_at "sim", ?h⟩
  intro ds m Qd hz h
  obtain ⟨L, rfl, ok, q⟩ := h
  have n9 := ok.n9
  have i5 := ok.it.max
  have l1 : L.items.length ≤ sizeLine := sz (by omega)
  refine ⟨_, rfl, _, rfl, _, .inl rfl, rfl, hz, L, rfl, by omega, hz, L, rfl, ok, ?_⟩
  refine ⟨_, rfl, _, .inl rfl, hz, L, rfl, _, .inl rfl, dcM D.str L.items kS (fun a => .lst ((L.items.filter fun w => L.up w a).map D.str)) (.inl rfl) l1 (nodup_map ok.it.nd kS_inj) (fun a ha N Nn k => ?_) ⟨.refl, q⟩⟩
  refine ⟨_, rfl, _, rfl, _, .inl rfl, hz, L, rfl, _, .inl rfl, lcFM D.str L.items (fun w => L.up w a) D.str (.inl rfl) l1 (fun w hw Ny Nn2 k1 k2 => ?_) k⟩
  have g := getD_map (f := kS) (v := fun z => D.lst ((L.items.filter (L.up z)).map D.str)) kS_inj hw
  refine ⟨_, rfl, _, rfl, _, rfl, _, .inl ⟨_, kS w, .inl rfl, rfl, g.symm⟩, a, L.items.filter (L.up w), rfl, .inl (.inl rfl), _, rfl, ?_⟩
  exact iteB (fun h => ⟨_, rfl, k1 (row_mem (f := L.up w) ha ▸ h)⟩) fun h => k2 (row_mem (f := L.up w) ha ▸ h)
end F_worse_than
namespace F_pairs_of
abbrev sDef : Stmt := top 46
abbrev sN : List Str := ["log", "worse", "one", "other"]
abbrev sP : List Str := ["log"]
theorem sc : FnScope sN sP (defScope sDef) := ⟨rfl, rfl, rfl, by decide +kernel, rfl, by decide +kernel, by decide +kernel⟩
open F_reached
def ssD (p : Str × Str) : D := .tup [.str p.1, .str p.2]
def prs (items : List Str) (up : Str → Str → Bool) : List (Str × Str) := items.flatMap fun a => (items.filter (up a)).map fun b => (a, b)
theorem prs_map (items : List Str) (up : Str → Str → Bool) : (prs items up).map ssD = items.flatMap fun a => (items.filter (up a)).map fun b => ssD (a, b) := by
  unfold prs
  rw [List.map_flatMap]
  simp [List.map_map, Function.comp_def]
theorem fm_len {α β : Type} {n k : Nat} {f : α → List β} : ∀ {xs : List α}, xs.length ≤ k → (∀ x ∈ xs, (f x).length ≤ n) → (xs.flatMap f).length ≤ k * n
  | [], _, _ => Nat.zero_le _
  | x :: xs, h, hf => by
    rw [List.flatMap_cons, List.length_append]
    rw [List.length_cons] at h
    have := fm_len (k := k - 1) (xs := xs) (by omega) fun y hy => hf y (List.mem_cons_of_mem _ hy)
    have h2 := hf x List.mem_cons_self
    have e : k = (k - 1) + 1 := by omega
    rw [e, Nat.add_mul]
    omega
def S (CL : Addr) : SD := fun ds m Q => ∃ (L : LogD), ds = [logD CL L] ∧ LogOk L ∧ Q (.lst ((prs L.items L.up).map ssD))
theorem ok {P : Program} {w : World} {K : Fg} {mg : Str → Option Value} {base : Heap} {CL CD CS CU GS f : Addr} {fd : FuncData} (F : FnP K "pairs_of" "pairs_of" sDef f fd) (T : Txt K mg CL CD CS CU GS) (hworse_than : Cal P w K mg base 10 "worse_than" ["log"] (spP K (F_worse_than.S CL))) (hLog_item_names : CalP P w K mg base CL 1 "item_names" (spP K (F_Log_item_names.S CL))) : FnOk P w K mg base CX0 11 f fd sP (spP K (S CL)) := by
  refine okP F sc (fun ds m Qd h => ?_) fun cdv A outer s H E hr => ?_
  · obtain ⟨L, rfl, ok, q⟩ := h
    rfl
  have hu := hu_of hr
  refine ⟨_, _, (pss_cons (ps_set (i := 1) sc.nd rfl (Or.inr rfl) (pe_cal hworse_than hr (by decide) rfl (pa_cons (pv 0) pa_nil))) (pss_one (ps_ret (pe_lc2 (own := [("one", 2), ("other", 3)]) (vs1 := [3]) rfl sc.nd (kList (K := K) (by rfl) (pe_calP hLog_item_names T.cLog hr (by decide) (pv 0))) (blkOk_by (N := sN) (sc := defScope sDef) (by decide +kernel)) (by decide) (fun _ _ _ _ _ => (pg_name (i := 2) sc.nd rfl (by first | exact Or.inl rfl | exact Or.inr rfl))) (fun _ _ _ _ _ => pts_nil) (fun _ _ _ _ _ => (kList (K := K) (by rfl) (pe_calP hLog_item_names T.cLog hr (by decide) (pv 0)))) (fun _ _ _ _ _ => (pg_name (i := 3) sc.nd rfl (by first | exact Or.inl rfl | exact Or.inr rfl))) (fun _ _ _ _ _ => pts_one (pt_cmpR (kMemS (K := K) (by rfl)) (pv 2) (pe_dget hu (pv 1) (pv 3) (fun _ _ => rfl)) (by rfl))) (fun _ _ _ _ _ => (pe_tup (pa_cons (pv 2) (pa_cons (pv 3) pa_nil)))))))), by walk_at "sim", ?h⟩
  intro ds m Qd hz h
  obtain ⟨L, rfl, ok, q⟩ := h
  have i5 := ok.it.max
  rw [prs_map] at q
  refine ⟨_, rfl, hz, L, rfl, ok, ?_⟩
  refine ⟨_, rfl, _, .inl rfl, hz, L, rfl, _, .inl rfl, lc2FM D.str L.items (fun _ => D.str) (fun _ => L.items) L.up (fun a b => ssD (a, b)) (.inl rfl) (sz (Nat.le_trans (fm_len i5 fun _ _ => i5) (by decide))) (fun a ha N Nn k => ?_) ⟨.refl, q⟩⟩
  refine ⟨_, rfl, _, .inl rfl, hz, L, rfl, _, .inl rfl, k _ _ (.inl rfl) fun b hb Ny Nz k1 k2 => ?_⟩
  have g := getD_map (f := kS) (v := fun z => D.lst ((L.items.filter fun w => L.up w z).map D.str)) kS_inj hb
  refine ⟨_, rfl, _, rfl, _, rfl, _, .inl ⟨_, kS b, .inl rfl, rfl, g.symm⟩, a, L.items.filter fun w => L.up w b, rfl, .inl (.inl rfl), _, rfl, ?_⟩
  have r := row_mem (f := fun w => L.up w b) ha
  exact iteB (fun h => ⟨_, rfl, _, rfl, (by decide : 2 ≤ sizeLine), k1 (r ▸ h)⟩) fun h => k2 (r ▸ h)
end F_pairs_of
namespace F_Log_grades
abbrev sDef : Stmt := inClass (top 43) 2
abbrev sN : List Str := ["self"]
abbrev sP : List Str := ["self"]
theorem sc : FnScope sN sP (defScope sDef) := ⟨rfl, rfl, rfl, by decide +kernel, rfl, by decide +kernel, by decide +kernel⟩
def S (CL : Addr) : SD := fun ds m Q => ∃ L : LogD, ds = [logD CL L] ∧ Q (.int L.grades)
theorem ok {P : Program} {w : World} {K : Fg} {mg : Str → Option Value} {base : Heap} {CL CD CS CU GS f : Addr} {fd : FuncData} (F : FnP K "grades" "Log.grades" sDef f fd) (T : Txt K mg CL CD CS CU GS)  : FnOk P w K mg base CX0 1 f fd sP (spP K (S CL)) := by
  refine okP F sc (fun ds m Qd h => ?_) fun cdv A outer s H E hr => ?_
  · obtain ⟨L, rfl, q⟩ := h
    rfl
  have hu := hu_of hr
  refine ⟨_, _, (pss_one (ps_ret (kFld (K := K) (by rfl) (pv 0) (by rfl)))), by walk_at "sim", ?h⟩
  intro ds m Qd hz h
  obtain ⟨L, rfl, q⟩ := h
  exact ⟨_, rfl, CL, _, _, .inl rfl, T.cLog, T.a_grades, rfl, .refl, q⟩
end F_Log_grades
namespace F_Log_events
abbrev sDef : Stmt := inClass (top 43) 4
abbrev sN : List Str := ["self"]
abbrev sP : List Str := ["self"]
theorem sc : FnScope sN sP (defScope sDef) := ⟨rfl, rfl, rfl, by decide +kernel, rfl, by decide +kernel, by decide +kernel⟩
def S (CL : Addr) : SD := fun ds m Q => ∃ L : LogD, ds = [logD CL L] ∧ Q (.lst (L.events.map evD))
theorem ok {P : Program} {w : World} {K : Fg} {mg : Str → Option Value} {base : Heap} {CL CD CS CU GS f : Addr} {fd : FuncData} (F : FnP K "events" "Log.events" sDef f fd) (T : Txt K mg CL CD CS CU GS)  : FnOk P w K mg base CX0 1 f fd sP (spP K (S CL)) := by
  refine okP F sc (fun ds m Qd h => ?_) fun cdv A outer s H E hr => ?_
  · obtain ⟨L, rfl, q⟩ := h
    rfl
  have hu := hu_of hr
  refine ⟨_, _, (pss_one (ps_ret (pe_callTy (kListOf (K := K) (by rfl)) (by rfl) T.n_list (by decide +kernel) (pa_cons (kFld (K := K) (by rfl) (pv 0) (by rfl)) pa_nil)))), by walk_at "sim", ?h⟩
  intro ds m Qd hz h
  obtain ⟨L, rfl, q⟩ := h
  exact ⟨_, rfl, CL, _, _, .inl rfl, T.cLog, T.a_events, rfl, _, _, rfl, .inl (.inl rfl), .refl, q⟩
end F_Log_events
namespace F_check_offices
abbrev sDef : Stmt := top 48
abbrev sN : List Str := ["logs", "log"]
abbrev sP : List Str := ["logs"]
theorem sc : FnScope sN sP (defScope sDef) := ⟨rfl, rfl, rfl, by decide +kernel, rfl, by decide +kernel, by decide +kernel⟩
theorem sumB {c : Int} : ∀ xs : List Int, (∀ x ∈ xs, x ≤ c) → xs.sum ≤ c * (xs.length : Nat)
  | [], _ => by simp
  | x :: xs, h => by
    have ih := sumB xs fun y hy => h y (List.mem_cons_of_mem _ hy)
    have h1 := h x List.mem_cons_self
    rw [List.sum_cons, List.length_cons]
    have e : c * ((xs.length + 1 : Nat) : Int) = c * (xs.length : Nat) + c := by
      rw [Int.natCast_add, Int.mul_add]
      simp
    rw [e]
    omega
def S (CL : Addr) : SD := fun ds m Q => ∃ (Ls : List LogD), ds = [.lst (Ls.map (logD CL))] ∧ Solo Ls ∧ Q .non
theorem ok {P : Program} {w : World} {K : Fg} {mg : Str → Option Value} {base : Heap} {CL CD CS CU GS f : Addr} {fd : FuncData} (F : FnP K "check_offices" "check_offices" sDef f fd) (T : Txt K mg CL CD CS CU GS) (hLog_item_names : CalP P w K mg base CL 1 "item_names" (spP K (F_Log_item_names.S CL))) (hLog_grades : CalP P w K mg base CL 1 "grades" (spP K (F_Log_grades.S CL))) (hLog_judges : CalP P w K mg base CL 1 "judges" (spP K (F_Log_judges.S CL))) (hLog_events : CalP P w K mg base CL 1 "events" (spP K (F_Log_events.S CL))) : FnOk P w K mg base CX0 3 f fd sP (spP K (S CL)) := by
  refine okP F sc (fun ds m Qd h => ?_) fun cdv A outer s H E hr => ?_
  · obtain ⟨Ls, rfl, so, q⟩ := h
    rfl
  have hu := hu_of hr
  refine ⟨_, _, (pss_cons (ps_if (pt_val (pe_callB (kAny (K := K) (by rfl) (by rfl)) (by rfl) T.n_any (by decide +kernel) (pa_cons (pe_lc (own := [("log", 1)]) rfl sc.nd (kList (K := K) (by rfl) (pv 0)) (blkOk_by (N := sN) (sc := defScope sDef) (by decide +kernel)) (fun _ _ _ _ _ => (pg_name (i := 1) sc.nd rfl (by first | exact Or.inl rfl | exact Or.inr rfl))) (fun _ _ _ _ _ => pts_nil) (fun _ _ _ _ _ => (pe_cmpR (kNeD (K := K) (by rfl) hr.units) (pe_tup (pa_cons (pe_calP hLog_item_names T.cLog hr (by decide) (pv 1)) (pa_cons (pe_calP hLog_grades T.cLog hr (by decide) (pv 1)) pa_nil))) (pe_tup (pa_cons (pe_calP hLog_item_names T.cLog hr (by decide) (pe_ix (kIx (K := K) (by rfl)) (pv 0) pe_int (fun _ _ => rfl))) (pa_cons (pe_calP hLog_grades T.cLog hr (by decide) (pe_ix (kIx (K := K) (by rfl)) (pv 0) pe_int (fun _ _ => rfl))) pa_nil))) (by rfl)))) pa_nil))) (pss_one ps_never) pss_nil) (pss_one (ps_if (PW.pt (pw_or (pt_cmpR op_gt (pe_callB (kSum (K := K) (by rfl) (by rfl)) (by rfl) T.n_sum (by decide +kernel) (pa_cons (pe_lc (own := [("log", 1)]) rfl sc.nd (kList (K := K) (by rfl) (pv 0)) (blkOk_by (N := sN) (sc := defScope sDef) (by decide +kernel)) (fun _ _ _ _ _ => (pg_name (i := 1) sc.nd rfl (by first | exact Or.inl rfl | exact Or.inr rfl))) (fun _ _ _ _ _ => pts_nil) (fun _ _ _ _ _ => (pe_callB (kLen (K := K) (by rfl)) (by rfl) T.n_len PySem.boot_len (pa_cons (pe_calP hLog_judges T.cLog hr (by decide) (pv 1)) pa_nil)))) pa_nil)) (pe_gint rfl T.iMOST_JUDGES) (by rfl)) (pw_or1 (pt_cmpR op_gt (pe_callB (kSum (K := K) (by rfl) (by rfl)) (by rfl) T.n_sum (by decide +kernel) (pa_cons (pe_lc (own := [("log", 1)]) rfl sc.nd (kList (K := K) (by rfl) (pv 0)) (blkOk_by (N := sN) (sc := defScope sDef) (by decide +kernel)) (fun _ _ _ _ _ => (pg_name (i := 1) sc.nd rfl (by first | exact Or.inl rfl | exact Or.inr rfl))) (fun _ _ _ _ _ => pts_nil) (fun _ _ _ _ _ => (pe_callB (kLen (K := K) (by rfl)) (by rfl) T.n_len PySem.boot_len (pa_cons (pe_calP hLog_events T.cLog hr (by decide) (pv 1)) pa_nil)))) pa_nil)) (pe_gint rfl T.iMOST_EVENTS) (by rfl))))) (pss_one ps_never) pss_nil))), by walk_at "sim", ?h⟩
  intro ds m Qd hz h
  obtain ⟨Ls, rfl, so, q⟩ := h
  have p1 := so.pos
  have m3 := so.max
  have g0 : (Ls.map (logD CL))[0]? = some (logD CL (at0 Ls 0)) := by
    rw [List.getElem?_map, at0_get (by omega)]
    rfl
  have h0 := at0_mem (Ls := Ls) (o := 0) (by omega)
  refine ⟨_, rfl, _, .inl rfl, lcM (logD CL) Ls (fun _ => .bl false) (.inl rfl) (sz (by omega)) (fun l hl Ny Nn k => ?_) ?_⟩
  · refine ⟨_, rfl, _, .inl rfl, hz, l, rfl, _, rfl, _, .inl rfl, hz, l, rfl, (by decide : 2 ≤ sizeLine), ?_⟩
    refine ⟨_, rfl, _, _, _, .inl (.inl rfl), rfl, at_nat (k := 0) g0, _, .inl rfl, hz, at0 Ls 0, rfl, ?_⟩
    refine ⟨_, rfl, _, _, _, .inl (.inl rfl), rfl, at_nat (k := 0) g0, _, .inl rfl, hz, at0 Ls 0, rfl, (by decide : 2 ≤ sizeLine), ?_⟩
    rw [so.it l hl, so.gr l hl]
    have sd : sD 2 (.tup [.lst ((at0 Ls 0).items.map D.str), .int (at0 Ls 0).grades]) = true := by
      have h1 := sD_strs (so.ok _ h0).it.good
      unfold sD
      rw [List.all_cons, List.all_cons, h1]
      simp [sD]
    refine goNeD 2 (by decide) sd sd fun b hb => ?_
    have : b = false := by
      cases b with
      | true => exact absurd rfl (hb.mp rfl)
      | false => rfl
    exact this.symm ▸ k
  refine ⟨_, Ls.map fun _ => false, rfl, .inl (by rw [List.map_map]; rfl), _, rfl, ?_⟩
  have e0 : (Ls.map fun _ => false).any id = false := by simp
  rw [e0]
  refine ⟨_, rfl, _, .inl rfl, lcM (logD CL) Ls (fun l => .int (l.judges.length : Nat)) (.inl rfl) (sz (by omega)) (fun l hl Ny Nn k => ⟨_, rfl, _, .inl rfl, hz, l, rfl, _, _, rfl, .inl ⟨_, .inl (.inl rfl), rfl⟩, (by rw [List.length_map]; exact k)⟩) ?_⟩
  refine ⟨_, Ls.map fun l => ((l.judges.length : Nat) : Int), rfl, .inl (by rw [List.map_map]; rfl), _, _, rfl, rfl, _, rfl, ifN (decide_eq_false ?_) ?_⟩
  · have := sumB (c := 1) (Ls.map fun l => ((l.judges.length : Nat) : Int)) fun x hx => by
      obtain ⟨l, hl, rfl⟩ := List.mem_map.mp hx
      have := congrArg List.length (so.one l hl)
      rw [List.length_singleton] at this
      omega
    rw [List.length_map] at this
    omega
  refine ⟨_, rfl, _, .inl rfl, lcM (logD CL) Ls (fun l => .int (l.n : Nat)) (.inl rfl) (sz (by omega)) (fun l hl Ny Nn k => ⟨_, rfl, _, .inl rfl, hz, l, rfl, _, _, rfl, .inl ⟨_, .inl (.inl rfl), rfl⟩, (by rw [List.length_map]; exact k)⟩) ?_⟩
  refine ⟨_, Ls.map fun l => ((l.n : Nat) : Int), rfl, .inl (by rw [List.map_map]; rfl), _, _, rfl, rfl, _, rfl, ifN (decide_eq_false ?_) ⟨.refl, q⟩⟩
  have := sumB (c := 9) (Ls.map fun l => ((l.n : Nat) : Int)) fun x hx => by
    obtain ⟨l, hl, rfl⟩ := List.mem_map.mp hx
    have := (so.ok l hl).n9
    omega
  rw [List.length_map] at this
  omega
end F_check_offices
namespace F_names_in
abbrev sDef : Stmt := top 49
abbrev sN : List Str := ["log", "office", "number", "name", "_"]
abbrev sP : List Str := ["log", "office"]
theorem sc : FnScope sN sP (defScope sDef) := ⟨rfl, rfl, rfl, by decide +kernel, rfl, by decide +kernel, by decide +kernel⟩
theorem onm_len : ∀ o : Nat, o < 3 → ((Str.empty ++ Str.ofString "o").length ≤ sizeLine ∧ (Str.empty ++ Str.ofString "o" ++ Str.ofString (toString (o : Int))).length ≤ sizeLine ∧ (Str.empty ++ Str.ofString "o" ++ Str.ofString (toString (o : Int)) ++ Str.ofString "j").length ≤ sizeLine ∧ (onm o).length ≤ sizeLine) ∧ (o : Int).natAbs.log2 < 1920 := by decide +kernel
def S (CL : Addr) : SD := fun ds m Q => ∃ (L : LogD) (o : Nat), ds = [logD CL L, iD o] ∧ L.judges = [(L.jd0, L.dr0)] ∧ o < 3 ∧ Q (.dic [(kS L.jd0, .str (onm o))])
theorem ok {P : Program} {w : World} {K : Fg} {mg : Str → Option Value} {base : Heap} {CL CD CS CU GS f : Addr} {fd : FuncData} (F : FnP K "names_in" "names_in" sDef f fd) (T : Txt K mg CL CD CS CU GS) (hLog_judges : CalP P w K mg base CL 1 "judges" (spP K (F_Log_judges.S CL))) : FnOk P w K mg base CX0 3 f fd sP (spP K (S CL)) := by
  refine okP F sc (fun ds m Qd h => ?_) fun cdv A outer s H E hr => ?_
  · obtain ⟨L, o, rfl, one, ho, q⟩ := h
    rfl
  have hu := hu_of hr
  refine ⟨_, _, (pss_one (ps_ret (pe_dc (own := [("number", 2), ("name", 3), ("_", 4)]) rfl sc.nd (kEnum (K := K) (by rfl) rfl T.n_enumerate (pa_cons (pe_calP hLog_judges T.cLog hr (by decide) (pv 0)) pa_nil)) (blkOk_by (N := sN) (sc := defScope sDef) (by decide +kernel)) (fun _ _ _ _ _ => (kTup (K := K) (n := 2) (by rfl) rfl (pgs_cons (pg_name (i := 2) sc.nd rfl (by first | exact Or.inl rfl | exact Or.inr rfl)) (pgs_cons (kTup (K := K) (n := 2) (by rfl) rfl (pgs_cons (pg_name (i := 3) sc.nd rfl (by first | exact Or.inl rfl | exact Or.inr rfl)) (pgs_cons (pg_name (i := 4) sc.nd rfl (by first | exact Or.inl rfl | exact Or.inr rfl)) pgs_nil))) pgs_nil)))) (fun _ _ _ _ _ => pts_nil) (fun _ _ _ _ _ => (pv 3)) (fun _ _ _ _ _ => (pe_joined (PJ.cons pe_str (PJ.cons (pe_fmt (pv 1)) (PJ.cons pe_str (PJ.cons (pe_fmt (pv 2)) PJ.nil))))))))), by walk_at "sim", ?h⟩
  intro ds m Qd hz h
  obtain ⟨L, o, rfl, one, ho, q⟩ := h
  refine ⟨_, rfl, _, .inl rfl, hz, L, rfl, _, _, rfl, .inl (by rw [one]), ?_⟩
  refine dcM (fun p => .tup [.int (0 : Nat), juD p]) [(L.jd0, L.dr0)] (fun p => kS p.1) (fun p => .str (onm o)) (.inl (by rw [one])) (by decide : 1 ≤ sizeLine) (by simp) (fun p hp N Nn k => ?_) ⟨.refl, q⟩
  obtain ⟨⟨l1, l2, l3, l4⟩, lg⟩ := onm_len o ho
  exact ⟨_, rfl, rfl, _, _, rfl, _, _, rfl, ⟨_, rfl, rfl, _, _, rfl, _, _, rfl, rfl, rfl, _, rfl, ⟨_, rfl, l1, _, rfl, .inr ⟨_, rfl, lg, _, rfl, l2, _, rfl, l3, _, rfl, .inr ⟨_, rfl, (by decide +kernel), _, rfl, l4, k⟩⟩⟩⟩⟩
end F_names_in
namespace F_side_by_side
abbrev sDef : Stmt := top 50
abbrev sN : List Str := ["logs", "offices", "judges", "events", "office", "names", "name", "drift", "event"]
abbrev sP : List Str := ["logs", "offices"]
theorem sc : FnScope sN sP (defScope sDef) := ⟨rfl, rfl, rfl, by decide +kernel, rfl, by decide +kernel, by decide +kernel⟩
theorem jlen {Ls : List LogD} (so : Solo Ls) (i : Nat) (h : i ≤ Ls.length) : ((List.range i).flatMap fun o => (at0 Ls o).events.map (renE o)).length ≤ 9 * i := by
  induction i with
  | zero => exact Nat.le_refl _
  | succ i ih =>
    rw [List.range_succ, List.flatMap_append, List.length_append, List.flatMap_cons, List.flatMap_nil, List.append_nil, List.length_map]
    have := ih (by omega)
    have h2 := (so.ok _ (at0_mem (Ls := Ls) (o := i) (by omega))).ne
    omega
def S (CL : Addr) : SD := fun ds m Q => ∃ (Ls : List LogD), ds = [.lst (Ls.map (logD CL)), .lst (rngD 0 Ls.length)] ∧ Solo Ls ∧ Q (logD CL (joinL Ls))
theorem ok {P : Program} {w : World} {K : Fg} {mg : Str → Option Value} {base : Heap} {CL CD CS CU GS f : Addr} {fd : FuncData} (F : FnP K "side_by_side" "side_by_side" sDef f fd) (T : Txt K mg CL CD CS CU GS) (hnames_in : Cal P w K mg base 3 "names_in" ["log", "office"] (spP K (F_names_in.S CL))) (hLog_judges : CalP P w K mg base CL 1 "judges" (spP K (F_Log_judges.S CL))) (hLog_events : CalP P w K mg base CL 1 "events" (spP K (F_Log_events.S CL))) (hLog_item_names : CalP P w K mg base CL 1 "item_names" (spP K (F_Log_item_names.S CL))) (hLog_grades : CalP P w K mg base CL 1 "grades" (spP K (F_Log_grades.S CL))) (hLog : CalC P w K mg base CL 3 "Log" ["self", "items", "grades", "judges", "events"] (spM K (F_Log___init__.S CL))) : FnOk P w K mg base CX0 5 f fd sP (spP K (S CL)) := by
  refine okP F sc (fun ds m Qd h => ?_) fun cdv A outer s H E hr => ?_
  · obtain ⟨Ls, rfl, so, q⟩ := h
    rfl
  have hu := hu_of hr
  refine ⟨_, _, (pss_cons (ps_par (i := 2) (j := 3) rfl sc.nd rfl rfl (by decide) rfl rfl (pa_cons (pe_lstM pa_nil) (pa_cons (pe_lstM pa_nil) pa_nil)) (by rfl)) (pss_cons (ps_for PassesOwn.never rfl (kList (K := K) (by rfl) (pv 1)) (pg_name (i := 4) sc.nd rfl (by first | exact Or.inl rfl | exact Or.inr rfl)) (pss_cons (ps_set (i := 5) sc.nd rfl (Or.inr rfl) (pe_cal hnames_in hr (by decide) rfl (pa_cons (pe_ix (kIx (K := K) (by rfl)) (pv 0) (pv 4) (fun _ _ => rfl)) (pa_cons (pv 4) pa_nil)))) (pss_cons (ps_expr (pe_bm PySem.F.plainAttrs_list PySem.F.slot_list_extend PySem.F.type_list_extend mt_extend (pv 2) (pa_cons (pe_lc (own := [("name", 6), ("drift", 7)]) rfl sc.nd (kList (K := K) (by rfl) (pe_calP hLog_judges T.cLog hr (by decide) (pe_ix (kIx (K := K) (by rfl)) (pv 0) (pv 4) (fun _ _ => rfl)))) (blkOk_by (N := sN) (sc := defScope sDef) (by decide +kernel)) (fun _ _ _ _ _ => (kTup (K := K) (n := 2) (by rfl) rfl (pgs_cons (pg_name (i := 6) sc.nd rfl (by first | exact Or.inl rfl | exact Or.inr rfl)) (pgs_cons (pg_name (i := 7) sc.nd rfl (by first | exact Or.inl rfl | exact Or.inr rfl)) pgs_nil)))) (fun _ _ _ _ _ => pts_nil) (fun _ _ _ _ _ => (pe_tup (pa_cons (pe_dget hu (pv 5) (pv 6) (fun _ _ => rfl)) (pa_cons (pv 7) pa_nil))))) pa_nil))) (pss_one (ps_expr (pe_bm PySem.F.plainAttrs_list PySem.F.slot_list_extend PySem.F.type_list_extend mt_extend (pv 3) (pa_cons (pe_lc (own := [("event", 8)]) rfl sc.nd (kList (K := K) (by rfl) (pe_calP hLog_events T.cLog hr (by decide) (pe_ix (kIx (K := K) (by rfl)) (pv 0) (pv 4) (fun _ _ => rfl)))) (blkOk_by (N := sN) (sc := defScope sDef) (by decide +kernel)) (fun _ _ _ _ _ => (pg_name (i := 8) sc.nd rfl (by first | exact Or.inl rfl | exact Or.inr rfl))) (fun _ _ _ _ _ => pts_nil) (fun _ _ _ _ _ => (pe_op (kCatT (K := K) (by rfl)) (pe_tup (pa_cons (pe_ix (kIx (K := K) (by rfl)) (pv 8) pe_int (fun _ _ => rfl)) (pa_cons (pe_dget hu (pv 5) (pe_ix (kIx (K := K) (by rfl)) (pv 8) pe_int (fun _ _ => rfl)) (fun _ _ => rfl)) pa_nil))) (pe_slice (kSlT (K := K) (by rfl)) (pv 8) (po_some pe_int) po_none)))) pa_nil))))))) (pss_one (ps_ret (pe_calC hLog hr (by decide) rfl (pa_cons (pe_calP hLog_item_names T.cLog hr (by decide) (pe_ix (kIx (K := K) (by rfl)) (pv 0) pe_int (fun _ _ => rfl))) (pa_cons (pe_calP hLog_grades T.cLog hr (by decide) (pe_ix (kIx (K := K) (by rfl)) (pv 0) pe_int (fun _ _ => rfl))) (pa_cons (pv 2) (pa_cons (pv 3) pa_nil))))))))), by walk_at "sim", ?h⟩
  intro ds m Qd hz h
  obtain ⟨Ls, rfl, so, q⟩ := h
  have p1 := so.pos
  have m3 := so.max
  have gl : ∀ o, o < Ls.length → (Ls.map (logD CL))[o]? = some (logD CL (at0 Ls o)) := fun o ho => by
    rw [List.getElem?_map, at0_get ho]
    rfl
  rw [rngD_zero]
  refine ⟨(by decide : 0 ≤ sizeLine), fun a ha => ⟨(by decide : 0 ≤ sizeLine), fun b hb => ⟨_, _, rfl, _, rfl, _, .inl rfl, ?_⟩⟩⟩
  have hab : a ≠ b := fun e => by
    rw [← e, Mu.set_same] at hb
    cases hb
  have hb0 : m.c b = none := by
    rw [Mu.set_ne hab.symm] at hb
    exact hb
  have ca : ∀ X Y, ((m.set a X).set b Y).c a = some X := fun X Y => by rw [Mu.set_ne hab, Mu.set_same]
  have cb : ∀ X Y, ((m.set a X).set b Y).c b = some Y := fun X Y => Mu.set_same
  have sa : ∀ X Y Z, ((m.set a X).set b Y).set a Z = (m.set a Z).set b Y := fun X Y Z => by rw [Mu.set_comm hab.symm, Mu.set_set]
  have sb : ∀ X Y Z, ((m.set a X).set b Y).set b Z = (m.set a X).set b Z := fun X Y Z => Mu.set_set
  refine forX (fun (i : Nat) => D.int (i : Nat)) (List.range Ls.length) (fun i δ' m' => m' = (m.set a (.lst (((List.range i).map fun o => (onm o, (at0 Ls o).dr0)).map juD))).set b (.lst (((List.range i).flatMap fun o => (at0 Ls o).events.map (renE o)).map evD)) ∧ ∃ p q r s t, δ' = [some (.lst (Ls.map (logD CL))), some (.lst ((List.range Ls.length).map fun (i : Nat) => D.int (i : Nat))), some (.ref a), some (.ref b), p, q, r, s, t])
    ⟨rfl, _, _, _, _, _, rfl⟩ (fun i δ' m' h => .inl rfl) (fun i o δ' m' ho h => ?_) fun δ' m' h => ?_
  · obtain ⟨rfl, s1, s2, s3, s4, s5, rfl⟩ := h
    obtain ⟨hi, rfl⟩ := List.getElem?_eq_some_iff.mp ho
    rw [List.length_range] at hi
    rw [List.getElem_range]
    have hl := at0_mem hi
    have one := so.one _ hl
    have okl := so.ok _ hl
    have ix : ∀ (Q : D → Mu → Prop) m2, Q (logD CL (at0 Ls i)) m2 → dIx (.lst (Ls.map (logD CL))) (.int (i : Nat)) m2 Q := fun Q m2 q => ⟨_, _, _, .inl (.inl rfl), rfl, at_nat (gl i hi), q⟩
    have jl := jlen so i (by omega)
    have g1 : getD [(kS (at0 Ls i).jd0, D.str (onm i))] (kS (at0 Ls i).jd0) = some (D.str (onm i)) := by
      unfold getD
      rw [List.find?_cons, decide_eq_true rfl]
      rfl
    refine ⟨_, rfl, _, rfl, ix _ _ ⟨_, rfl, hz, at0 Ls i, i, rfl, one, by omega, ?_⟩⟩
    refine ⟨_, rfl, ⟨_, .inr (.inr ⟨a, rfl, ca _ _⟩)⟩, _, rfl, _, rfl, ix _ _ ⟨_, .inl rfl, hz, at0 Ls i, rfl, _, .inl rfl, ?_⟩⟩
    refine lcM juD (at0 Ls i).judges (fun p => juD (onm i, p.2)) (.inl rfl) (by rw [one]; exact (by decide : 1 ≤ sizeLine)) (fun p hp Ny Nn k => ?_) ?_
    · rw [one] at hp
      rw [List.mem_singleton.mp hp] at k ⊢
      exact ⟨_, rfl, rfl, _, _, rfl, _, _, rfl, rfl, _, rfl, _, rfl, _, .inl ⟨_, kS (at0 Ls i).jd0, .inl rfl, rfl, g1.symm⟩, _, rfl, (by decide : 2 ≤ sizeLine), k⟩
    refine ⟨a, _, _, rfl, rfl, ca _ _, ?_, ?_⟩
    · rw [List.length_map, List.length_map, List.length_map, List.length_range, one]
      exact sz (show i + 1 ≤ 10000 by omega)
    rw [sa]
    refine ⟨_, rfl, ⟨_, .inr (.inr ⟨b, rfl, cb _ _⟩)⟩, _, rfl, _, rfl, ix _ _ ⟨_, .inl rfl, hz, at0 Ls i, rfl, _, .inl rfl, ?_⟩⟩
    have nl : (at0 Ls i).events.length ≤ 9 := okl.ne
    refine lcM evD (at0 Ls i).events (fun e => evD (renE i e)) (.inl rfl) (sz (by omega)) (fun e he Ny Nn k => ?_) ?_
    · have hev := okl.ev e he
      unfold LogD.names at hev
      rw [one] at hev
      cases e with
      | ans j z g =>
        unfold evB at hev
        simp only [Bool.and_eq_true, decide_eq_true_eq, List.map_cons, List.map_nil, List.mem_singleton] at hev
        rw [hev.1.1.1]
        exact ⟨_, rfl, _, _, _, .inr rfl, rfl, rfl, _, rfl, _, rfl, _, _, _, .inr rfl, rfl, rfl, _, .inl ⟨_, kS (at0 Ls i).jd0, .inl rfl, rfl, g1.symm⟩, (by decide : 2 ≤ sizeLine), _, rfl, _, rfl, _, rfl, (fun h => by have h1 : (2 : Nat) = 0 := h.1; omega), _, _, rfl, rfl, (fun h => by cases h), (show 2 + 2 ≤ sizeLine by decide), k⟩
      | rst j =>
        have hev : j = (at0 Ls i).jd0 := by
          have := of_decide_eq_true hev
          simpa using this
        rw [hev]
        exact ⟨_, rfl, _, _, _, .inr rfl, rfl, rfl, _, rfl, _, rfl, _, _, _, .inr rfl, rfl, rfl, _, .inl ⟨_, kS (at0 Ls i).jd0, .inl rfl, rfl, g1.symm⟩, (by decide : 2 ≤ sizeLine), _, rfl, _, rfl, _, rfl, (fun h => by have h1 : (2 : Nat) = 0 := h.1; omega), _, _, rfl, rfl, (fun h => by cases h), (show 2 + 0 ≤ sizeLine by decide), k⟩
    refine ⟨b, _, _, rfl, rfl, cb _ _, ?_, ?_, _, _, _, _, _, rfl⟩
    · rw [List.length_map, List.length_map]
      exact sz (by omega)
    · rw [sb, List.range_succ, List.map_append, List.map_append, List.flatMap_append, List.map_append, one, List.flatMap_cons, List.flatMap_nil, List.append_nil, List.map_map (g := evD)]
      rfl
  · obtain ⟨rfl, s1, s2, s3, s4, s5, rfl⟩ := h
    rw [List.length_range]
    have g0 := gl 0 (by omega)
    refine ⟨_, rfl, _, _, _, .inl (.inl rfl), rfl, at_nat (k := 0) g0, _, .inl rfl, hz, at0 Ls 0, rfl, ?_⟩
    refine ⟨_, rfl, _, _, _, .inl (.inl rfl), rfl, at_nat (k := 0) g0, _, .inl rfl, hz, at0 Ls 0, rfl, _, rfl, _, rfl, hz, fun c hc => ?_⟩
    refine ⟨c, _, _, _, joinL Ls, rfl, Mu.set_same, .inl rfl, LsD.new (.inr (.inr ⟨a, rfl, ca _ _⟩)) hc, LsD.new (.inr (.inr ⟨b, rfl, cb _ _⟩)) hc, so.join, rfl, _, Mu.set_same, ?_, q⟩
    rw [Mu.set_set, Mu.del_set hc]
    exact (L3.Sub.refl.set ha).set hb0
end F_side_by_side
namespace F_joined
abbrev sDef : Stmt := top 51
abbrev sN : List Str := ["logs"]
abbrev sP : List Str := ["logs"]
theorem sc : FnScope sN sP (defScope sDef) := ⟨rfl, rfl, rfl, by decide +kernel, rfl, by decide +kernel, by decide +kernel⟩
def S (CL : Addr) : SD := fun ds m Q => ∃ (Ls : List LogD), ds = [.lst (Ls.map (logD CL))] ∧ Solo Ls ∧ Q (logD CL (joinL Ls))
theorem ok {P : Program} {w : World} {K : Fg} {mg : Str → Option Value} {base : Heap} {CL CD CS CU GS f : Addr} {fd : FuncData} (F : FnP K "joined" "joined" sDef f fd) (T : Txt K mg CL CD CS CU GS) (hcheck_offices : Cal P w K mg base 3 "check_offices" ["logs"] (spP K (F_check_offices.S CL))) (hside_by_side : Cal P w K mg base 5 "side_by_side" ["logs", "offices"] (spP K (F_side_by_side.S CL))) : FnOk P w K mg base CX0 6 f fd sP (spP K (S CL)) := by
  refine okP F sc (fun ds m Qd h => ?_) fun cdv A outer s H E hr => ?_
  · obtain ⟨Ls, rfl, so, q⟩ := h
    rfl
  have hu := hu_of hr
  refine ⟨_, _, (pss_cons (ps_expr (pe_cal hcheck_offices hr (by decide) rfl (pa_cons (pv 0) pa_nil))) (pss_one (ps_ret (pe_cal hside_by_side hr (by decide) rfl (pa_cons (pv 0) (pa_cons (pe_rgL rfl rfl T.n_range rfl T.n_list (pe_callB (kLen (K := K) (by rfl)) (by rfl) T.n_len PySem.boot_len (pa_cons (pv 0) pa_nil))) pa_nil)))))), by walk_at "sim", ?h⟩
  intro ds m Qd hz h
  obtain ⟨Ls, rfl, so, q⟩ := h
  have m3 := so.max
  refine ⟨_, rfl, hz, Ls, rfl, so, _, rfl, _, rfl, _, _, rfl, .inl ⟨_, .inl (.inl rfl), rfl⟩, (Ls.map (logD CL)).length, rfl, ?_, hz, Ls, ?_, so, .refl, q⟩
  · rw [List.length_map]
    omega
  · rw [List.length_map]
end F_joined
namespace F_lengths_to
abbrev sDef : Stmt := top 21
abbrev sN : List Str := ["ends", "better", "lengths", "queue", "here", "_", "begin", "end"]
abbrev sP : List Str := ["ends", "better"]
theorem sc : FnScope sN sP (defScope sDef) := ⟨rfl, rfl, rfl, by decide +kernel, rfl, by decide +kernel, by decide +kernel⟩
open F_ends_of
def Ed (ls : List (Nat × Nat)) (it : Nat → Str) (x y : Str) : Prop := ∃ p ∈ ls, it p.1 = x ∧ it p.2 = y
abbrev Kt := List (Str × Nat)
def keyL (ks : Kt) : List Str := ks.map Prod.fst
structure Bq (ls : List (Nat × Nat)) (it : Nat → Str) (b : Str) (ks : Kt) (qu : List Str) (ex : Str → Prop) : Prop where
  nd : (keyL ks).Nodup
  z : (b, 0) ∈ ks
  st : ∀ x ∈ ks, (x.2 = 0 ∧ x.1 = b) ∨ ∃ t k, x.2 = k + 1 ∧ Ed ls it x.1 t ∧ (t, k) ∈ ks
  cl : ∀ t ∈ keyL ks, t ∈ qu ∨ ex t ∨ ∀ s, Ed ls it s t → s ∈ keyL ks
  qk : ∀ t ∈ qu, t ∈ keyL ks
  bd : ∀ x ∈ ks, x.2 < ks.length
theorem Bq.len {ls : List (Nat × Nat)} {it : Nat → Str} {b : Str} {ks : Kt} {qu : List Str} {ex : Str → Prop} (h : Bq ls it b ks qu ex) : ks.length ≤ ls.length + 1 := by
  have := nodup_sub_len (ys := b :: ls.map fun p => it p.1) h.nd fun x hx => by
    obtain ⟨y, hy, rfl⟩ := List.mem_map.mp hx
    rcases h.st y hy with ⟨_, e⟩ | ⟨t, k, _, ⟨p, hp, e, _⟩, _⟩
    · rw [e]
      exact List.mem_cons_self
    · exact List.mem_cons_of_mem _ (List.mem_map.mpr ⟨p, hp, e⟩)
  unfold keyL at this
  rw [List.length_map, List.length_cons, List.length_map] at this
  exact this
theorem Bq.put {ls : List (Nat × Nat)} {it : Nat → Str} {b : Str} {ks : Kt} {qu : List Str} {ex : Str → Prop} (h : Bq ls it b ks qu ex) {s here : Str} {n : Nat} (hh : (here, n) ∈ ks) (he : Ed ls it s here) (hs : s ∉ keyL ks) :
    Bq ls it b (ks ++ [(s, n + 1)]) (qu ++ [s]) ex where
  nd := by
    unfold keyL at hs ⊢
    rw [List.map_append, List.nodup_append]
    refine ⟨h.nd, by simp, fun x hx y hy e => ?_⟩
    simp only [List.map_cons, List.map_nil, List.mem_singleton] at hy
    exact hs (hy ▸ e ▸ hx)
  z := List.mem_append_left _ h.z
  st := fun x hx => by
    rcases List.mem_append.mp hx with hx | hx
    · rcases h.st x hx with e | ⟨t, k, e1, e2, e3⟩
      · exact .inl e
      · exact .inr ⟨t, k, e1, e2, List.mem_append_left _ e3⟩
    · rw [List.mem_singleton.mp hx]
      exact .inr ⟨here, n, rfl, he, List.mem_append_left _ hh⟩
  cl := fun t ht => by
    unfold keyL at ht ⊢
    rw [List.map_append] at ht ⊢
    rcases List.mem_append.mp ht with ht | ht
    · rcases h.cl t ht with e | e | e
      · exact .inl (List.mem_append_left _ e)
      · exact .inr (.inl e)
      · exact .inr (.inr fun s hs => List.mem_append_left _ (e s hs))
    · simp only [List.map_cons, List.map_nil, List.mem_singleton] at ht
      exact .inl (List.mem_append_right _ (List.mem_singleton.mpr ht))
  qk := fun t ht => by
    unfold keyL
    rw [List.map_append]
    rcases List.mem_append.mp ht with ht | ht
    · exact List.mem_append_left _ (h.qk t ht)
    · exact List.mem_append_right _ (by simpa using ht)
  bd := fun x hx => by
    rw [List.length_append, List.length_singleton]
    rcases List.mem_append.mp hx with hx | hx
    · have := h.bd x hx
      omega
    · rw [List.mem_singleton.mp hx]
      have := h.bd _ hh
      show n + 1 < _
      have : n < ks.length := this
      omega
/-- the lengths of the ways to b -/
structure Lens (ls : List (Nat × Nat)) (it : Nat → Str) (b : Str) (ks : Kt) : Prop where
  nd : (keyL ks).Nodup
  z : (b, 0) ∈ ks
  st : ∀ x ∈ ks, (x.2 = 0 ∧ x.1 = b) ∨ ∃ t k, x.2 = k + 1 ∧ Ed ls it x.1 t ∧ (t, k) ∈ ks
  cl : ∀ t ∈ keyL ks, ∀ s, Ed ls it s t → s ∈ keyL ks
  bd : ∀ x ∈ ks, x.2 < ks.length
  ln : ks.length ≤ ls.length + 1
def lenD (x : Str × Nat) : Key × D := (kS x.1, iD x.2)
theorem getD_len {ks : Kt} (nd : (keyL ks).Nodup) {s : Str} {n : Nat} (h : (s, n) ∈ ks) : getD (ks.map lenD) (kS s) = some (iD n) := by
  induction ks with
  | nil => cases h
  | cons y ys ih =>
    unfold keyL at nd ih
    rw [List.map_cons, List.nodup_cons] at nd
    unfold getD
    rw [List.map_cons, List.find?_cons]
    by_cases e : (lenD y).1 = kS s
    · rw [decide_eq_true e]
      have e1 : y.1 = s := Sum.inr.inj e
      rcases List.mem_cons.mp h with h | h
      · rw [← h]
        rfl
      · exact absurd (List.mem_map.mpr ⟨_, h, e1.symm⟩) nd.1
    · rw [decide_eq_false e]
      rcases List.mem_cons.mp h with h | h
      · exact absurd (by rw [← h]; rfl) e
      · exact ih nd.2 h
theorem getD_len_none {ks : Kt} {s : Str} (h : s ∉ keyL ks) : getD (ks.map lenD) (kS s) = none := by
  unfold getD
  rw [Option.map_eq_none_iff, List.find?_eq_none]
  intro x hx e
  obtain ⟨y, hy, rfl⟩ := List.mem_map.mp hx
  have e := of_decide_eq_true e
  exact h (List.mem_map.mpr ⟨y, hy, Sum.inr.inj e⟩)
def S : SD := fun ds m Q => ∃ (ls : List (Nat × Nat)) (it : Nat → Str) (b : Str), ds = [.lst (ls.map (enD it)), .str b] ∧ ls.length ≤ 3000 ∧ ∀ ks, Lens ls it b ks → Q (.dic (ks.map lenD))
theorem ok {P : Program} {w : World} {K : Fg} {mg : Str → Option Value} {base : Heap} {CL CD CS CU GS f : Addr} {fd : FuncData} (F : FnP K "lengths_to" "lengths_to" sDef f fd) (T : Txt K mg CL CD CS CU GS)  : FnOk P w K mg base CX0 1 f fd sP (spP K (S)) := by
  refine okP F sc (fun ds m Qd h => ?_) fun cdv A outer s H E hr => ?_
  · obtain ⟨ls, it, b, rfl, hl, q⟩ := h
    rfl
  have hu := hu_of hr
  refine ⟨_, _, (pss_cons (ps_set (i := 2) sc.nd rfl (Or.inl rfl) (pe_disp (pps_cons (pv 1) pe_int pps_nil) rfl rfl (by decide) (by decide))) (pss_cons (ps_set (i := 3) sc.nd rfl (Or.inl rfl) (pe_lstM (pa_cons (pv 1) pa_nil))) (pss_cons (ps_while PassesOwn.never (kTru (K := K) (by rfl) (pv 3) (by intro _; rfl)) (pss_cons (ps_set (i := 4) sc.nd rfl (Or.inl rfl) (pe_bm PySem.F.plainAttrs_list PySem.F.slot_list_pop PySem.F.type_list_pop mt_popAt (pv 3) (pa_cons pe_int pa_nil))) (pss_one (ps_for PassesOwn.never rfl (kList (K := K) (by rfl) (pv 0)) (kTup (K := K) (n := 3) (by rfl) rfl (pgs_cons (pg_name (i := 5) sc.nd rfl (by first | exact Or.inl rfl | exact Or.inr rfl)) (pgs_cons (pg_name (i := 6) sc.nd rfl (by first | exact Or.inl rfl | exact Or.inr rfl)) (pgs_cons (pg_name (i := 7) sc.nd rfl (by first | exact Or.inl rfl | exact Or.inr rfl)) pgs_nil)))) (pss_one (ps_if (PW.pt (pw_and (pt_cmpR op_eq (pv 7) (pv 4) (by rfl)) (pw_and1 (pt_cmp (pc_dnotin hu (pv 6) (pv 2)) rfl)))) (pss_cons (ps_dput hu (pv 2) (pv 6) (pe_op op_add (pe_dget hu (pv 2) (pv 4) (fun _ _ => rfl)) pe_int) rfl) (pss_one (ps_expr (pe_bm PySem.F.plainAttrs_list PySem.F.slot_list_append PySem.F.type_list_append mt_append (pv 3) (pa_cons (pv 6) pa_nil))))) pss_nil)))))) (pss_one (ps_retF (pv 2)))))), by walk_at "sim", ?h⟩
  intro ds m Qd hz h
  obtain ⟨ls, it, b, rfl, hl, q⟩ := h
  refine ⟨kS b, rfl, fun a ha => ?_⟩
  refine ⟨_, rfl, (by decide : 1 ≤ sizeLine), fun c hc => ?_⟩
  have hac : a ≠ c := fun e => by
    rw [← e, Mu.set_same] at hc
    cases hc
  have hc0 : m.c c = none := by
    rw [Mu.set_ne hac.symm] at hc
    exact hc
  have ca : ∀ X Y, ((m.set a X).set c Y).c a = some X := fun X Y => by rw [Mu.set_ne hac, Mu.set_same]
  have cc : ∀ X Y, ((m.set a X).set c Y).c c = some Y := fun X Y => Mu.set_same
  have sa : ∀ X Y Z, ((m.set a X).set c Y).set a Z = (m.set a Z).set c Y := fun X Y Z => by rw [Mu.set_comm hac.symm, Mu.set_set]
  have sc2 : ∀ X Y Z, ((m.set a X).set c Y).set c Z = (m.set a X).set c Z := fun X Y Z => Mu.set_set
  have start : Bq ls it b [(b, 0)] [b] (fun _ => False) := {
    nd := by simp [keyL]
    z := List.mem_cons_self
    st := fun x hx => by
      rw [List.mem_singleton.mp hx]
      exact .inl ⟨rfl, rfl⟩
    cl := fun t ht => by
      simp only [keyL, List.map_cons, List.map_nil, List.mem_singleton] at ht
      exact .inl (by rw [ht]; exact List.mem_cons_self)
    qk := fun t ht => by
      rw [List.mem_singleton.mp ht]
      simp [keyL]
    bd := fun x hx => by
      rw [List.mem_singleton.mp hx]
      exact Nat.zero_lt_one }
  refine ⟨fun n δ' m' => ∃ ks qu, m' = (m.set a (.dK (ks.map lenD))).set c (.lst (qu.map D.str)) ∧ (∃ x y z w, δ' = [some (.lst (ls.map (enD it))), some (.str b), some (.ref a), some (.ref c), x, y, z, w]) ∧ Bq ls it b ks qu (fun _ => False) ∧ n = 2 * (ls.length + 1 - ks.length) + qu.length ∧ n ≤ 2 * (ls.length + 1),
    ⟨_, [(b, 0)], [b], rfl, ⟨_, _, _, _, rfl⟩, start, rfl, by simp; omega⟩, fun n δ' m' h => ?_⟩
  obtain ⟨ks, qu, rfl, ⟨x, y, z, w0, rfl⟩, bq, en, nb⟩ := h
  refine ⟨_, rfl, _, .inr (.inr (.inr ⟨_, .inl (.inr (.inr ⟨c, rfl, cc _ _⟩)), rfl⟩)), ?_⟩
  cases qu with
  | nil =>
    refine ⟨_, rfl, a, _, rfl, ca _ _, ((L3.Sub.refl.set ha).set hc0).del ha, q ks ⟨bq.nd, bq.z, bq.st, fun t ht => ?_, bq.bd, bq.len⟩⟩
    rcases bq.cl t ht with h | h | h
    · cases h
    · exact h.elim
    · exact h
  | cons here qu =>
    refine ⟨_, rfl, ⟨_, .inr (.inr ⟨c, rfl, cc _ _⟩)⟩, c, _, 0, 0, .str here, rfl, rfl, cc _ _, by decide, by decide, ?_, rfl, ?_⟩
    · unfold seqIndex?
      rw [List.length_map, List.length_cons]
      simp
    rw [sc2]
    obtain ⟨⟨h0, nh⟩, hhm, hhe⟩ := List.mem_map.mp (bq.qk here List.mem_cons_self)
    have hhe : h0 = here := hhe
    subst hhe
    refine ⟨_, rfl, _, .inl rfl, ?_⟩
    have bq1 : Bq ls it b ks qu (fun t => t = h0) := { bq with
      cl := fun t ht => by
        rcases bq.cl t ht with h | h | h
        · rcases List.mem_cons.mp h with h | h
          · exact .inr (.inl h)
          · exact .inl h
        · exact h.elim
        · exact .inr (.inr h)
      qk := fun t ht => bq.qk t (List.mem_cons_of_mem _ ht) }
    refine forX (enD it) ls (fun i δ' m' => ∃ ks2 qu2, m' = (m.set a (.dK (ks2.map lenD))).set c (.lst (qu2.map D.str)) ∧ (∃ y z w, δ' = [some (.lst (ls.map (enD it))), some (.str b), some (.ref a), some (.ref c), some (.str h0), y, z, w]) ∧ Bq ls it b ks2 qu2 (fun t => t = h0) ∧ (h0, nh) ∈ ks2 ∧
        (∀ p ∈ ls.take i, it p.2 = h0 → it p.1 ∈ keyL ks2) ∧ 2 * (ls.length + 1 - ks2.length) + qu2.length < n)
      ⟨ks, qu, rfl, ⟨_, _, _, rfl⟩, bq1, hhm, by simp, ?_⟩ (fun i δ' m' h => .inl rfl) (fun i p δ' m' hp h => ?_) fun δ' m' h => ?_
    · rw [en, List.length_cons]
      omega
    · obtain ⟨ks2, qu2, rfl, ⟨y2, z2, w2, rfl⟩, b2, hn2, hc2, lt2⟩ := h
      have hpm := List.mem_of_getElem? hp
      have skip : (it p.2 = h0 → it p.1 ∈ keyL ks2) → ∀ x ∈ ls.take (i + 1), it x.2 = h0 → it x.1 ∈ keyL ks2 := fun hs x hx e => by
        rw [take_next hp] at hx
        rcases List.mem_append.mp hx with hx | hx
        · exact hc2 x hx e
        · rw [List.mem_singleton.mp hx] at e ⊢
          exact hs e
      refine ⟨_, rfl, rfl, _, _, rfl, _, _, rfl, _, _, rfl, rfl, _, rfl, _, rfl, _, rfl, _, rfl, iteB (fun h1 => ?_) fun h1 => ?_⟩
      · have e1 : it p.2 = h0 := of_decide_eq_true h1
        refine ⟨_, rfl, _, rfl, _, .inl ⟨_, kS (it p.1), .inr ⟨a, rfl, ca _ _⟩, rfl, rfl⟩, _, rfl, ?_⟩
        by_cases hk : it p.1 ∈ keyL ks2
        · obtain ⟨⟨s0, n0⟩, hs0, es0⟩ := List.mem_map.mp hk
          have es0 : s0 = it p.1 := es0
          subst es0
          rw [getD_len b2.nd hs0]
          exact ⟨ks2, qu2, rfl, ⟨_, _, _, rfl⟩, b2, hn2, skip fun _ => hk, lt2⟩
        · rw [getD_len_none hk]
          have b3 := b2.put hn2 ⟨p, hpm, rfl, e1⟩ hk
          have l3 := b3.len
          rw [List.length_append, List.length_singleton] at l3
          refine ⟨_, rfl, _, rfl, _, .inl ⟨_, kS h0, .inr ⟨a, rfl, ca _ _⟩, rfl, (getD_len b2.nd hn2).symm⟩, _, _, rfl, rfl, _, rfl, _, rfl, a, rfl, .inl ⟨_, kS (it p.1), ca _ _, rfl, ?_, ?_⟩⟩
          · rw [List.length_map]
            exact Nat.lt_of_le_of_lt (show ks2.length ≤ 10000 by omega) (by decide)
          · rw [sa, setD_new (getD_len_none hk)]
            refine ⟨_, rfl, ⟨_, .inr (.inr ⟨c, rfl, cc _ _⟩)⟩, _, rfl, c, _, _, rfl, rfl, cc _ _, ?_, ?_⟩
            · rw [List.length_map]
              have : qu2.length < n := by omega
              exact Nat.lt_of_lt_of_le (show qu2.length < 20000 by omega) (by decide)
            · rw [sc2]
              refine ⟨ks2 ++ [(it p.1, nh + 1)], qu2 ++ [it p.1], ?_, ⟨_, _, _, rfl⟩, b3, List.mem_append_left _ hn2, ?_, ?_⟩
              · rw [List.map_append, List.map_append]
                rfl
              · intro x hx e
                unfold keyL
                rw [List.map_append]
                rw [take_next hp] at hx
                rcases List.mem_append.mp hx with hx | hx
                · exact List.mem_append_left _ (hc2 x hx e)
                · rw [List.mem_singleton.mp hx]
                  exact List.mem_append_right _ (by simp)
              · rw [List.length_append, List.length_append, List.length_singleton, List.length_singleton]
                omega
      · exact ⟨ks2, qu2, rfl, ⟨_, _, _, rfl⟩, b2, hn2, skip fun e => absurd e (of_decide_eq_false h1), lt2⟩
    · obtain ⟨ks2, qu2, rfl, ⟨y2, z2, w2, rfl⟩, b2, hn2, hc2, lt2⟩ := h
      rw [List.take_length] at hc2
      refine ⟨_, lt2, ks2, qu2, rfl, ⟨_, _, _, _, rfl⟩, { b2 with cl := fun t ht => ?_ }, rfl, by omega⟩
      rcases b2.cl t ht with h | h | h
      · exact .inl h
      · refine .inr (.inr fun s ⟨p, hp, e1, e2⟩ => ?_)
        rw [← e1]
        exact hc2 p hp (e2.trans h)
      · exact .inr (.inr h)
end F_lengths_to
namespace F_first_way
abbrev sDef : Stmt := top 22
abbrev sN : List Str := ["ends", "worse", "better", "lengths", "left", "_", "begin", "end", "way", "here", "link"]
abbrev sP : List Str := ["ends", "worse", "better"]
theorem sc : FnScope sN sP (defScope sDef) := ⟨rfl, rfl, rfl, by decide +kernel, rfl, by decide +kernel, by decide +kernel⟩
open F_ends_of F_lengths_to
def kn (ks : Kt) (s : Str) : Nat := ((ks.find? fun x => decide (x.1 = s)).map Prod.snd).getD 0
theorem kn_mem {ks : Kt} {s : Str} (h : s ∈ keyL ks) : (s, kn ks s) ∈ ks := by
  induction ks with
  | nil => cases h
  | cons y ys ih =>
    unfold kn
    rw [List.find?_cons]
    by_cases e : y.1 = s
    · rw [decide_eq_true e, ← e]
      exact List.mem_cons_self
    · rw [decide_eq_false e]
      unfold keyL at h ih
      rw [List.map_cons] at h
      rcases List.mem_cons.mp h with h | h
      · exact absurd h.symm e
      · exact List.mem_cons_of_mem _ (ih h)
theorem lens_tc {ls : List (Nat × Nat)} {it : Nat → Str} {b : Str} {ks : Kt} (h : Lens ls it b ks) : ∀ (n : Nat) (s : Str), (s, n) ∈ ks → s = b ∨ Tc (Ed ls it) s b
  | 0, s, hs => by
    rcases h.st _ hs with ⟨_, e⟩ | ⟨t, k, e, _⟩
    · exact .inl e
    · cases e
  | n + 1, s, hs => by
    rcases h.st _ hs with ⟨e, _⟩ | ⟨t, k, e, e1, e2⟩
    · cases e
    · have : n = k := by
        have e : n + 1 = k + 1 := e
        omega
      subst this
      rcases lens_tc h n t e2 with h1 | h1
      · exact .inr (.one (h1 ▸ e1))
      · exact .inr (.cons e1 h1)
theorem tc_lens {ls : List (Nat × Nat)} {it : Nat → Str} {b : Str} {ks : Kt} (h : Lens ls it b ks) {s t : Str} (k : Tc (Ed ls it) s t) (ht : t ∈ keyL ks) : s ∈ keyL ks := by
  induction k with
  | one e => exact h.cl _ ht _ e
  | cons e _ ih => exact h.cl _ (ih ht) _ e
theorem lens_iff {ls : List (Nat × Nat)} {it : Nat → Str} {b : Str} {ks : Kt} (h : Lens ls it b ks) {x : Str} : (∃ p ∈ ls, it p.1 = x ∧ it p.2 ∈ keyL ks) ↔ Tc (Ed ls it) x b := by
  refine ⟨fun ⟨p, hp, e1, e2⟩ => ?_, fun k => ?_⟩
  · rcases lens_tc h _ _ (kn_mem e2) with h1 | h1
    · exact .one ⟨p, hp, e1, h1⟩
    · exact .cons ⟨p, hp, e1, rfl⟩ h1
  · have hb : b ∈ keyL ks := List.mem_map.mpr ⟨_, h.z, rfl⟩
    cases k with
    | one e =>
      obtain ⟨p, hp, e1, e2⟩ := e
      exact ⟨p, hp, e1, e2.symm ▸ hb⟩
    | cons e k =>
      obtain ⟨p, hp, e1, e2⟩ := e
      exact ⟨p, hp, e1, e2.symm ▸ tc_lens h k hb⟩
theorem ls_cell {a : Addr} {m : Mu} {xs : List D} (h : m.c a = some (.lst xs)) : LsD m (.ref a) xs := .inr (.inr ⟨a, rfl, h⟩)
def S : SD := fun ds m Q => ∃ (ls : List (Nat × Nat)) (it : Nat → Str) (x b : Str), ds = [.lst (ls.map (enD it)), .str x, .str b] ∧ ls.length ≤ 3000 ∧ (¬ Tc (Ed ls it) x b → Q .non) ∧ (Tc (Ed ls it) x b → ∀ way : List (Nat × Nat), (∀ p ∈ way, p ∈ ls) → way.length ≤ 4000 → Q (.lst (way.map prD)))
theorem ok {P : Program} {w : World} {K : Fg} {mg : Str → Option Value} {base : Heap} {CL CD CS CU GS f : Addr} {fd : FuncData} (F : FnP K "first_way" "first_way" sDef f fd) (T : Txt K mg CL CD CS CU GS) (hlengths_to : Cal P w K mg base 1 "lengths_to" ["ends", "better"] (spP K (F_lengths_to.S))) : FnOk P w K mg base CX0 2 f fd sP (spP K (S)) := by
  refine okP F sc (fun ds m Qd h => ?_) fun cdv A outer s H E hr => ?_
  · obtain ⟨ls, it, w0, b, rfl, hl, q0, q1⟩ := h
    rfl
  have hu := hu_of hr
  refine ⟨_, _, (pss_cons (ps_set (i := 3) sc.nd rfl (Or.inr rfl) (pe_cal hlengths_to hr (by decide) rfl (pa_cons (pv 0) (pa_cons (pv 2) pa_nil)))) (pss_cons (ps_set (i := 4) sc.nd rfl (Or.inr rfl) (pe_callBK (kMinDf (K := K) (by rfl) (by rfl) hu) rfl T.n_min (by decide +kernel) (pa_cons (pe_lc (own := [("_", 5), ("begin", 6), ("end", 7)]) rfl sc.nd (kList (K := K) (by rfl) (pv 0)) (blkOk_by (N := sN) (sc := defScope sDef) (by decide +kernel)) (fun _ _ _ _ _ => (kTup (K := K) (n := 3) (by rfl) rfl (pgs_cons (pg_name (i := 5) sc.nd rfl (by first | exact Or.inl rfl | exact Or.inr rfl)) (pgs_cons (pg_name (i := 6) sc.nd rfl (by first | exact Or.inl rfl | exact Or.inr rfl)) (pgs_cons (pg_name (i := 7) sc.nd rfl (by first | exact Or.inl rfl | exact Or.inr rfl)) pgs_nil))))) (fun _ _ _ _ _ => pts_one (PW.pt (pw_and (pt_cmpR op_eq (pv 6) (pv 1) (by rfl)) (pw_and1 (pt_cmp (pc_din hu (pv 7) (pv 3)) rfl))))) (fun _ _ _ _ _ => (pe_dget hu (pv 3) (pv 7) (fun _ _ => rfl)))) pa_nil) (pk_cons pe_non pk_nil))) (pss_cons (ps_if (pt_cmpR op_isN (pv 4) pe_non (by rfl)) (pss_one (ps_ret pe_non)) pss_nil) (pss_cons (ps_set (i := 8) sc.nd rfl (Or.inl rfl) (pe_lstM pa_nil)) (pss_cons (ps_set (i := 9) sc.nd rfl (Or.inr rfl) (pv 1)) (pss_cons (ps_while PassesOwn.never (pt_cmpR op_ge (pv 4) pe_int (by rfl)) (pss_cons (ps_asg (pe_ix (kIx (K := K) (by rfl)) (pe_lc (own := [("link", 10), ("begin", 6), ("end", 7)]) rfl sc.nd (kList (K := K) (by rfl) (pv 0)) (blkOk_by (N := sN) (sc := defScope sDef) (by decide +kernel)) (fun _ _ _ _ _ => (kTup (K := K) (n := 3) (by rfl) rfl (pgs_cons (pg_name (i := 10) sc.nd rfl (by first | exact Or.inl rfl | exact Or.inr rfl)) (pgs_cons (pg_name (i := 6) sc.nd rfl (by first | exact Or.inl rfl | exact Or.inr rfl)) (pgs_cons (pg_name (i := 7) sc.nd rfl (by first | exact Or.inl rfl | exact Or.inr rfl)) pgs_nil))))) (fun _ _ _ _ _ => pts_one (PW.pt (pw_and (pt_cmpR op_eq (pv 6) (pv 9) (by rfl)) (pw_and1 (pt_cmpR op_eq (pe_dget1 hu (pv 3) (pv 7) ⟨rfl, rfl, rfl, rfl⟩) (pv 4) (by rfl)))))) (fun _ _ _ _ _ => (pe_tup (pa_cons (pv 10) (pa_cons (pv 7) pa_nil))))) pe_int (fun _ _ => rfl)) (kTup (K := K) (n := 2) (by rfl) rfl (pgs_cons (pg_name (i := 10) sc.nd rfl (by first | exact Or.inl rfl | exact Or.inr rfl)) (pgs_cons (pg_name (i := 9) sc.nd rfl (by first | exact Or.inl rfl | exact Or.inr rfl)) pgs_nil)))) (pss_cons (ps_expr (pe_bm PySem.F.plainAttrs_list PySem.F.slot_list_append PySem.F.type_list_append mt_append (pv 8) (pa_cons (pv 10) pa_nil))) (pss_one (ps_aug (i := 4) sc.nd rfl (Or.inr rfl) pe_int ip_sub))))) (pss_one (ps_retF (pv 8))))))))), by walk_at "sim", ?h⟩
  intro ds m Qd hz h
  obtain ⟨ls, it, w0, b, rfl, hl, q0, q1⟩ := h
  refine ⟨_, rfl, _, rfl, hz, ls, it, b, rfl, hl, fun ks hk => ?_⟩
  have hin : ∀ s, getD (ks.map lenD) (kS s) = if s ∈ keyL ks then some (iD (kn ks s)) else none := fun s => by
    by_cases e : s ∈ keyL ks
    · rw [if_pos e]
      exact getD_len hk.nd (kn_mem e)
    · rw [if_neg e]
      exact getD_len_none e
  refine ⟨_, rfl, _, .inl rfl, lcFM (enD it) ls (fun p => decide (it p.1 = w0) && decide (it p.2 ∈ keyL ks)) (fun p => iD (kn ks (it p.2))) (.inl rfl) (sz (by omega)) (fun p hp Ny Nn y n => ?_) ?_⟩
  · refine ⟨_, rfl, rfl, _, _, rfl, _, _, rfl, _, _, rfl, rfl, _, rfl, _, rfl, _, rfl, _, rfl, iteB (fun h1 => ?_) fun h1 => ?_⟩
    · rw [show decide (it p.1 = w0) = true from h1, Bool.true_and] at y n
      refine ⟨_, rfl, _, rfl, _, .inl ⟨_, kS (it p.2), .inl rfl, rfl, rfl⟩, _, rfl, ?_⟩
      by_cases e : it p.2 ∈ keyL ks
      · rw [hin, if_pos e]
        exact ⟨_, rfl, _, rfl, _, .inl ⟨_, kS (it p.2), .inl rfl, rfl, (getD_len hk.nd (kn_mem e)).symm⟩, y (decide_eq_true e)⟩
      · rw [hin, if_neg e]
        exact n (decide_eq_false e)
    · rw [show decide (it p.1 = w0) = false from h1, Bool.false_and] at n
      exact n rfl
  refine goMinDf ((ls.filter fun p => decide (it p.1 = w0) && decide (it p.2 ∈ keyL ks)).map fun p => ((kn ks (it p.2) : Nat) : Int)) (fun d => (d = .non ∧ ¬ Tc (Ed ls it) w0 b) ∨ ∃ n, d = iD n ∧ n ≤ 3001 ∧ Tc (Ed ls it) w0 b ∧ ∃ p ∈ ls, it p.1 = w0 ∧ (it p.2, n) ∈ ks) (.inl (by rw [List.map_map]; rfl)) (fun e => ?_) (fun x hx hm => ?_) fun d hd => ?_
  · refine .inl ⟨rfl, fun k => ?_⟩
    obtain ⟨p, hp, e1, e2⟩ := (lens_iff hk).mpr k
    have : p ∈ ls.filter fun p => decide (it p.1 = w0) && decide (it p.2 ∈ keyL ks) := List.mem_filter.mpr ⟨hp, by rw [decide_eq_true e1, decide_eq_true e2]; rfl⟩
    rw [List.map_eq_nil_iff.mp e] at this
    cases this
  · obtain ⟨p, hp, rfl⟩ := List.mem_map.mp hx
    obtain ⟨hp, e⟩ := List.mem_filter.mp hp
    rw [Bool.and_eq_true, decide_eq_true_eq, decide_eq_true_eq] at e
    have hb := hk.bd _ (kn_mem e.2)
    have hb : kn ks (it p.2) < ks.length := hb
    have hln := hk.ln
    exact .inr ⟨_, rfl, by omega, (lens_iff hk).mp ⟨p, hp, e.1, e.2⟩, p, hp, e.1, kn_mem e.2⟩
  rcases hd with ⟨rfl, no⟩ | ⟨n0, rfl, hn0, yes, hp0⟩
  · exact ⟨_, rfl, rfl, _, rfl, .refl, q0 no⟩
  refine ⟨_, rfl, rfl, _, rfl, (by decide : 0 ≤ sizeLine), fun a ha => ⟨_, rfl, ?_⟩⟩
  refine ⟨fun k δ' m' => ∃ (way : List (Nat × Nat)) (h : Str), m' = m.set a (.lst (way.map prD)) ∧ (∃ x y z u, δ' = [some (.lst (ls.map (enD it))), some (.str w0), some (.str b), some (.dic (ks.map lenD)), some (.int ((k : Nat) - 1 : Int)), x, y, z, some (.ref a), some (.str h), u]) ∧ (∀ p ∈ way, p ∈ ls) ∧ way.length + k ≤ 3002 ∧ (∀ j, k = j + 1 → ∃ p ∈ ls, it p.1 = h ∧ (it p.2, j) ∈ ks),
    ⟨n0 + 1, [], w0, rfl, ⟨none, none, none, none, ?_⟩, (fun p hp => by cases hp), by simp; omega, fun j e => ?_⟩, fun k δ' m' h => ?_⟩
  · have e : (((n0 + 1 : Nat) : Int) - 1) = (n0 : Nat) := by omega
    rw [e]
    rfl
  · have : n0 = j := by omega
    exact this ▸ hp0
  obtain ⟨way, h, rfl, ⟨x, y, z, u, rfl⟩, hw, hlen, hst⟩ := h
  refine ⟨_, rfl, _, _, rfl, rfl, _, rfl, iteB (fun h1 => ?_) fun h1 => ?_⟩
  · obtain ⟨j, rfl⟩ : ∃ j, k = j + 1 := ⟨k - 1, by
      have := of_decide_eq_true h1
      omega⟩
    have ej : (((j + 1 : Nat) : Int) - 1) = (j : Nat) := by omega
    obtain ⟨p0, hp0, e1, e2⟩ := hst j rfl
    refine ⟨_, rfl, _, .inl rfl, lcFM (enD it) ls (fun p => decide (it p.1 = h) && (decide (it p.2 ∈ keyL ks) && decide (kn ks (it p.2) = j))) (fun p => .tup [prD p, .str (it p.2)]) (.inl rfl) (sz (by omega)) (fun p hp Ny Nn y n => ?_) ?_⟩
    · refine ⟨_, rfl, rfl, _, _, rfl, _, _, rfl, _, _, rfl, rfl, _, rfl, _, rfl, _, rfl, _, rfl, iteB (fun h1 => ?_) fun h1 => ?_⟩
      · rw [show decide (it p.1 = h) = true from h1, Bool.true_and] at y n
        refine ⟨_, rfl, .inl ⟨_, .inl rfl⟩, _, rfl, _, .inl ⟨_, kS (it p.2), .inl rfl, rfl, rfl⟩, _, rfl, ?_⟩
        by_cases e : it p.2 ∈ keyL ks
        · rw [hin, if_pos e]
          rw [decide_eq_true e, Bool.true_and] at y n
          refine ⟨_, rfl, _, rfl, iteB (fun h2 => ⟨_, rfl, _, rfl, (by decide : 2 ≤ sizeLine), y (decUp h2 (by omega))⟩) fun h2 => n (decUp h2 (by omega))⟩
        · rw [hin, if_neg e]
          rw [decide_eq_false e, Bool.false_and] at n
          exact ⟨false, rfl, _, rfl, n rfl⟩
      · rw [show decide (it p.1 = h) = false from h1, Bool.false_and] at n
        exact n rfl
    · have hne : p0 ∈ ls.filter (fun p => decide (it p.1 = h) && (decide (it p.2 ∈ keyL ks) && decide (kn ks (it p.2) = j))) := List.mem_filter.mpr ⟨hp0, by
        have hk2 : it p0.2 ∈ keyL ks := List.mem_map.mpr ⟨_, e2, rfl⟩
        have e3 := getD_len hk.nd e2
        rw [getD_len hk.nd (kn_mem hk2)] at e3
        have e4 : ((kn ks (it p0.2) : Nat) : Int) = (j : Nat) := D.int.inj (Option.some.inj e3)
        rw [decide_eq_true e1, decide_eq_true hk2, decide_eq_true (show kn ks (it p0.2) = j by omega)]
        rfl⟩
      cases hf : ls.filter (fun p => decide (it p.1 = h) && (decide (it p.2 ∈ keyL ks) && decide (kn ks (it p.2) = j))) with
      | nil =>
        rw [hf] at hne
        cases hne
      | cons q rest =>
        have hq : q ∈ ls.filter (fun p => decide (it p.1 = h) && (decide (it p.2 ∈ keyL ks) && decide (kn ks (it p.2) = j))) := by
          rw [hf]
          exact List.mem_cons_self
        obtain ⟨hq, eq⟩ := List.mem_filter.mp hq
        rw [Bool.and_eq_true, Bool.and_eq_true, decide_eq_true_eq, decide_eq_true_eq, decide_eq_true_eq] at eq
        obtain ⟨q1', q2', q3'⟩ := eq
        refine ⟨_, _, _, .inl (.inl rfl), rfl, at_zero, _, rfl, rfl, _, _, rfl, _, _, rfl, rfl, ?_⟩
        refine ⟨_, rfl, ⟨_, ls_cell Mu.set_same⟩, _, rfl, a, _, _, rfl, rfl, Mu.set_same, ?_, ?_⟩
        · rw [List.length_map]
          exact Nat.lt_of_le_of_lt (show way.length ≤ 10000 by omega) (by decide)
        · refine ⟨_, rfl, _, _, rfl, rfl, j, Nat.lt_succ_self _, way ++ [q], it q.2, ?_, ⟨x, y, z, some (prD q), ?_⟩, ?_, ?_, fun i ei => ?_⟩
          · rw [Mu.set_set, List.map_append]
            rfl
          · rw [ej]
            rfl
          · intro p hp
            rcases List.mem_append.mp hp with hp | hp
            · exact hw p hp
            · rw [List.mem_singleton.mp hp]
              exact hq
          · rw [List.length_append, List.length_singleton]
            omega
          · have e5 := kn_mem q2'
            rw [q3', ei] at e5
            rcases hk.st _ e5 with ⟨e6, _⟩ | ⟨t, k, e6, e7, e8⟩
            · cases e6
            · obtain ⟨p, hp, e9, e10⟩ := e7
              have : i = k := by
                have e6 : i + 1 = k + 1 := e6
                omega
              subst this
              exact ⟨p, hp, e9, e10.symm ▸ e8⟩
  · have : k = 0 := by
      have := of_decide_eq_false h1
      omega
    subst this
    refine ⟨_, rfl, a, _, rfl, Mu.set_same, ?_, q1 yes way hw (by omega)⟩
    rw [Mu.del_set ha]
    exact .refl
end F_first_way
namespace F_ring_of
abbrev sDef : Stmt := top 27
abbrev sN : List Str := ["log", "ends", "rings", "item", "found", "ring"]
abbrev sP : List Str := ["log"]
theorem sc : FnScope sN sP (defScope sDef) := ⟨rfl, rfl, rfl, by decide +kernel, rfl, by decide +kernel, by decide +kernel⟩
open F_ends_of F_lengths_to
theorem ed_E {L : LogD} {ls : List (Nat × Nat)} (h : F_links_of.Lks L ls) : Ed ls (fun k => (L.at k).i) = L.E := by
  funext x y
  refine propext ⟨fun ⟨p, hp, e⟩ => ⟨p, (h.2 p).mp hp, e⟩, fun ⟨p, hp, e⟩ => ⟨p, (h.2 p).mpr hp, e⟩⟩
abbrev Way := List (Nat × Nat)
def oD : Option Way → D
  | none => .non
  | some w => .lst (w.map prD)
def tD (o : Option Way) : D := .tup [.int ((o.getD []).length : Nat), oD o]
theorem alike_way : ∀ a b : Way, PySem.W.alikeAll ((a.map prD).map pd) ((b.map prD).map pd) = true
  | [], _ => by simp [PySem.W.alikeAll]
  | _ :: _, [] => by simp [PySem.W.alikeAll]
  | x :: a, y :: b => by
    rw [List.map_cons, List.map_cons, List.map_cons, List.map_cons, PySem.W.alikeAll, alike_way a b]
    simp [prD, pd, pds, PySem.W.alike, PySem.W.alikeAll]
theorem sD_way (w : Way) : sD 2 (.lst (w.map prD)) = true := sD_lst fun p _ => by simp [prD, sD]
def S (CL : Addr) : SD := fun ds m Q => ∃ (L : LogD), ds = [logD CL L] ∧ LogOk L ∧ (¬ L.Ring → Q .non) ∧ (L.Ring → ∀ way : List (Nat × Nat), (∀ p ∈ way, L.Link p) → way.length ≤ 4000 → Q (.lst (way.map prD)))
theorem ok {P : Program} {w : World} {K : Fg} {mg : Str → Option Value} {base : Heap} {CL CD CS CU GS f : Addr} {fd : FuncData} (F : FnP K "ring_of" "ring_of" sDef f fd) (T : Txt K mg CL CD CS CU GS) (hends_of_links : Cal P w K mg base 8 "ends_of_links" ["log"] (spP K (F_ends_of.S CL))) (hLog_item_names : CalP P w K mg base CL 1 "item_names" (spP K (F_Log_item_names.S CL))) (hfirst_way : Cal P w K mg base 2 "first_way" ["ends", "worse", "better"] (spP K (F_first_way.S))) : FnOk P w K mg base CX0 9 f fd sP (spP K (S CL)) := by
  refine okP F sc (fun ds m Qd h => ?_) fun cdv A outer s H E hr => ?_
  · obtain ⟨L, rfl, ok, q0, q1⟩ := h
    rfl
  have hu := hu_of hr
  refine ⟨_, _, (pss_cons (ps_set (i := 1) sc.nd rfl (Or.inr rfl) (pe_cal hends_of_links hr (by decide) rfl (pa_cons (pv 0) pa_nil))) (pss_cons (ps_setLc (i := 2) (own := [("item", 3)]) rfl sc.nd rfl rfl (sw_true rfl rfl rfl (by decide +kernel)) (kList (K := K) (by rfl) (pe_calP hLog_item_names T.cLog hr (by decide) (pv 0))) (blkOk_by (N := sN) (sc := defScope sDef) (by decide +kernel)) (fun _ _ _ _ _ => (pg_name (i := 3) sc.nd rfl (by first | exact Or.inl rfl | exact Or.inr rfl))) (fun _ _ _ _ _ => pts_nil) (fun _ _ _ _ _ => (pe_cal hfirst_way hr (by decide) rfl (pa_cons (pv 1) (pa_cons (pv 3) (pa_cons (pv 3) pa_nil)))))) (pss_cons (ps_set (i := 4) sc.nd rfl (Or.inl rfl) (pe_callB (kSortR (K := K) (by rfl) hr.units) (by rfl) T.n_sorted (by decide +kernel) (pa_cons (pe_lc (own := [("ring", 5)]) rfl sc.nd (kList (K := K) (by rfl) (pv 2)) (blkOk_by (N := sN) (sc := defScope sDef) (by decide +kernel)) (fun _ _ _ _ _ => (pg_name (i := 5) sc.nd rfl (by first | exact Or.inl rfl | exact Or.inr rfl))) (fun _ _ _ _ _ => pts_one (pt_cmpR op_notN (pv 5) pe_non (by rfl))) (fun _ _ _ _ _ => (pe_tup (pa_cons (pe_callB (kLen (K := K) (by rfl)) (by rfl) T.n_len PySem.boot_len (pa_cons (pv 5) pa_nil)) (pa_cons (pv 5) pa_nil))))) pa_nil))) (pss_one (ps_ret (pe_ifExp (kTru (K := K) (by rfl) (pv 4) (by intro _; rfl)) (pe_ix (kIx (K := K) (by rfl)) (pe_ix (kIx (K := K) (by rfl)) (pv 4) pe_int (fun _ _ => rfl)) pe_int (fun _ _ => rfl)) pe_non)))))), by walk_at "sim", ?h⟩
  intro ds m Qd hz h
  obtain ⟨L, rfl, ok, q0, q1⟩ := h
  refine ⟨_, rfl, hz, L, rfl, ok, fun ls hls => ?_⟩
  have i5 := ok.it.max
  have l3 := hls.1
  refine ⟨_, rfl, _, .inl rfl, hz, L, rfl, _, .inl rfl, ?_⟩
  refine lcRel D.str L.items (fun x (o : Option Way) => (o = none ∧ ¬ Tc L.E x x) ∨ ∃ w, o = some w ∧ Tc L.E x x ∧ (∀ p ∈ w, L.Link p) ∧ w.length ≤ 4000) oD (.inl rfl) (sz (by omega)) (fun x hx Ny Nn y => ?_) fun os hos => ?_
  · refine ⟨_, rfl, _, rfl, _, rfl, hz, ls, _, x, x, rfl, l3, ?_, ?_⟩
    · rw [ed_E hls]
      exact fun h => y none (.inl ⟨rfl, h⟩)
    · rw [ed_E hls]
      exact fun h way hw hl => y (some way) (.inr ⟨way, rfl, h, fun p hp => (hls.2 p).mp (hw p hp), hl⟩)
  have osl := hos.length
  refine ⟨_, rfl, _, .inl rfl, lcFM oD os Option.isSome tD (.inl rfl) (sz (by omega)) (fun o ho Ny Nn y n => ?_) ?_⟩
  · cases o with
    | none => exact ⟨_, rfl, rfl, _, rfl, n rfl⟩
    | some w => exact ⟨_, rfl, rfl, _, rfl, _, rfl, _, _, rfl, .inl ⟨_, .inl (.inl rfl), rfl⟩, _, rfl, (by decide : 2 ≤ sizeLine), (by rw [List.length_map]; exact y rfl)⟩
  have sd : ∀ d ∈ (os.filter Option.isSome).map tD, sD 3 d = true := fun d hd => by
    obtain ⟨o, ho, rfl⟩ := List.mem_map.mp hd
    cases o with
    | none => cases (List.mem_filter.mp ho).2
    | some w =>
      unfold tD sD
      rw [List.all_cons, List.all_cons, show sD 2 (oD (some w)) = true from sD_way w]
      simp [sD]
  refine ⟨_, _, rfl, .inl rfl, ?_, ?_, ?_, ?_, fun es pe => ?_⟩
  · rw [isDs_all]
    exact List.all_eq_true.mpr fun d hd => (sD_ok 3 d (sd d hd)).1
  · intro d hd d' hd'
    rw [pds_map] at hd hd'
    obtain ⟨c, hc, rfl⟩ := List.mem_map.mp hd
    obtain ⟨c', hc', rfl⟩ := List.mem_map.mp hd'
    obtain ⟨o, ho, rfl⟩ := List.mem_map.mp hc
    obtain ⟨o', ho', rfl⟩ := List.mem_map.mp hc'
    cases o with
    | none => cases (List.mem_filter.mp ho).2
    | some w =>
      cases o' with
      | none => cases (List.mem_filter.mp ho').2
      | some w' =>
        have aw := alike_way w w'
        rw [List.map_map, List.map_map] at aw
        simp [tD, oD, pd, pds, PySem.W.alike, PySem.W.alikeAll, pds_map, aw]
  · refine .inl fun d hd => ?_
    rw [pds_map] at hd
    obtain ⟨c, hc, rfl⟩ := List.mem_map.mp hd
    obtain ⟨o, ho, rfl⟩ := List.mem_map.mp hc
    exact ⟨_, _, rfl⟩
  · intro d hd
    rw [pds_map] at hd
    obtain ⟨c, hc, rfl⟩ := List.mem_map.mp hd
    exact Nat.le_trans (sD_ok 3 c (sd c hc)).2.2 (by decide)
  obtain ⟨ys, rfl, py⟩ := perm_back pe
  refine ⟨_, rfl, _, .inr (.inr (.inr ⟨_, .inl (.inl rfl), rfl⟩)), ?_⟩
  cases ys with
  | nil =>
    refine ⟨.refl, q0 fun ⟨x, hx, hr⟩ => ?_⟩
    obtain ⟨o, ho, h⟩ := hos.left hx
    rcases h with ⟨_, h⟩ | ⟨w, rfl, _⟩
    · exact h hr
    · have := py.mem_iff.mpr (List.mem_filter.mpr ⟨ho, rfl⟩)
      cases this
  | cons o ys =>
    have ho := List.mem_filter.mp (py.mem_iff.mp List.mem_cons_self)
    obtain ⟨x, hx, h⟩ := hos.right ho.1
    rcases h with ⟨rfl, _⟩ | ⟨w, rfl, h1, h2, h3⟩
    · cases ho.2
    · exact ⟨_, rfl, _, _, _, .inl (.inl rfl), rfl, at_zero, _, _, _, .inr rfl, rfl, rfl, .refl, q1 ⟨x, hx, h1⟩ w h2 h3⟩
end F_ring_of
namespace F_check_explained
abbrev sDef : Stmt := top 45
abbrev sN : List Str := ["log"]
abbrev sP : List Str := ["log"]
theorem sc : FnScope sN sP (defScope sDef) := ⟨rfl, rfl, rfl, by decide +kernel, rfl, by decide +kernel, by decide +kernel⟩
def S (CL : Addr) : SD := fun ds m Q => ∃ (L : LogD), ds = [logD CL L] ∧ LogOk L ∧ ¬ L.Ring ∧ Q .non
theorem ok {P : Program} {w : World} {K : Fg} {mg : Str → Option Value} {base : Heap} {CL CD CS CU GS f : Addr} {fd : FuncData} (F : FnP K "check_explained" "check_explained" sDef f fd) (T : Txt K mg CL CD CS CU GS) (hring_of : Cal P w K mg base 9 "ring_of" ["log"] (spP K (F_ring_of.S CL))) : FnOk P w K mg base CX0 10 f fd sP (spP K (S CL)) := by
  refine okP F sc (fun ds m Qd h => ?_) fun cdv A outer s H E hr => ?_
  · obtain ⟨L, rfl, ok, nr, q⟩ := h
    rfl
  have hu := hu_of hr
  refine ⟨_, _, (pss_one (ps_if (pt_cmpR op_notN (pe_cal hring_of hr (by decide) rfl (pa_cons (pv 0) pa_nil)) pe_non (by rfl)) (pss_one ps_never) pss_nil)), by walk_at "sim", ?h⟩
  intro ds m Qd hz h
  obtain ⟨L, rfl, ok, nr, q⟩ := h
  exact ⟨_, rfl, hz, L, rfl, ok, fun _ => ⟨rfl, _, rfl, .refl, q⟩, fun h => absurd h nr⟩
end F_check_explained
namespace F_together
abbrev sDef : Stmt := top 53
abbrev sN : List Str := ["logs", "whole", "known", "log", "pair"]
abbrev sP : List Str := ["logs"]
theorem sc : FnScope sN sP (defScope sDef) := ⟨rfl, rfl, rfl, by decide +kernel, rfl, by decide +kernel, by decide +kernel⟩
open F_pairs_of
def knw (Ls : List LogD) : List (Str × Str) := Ls.flatMap fun l => prs l.items l.up
theorem mem_prs {items : List Str} {up : Str → Str → Bool} {p : Str × Str} : p ∈ prs items up ↔ p.1 ∈ items ∧ p.2 ∈ items ∧ up p.1 p.2 = true := by
  unfold prs
  rw [List.mem_flatMap]
  refine ⟨fun ⟨a, h1, h2⟩ => ?_, fun ⟨h1, h2, h3⟩ => ⟨p.1, h1, List.mem_map.mpr ⟨p.2, List.mem_filter.mpr ⟨h2, h3⟩, rfl⟩⟩⟩
  obtain ⟨b, h3, rfl⟩ := List.mem_map.mp h2
  exact ⟨h1, (List.mem_filter.mp h3).1, (List.mem_filter.mp h3).2⟩
theorem prs_len {items : List Str} {up : Str → Str → Bool} (h : items.length ≤ 5) : (prs items up).length ≤ 25 := fm_len (k := 5) (n := 5) h fun x _ => by
  rw [List.length_map]
  exact Nat.le_trans (List.length_filter_le _ _) h
theorem sD_ss {items : List Str} (h : ∀ x ∈ items, nameB x = true) {up : Str → Str → Bool} {p : Str × Str} (hp : p ∈ prs items up) : sD 1 (ssD p) = true := by
  obtain ⟨h1, h2, _⟩ := mem_prs.mp hp
  have k1 := strOk_name (h _ h1)
  have k2 := strOk_name (h _ h2)
  simp [ssD, sD, k1, k2]
theorem ss_inj {p q : Str × Str} (h : ssD p = ssD q) : p = q := by
  unfold ssD at h
  simp only [D.tup.injEq, List.cons.injEq, D.str.injEq, and_true] at h
  exact Prod.ext h.1 h.2
theorem mem_ss {p : Str × Str} {xs : List (Str × Str)} : ssD p ∈ xs.map ssD ↔ p ∈ xs := by
  refine ⟨fun h => ?_, fun h => List.mem_map.mpr ⟨p, h, rfl⟩⟩
  obtain ⟨q, h1, h2⟩ := List.mem_map.mp h
  exact ss_inj h2 ▸ h1
def S (CL : Addr) : SD := fun ds m Q => ∃ (Ls : List LogD), ds = [.lst (Ls.map (logD CL))] ∧ Solo Ls ∧ ¬ (joinL Ls).Ring ∧ Q (.lst (((prs (joinL Ls).items (joinL Ls).up).filter fun p => decide (p ∉ knw Ls)).map ssD))
theorem ok {P : Program} {w : World} {K : Fg} {mg : Str → Option Value} {base : Heap} {CL CD CS CU GS f : Addr} {fd : FuncData} (F : FnP K "together" "together" sDef f fd) (T : Txt K mg CL CD CS CU GS) (hjoined : Cal P w K mg base 6 "joined" ["logs"] (spP K (F_joined.S CL))) (hcheck_explained : Cal P w K mg base 10 "check_explained" ["log"] (spP K (F_check_explained.S CL))) (hpairs_of : Cal P w K mg base 11 "pairs_of" ["log"] (spP K (F_pairs_of.S CL))) : FnOk P w K mg base CX0 12 f fd sP (spP K (S CL)) := by
  refine okP F sc (fun ds m Qd h => ?_) fun cdv A outer s H E hr => ?_
  · obtain ⟨Ls, rfl, so, nr, q⟩ := h
    rfl
  have hu := hu_of hr
  refine ⟨_, _, (pss_cons (ps_set (i := 1) sc.nd rfl (Or.inl rfl) (pe_cal hjoined hr (by decide) rfl (pa_cons (pv 0) pa_nil))) (pss_cons (ps_expr (pe_cal hcheck_explained hr (by decide) rfl (pa_cons (pv 1) pa_nil))) (pss_cons (ps_set (i := 2) sc.nd rfl (Or.inr rfl) (pe_lc2 (own := [("log", 3), ("pair", 4)]) (vs1 := [4]) rfl sc.nd (kList (K := K) (by rfl) (pv 0)) (blkOk_by (N := sN) (sc := defScope sDef) (by decide +kernel)) (by decide) (fun _ _ _ _ _ => (pg_name (i := 3) sc.nd rfl (by first | exact Or.inl rfl | exact Or.inr rfl))) (fun _ _ _ _ _ => pts_nil) (fun _ _ _ _ _ => (kList (K := K) (by rfl) (pe_cal hpairs_of hr (by decide) rfl (pa_cons (pv 3) pa_nil)))) (fun _ _ _ _ _ => (pg_name (i := 4) sc.nd rfl (by first | exact Or.inl rfl | exact Or.inr rfl))) (fun _ _ _ _ _ => pts_nil) (fun _ _ _ _ _ => (pv 4)))) (pss_one (ps_ret (pe_lc (own := [("pair", 4)]) rfl sc.nd (kList (K := K) (by rfl) (pe_cal hpairs_of hr (by decide) rfl (pa_cons (pv 1) pa_nil))) (blkOk_by (N := sN) (sc := defScope sDef) (by decide +kernel)) (fun _ _ _ _ _ => (pg_name (i := 4) sc.nd rfl (by first | exact Or.inl rfl | exact Or.inr rfl))) (fun _ _ _ _ _ => pts_one (pt_cmpR (kNotInD (K := K) (by rfl) (hr65 hr)) (pv 4) (pv 2) (by rfl))) (fun _ _ _ _ _ => (pv 4)))))))), by walk_at "sim", ?h⟩
  intro ds m Qd hz h
  obtain ⟨Ls, rfl, so, nr, q⟩ := h
  have m3 := so.max
  have ok := so.join
  have i5 := ok.it.max
  refine ⟨_, rfl, hz, Ls, rfl, so, _, rfl, hz, joinL Ls, rfl, ok, nr, ?_⟩
  refine ⟨_, rfl, _, .inl rfl, lc2FM (logD CL) Ls (fun _ => ssD) (fun l => prs l.items l.up) (fun _ _ => true) (fun _ => ssD) (.inl rfl) (sz ?_) (fun l hl N Nn k => ?_) ?_⟩
  · exact Nat.le_trans (fm_len (k := 3) (n := 25) m3 fun l hl => prs_len (so.ok l hl).it.max) (by decide)
  · exact ⟨_, rfl, hz, l, rfl, so.ok l hl, _, .inl rfl, k _ _ (.inl rfl) fun p hp Ny Nz k1 k2 => ⟨_, rfl, k1 rfl⟩⟩
  · have ek : (Ls.flatMap fun l => ((prs l.items l.up).filter fun _ => true).map ssD) = (knw Ls).map ssD := by
      unfold knw
      rw [List.map_flatMap]
      have e : ∀ l : LogD, ((prs l.items l.up).filter fun _ => true) = prs l.items l.up := fun l => List.filter_eq_self.mpr fun _ _ => rfl
      simp only [e]
    rw [ek]
    refine ⟨_, rfl, hz, joinL Ls, rfl, ok, _, .inl rfl, lcFM ssD (prs (joinL Ls).items (joinL Ls).up) (fun p => decide (p ∉ knw Ls)) ssD (.inl rfl) (sz (Nat.le_trans (prs_len i5) (by decide))) (fun p hp Ny Nn k1 k2 => ?_) ⟨.refl, q⟩⟩
    refine ⟨_, rfl, _, rfl, goInD true 1 (by decide) (.inl rfl) (sD_ss ok.it.good hp) (fun d hd => ?_) fun b hb => ⟨_, rfl, ?_⟩⟩
    · obtain ⟨z, hz2, rfl⟩ := List.mem_map.mp hd
      obtain ⟨l, hl, hz3⟩ := List.mem_flatMap.mp hz2
      exact sD_ss (so.ok l hl).it.good hz3
    · rw [mem_ss] at hb
      cases b with
      | true => exact k2 (decide_eq_false fun h => h (hb.mp rfl))
      | false => exact ⟨_, rfl, k1 (decide_eq_true fun h => by cases hb.mpr h)⟩
end F_together
end RB
/-! Plain: the closure, the links by splits of the events, the offices of one judge each. -/
namespace RB
open PySem PySem.Spec PyProof.Rows L2 L3
abbrev wst (F : Str → Str → Bool) (m : Str) : Str → Str → Bool := fun a b => F a b || (F a m && F m b)
theorem wst_iff {F : Str → Str → Bool} {m a b : Str} : wst F m a b = true ↔ F a b = true ∨ (F a m = true ∧ F m b = true) := by
  show (F a b || (F a m && F m b)) = true ↔ _
  rw [Bool.or_eq_true, Bool.and_eq_true]
/-- F goes through m -/
def Thr (F : Str → Str → Bool) (m : Str) : Prop := ∀ a b, F a m = true → F m b = true → F a b = true
theorem thr_self (F : Str → Str → Bool) (m : Str) : Thr (wst F m) m := fun a b h1 h2 => by
  rw [wst_iff] at h1 h2 ⊢
  have h1 : F a m = true := h1.elim id (·.1)
  have h2 : F m b = true := h2.elim id (·.2)
  exact .inr ⟨h1, h2⟩
theorem thr_keep {F : Str → Str → Bool} {m k : Str} (h : Thr F m) : Thr (wst F k) m := fun a b h1 h2 => by
  rw [wst_iff] at h1 h2 ⊢
  rcases h1 with h1 | ⟨h1, h3⟩ <;> rcases h2 with h2 | ⟨h2, h4⟩
  · exact .inl (h a b h1 h2)
  · exact .inr ⟨h a k h1 h2, h4⟩
  · exact .inr ⟨h1, h k b h3 h2⟩
  · exact .inr ⟨h1, h4⟩
theorem war_thr : ∀ (items : List Str) (F : Str → Str → Bool), (∀ m, Thr F m → Thr (war items F) m) ∧ (∀ m ∈ items, Thr (war items F) m) ∧ (∀ a b, F a b = true → war items F a b = true)
  | [], F => ⟨fun _ h => h, fun _ h => (by cases h), fun _ _ h => h⟩
  | x :: xs, F => by
    obtain ⟨h1, h2, h3⟩ := war_thr xs (wst F x)
    refine ⟨fun m h => h1 m (thr_keep h), fun m hm => ?_, fun a b h => h3 a b (wst_iff.mpr (.inl h))⟩
    rcases List.mem_cons.mp hm with rfl | hm
    · exact h1 m (thr_self F m)
    · exact h2 m hm
theorem war_sound {R : Str → Str → Prop} (tr : ∀ a b c, R a b → R b c → R a c) : ∀ (items : List Str) (F : Str → Str → Bool), (∀ a b, F a b = true → R a b) → ∀ a b, war items F a b = true → R a b
  | [], F, h => h
  | x :: xs, F, h => war_sound tr xs (wst F x) fun a b k => (wst_iff.mp k).elim (h a b) fun k => tr _ _ _ (h _ _ k.1) (h _ _ k.2)
theorem war_tc {items : List Str} {F : Str → Str → Bool} (h : ∀ a b, F a b = true → b ∈ items) {a b : Str} : war items F a b = true ↔ Tc (fun x y => F x y = true) a b := by
  refine ⟨war_sound (R := Tc (fun x y => F x y = true)) (fun _ _ _ => Tc.trans) items F (fun _ _ k => Tc.one (E := fun x y => F x y = true) k) a b, fun t => ?_⟩
  obtain ⟨_, h2, h3⟩ := war_thr items F
  induction t with
  | one e => exact h3 _ _ e
  | cons e _ ih => exact h2 _ (h _ _ e) _ _ (h3 _ _ e) ih
theorem E_items {L : LogD} (ok : LogOk L) {x y : Str} (h : L.E x y) : x ∈ L.items ∧ y ∈ L.items := by
  obtain ⟨p, ⟨h1, h2, h3⟩, rfl, rfl⟩ := h
  unfold LogD.lk at h3
  simp only [Bool.and_eq_true, decide_eq_true_eq] at h3
  exact ⟨(isA_name ok h1 h3.1.1.1.1).2.1, (isA_name ok h2 h3.1.1.1.2).2.1⟩
theorem up_iff {L : LogD} (ok : LogOk L) {x y : Str} : L.up x y = true ↔ Tc L.E x y := by
  unfold LogD.up
  rw [war_tc fun a b h => (E_items ok (ed_iff.mp h)).2]
  exact ⟨Tc.mono fun _ _ => ed_iff.mp, Tc.mono fun _ _ => ed_iff.mpr⟩
theorem Tc.items {L : LogD} (ok : LogOk L) {x y : Str} (h : Tc L.E x y) : x ∈ L.items ∧ y ∈ L.items := by
  induction h with
  | one e => exact E_items ok e
  | cons e _ ih => exact ⟨(E_items ok e).1, ih.2⟩
theorem ring_up {L : LogD} (ok : LogOk L) : L.Ring ↔ ∃ a ∈ L.items, L.up a a = true :=
  ⟨fun ⟨a, h1, h2⟩ => ⟨a, h1, (up_iff ok).mpr h2⟩, fun ⟨a, h1, h2⟩ => ⟨a, h1, (up_iff ok).mp h2⟩⟩
theorem noring_up {L : LogD} (ok : LogOk L) (h : ¬ L.Ring) : ∀ a ∈ L.items, L.up a a = false := fun a ha => by
  cases e : L.up a a with
  | false => rfl
  | true => exact absurd ((ring_up ok).mpr ⟨a, ha, e⟩) h

/-! ### links by splits -/
/-- e1 ahead of e2, answers of j, no reset of j between -/
def Pr (es : List Ev) (j : Str) (e1 e2 : Ev) : Prop := ∃ A B C, es = A ++ e1 :: (B ++ e2 :: C) ∧ (e1.isA = true ∧ e1.j = j) ∧ (e2.isA = true ∧ e2.j = j) ∧ Ev.rst j ∉ B
def EdP (dr : Str) (e1 e2 : Ev) (x y : Str) : Prop := ((dr = ("stays" : Str) ∨ dr = ("rises" : Str)) ∧ e1.i = x ∧ e2.i = y ∧ e1.g < e2.g) ∨ ((dr = ("stays" : Str) ∨ dr ≠ ("rises" : Str)) ∧ e2.i = x ∧ e1.i = y ∧ e2.g < e1.g)
theorem wayB_lt {dr : Str} {a b : Nat} (h : a < b) : wayB dr a b = true ↔ (dr = ("stays" : Str) ∨ dr = ("rises" : Str)) := by
  unfold wayB
  rw [decide_eq_true h, Bool.or_eq_true, decide_eq_true_eq, decide_eq_true_eq]
  constructor
  · rintro (h | h)
    · exact .inl h
    · exact .inr (of_decide_eq_true h.symm)
  · rintro (h | h)
    · exact .inl h
    · exact .inr (decide_eq_true h).symm
theorem wayB_gt {dr : Str} {a b : Nat} (h : b < a) : wayB dr a b = true ↔ (dr = ("stays" : Str) ∨ dr ≠ ("rises" : Str)) := by
  unfold wayB
  rw [decide_eq_false (show ¬ a < b by omega), Bool.or_eq_true, decide_eq_true_eq, decide_eq_true_eq]
  constructor
  · rintro (h | h)
    · exact .inl h
    · exact .inr (of_decide_eq_false h.symm)
  · rintro (h | h)
    · exact .inl h
    · exact .inr (decide_eq_false h).symm
theorem pr_at {L : LogD} {j : Str} {e1 e2 : Ev} : Pr L.events j e1 e2 ↔ ∃ a b, a < b ∧ b < L.n ∧ L.at a = e1 ∧ L.at b = e2 ∧ (e1.isA = true ∧ e1.j = j) ∧ (e2.isA = true ∧ e2.j = j) ∧ ∀ i, a < i → i < b → L.at i ≠ .rst j := by
  constructor
  · rintro ⟨A, B, C, h, h1, h2, hB⟩
    have hn : L.n = A.length + (1 + (B.length + (1 + C.length))) := by
      unfold LogD.n
      rw [h]
      simp only [List.length_append, List.length_cons]
      omega
    have ga : ∀ i e, L.events[i]? = some e → L.at i = e := fun i e he => by
      have hi : i < L.n := (List.getElem?_eq_some_iff.mp he).1
      rw [LogD.at_get hi] at he
      exact Option.some.inj he
    refine ⟨A.length, A.length + 1 + B.length, by omega, by omega, ga _ _ ?_, ga _ _ ?_, h1, h2, fun i hi1 hi2 => ?_⟩
    · rw [h, List.getElem?_append_right (Nat.le_refl _), Nat.sub_self]
      rfl
    · rw [h, List.getElem?_append_right (by omega), show A.length + 1 + B.length - A.length = B.length + 1 by omega, List.getElem?_cons_succ, List.getElem?_append_right (Nat.le_refl _), Nat.sub_self]
      rfl
    · have hb : i - A.length - 1 < B.length := by omega
      have : L.events[i]? = some B[i - A.length - 1] := by
        rw [h, List.getElem?_append_right (by omega)]
        have e : i - A.length = (i - A.length - 1) + 1 := by omega
        generalize i - A.length - 1 = k at hb e
        rw [e, List.getElem?_cons_succ, List.getElem?_append_left hb, List.getElem?_eq_getElem hb]
      rw [ga _ _ this]
      intro e
      exact hB (e ▸ List.getElem_mem hb)
  · rintro ⟨a, b, hab, hb, rfl, rfl, h1, h2, h3⟩
    have hb' : b < L.events.length := hb
    have ha' : a < L.events.length := by omega
    have get : ∀ i (hi : i < L.events.length), L.events[i] = L.at i := fun i hi => by
      have := LogD.at_get (L := L) (k := i) hi
      rw [List.getElem?_eq_getElem hi] at this
      exact Option.some.inj this
    refine ⟨L.events.take a, (L.events.drop (a + 1)).take (b - a - 1), L.events.drop (b + 1), ?_, h1, h2, fun hm => ?_⟩
    · have e1 : L.events = L.events.take a ++ L.events.drop a := (List.take_append_drop _ _).symm
      have e2 : L.events.drop a = L.at a :: L.events.drop (a + 1) := by rw [List.drop_eq_getElem_cons ha', get]
      have e3 : L.events.drop (a + 1) = (L.events.drop (a + 1)).take (b - a - 1) ++ (L.events.drop (a + 1)).drop (b - a - 1) := (List.take_append_drop _ _).symm
      have e4 : (L.events.drop (a + 1)).drop (b - a - 1) = L.at b :: L.events.drop (b + 1) := by
        rw [List.drop_drop, show a + 1 + (b - a - 1) = b by omega, List.drop_eq_getElem_cons hb', get]
      rw [← e4, ← e3, ← e2]
      exact e1
    · obtain ⟨k, hk, e⟩ := List.mem_take_iff_getElem.mp hm
      rw [List.getElem_drop] at e
      have hk2 : k < b - a - 1 := by omega
      refine h3 (a + 1 + k) (by omega) (by omega) ?_
      rw [← get _ (by omega)]
      exact e
theorem sm_iff {L : LogD} {j : Str} {a b : Nat} (hab : a < b) (hA : (L.at a).isA = true) : L.sm j a b = true ↔ ∀ i, a < i → i < b → L.at i ≠ .rst j := by
  unfold LogD.sm
  rw [Nat.min_eq_left (by omega), Nat.max_eq_right (by omega), noRst_iff]
  refine ⟨fun h i h1 h2 => h i (by omega) h2, fun h i h1 h2 => ?_⟩
  rcases Nat.lt_or_eq_of_le h1 with h3 | h3
  · exact h i h3 h2
  · rw [← h3]
    exact isA_rst hA j
theorem E_iff {L : LogD} {x y : Str} : L.E x y ↔ ∃ j e1 e2, Pr L.events j e1 e2 ∧ EdP (L.drift j) e1 e2 x y := by
  constructor
  · rintro ⟨⟨a, b⟩, ⟨ha, hb, h⟩, rfl, rfl⟩
    dsimp only at ha hb h ⊢
    unfold LogD.lk LogD.isA at h
    simp only [Bool.and_eq_true, decide_eq_true_eq] at h
    obtain ⟨⟨⟨⟨h1, h2⟩, h3⟩, h4⟩, h5, h6⟩ := h
    rcases Nat.lt_trichotomy a b with hab | hab | hab
    · exact ⟨(L.at a).j, L.at a, L.at b, pr_at.mpr ⟨a, b, hab, hb, rfl, rfl, ⟨h1, rfl⟩, ⟨h2, h3.symm⟩, (sm_iff hab h1).mp h4⟩, .inl ⟨(wayB_lt hab).mp h6, rfl, rfl, h5⟩⟩
    · subst hab
      omega
    · rw [sm_comm] at h4
      exact ⟨(L.at a).j, L.at b, L.at a, pr_at.mpr ⟨b, a, hab, ha, rfl, rfl, ⟨h2, h3.symm⟩, ⟨h1, rfl⟩, (sm_iff hab h2).mp h4⟩, .inr ⟨(wayB_gt hab).mp h6, rfl, rfl, h5⟩⟩
  · rintro ⟨j, e1, e2, hp, he⟩
    obtain ⟨a, b, hab, hb, rfl, rfl, ⟨h1, hj1⟩, ⟨h2, hj2⟩, h3⟩ := pr_at.mp hp
    have s := (sm_iff hab h1).mpr h3
    rcases he with ⟨hw, rfl, rfl, hg⟩ | ⟨hw, rfl, rfl, hg⟩
    · refine ⟨(a, b), ⟨by dsimp only; omega, hb, ?_⟩, rfl, rfl⟩
      unfold LogD.lk LogD.isA
      simp only [Bool.and_eq_true, decide_eq_true_eq]
      exact ⟨⟨⟨⟨h1, h2⟩, hj1.trans hj2.symm⟩, by rw [hj1]; exact s⟩, hg, by rw [hj1]; exact (wayB_lt hab).mpr hw⟩
    · refine ⟨(b, a), ⟨hb, by dsimp only; omega, ?_⟩, rfl, rfl⟩
      unfold LogD.lk LogD.isA
      simp only [Bool.and_eq_true, decide_eq_true_eq]
      exact ⟨⟨⟨⟨h2, h1⟩, hj2.trans hj1.symm⟩, by rw [hj2, sm_comm]; exact s⟩, hg, by rw [hj2]; exact (wayB_gt hab).mpr hw⟩

/-! ### splits of a part of the events -/
theorem pr_filter {es : List Ev} {j : Str} {e1 e2 : Ev} : Pr (es.filter fun e => decide (e.j = j)) j e1 e2 ↔ Pr es j e1 e2 := by
  constructor
  · rintro ⟨A, B, C, h, h1, h2, hB⟩
    obtain ⟨l1, l2, q1, q2, k1⟩ := List.filter_eq_append_iff.mp h
    obtain ⟨m1, m2, q3, hm1, _, k2⟩ := List.filter_eq_cons_iff.mp k1
    obtain ⟨l3, l4, q4, q5, k3⟩ := List.filter_eq_append_iff.mp k2
    obtain ⟨m3, m4, q6, hm3, _, q7⟩ := List.filter_eq_cons_iff.mp k3
    clear h k1 k2 k3
    subst q6 q4 q3 q1 q5
    refine ⟨l1 ++ m1, l3 ++ m3, m4, by simp, h1, h2, fun hm => ?_⟩
    rcases List.mem_append.mp hm with hm | hm
    · exact hB (List.mem_filter.mpr ⟨hm, decide_eq_true rfl⟩)
    · exact hm3 _ hm (decide_eq_true rfl)
  · rintro ⟨A, B, C, rfl, h1, h2, hB⟩
    refine ⟨A.filter fun e => decide (e.j = j), B.filter fun e => decide (e.j = j), C.filter fun e => decide (e.j = j), ?_, h1, h2, fun hm => hB (List.mem_filter.mp hm).1⟩
    rw [List.filter_append, List.filter_cons, if_pos (decide_eq_true h1.2), List.filter_append, List.filter_cons, if_pos (decide_eq_true h2.2)]
theorem ren_isA {o : Nat} {e : Ev} : (renE o e).isA = e.isA := by cases e <;> rfl
theorem ren_i {o : Nat} {e : Ev} : (renE o e).i = e.i := by cases e <;> rfl
theorem ren_g {o : Nat} {e : Ev} : (renE o e).g = e.g := by cases e <;> rfl
theorem ren_j {o : Nat} {e : Ev} : (renE o e).j = onm o := by cases e <;> rfl
theorem ren_rst {o : Nat} {e : Ev} {j : Str} (hj : e.j = j) : renE o e = .rst (onm o) ↔ e = .rst j := by
  cases e with
  | ans a b c => simp [renE]
  | rst a =>
    have hj : a = j := hj
    simp [renE, hj]
theorem pr_map {es : List Ev} {o : Nat} {j : Str} (hj : ∀ e ∈ es, e.j = j) {e1 e2 : Ev} : Pr (es.map (renE o)) (onm o) e1 e2 ↔ ∃ f1 f2, e1 = renE o f1 ∧ e2 = renE o f2 ∧ Pr es j f1 f2 := by
  constructor
  · rintro ⟨A, B, C, h, h1, h2, hB⟩
    obtain ⟨l1, l2, q1, q2, k1⟩ := List.map_eq_append_iff.mp h
    obtain ⟨f1, l3, q3, q4, k2⟩ := List.map_eq_cons_iff.mp k1
    obtain ⟨l4, l5, q5, q6, k3⟩ := List.map_eq_append_iff.mp k2
    obtain ⟨f2, l6, q7, q8, q9⟩ := List.map_eq_cons_iff.mp k3
    clear h k1 k2 k3
    subst q7 q5 q3 q1 q4 q6 q8
    refine ⟨f1, f2, rfl, rfl, l1, l4, l6, rfl, ⟨ren_isA ▸ h1.1, hj f1 (by simp)⟩, ⟨ren_isA ▸ h2.1, hj f2 (by simp)⟩, fun hm => hB ?_⟩
    exact List.mem_map.mpr ⟨_, hm, (ren_rst (hj _ (by simp [hm]))).mpr rfl⟩
  · rintro ⟨f1, f2, rfl, rfl, A, B, C, rfl, h1, h2, hB⟩
    refine ⟨A.map (renE o), B.map (renE o), C.map (renE o), by simp, ⟨ren_isA.trans h1.1, ren_j⟩, ⟨ren_isA.trans h2.1, ren_j⟩, fun hm => ?_⟩
    obtain ⟨e, he, e3⟩ := List.mem_map.mp hm
    exact hB ((ren_rst (hj e (by simp [he]))).mp e3 ▸ he)

/-! ### the offices of one judge each -/
open F__law_alone
def alls (L : LogD) : List LogD := L.judges.map fun p => aloneL L p.1
theorem alls_len (L : LogD) : (alls L).length = L.judges.length := List.length_map _
def jAt (L : LogD) (o : Nat) : Str × Str := L.judges.getD o (Str.empty, Str.empty)
theorem jAt_get {L : LogD} {o : Nat} (h : o < L.judges.length) : L.judges[o]? = some (jAt L o) := by
  unfold jAt
  rw [List.getD_eq_getElem?_getD, List.getElem?_eq_getElem h]
  rfl
theorem jAt_mem {L : LogD} {o : Nat} (h : o < L.judges.length) : jAt L o ∈ L.judges := List.mem_of_getElem? (jAt_get h)
theorem at0_alls {L : LogD} {o : Nat} (h : o < L.judges.length) : at0 (alls L) o = aloneL L (jAt L o).1 := by
  have h2 : (alls L)[o]? = some (aloneL L (jAt L o).1) := by
    unfold alls
    rw [List.getElem?_map, jAt_get h]
    rfl
  rw [at0_get (by rw [alls_len]; exact h)] at h2
  exact Option.some.inj h2
theorem one_judge {L : LogD} (ok : LogOk L) {p : Str × Str} (hp : p ∈ L.judges) : (L.judges.filter fun q => decide (q.1 = p.1)) = [p] := by
  have nd := ok.ju.nd
  unfold LogD.names at nd
  generalize L.judges = js at hp nd
  induction js with
  | nil => cases hp
  | cons x xs ih =>
    rw [List.map_cons, List.nodup_cons] at nd
    rcases List.mem_cons.mp hp with rfl | hp
    · rw [List.filter_cons, if_pos (decide_eq_true rfl)]
      have : xs.filter (fun q => decide (q.1 = p.1)) = [] := List.filter_eq_nil_iff.mpr fun q hq h => nd.1 (List.mem_map.mpr ⟨q, hq, of_decide_eq_true h⟩)
      rw [this]
    · rw [List.filter_cons_of_neg]
      · exact ih hp nd.2
      · intro h
        exact nd.1 (List.mem_map.mpr ⟨p, hp, (of_decide_eq_true h).symm⟩)
theorem alone_ok {L : LogD} (ok : LogOk L) {p : Str × Str} (hp : p ∈ L.judges) : LogOk (aloneL L p.1) := by
  have e := one_judge ok hp
  have jm : p.1 ∈ L.names := List.mem_map.mpr ⟨p, hp, rfl⟩
  have nm : (aloneL L p.1).names = [p.1] := by
    unfold LogD.names aloneL
    rw [e]
    rfl
  refine ⟨ok.it, ?_, ?_, ok.g1, ok.g9, Nat.le_trans (List.length_filter_le _ _) ok.ne, ?_⟩
  · rw [nm]
    exact ⟨by simp, by simp, by simp, fun x hx => by rw [List.mem_singleton.mp hx]; exact ok.ju.good _ jm⟩
  · intro q hq
    exact ok.dr q (List.mem_filter.mp hq).1
  · intro ev hev
    obtain ⟨h1, h2⟩ := List.mem_filter.mp hev
    have h2 : ev.j = p.1 := of_decide_eq_true h2
    have h3 := ok.ev ev h1
    rw [nm]
    cases ev with
    | ans j i g =>
      unfold evB at h3 ⊢
      simp only [Bool.and_eq_true, decide_eq_true_eq] at h3 ⊢
      exact ⟨⟨⟨List.mem_singleton.mpr h2, h3.1.1.2⟩, h3.1.2⟩, h3.2⟩
    | rst j => exact decide_eq_true (List.mem_singleton.mpr h2)
theorem cnt_le : ∀ (es : List Ev) (js : List Str), js.Nodup → (js.flatMap fun j => es.filter fun e => decide (e.j = j)).length ≤ es.length
  | es, [], _ => Nat.zero_le _
  | es, j :: js, nd => by
    rw [List.nodup_cons] at nd
    have ih := cnt_le (es.filter fun e => !decide (e.j = j)) js nd.2
    have e1 : (js.flatMap fun k => (es.filter fun e => !decide (e.j = j)).filter fun e => decide (e.j = k)) = js.flatMap fun k => es.filter fun e => decide (e.j = k) := by
      have key : ∀ k ∈ js, ((es.filter fun e => !decide (e.j = j)).filter fun e => decide (e.j = k)) = es.filter fun e => decide (e.j = k) := fun k hk => by
        rw [List.filter_filter]
        refine List.filter_congr fun e _ => ?_
        by_cases h : e.j = k
        · have hn : e.j ≠ j := fun z => nd.1 (by rw [← z, h]; exact hk)
          rw [decide_eq_true h, decide_eq_false hn]
          rfl
        · rw [decide_eq_false h]
          rfl
      rw [List.flatMap_def, List.flatMap_def]
      exact congrArg List.flatten (List.map_congr_left key)
    rw [e1] at ih
    rw [List.flatMap_cons, List.length_append]
    have e2 : (es.filter fun e => decide (e.j = j)).length + (es.filter fun e => !decide (e.j = j)).length = es.length := by
      clear ih e1
      induction es with
      | nil => rfl
      | cons e es ih =>
        by_cases h : e.j = j
        · simp [h]
          omega
        · simp [h]
          omega
    omega
theorem joinL_events {L : LogD} : (joinL (alls L)).events = (List.range L.judges.length).flatMap fun o => (at0 (alls L) o).events.map (renE o) := by
  show ((List.range (alls L).length).flatMap fun o => (at0 (alls L) o).events.map (renE o)) = _
  rw [alls_len]
theorem joinL_n {L : LogD} (ok : LogOk L) : (joinL (alls L)).n ≤ 9 := by
  have h1 := cnt_le L.events L.names ok.ju.nd
  refine Nat.le_trans (Nat.le_trans (Nat.le_of_eq ?_) h1) ok.ne
  unfold LogD.n
  rw [joinL_events]
  have e : L.names = (List.range L.judges.length).map fun o => (jAt L o).1 := by
    unfold LogD.names
    refine List.ext_getElem? fun i => ?_
    rw [List.getElem?_map, List.getElem?_map]
    by_cases h : i < L.judges.length
    · rw [jAt_get h, List.getElem?_range h]
      rfl
    · rw [List.getElem?_eq_none (by omega), List.getElem?_eq_none (by rw [List.length_range]; omega)]
      rfl
  rw [e, List.flatMap_map, List.length_flatMap, List.length_flatMap]
  refine congrArg List.sum (List.map_congr_left fun o ho => ?_)
  rw [List.length_map, at0_alls (List.mem_range.mp ho)]
  rfl
theorem solo {L : LogD} (ok : LogOk L) : Solo (alls L) := by
  have jl : L.names.length = L.judges.length := List.length_map _
  have jp := ok.ju.pos
  have jm := ok.ju.max
  have h0 : at0 (alls L) 0 = aloneL L (jAt L 0).1 := at0_alls (by omega)
  refine ⟨fun l hl => ?_, fun l hl => ?_, by rw [alls_len]; omega, by rw [alls_len]; omega, fun l hl => ?_, fun l hl => ?_, joinL_n ok⟩
  · obtain ⟨p, hp, rfl⟩ := List.mem_map.mp hl
    exact alone_ok ok hp
  · obtain ⟨p, hp, rfl⟩ := List.mem_map.mp hl
    have e : (aloneL L p.1).judges = [p] := one_judge ok hp
    unfold LogD.jd0 LogD.dr0
    rw [e]
    rfl
  · obtain ⟨p, hp, rfl⟩ := List.mem_map.mp hl
    rw [h0]
    rfl
  · obtain ⟨p, hp, rfl⟩ := List.mem_map.mp hl
    rw [h0]
    rfl
/-- the part of the joined log that is of one office -/
theorem join_part {L : LogD} (ok : LogOk L) {o : Nat} (ho : o < L.judges.length) : ((joinL (alls L)).events.filter fun e => decide (e.j = onm o)) = (L.events.filter fun e => decide (e.j = (jAt L o).1)).map (renE o) := by
  have j3 := ok.j3
  rw [joinL_events]
  have key : ∀ xs : List Nat, xs.Nodup → (∀ x ∈ xs, x < L.judges.length) → ((xs.flatMap fun o => (at0 (alls L) o).events.map (renE o)).filter fun e => decide (e.j = onm o)) = if o ∈ xs then (at0 (alls L) o).events.map (renE o) else [] := by
    intro xs
    induction xs with
    | nil => intro _ _; rfl
    | cons x xs ih =>
      intro nd hx
      rw [List.nodup_cons] at nd
      have hx0 := hx x List.mem_cons_self
      rw [List.flatMap_cons, List.filter_append, ih nd.2 fun z hz => hx z (List.mem_cons_of_mem _ hz)]
      by_cases e : x = o
      · subst e
        rw [if_neg nd.1, if_pos List.mem_cons_self, List.append_nil]
        refine List.filter_eq_self.mpr fun z hz => ?_
        obtain ⟨w, _, rfl⟩ := List.mem_map.mp hz
        exact decide_eq_true ren_j
      · have e1 : ((at0 (alls L) x).events.map (renE x)).filter (fun e => decide (e.j = onm o)) = [] := List.filter_eq_nil_iff.mpr fun z hz h => by
          obtain ⟨w, _, rfl⟩ := List.mem_map.mp hz
          have h := of_decide_eq_true h
          rw [ren_j] at h
          exact e (onm_inj x o (by omega) (by omega) h)
        rw [e1, List.nil_append]
        by_cases h : o ∈ xs
        · rw [if_pos h, if_pos (List.mem_cons_of_mem _ h)]
        · rw [if_neg h, if_neg fun z => (List.mem_cons.mp z).elim (fun z => e z.symm) h]
  rw [key _ List.nodup_range fun x hx => List.mem_range.mp hx, if_pos (List.mem_range.mpr ho), at0_alls ho]
  rfl
theorem join_drift {L : LogD} (ok : LogOk L) {o : Nat} (ho : o < L.judges.length) : (joinL (alls L)).drift (onm o) = L.drift (jAt L o).1 := by
  have hp := jAt_mem ho
  have so := solo ok
  refine drift_of_mem so.join (List.mem_map.mpr ⟨o, List.mem_range.mpr (by rw [alls_len]; exact ho), ?_⟩)
  rw [at0_alls ho, drift_of_mem ok (j := (jAt L o).1) (d := (jAt L o).2) hp]
  unfold LogD.dr0 aloneL
  rw [one_judge ok hp]
  rfl
theorem edp_ren {dr : Str} {o : Nat} {f1 f2 : Ev} {x y : Str} : EdP dr (renE o f1) (renE o f2) x y ↔ EdP dr f1 f2 x y := by
  unfold EdP
  rw [ren_i, ren_i, ren_g, ren_g]
theorem pr_name {L : LogD} (ok : LogOk L) {j : Str} {e1 e2 : Ev} (h : Pr L.events j e1 e2) : j ∈ L.names := by
  obtain ⟨a, b, hab, hb, rfl, rfl, ⟨h1, rfl⟩, _⟩ := pr_at.mp h
  exact (isA_name ok (by omega) h1).1
theorem join_pr {L : LogD} (ok : LogOk L) {o : Nat} (ho : o < L.judges.length) {e1 e2 : Ev} : Pr (joinL (alls L)).events (onm o) e1 e2 ↔ ∃ f1 f2, e1 = renE o f1 ∧ e2 = renE o f2 ∧ Pr L.events (jAt L o).1 f1 f2 := by
  rw [← pr_filter, join_part ok ho, pr_map (j := (jAt L o).1) fun e he => of_decide_eq_true (List.mem_filter.mp he).2]
  simp only [pr_filter]
theorem join_E {L : LogD} (ok : LogOk L) {x y : Str} : (joinL (alls L)).E x y ↔ L.E x y := by
  have so := solo ok
  rw [E_iff, E_iff]
  constructor
  · rintro ⟨j, e1, e2, hp, he⟩
    obtain ⟨p, hpm, rfl⟩ := List.mem_map.mp (pr_name so.join hp)
    obtain ⟨o, ho, rfl⟩ := List.mem_map.mp hpm
    have ho : o < L.judges.length := by
      have := List.mem_range.mp ho
      rwa [alls_len] at this
    dsimp only at hp he
    obtain ⟨f1, f2, rfl, rfl, hq⟩ := (join_pr ok ho).mp hp
    rw [join_drift ok ho, edp_ren] at he
    exact ⟨_, f1, f2, hq, he⟩
  · rintro ⟨j, e1, e2, hp, he⟩
    obtain ⟨p, hpm, rfl⟩ := List.mem_map.mp (pr_name ok hp)
    obtain ⟨o, ho, e⟩ := List.getElem_of_mem hpm
    have e2 : jAt L o = p := by
      have := jAt_get ho
      rw [List.getElem?_eq_getElem ho] at this
      exact (Option.some.inj this).symm.trans e
    refine ⟨onm o, renE o e1, renE o _, (join_pr ok ho).mpr ⟨e1, _, rfl, rfl, by rw [e2]; exact hp⟩, ?_⟩
    rw [join_drift ok ho, edp_ren, e2]
    exact he
theorem join_items {L : LogD} (ok : LogOk L) : (joinL (alls L)).items = L.items := by
  have jl : L.names.length = L.judges.length := List.length_map _
  have jp := ok.ju.pos
  show (at0 (alls L) 0).items = L.items
  rw [at0_alls (by omega)]
  rfl
theorem join_up {L : LogD} (ok : LogOk L) : (joinL (alls L)).up = L.up := by
  have e : (joinL (alls L)).ed = L.ed := by
    funext x y
    exact bool_iff (by rw [ed_iff, ed_iff, join_E ok])
  unfold LogD.up
  rw [e, join_items ok]
theorem join_ring {L : LogD} (ok : LogOk L) : (joinL (alls L)).Ring ↔ L.Ring := by
  rw [ring_up (solo ok).join, ring_up ok, join_up ok, join_items ok]
open F_pairs_of
theorem prs_congr {items : List Str} {f g : Str → Str → Bool} (h : ∀ x ∈ items, ∀ y ∈ items, f x y = g x y) : prs items f = prs items g := by
  unfold prs
  rw [List.flatMap_def, List.flatMap_def]
  refine congrArg List.flatten (List.map_congr_left fun x hx => ?_)
  exact congrArg (List.map fun y => (x, y)) (List.filter_congr fun y hy => h x hx y hy)
end RB
namespace RB
open PySem PySem.Spec PyProof.Rows L2 L3
local macro_rules
  | `(tactic| walk_at "op") => `(tactic| first
    | exact os_cat2 | exact os_catM | exact os_eq | exact os_ix | exact os_mInS | exact os_mInI | exact os_eqD | exact os_neD | exact os_ne
    | exact os_I0 (fun _ _ _ => .int _) | exact os_I0 (fun _ _ _ => .bl _) | exact os_IC (fun _ _ _ => .int _)
    | exact os_isN | exact os_notN | exact os_notB | exact os_inC | exact os_cat | exact os_catT | exact os_inD | exact os_ninD | exact os_ext2 | exact os_ip)
local macro_rules
  | `(tactic| walk_at "cs") => `(tactic| first
    | exact cs_len | exact cs_any | exact cs_all | exact cs_sum | exact cs_abs | exact cs_max2 | exact cs_int1 | exact cs_intS | exact cs_list | exact cs_str | exact cs_sortP | exact cs_sortS | exact cs_sortR | exact cs_isi)
local macro_rules
  | `(tactic| walk_at "sim") => `(tactic| repeat' (first
    | with_reducible exact os_cat2
    | with_reducible exact os_catM
    | with_reducible exact sim_var
    | with_reducible exact sim_nil
    | with_reducible exact sim_next
    | with_reducible exact sim_never
    | with_reducible exact sim_retN
    | with_reducible exact sim_break
    | with_reducible exact sim_cont
    | with_reducible exact sim_gname
    | with_reducible exact sim_gnil
    | with_reducible exact sim_yes
    | with_reducible exact sim_noPart
    | with_reducible exact sim_newK
    | with_reducible exact sim_mNewKt
    | with_reducible exact sim_newT
    | with_reducible exact SimL.nil
    | with_reducible exact sim_disp1 (fun _ => .int _)
    | with_reducible exact sim_c (fun _ => .str _)
    | with_reducible exact sim_c (fun _ => .int _)
    | with_reducible exact sim_c (fun _ => .bl _)
    | with_reducible exact sim_c (fun _ => .non)
    | with_reducible exact sim_c (fun _ => .ty _)
    | with_reducible apply sim_asgX (fun _ _ h => h)
    | with_reducible apply sim_op
    | with_reducible apply sim_test
    | with_reducible apply sim_neg
    | with_reducible apply sim_B
    | with_reducible apply sim_and
    | with_reducible apply sim_or
    | with_reducible apply sim_not
    | with_reducible apply sim_cons
    | with_reducible apply sim_call
    | with_reducible apply sim_meth
    | with_reducible apply sim_prop
    | with_reducible apply sim_fld
    | with_reducible apply sim_tup
    | with_reducible apply sim_lst
    | with_reducible apply sim_mLst
    | with_reducible apply sim_CB
    | with_reducible apply sim_seq
    | with_reducible apply sim_asg
    | with_reducible apply sim_ret
    | with_reducible apply sim_mRetF
    | with_reducible apply sim_drop
    | with_reducible apply sim_ifS
    | with_reducible apply sim_mFrz
    | with_reducible apply sim_gcons
    | with_reducible apply sim_gtup
    | with_reducible apply sim_lc
    | with_reducible apply sim_ilist
    | with_reducible apply sim_irng1
    | with_reducible apply sim_istr
    | with_reducible apply sim_ienum
    | with_reducible apply sim_itup
    | with_reducible apply sim_for
    | with_reducible apply sim_while
    | with_reducible apply sim_andV
    | with_reducible apply sim_orV
    | with_reducible apply sim_notV
    | with_reducible apply sim_chain
    | with_reducible apply sim_dget
    | with_reducible apply sim_din
    | with_reducible apply sim_dnin
    | with_reducible apply sim_dget1
    | with_reducible apply sim_app
    | with_reducible apply sim_ext
    | with_reducible apply sim_popAt
    | with_reducible apply sim_indexS
    | with_reducible apply sim_dput
    | with_reducible apply sim_fldS
    | with_reducible apply sim_aug
    | with_reducible apply sim_slLM
    | with_reducible apply sim_slL
    | with_reducible apply sim_slT
    | with_reducible apply sim_part
    | with_reducible apply sim_if
    | with_reducible apply sim_tru
    | with_reducible apply sim_orT
    | with_reducible assumption
    | exact sim_nev
    | exact sim_raiseE (fun _ _ _ h => h)
    | with_reducible apply sim_callN
    | with_reducible apply sim_dc
    | with_reducible apply sim_par
    | with_reducible apply sim_dcM
    | with_reducible apply sim_lc2
    | with_reducible (apply sim_lock; apply simF_lc)
    | with_reducible (apply sim_lock; apply simF_lc2)
    | with_reducible apply sim_split
    | with_reducible apply sim_join
    | with_reducible apply sim_fmt
    | with_reducible apply sim_joined
    | with_reducible apply SimL.cons
    | with_reducible apply sim_callM
    | with_reducible apply sim_methM
    | with_reducible apply sim_make
    | with_reducible apply sim_lenSet
    | with_reducible apply sim_rgL
    | with_reducible apply sim_ienumK
    | with_reducible apply sim_kw kw_minDf
    | with_reducible apply sim_kw kw_maxDf
    | exact sim_var
    | exact sim_nil
    | exact sim_next
    | exact sim_never
    | exact sim_retN
    | exact sim_break
    | exact sim_cont
    | exact sim_gname
    | exact sim_gnil
    | exact sim_yes
    | exact sim_noPart
    | exact sim_newK
    | exact sim_mNewKt
    | exact sim_newT
    | exact SimL.nil
    | exact sim_disp1 (fun _ => .int _)
    | exact sim_c (fun _ => .str _)
    | exact sim_c (fun _ => .int _)
    | exact sim_c (fun _ => .bl _)
    | exact sim_c (fun _ => .non)
    | exact sim_c (fun _ => .ty _)
    | apply sim_call
    | apply sim_meth
    | apply sim_prop
    | apply sim_CB
    | apply sim_op
    | apply sim_test
    | apply sim_B
    | apply sim_and
    | apply sim_or
    | apply sim_not
    | apply sim_cons
    | apply sim_fld
    | apply sim_tup
    | apply sim_lst
    | apply sim_mLst
    | apply sim_seq
    | apply sim_asg
    | apply sim_ret
    | apply sim_mRetF
    | apply sim_drop
    | apply sim_ifS
    | apply sim_mFrz
    | apply sim_gcons
    | apply sim_gtup
    | apply sim_lc
    | apply sim_ilist
    | apply sim_irng1
    | apply sim_istr
    | apply sim_ienum
    | apply sim_itup
    | apply sim_for
    | apply sim_while
    | apply sim_andV
    | apply sim_orV
    | apply sim_notV
    | apply sim_chain
    | apply sim_dget
    | apply sim_din
    | apply sim_dnin
    | apply sim_dget1
    | apply sim_app
    | apply sim_ext
    | apply sim_popAt
    | apply sim_indexS
    | apply sim_dput
    | apply sim_fldS
    | apply sim_aug
    | apply sim_slL
    | apply sim_slT
    | apply sim_part
    | apply sim_if
    | apply sim_tru
    | apply sim_orT
    | apply sim_dc
    | apply sim_lc2
    | (apply sim_lock; apply simF_lc)
    | (apply sim_lock; apply simF_lc2)
    | apply sim_split
    | apply sim_join
    | apply sim_fmt
    | apply sim_joined
    | apply SimL.cons
    | apply sim_callM
    | apply sim_methM
    | apply sim_make
    | apply sim_lenSet
    | apply sim_rgL
    | apply sim_ienumK
    | apply sim_kw kw_minDf
    | apply sim_kw kw_maxDf
    | exact rfl
    | (walk_at "op")
    | (walk_at "cs")))
local macro_rules
  | `(tactic| walk_at "rd") => `(tactic| repeat (first | refine ⟨_, rfl, ?_⟩ | refine ⟨_, _, rfl, ?_⟩ | refine ⟨_, _, rfl, rfl, ?_⟩))
namespace F__law_worse
abbrev sDef : Stmt := top 103
abbrev sN : List Str := ["_law_parts_here", "_law_steps", "_law_one", "_law_other", "_law_pair", "_law_found", "_law_thing", "_law_lot", "_law_grown", "_law_last"]
abbrev sP : List Str := ["_law_parts_here"]
theorem sc : FnScope sN sP (defScope sDef) := ⟨rfl, rfl, rfl, by decide +kernel, rfl, by decide +kernel, by decide +kernel⟩
open F_pairs_of F_reached F_together
/-- the worklist -/
structure Wk (st : List (Str × Str)) (t : Str) (lot gr : List Str) (ex : Str → Prop) : Prop where
  nd : lot.Nodup
  so : ∀ x ∈ lot, Tc (fun a b => (a, b) ∈ st) x t
  gs : ∀ x ∈ gr, x = t ∨ x ∈ lot
  cl : ∀ x, x = t ∨ x ∈ lot → x ∈ gr ∨ ex x ∨ ∀ s, (s, x) ∈ st → s ∈ lot
theorem Tc.fst {st : List (Str × Str)} {x t : Str} (h : Tc (fun a b => (a, b) ∈ st) x t) : x ∈ st.map Prod.fst := by
  cases h with
  | one e => exact List.mem_map.mpr ⟨_, e, rfl⟩
  | cons e _ => exact List.mem_map.mpr ⟨_, e, rfl⟩
theorem Wk.len {st : List (Str × Str)} {t : Str} {lot gr : List Str} {ex : Str → Prop} (h : Wk st t lot gr ex) : lot.length ≤ st.length := by
  have := nodup_sub_len (ys := st.map Prod.fst) h.nd fun x hx => Tc.fst (h.so x hx)
  rwa [List.length_map] at this
theorem Wk.put {st : List (Str × Str)} {t : Str} {lot gr : List Str} {ex : Str → Prop} (h : Wk st t lot gr ex) {s last : Str} (hl : last = t ∨ last ∈ lot) (he : (s, last) ∈ st) (hs : s ∉ lot) : Wk st t (lot ++ [s]) (gr ++ [s]) ex where
  nd := by
    rw [List.nodup_append]
    refine ⟨h.nd, by simp, fun x hx y hy e => ?_⟩
    rw [List.mem_singleton.mp hy] at e
    exact hs (e ▸ hx)
  so := fun x hx => by
    rcases List.mem_append.mp hx with hx | hx
    · exact h.so x hx
    · rw [List.mem_singleton.mp hx]
      rcases hl with rfl | hl
      · exact Tc.one (E := fun a b => (a, b) ∈ st) he
      · exact Tc.cons (E := fun a b => (a, b) ∈ st) he (h.so _ hl)
  gs := fun x hx => by
    rcases List.mem_append.mp hx with hx | hx
    · exact (h.gs x hx).imp id fun z => List.mem_append_left _ z
    · exact .inr (List.mem_append_right _ hx)
  cl := fun x hx => by
    have old : x = t ∨ x ∈ lot → x ∈ gr ++ [s] ∨ ex x ∨ ∀ z, (z, x) ∈ st → z ∈ lot ++ [s] := fun hx => by
      rcases h.cl x hx with k | k | k
      · exact .inl (List.mem_append_left _ k)
      · exact .inr (.inl k)
      · exact .inr (.inr fun z hz => List.mem_append_left _ (k z hz))
    rcases hx with hx | hx
    · exact old (.inl hx)
    · rcases List.mem_append.mp hx with hx | hx
      · exact old (.inr hx)
      · exact .inl (List.mem_append_right _ hx)
theorem Wk.end_ {st : List (Str × Str)} {t : Str} {lot : List Str} (h : Wk st t lot [] (fun _ => False)) (y : Str) : y ∈ lot ↔ Tc (fun a b => (a, b) ∈ st) y t := by
  refine ⟨h.so y, fun k => ?_⟩
  have c : ∀ x, x = t ∨ x ∈ lot → ∀ s, (s, x) ∈ st → s ∈ lot := fun x hx s hs => by
    rcases h.cl x hx with k | k | k
    · cases k
    · exact k.elim
    · exact k s hs
  clear h
  induction k with
  | one e => exact c _ (.inl rfl) _ e
  | cons e _ ih => exact c _ (.inr (ih c)) _ e
theorem Sub.fresh {m m' : Mu} (s : L3.Sub m m') {a : Addr} (h : m'.c a = none) : m.c a = none := by
  cases e : m.c a with
  | none => rfl
  | some o =>
    rw [s.1 a o e] at h
    cases h
theorem take_not {α : Type} {xs : List α} {i : Nat} {x : α} (nd : xs.Nodup) (h : xs[i]? = some x) : x ∉ xs.take i := fun hm => by
  obtain ⟨hi, e⟩ := List.getElem?_eq_some_iff.mp h
  obtain ⟨k, hk, e2⟩ := List.mem_take_iff_getElem.mp hm
  exact (List.pairwise_iff_getElem.mp nd) k i (by omega) hi (by omega) (e2.trans e.symm)
theorem cut_last (xs : List D) (x : D) : L3.cutD (xs ++ [x]) none (some (-1)) = xs := by
  unfold L3.cutD
  have e : HT.sIx (xs ++ [x]).length (xs ++ [x]).length (some (-1)) = xs.length := by
    rw [List.length_append, List.length_singleton]
    show (if (-1 : Int) < 0 then ((-1 : Int) + ((xs.length + 1 : Nat) : Int)).toNat else min (-1 : Int).toNat (xs.length + 1)) = xs.length
    rw [if_pos (by decide)]
    omega
  rw [e, HT.sIx_none, List.drop_zero, Nat.sub_zero, List.take_left]
def S : SD := fun ds m Q => ∃ (L : LogD), ds = [toldD L] ∧ LogOk L ∧ ∀ f : Str → List Str, (∀ x ∈ L.items, ∀ y, y ∈ f x ↔ Tc L.E y x) → Q (.dic (L.items.map fun x => (kS x, .lst ((f x).map D.str))))
theorem ok {P : Program} {w : World} {K : Fg} {mg : Str → Option Value} {base : Heap} {CL CD CS CU GS f : Addr} {fd : FuncData} (F : FnP K "_law_worse" "_law_worse" sDef f fd) (T : Txt K mg CL CD CS CU GS) (hlaw_links : Cal P w K mg base 1 "_law_links" ["_law_parts_here"] (spP K (F__law_links.S))) : FnOk P w K mg base CX0 2 f fd sP (spP K (S)) := by
  refine okP F sc (fun ds m Qd h => ?_) fun cdv A outer s H E hr => ?_
  · obtain ⟨L, rfl, ok, q⟩ := h
    rfl
  have hu := hu_of hr
  refine ⟨_, _, (pss_cons (ps_set (i := 1) sc.nd rfl (Or.inl rfl) (pe_lstM pa_nil)) (pss_cons (ps_for PassesOwn.never rfl (kList (K := K) (by rfl) (pe_cal hlaw_links hr (by decide) rfl (pa_cons (pv 0) pa_nil))) (kTup (K := K) (n := 2) (by rfl) rfl (pgs_cons (pg_name (i := 2) sc.nd rfl (by first | exact Or.inl rfl | exact Or.inr rfl)) (pgs_cons (pg_name (i := 3) sc.nd rfl (by first | exact Or.inl rfl | exact Or.inr rfl)) pgs_nil))) (pss_cons (ps_set (i := 4) sc.nd rfl (Or.inl rfl) (pe_tup (pa_cons (pe_ix (kIx (K := K) (by rfl)) (pe_ix (kIx (K := K) (by rfl)) (pe_ix (kIx (K := K) (by rfl)) (pv 0) pe_int (fun _ _ => rfl)) (pv 2) (fun _ _ => rfl)) pe_int (fun _ _ => rfl)) (pa_cons (pe_ix (kIx (K := K) (by rfl)) (pe_ix (kIx (K := K) (by rfl)) (pe_ix (kIx (K := K) (by rfl)) (pv 0) pe_int (fun _ _ => rfl)) (pv 3) (fun _ _ => rfl)) pe_int (fun _ _ => rfl)) pa_nil)))) (pss_one (ps_if (pt_cmpR (kNotInD (K := K) (by rfl) (hr65 hr)) (pv 4) (pv 1) (by rfl)) (pss_one (ps_expr (pe_bm PySem.F.plainAttrs_list PySem.F.slot_list_append PySem.F.type_list_append mt_append (pv 1) (pa_cons (pv 4) pa_nil)))) pss_nil)))) (pss_cons (ps_frz 1 (ps_set (i := 5) sc.nd rfl (Or.inl rfl) pe_dnewK)) (pss_cons (ps_for PassesOwn.never rfl (kList (K := K) (by rfl) (pe_ix (kIx (K := K) (by rfl)) (pv 0) pe_int (fun _ _ => rfl))) (pg_name (i := 6) sc.nd rfl (by first | exact Or.inl rfl | exact Or.inr rfl)) (pss_cons (ps_set (i := 7) sc.nd rfl (Or.inl rfl) (pe_lstM pa_nil)) (pss_cons (ps_set (i := 8) sc.nd rfl (Or.inl rfl) (pe_lstM (pa_cons (pv 6) pa_nil))) (pss_cons (ps_while PassesOwn.never (pt_cmpR op_gt (pe_callB (kLen (K := K) (by rfl)) (by rfl) T.n_len PySem.boot_len (pa_cons (pv 8) pa_nil)) pe_int (by rfl)) (pss_cons (ps_set (i := 9) sc.nd rfl (Or.inl rfl) (pe_ix (kIx (K := K) (by rfl)) (pv 8) (pe_un un_neg pe_int) (fun _ _ => rfl))) (pss_cons (ps_set (i := 8) sc.nd rfl (Or.inl rfl) (pe_slice (kSlLM (K := K) (by rfl)) (pv 8) po_none (po_some (pe_un un_neg pe_int)))) (pss_one (ps_for PassesOwn.never rfl (kList (K := K) (by rfl) (pv 1)) (kTup (K := K) (n := 2) (by rfl) rfl (pgs_cons (pg_name (i := 2) sc.nd rfl (by first | exact Or.inl rfl | exact Or.inr rfl)) (pgs_cons (pg_name (i := 3) sc.nd rfl (by first | exact Or.inl rfl | exact Or.inr rfl)) pgs_nil))) (pss_one (ps_if (PW.pt (pw_and (pt_cmpR op_eq (pv 3) (pv 9) (by rfl)) (pw_and1 (pt_cmpR (kNmemS (K := K) (by rfl)) (pv 2) (pv 7) (by rfl))))) (pss_cons (ps_expr (pe_bm PySem.F.plainAttrs_list PySem.F.slot_list_append PySem.F.type_list_append mt_append (pv 7) (pa_cons (pv 2) pa_nil))) (pss_one (ps_expr (pe_bm PySem.F.plainAttrs_list PySem.F.slot_list_append PySem.F.type_list_append mt_append (pv 8) (pa_cons (pv 2) pa_nil))))) pss_nil))))))) (pss_one (ps_frz 7 (ps_dput hu (pv 5) (pv 6) (pv 7) rfl))))))) (pss_one (ps_retF (pv 5))))))), by walk_at "sim", ?h⟩
  intro ds m Qd hz h
  obtain ⟨L, rfl, ok, q⟩ := h
  have n9 := ok.n9
  have i5 := ok.it.max
  have litem : ∀ p, L.Link p → (L.at p.1).i ∈ L.items ∧ (L.at p.2).i ∈ L.items := fun p h => E_items ok ⟨p, h, rfl, rfl⟩
  refine ⟨(by decide : 0 ≤ sizeLine), fun a ha => ?_⟩
  refine ⟨_, rfl, hz, L, rfl, ok, fun ls hls => ⟨_, .inl rfl, ?_⟩⟩
  have l3 := hls.1
  refine forX prD ls (fun i δ' m' => ∃ st : List (Str × Str), m' = m.set a (.lst (st.map ssD)) ∧ (∃ p q r, δ' = [some (toldD L), some (.ref a), p, q, r, none, none, none, none, none]) ∧ st.length ≤ i ∧ ∀ z, z ∈ st ↔ ∃ p ∈ ls.take i, ((L.at p.1).i, (L.at p.2).i) = z)
    ⟨[], rfl, ⟨_, _, _, rfl⟩, Nat.le_refl _, by simp⟩ (fun _ _ _ _ => .inl rfl) (fun i p δ' m' hp h => ?_) fun δ' m' h => ?_
  · obtain ⟨st, rfl, ⟨p1, q1, r1, rfl⟩, hl, hm⟩ := h
    have hi := (List.getElem?_eq_some_iff.mp hp).1
    have lk := (hls.2 p).mp (List.mem_of_getElem? hp)
    obtain ⟨m1, m2⟩ := litem p lk
    obtain ⟨k1, k2, k3⟩ := lk
    unfold LogD.lk at k3
    simp only [Bool.and_eq_true] at k3
    have E1 : (L.events.map evD)[p.1]? = some (evD (L.at p.1)) := by rw [List.getElem?_map, LogD.at_get k1]; rfl
    have E2 : (L.events.map evD)[p.2]? = some (evD (L.at p.2)) := by rw [List.getElem?_map, LogD.at_get k2]; rfl
    have A1 := k3.1.1.1.1
    have A2 := k3.1.1.1.2
    unfold LogD.isA at A1 A2
    have next : ∀ st2 : List (Str × Str), (st2.length ≤ i + 1) → (∀ z, z ∈ st2 ↔ z ∈ st ∨ ((L.at p.1).i, (L.at p.2).i) = z) → st2.length ≤ i + 1 ∧ ∀ z, z ∈ st2 ↔ ∃ p ∈ ls.take (i + 1), ((L.at p.1).i, (L.at p.2).i) = z := fun st2 h1 h2 => ⟨h1, fun z => by
      rw [h2, hm, take_next hp]
      constructor
      · rintro (⟨q, hq, e⟩ | e)
        · exact ⟨q, List.mem_append_left _ hq, e⟩
        · exact ⟨p, List.mem_append_right _ (List.mem_singleton.mpr rfl), e⟩
      · rintro ⟨q, hq, e⟩
        rcases List.mem_append.mp hq with hq | hq
        · exact .inl ⟨q, hq, e⟩
        · exact .inr (List.mem_singleton.mp hq ▸ e)⟩
    have good : ∀ z ∈ st, sD 1 (ssD z) = true := fun z hz => by
      obtain ⟨q, hq, rfl⟩ := (hm z).mp hz
      obtain ⟨n1, n2⟩ := litem q ((hls.2 q).mp (List.mem_of_mem_take hq))
      have h1 := strOk_name (ok.it.good _ n1)
      have h2 := strOk_name (ok.it.good _ n2)
      simp [ssD, sD, h1, h2]
    cases e1 : L.at p.1 with
    | rst j1 =>
      rw [e1] at A1
      cases A1
    | ans j1 i1 g1 =>
    cases e2 : L.at p.2 with
    | rst j2 =>
      rw [e2] at A2
      cases A2
    | ans j2 i2 g2 =>
    rw [e1] at E1 next m1
    rw [e2] at E2 next m2
    have h1 := strOk_name (ok.it.good _ m1)
    have h2 := strOk_name (ok.it.good _ m2)
    have h1 : PyData.strOk i1 = true := h1
    have h2 : PyData.strOk i2 = true := h2
    refine ⟨_, rfl, rfl, _, _, rfl, _, _, rfl, rfl, _, rfl, _, _, _, .inr rfl, rfl, rfl, _, rfl, _, _, _, .inl (.inl rfl), rfl, at_nat E1, _, _, _, .inr rfl, rfl, rfl, _, rfl, _, _, _, .inr rfl, rfl, rfl, _, rfl, _, _, _, .inl (.inl rfl), rfl, at_nat E2, _, _, _, .inr rfl, rfl, rfl, (by decide : 2 ≤ sizeLine), ?_⟩
    refine ⟨_, rfl, _, rfl, goInD true 1 (by decide) (.inr (.inr ⟨a, rfl, Mu.set_same⟩)) (by simp [sD, h1, h2]) (fun d hd => ?_) fun k hk => ⟨_, rfl, ?_⟩⟩
    · obtain ⟨z, hz2, rfl⟩ := List.mem_map.mp hd
      exact good z hz2
    · have hk : k = true ↔ (i1, i2) ∈ st := hk.trans (mem_ss (p := (i1, i2)))
      cases k with
      | true =>
        have hin := hk.mp rfl
        exact ifN rfl ⟨st, rfl, ⟨_, _, _, rfl⟩, next st (by omega) fun z => ⟨.inl, fun h => h.elim id fun (e : (i1, i2) = z) => e ▸ hin⟩⟩
      | false =>
        refine ifY rfl ⟨_, rfl, ⟨_, .inr (.inr ⟨a, rfl, Mu.set_same⟩)⟩, _, rfl, a, _, _, rfl, rfl, Mu.set_same, ?_, st ++ [(i1, i2)], ?_, ⟨_, _, _, rfl⟩, next _ ?_ fun z => ?_⟩
        · rw [List.length_map]
          exact Nat.lt_of_lt_of_le (show _ < 10000 by omega) (by decide)
        · rw [Mu.set_set, List.map_append]
          rfl
        · rw [List.length_append, List.length_singleton]
          omega
        · rw [List.mem_append, List.mem_singleton]
          exact or_congr Iff.rfl ⟨fun e => e.symm, fun e => e.symm⟩
  obtain ⟨st, rfl, ⟨p1, q1, r1, rfl⟩, hl, hm⟩ := h
  rw [List.take_length] at hm
  have hst : ∀ x y, (x, y) ∈ st ↔ L.E x y := fun x y => by
    rw [hm]
    unfold LogD.E
    constructor
    · rintro ⟨p, hp, e⟩
      exact ⟨p, (hls.2 p).mp hp, (Prod.mk.inj e).1, (Prod.mk.inj e).2⟩
    · rintro ⟨p, hp, h1, h2⟩
      exact ⟨p, (hls.2 p).mpr hp, by rw [h1, h2]⟩
  refine ⟨a, _, rfl, Mu.set_same, ?_⟩
  rw [Mu.del_set ha]
  intro b hb
  have s3 : st.length ≤ 3000 := by omega
  refine ⟨_, rfl, _, _, _, .inr rfl, rfl, rfl, _, .inl rfl, ?_⟩
  refine forX D.str L.items (fun i δ' m' => ∃ f : Str → List Str, (∀ x ∈ L.items.take i, ∀ y, y ∈ f x ↔ Tc L.E y x) ∧ L3.Sub m m' ∧ m'.c b = some (.dK ((L.items.take i).map fun x => (kS x, .lst ((f x).map D.str)))) ∧ ∃ p q r t l g w, δ' = [some (toldD L), some (.lst (st.map ssD)), p, q, r, some (.ref b), t, l, g, w])
    ⟨fun _ => [], (fun x hx => by cases hx), L3.Sub.refl.set hb, Mu.set_same, _, _, _, _, _, _, _, rfl⟩ (fun _ _ _ _ => .inl rfl) (fun i x δ' m' hx h => ?_) fun δ' m' h => ?_
  · obtain ⟨f, hf, sub, hB, p2, q2, r2, t2, l2, g2, w2, rfl⟩ := h
    have hz' : m'.fz = [] := sub.2.trans hz
    refine ⟨(by decide : 0 ≤ sizeLine), fun c hc => ?_⟩
    have hc0 := Sub.fresh sub hc
    have hcb : b ≠ c := fun e => by
      rw [← e, hB] at hc
      cases hc
    refine ⟨_, rfl, (by decide : 1 ≤ sizeLine), fun g hg => ?_⟩
    have hgc : c ≠ g := fun e => by
      rw [← e, Mu.set_same] at hg
      cases hg
    rw [Mu.set_ne hgc.symm] at hg
    have hg0 := Sub.fresh sub hg
    have hgb : b ≠ g := fun e => by
      rw [← e, hB] at hg
      cases hg
    generalize eF : (MO.dK ((L.items.take i).map fun x => (kS x, .lst ((f x).map D.str)))) = F0 at hB
    refine ⟨fun n δ' m' => ∃ lot gr g, L3.Sub m m' ∧ m'.c b = some F0 ∧ m'.c c = some (.lst (lot.map D.str)) ∧ m'.c g = some (.lst (gr.map D.str)) ∧ c ≠ g ∧ b ≠ g ∧ m.c g = none ∧
        (∃ p q r w, δ' = [some (toldD L), some (.lst (st.map ssD)), p, q, r, some (.ref b), some (.str x), some (.ref c), some (.ref g), w]) ∧ Wk st x lot gr (fun _ => False) ∧ n = 2 * (st.length - lot.length) + gr.length ∧ n ≤ 2 * st.length + 1,
      ⟨_, [], [x], g, (sub.set hc0).set hg0, ?_, ?_, Mu.set_same, hgc, hgb, hg0, ⟨_, _, _, _, rfl⟩, ⟨by simp, (fun y hy => by cases hy), fun y hy => .inl (List.mem_singleton.mp hy), fun y hy => ?_⟩, rfl, by simp⟩, fun n δ' m' h => ?_⟩
    · rw [Mu.set_ne hgb, Mu.set_ne hcb]
      exact hB
    · rw [Mu.set_ne hgc, Mu.set_same]
      rfl
    · rcases hy with rfl | hy
      · exact .inl List.mem_cons_self
      · cases hy
    obtain ⟨lot, gr, g3, sub, hB, hC, hG, hgc, hgb, hg0, ⟨p3, q3, r3, w3, rfl⟩, wk, rfl, nb⟩ := h
    have gl : (gr.map D.str).length = gr.length := List.length_map _
    refine ⟨_, rfl, _, _, rfl, .inl ⟨_, .inl (.inr (.inr ⟨g3, rfl, hG⟩)), rfl⟩, _, _, rfl, rfl, _, rfl, iteB (fun h1 => ?_) fun h1 => ?_⟩
    · have h1 := of_decide_eq_true h1
      rw [gl] at h1
      rcases List.eq_nil_or_concat gr with rfl | ⟨gr0, last, rfl⟩
      · exact absurd h1 (by decide)
      rw [List.concat_eq_append] at wk nb hG gl ⊢
      have hat : atI ((gr0 ++ [last]).map D.str) (-1) = some (.str last) := by
        rw [List.map_append]
        exact at_last
      refine ⟨_, rfl, _, rfl, _, _, _, .inl (.inr (.inr ⟨g3, rfl, hG⟩)), rfl, hat, ?_⟩
      refine ⟨_, rfl, _, rfl, _, rfl, _, .inr (.inr ⟨g3, rfl, hG⟩), fun g4 hg4 => ?_⟩
      have ec : L3.cutD ((gr0 ++ [last]).map D.str) none (some (-1)) = gr0.map D.str := by
        rw [List.map_append]
        exact cut_last _ _
      rw [ec]
      have hg40 := Sub.fresh sub hg4
      have hgc4 : c ≠ g4 := fun e => by
        rw [← e, hC] at hg4
        cases hg4
      have hgb4 : b ≠ g4 := fun e => by
        rw [← e, hB] at hg4
        cases hg4
      have wk1 : Wk st x lot gr0 (fun z => z = last) := { wk with
        gs := fun y hy => wk.gs y (List.mem_append_left _ hy)
        cl := fun y hy => by
          rcases wk.cl y hy with k | k | k
          · rcases List.mem_append.mp k with k | k
            · exact .inl k
            · exact .inr (.inl (List.mem_singleton.mp k))
          · exact k.elim
          · exact .inr (.inr k) }
      have hlast : last = x ∨ last ∈ lot := wk.gs last (List.mem_append_right _ (List.mem_singleton.mpr rfl))
      rw [List.length_append, List.length_singleton] at nb ⊢
      refine ⟨_, rfl, _, .inl rfl, ?_⟩
      refine forX ssD st (fun k δ' m' => ∃ lot2 gr2, L3.Sub m m' ∧ m'.c b = some F0 ∧ m'.c c = some (.lst (lot2.map D.str)) ∧ m'.c g4 = some (.lst (gr2.map D.str)) ∧
          (∃ p q r, δ' = [some (toldD L), some (.lst (st.map ssD)), p, q, r, some (.ref b), some (.str x), some (.ref c), some (.ref g4), some (.str last)]) ∧ Wk st x lot2 gr2 (fun z => z = last) ∧ (last = x ∨ last ∈ lot2) ∧ (∀ z ∈ st.take k, z.2 = last → z.1 ∈ lot2) ∧ 2 * (st.length - lot2.length) + gr2.length < 2 * (st.length - lot.length) + (gr0.length + 1))
        ⟨lot, gr0, sub.set hg40, ?_, ?_, Mu.set_same, ⟨_, _, _, rfl⟩, wk1, hlast, (fun z hz => by cases hz), by omega⟩ (fun _ _ _ _ => .inl rfl) (fun k z δ' m' hk h => ?_) fun δ' m' h => ?_
      · rw [Mu.set_ne hgb4]
        exact hB
      · rw [Mu.set_ne hgc4]
        exact hC
      · obtain ⟨lot2, gr2, sub2, hB2, hC2, hG2, ⟨p4, q4, r4, rfl⟩, wk2, hl2, hd2, lt2⟩ := h
        have hkm := List.mem_of_getElem? hk
        have skip : (z.2 = last → z.1 ∈ lot2) → ∀ y ∈ st.take (k + 1), y.2 = last → y.1 ∈ lot2 := fun hs y hy e => by
          rw [take_next hk] at hy
          rcases List.mem_append.mp hy with hy | hy
          · exact hd2 y hy e
          · rw [List.mem_singleton.mp hy] at e ⊢
            exact hs e
        refine ⟨_, rfl, rfl, _, _, rfl, _, _, rfl, rfl, _, rfl, _, rfl, _, rfl, _, rfl, iteB (fun h2 => ?_) fun h2 => ifN rfl ⟨lot2, gr2, sub2, hB2, hC2, hG2, ⟨_, _, _, rfl⟩, wk2, hl2, skip fun e => absurd e (of_decide_eq_false h2), lt2⟩⟩
        have h2 : z.2 = last := of_decide_eq_true h2
        refine ⟨_, rfl, _, rfl, z.1, lot2, rfl, .inl (.inr (.inr ⟨c, rfl, hC2⟩)), _, rfl, ?_⟩
        by_cases hin : z.1 ∈ lot2
        · rw [decide_eq_true hin]
          exact ifN rfl ⟨lot2, gr2, sub2, hB2, hC2, hG2, ⟨_, _, _, rfl⟩, wk2, hl2, skip fun _ => hin, lt2⟩
        · rw [decide_eq_false hin]
          have wk3 := wk2.put hl2 (h2 ▸ hkm : (z.1, last) ∈ st) hin
          have l4 := wk3.len
          rw [List.length_append, List.length_singleton] at l4
          have hG4 : (m'.set c (.lst (lot2.map D.str ++ [D.str z.1]))).c g4 = some (.lst (gr2.map D.str)) := by
            rw [Mu.set_ne hgc4.symm]
            exact hG2
          refine ifY rfl ⟨_, rfl, ⟨_, .inr (.inr ⟨c, rfl, hC2⟩)⟩, _, rfl, c, _, _, rfl, rfl, hC2, ?_, _, rfl, ⟨_, .inr (.inr ⟨g4, rfl, hG4⟩)⟩, _, rfl, g4, _, _, rfl, rfl, hG4, ?_, lot2 ++ [z.1], gr2 ++ [z.1], (sub2.set hc0).set hg40, ?_, ?_, ?_, ⟨_, _, _, rfl⟩, wk3, ?_, ?_, ?_⟩
          · rw [List.length_map]
            exact Nat.lt_of_lt_of_le (show _ < 10000 by omega) (by decide)
          · rw [List.length_map]
            exact Nat.lt_of_lt_of_le (show _ < 10000 by omega) (by decide)
          · rw [Mu.set_ne hgb4, Mu.set_ne hcb]
            exact hB2
          · rw [Mu.set_ne hgc4, Mu.set_same, List.map_append]
            rfl
          · rw [Mu.set_same, List.map_append]
            rfl
          · exact hl2.imp id fun h => List.mem_append_left _ h
          · intro y hy e
            rw [take_next hk] at hy
            rcases List.mem_append.mp hy with hy | hy
            · exact List.mem_append_left _ (hd2 y hy e)
            · rw [List.mem_singleton.mp hy]
              exact List.mem_append_right _ (List.mem_singleton.mpr rfl)
          · simp only [List.length_append, List.length_singleton]
            omega
      · obtain ⟨lot2, gr2, sub2, hB2, hC2, hG2, ⟨p4, q4, r4, rfl⟩, wk2, hl2, hd2, lt2⟩ := h
        rw [List.take_length] at hd2
        refine ⟨_, lt2, lot2, gr2, g4, sub2, hB2, hC2, hG2, hgc4, hgb4, hg40, ⟨_, _, _, _, rfl⟩, { wk2 with cl := fun y hy => ?_ }, rfl, by omega⟩
        rcases wk2.cl y hy with k | k | k
        · exact .inl k
        · exact .inr (.inr fun s hs => hd2 (s, y) hs k)
        · exact .inr (.inr k)
    · have h1 := of_decide_eq_false h1
      rw [gl] at h1
      have e0 : gr = [] := List.length_eq_zero_iff.mp (by omega)
      subst e0
      have hB5 : (m'.del c).c b = some F0 := by
        rw [Mu.del_ne hcb]
        exact hB
      rw [← eF] at hB5
      have hx2 := take_not ok.it.nd hx
      refine ⟨c, _, rfl, hC, _, rfl, _, rfl, _, rfl, b, rfl, .inl ⟨_, kS x, hB5, rfl, ?_, ?_⟩⟩
      · rw [List.length_map, List.length_take]
        exact Nat.lt_of_lt_of_le (show _ < 10000 by omega) (by decide)
      · rw [setD_new (getD_none (f := kS) fun y hy e => hx2 ((kS_inj y x e) ▸ hy))]
        refine ⟨fun z => if z = x then lot else f z, fun y hy z => ?_, (sub.del hc0).set hb, ?_, _, _, _, _, _, _, _, rfl⟩
        · rw [take_next hx] at hy
          dsimp only
          by_cases e : y = x
          · subst e
            rw [if_pos rfl, wk.end_]
            exact ⟨Tc.mono fun a b h => (hst a b).mp h, Tc.mono fun a b h => (hst a b).mpr h⟩
          · rw [if_neg e]
            rcases List.mem_append.mp hy with hy | hy
            · exact hf y hy z
            · exact absurd (List.mem_singleton.mp hy) e
        · rw [Mu.set_same, take_next hx, List.map_append]
          have e3 : ((L.items.take i).map fun z => (kS z, D.lst ((if z = x then lot else f z).map D.str))) = (L.items.take i).map fun z => (kS z, D.lst ((f z).map D.str)) := List.map_congr_left fun y hy => by
            rw [if_neg fun e : y = x => hx2 (e ▸ hy)]
          rw [e3]
          simp
          rfl
  · obtain ⟨f, hf, sub, hB, p2, q2, r2, t2, l2, g2, w2, rfl⟩ := h
    rw [List.take_length] at hf hB
    exact ⟨_, rfl, b, _, rfl, hB, sub.del hb, q f hf⟩
end F__law_worse
namespace F__law_has_ring
abbrev sDef : Stmt := top 104
abbrev sN : List Str := ["_law_parts_here", "_law_worse_here", "_law_thing"]
abbrev sP : List Str := ["_law_parts_here"]
theorem sc : FnScope sN sP (defScope sDef) := ⟨rfl, rfl, rfl, by decide +kernel, rfl, by decide +kernel, by decide +kernel⟩
def S : SD := fun ds m Q => ∃ (L : LogD), ds = [toldD L] ∧ LogOk L ∧ (¬ L.Ring → Q (.bl false)) ∧ (L.Ring → Q (.bl true))
theorem ok {P : Program} {w : World} {K : Fg} {mg : Str → Option Value} {base : Heap} {CL CD CS CU GS f : Addr} {fd : FuncData} (F : FnP K "_law_has_ring" "_law_has_ring" sDef f fd) (T : Txt K mg CL CD CS CU GS) (hlaw_worse : Cal P w K mg base 2 "_law_worse" ["_law_parts_here"] (spP K (F__law_worse.S))) : FnOk P w K mg base CX0 3 f fd sP (spP K (S)) := by
  refine okP F sc (fun ds m Qd h => ?_) fun cdv A outer s H E hr => ?_
  · obtain ⟨L, rfl, ok, q0, q1⟩ := h
    rfl
  have hu := hu_of hr
  refine ⟨_, _, (pss_cons (ps_set (i := 1) sc.nd rfl (Or.inr rfl) (pe_cal hlaw_worse hr (by decide) rfl (pa_cons (pv 0) pa_nil))) (pss_one (ps_ret (pe_cmpR op_gt (pe_callB (kLen (K := K) (by rfl)) (by rfl) T.n_len PySem.boot_len (pa_cons (pe_lc (own := [("_law_thing", 2)]) rfl sc.nd (kList (K := K) (by rfl) (pe_ix (kIx (K := K) (by rfl)) (pv 0) pe_int (fun _ _ => rfl))) (blkOk_by (N := sN) (sc := defScope sDef) (by decide +kernel)) (fun _ _ _ _ _ => (pg_name (i := 2) sc.nd rfl (by first | exact Or.inl rfl | exact Or.inr rfl))) (fun _ _ _ _ _ => pts_one (pt_cmpR (kMemS (K := K) (by rfl)) (pv 2) (pe_dget hu (pv 1) (pv 2) (fun _ _ => rfl)) (by rfl))) (fun _ _ _ _ _ => (pv 2))) pa_nil)) pe_int (by rfl))))), by walk_at "sim", ?h⟩
  intro ds m Qd hz h
  obtain ⟨L, rfl, ok, q0, q1⟩ := h
  have i5 := ok.it.max
  refine ⟨_, rfl, hz, L, rfl, ok, fun f hf => ?_⟩
  refine ⟨_, rfl, _, _, _, .inr rfl, rfl, rfl, _, .inl rfl, lcFM D.str L.items (fun x => decide (x ∈ f x)) D.str (.inl rfl) (sz (by omega)) (fun x hx Ny Nn y n => ?_) ?_⟩
  · have g := getD_map (f := kS) (v := fun z => D.lst ((f z).map D.str)) F_reached.kS_inj hx
    exact ⟨_, rfl, _, rfl, _, rfl, _, .inl ⟨_, kS x, .inl rfl, rfl, g.symm⟩, x, f x, rfl, .inl (.inl rfl), _, rfl, iteB (fun h => ⟨_, rfl, y h⟩) n⟩
  · refine ⟨_, _, rfl, .inl ⟨_, .inl (.inl rfl), rfl⟩, _, _, rfl, rfl, .refl, ?_⟩
    rw [List.length_map]
    cases e : L.items.filter (fun x => decide (x ∈ f x)) with
    | nil =>
      refine q0 fun ⟨x, hx, hr⟩ => ?_
      have : x ∈ L.items.filter (fun x => decide (x ∈ f x)) := List.mem_filter.mpr ⟨hx, decide_eq_true ((hf x hx x).mpr hr)⟩
      rw [e] at this
      cases this
    | cons x r =>
      have : x ∈ L.items.filter (fun x => decide (x ∈ f x)) := by
        rw [e]
        exact List.mem_cons_self
      obtain ⟨h1, h2⟩ := List.mem_filter.mp this
      have hr : L.Ring := ⟨x, h1, (hf x h1 x).mp (of_decide_eq_true h2)⟩
      have ed : decide ((0 : Int) < ((x :: r).length : Nat)) = true := decide_eq_true (by rw [List.length_cons]; omega)
      show Qd (.bl (decide ((0 : Int) < ((x :: r).length : Nat))))
      rw [ed]
      exact q1 hr
end F__law_has_ring
namespace F__law_pairs
abbrev sDef : Stmt := top 106
abbrev sN : List Str := ["_law_parts_here", "_law_worse_here", "_law_found", "_law_one", "_law_other"]
abbrev sP : List Str := ["_law_parts_here"]
theorem sc : FnScope sN sP (defScope sDef) := ⟨rfl, rfl, rfl, by decide +kernel, rfl, by decide +kernel, by decide +kernel⟩
open F_pairs_of
def S : SD := fun ds m Q => ∃ (L : LogD), ds = [toldD L] ∧ LogOk L ∧ ∀ up : Str → Str → Bool, (∀ x ∈ L.items, ∀ y ∈ L.items, up x y = true ↔ Tc L.E x y) → Q (.lst ((prs L.items up).map ssD))
theorem ok {P : Program} {w : World} {K : Fg} {mg : Str → Option Value} {base : Heap} {CL CD CS CU GS f : Addr} {fd : FuncData} (F : FnP K "_law_pairs" "_law_pairs" sDef f fd) (T : Txt K mg CL CD CS CU GS) (hlaw_worse : Cal P w K mg base 2 "_law_worse" ["_law_parts_here"] (spP K (F__law_worse.S))) : FnOk P w K mg base CX0 3 f fd sP (spP K (S)) := by
  refine okP F sc (fun ds m Qd h => ?_) fun cdv A outer s H E hr => ?_
  · obtain ⟨L, rfl, ok, q⟩ := h
    rfl
  have hu := hu_of hr
  refine ⟨_, _, (pss_cons (ps_set (i := 1) sc.nd rfl (Or.inl rfl) (pe_cal hlaw_worse hr (by decide) rfl (pa_cons (pv 0) pa_nil))) (pss_cons (ps_set (i := 2) sc.nd rfl (Or.inl rfl) (pe_lstM pa_nil)) (pss_cons (ps_for PassesOwn.never rfl (kList (K := K) (by rfl) (pe_ix (kIx (K := K) (by rfl)) (pv 0) pe_int (fun _ _ => rfl))) (pg_name (i := 3) sc.nd rfl (by first | exact Or.inl rfl | exact Or.inr rfl)) (pss_one (ps_for PassesOwn.never rfl (kList (K := K) (by rfl) (pe_ix (kIx (K := K) (by rfl)) (pv 0) pe_int (fun _ _ => rfl))) (pg_name (i := 4) sc.nd rfl (by first | exact Or.inl rfl | exact Or.inr rfl)) (pss_one (ps_if (pt_cmpR (kMemS (K := K) (by rfl)) (pv 3) (pe_dget hu (pv 1) (pv 4) (fun _ _ => rfl)) (by rfl)) (pss_one (ps_expr (pe_bm PySem.F.plainAttrs_list PySem.F.slot_list_append PySem.F.type_list_append mt_append (pv 2) (pa_cons (pe_tup (pa_cons (pv 3) (pa_cons (pv 4) pa_nil))) pa_nil)))) pss_nil))))) (pss_one (ps_retF (pv 2)))))), by walk_at "sim", ?h⟩
  intro ds m Qd hz h
  obtain ⟨L, rfl, ok, q⟩ := h
  have i5 := ok.it.max
  have l1 : L.items.length ≤ sizeLine := sz (by omega)
  refine ⟨_, rfl, hz, L, rfl, ok, fun f hf => ?_⟩
  have hg : ∀ x ∈ L.items, getD (L.items.map fun x => (kS x, D.lst ((f x).map D.str))) (kS x) = some (.lst ((f x).map D.str)) := fun x hx => getD_map (f := kS) (v := fun z => D.lst ((f z).map D.str)) F_reached.kS_inj hx
  refine ⟨(by decide : 0 ≤ sizeLine), fun a ha => ?_⟩
  generalize eu : (fun x y : Str => decide (x ∈ f y)) = up
  have hup : ∀ x y, decide (x ∈ f y) = up x y := fun x y => by rw [← eu]
  have fin : (prs L.items up) = L.items.flatMap fun x => (L.items.filter (up x)).map fun y => (x, y) := rfl
  refine ⟨_, rfl, _, _, _, .inr rfl, rfl, rfl, _, .inl rfl, ?_⟩
  refine forX D.str L.items (fun i δ' m' => m' = m.set a (.lst (((L.items.take i).flatMap fun x => (L.items.filter (up x)).map fun y => (x, y)).map ssD)) ∧ ∃ p q, δ' = [some (toldD L), some (.dic (L.items.map fun x => (kS x, .lst ((f x).map D.str)))), some (.ref a), p, q])
    ⟨rfl, _, _, rfl⟩ (fun _ _ _ _ => .inl rfl) (fun i x δ' m' hx h => ?_) fun δ' m' h => ?_
  · obtain ⟨rfl, p, q1, rfl⟩ := h
    have hxm := List.mem_of_getElem? hx
    refine ⟨_, rfl, _, _, _, .inr rfl, rfl, rfl, _, .inl rfl, ?_⟩
    refine forX D.str L.items (fun j δ' m' => m' = m.set a (.lst ((((L.items.take i).flatMap fun x => (L.items.filter (up x)).map fun y => (x, y)) ++ ((L.items.take j).filter (up x)).map fun y => (x, y)).map ssD)) ∧ ∃ q, δ' = [some (toldD L), some (.dic (L.items.map fun x => (kS x, .lst ((f x).map D.str)))), some (.ref a), some (.str x), q])
      ⟨by simp, _, rfl⟩ (fun _ _ _ _ => .inl rfl) (fun j y δ' m' hy h => ?_) fun δ' m' h => ?_
    · obtain ⟨rfl, q2, rfl⟩ := h
      have hym := List.mem_of_getElem? hy
      refine ⟨_, rfl, _, rfl, _, rfl, _, .inl ⟨_, kS y, .inl rfl, rfl, (hg y hym).symm⟩, x, f y, rfl, .inl (.inl rfl), _, rfl, iteB (fun h1 => ?_) fun h1 => ?_⟩
      · have h1 : up x y = true := hup x y ▸ h1
        refine ⟨_, rfl, ⟨_, .inr (.inr ⟨a, rfl, Mu.set_same⟩)⟩, _, rfl, _, rfl, (by decide : 2 ≤ sizeLine), a, _, _, rfl, rfl, Mu.set_same, ?_, ?_, _, rfl⟩
        · have b1 := fm_len (k := 5) (n := 5) (f := fun x => (L.items.filter (up x)).map fun y => (x, y)) (xs := L.items.take i) (by rw [List.length_take]; omega) fun z _ => by
            rw [List.length_map]
            exact Nat.le_trans (List.length_filter_le _ _) i5
          have b2 := List.length_filter_le (up x) (L.items.take j)
          rw [List.length_take] at b2
          rw [List.length_map, List.length_append, List.length_map]
          exact Nat.lt_of_lt_of_le (show _ < 10000 by omega) (by decide)
        · rw [Mu.set_set, take_next hy, List.filter_append, List.filter_cons, if_pos h1, List.filter_nil]
          simp [ssD]
      · have h1 : up x y = false := hup x y ▸ h1
        refine ⟨?_, _, rfl⟩
        rw [take_next hy, List.filter_append, List.filter_cons, if_neg (by rw [h1]; decide), List.filter_nil, List.append_nil]
    · obtain ⟨rfl, q2, rfl⟩ := h
      refine ⟨?_, _, _, rfl⟩
      rw [List.take_length, take_next hx, List.flatMap_append, List.flatMap_cons, List.flatMap_nil, List.append_nil]
  · obtain ⟨rfl, p, q1, rfl⟩ := h
    rw [List.take_length]
    refine ⟨_, rfl, a, _, rfl, Mu.set_same, ?_, ?_⟩
    · rw [Mu.del_set ha]
      exact .refl
    · exact q up fun x hx y hy => (by rw [← hup, decide_eq_true_eq]; exact hf y hy x)
end F__law_pairs
namespace F_check_alike
abbrev sDef : Stmt := top 74
abbrev sN : List Str := ["one", "other"]
abbrev sP : List Str := ["one", "other"]
theorem sc : FnScope sN sP (defScope sDef) := ⟨rfl, rfl, rfl, by decide +kernel, rfl, by decide +kernel, by decide +kernel⟩
theorem ltC_le {a b : List Nat} : ltCps b a = false ↔ a ≤ b := by
  rw [ltCps_eq, decide_eq_false_iff_not]
  exact List.not_lt
theorem sorted_pair : ∀ (p : Str) (l : List Str), risingS p l = true → (p :: l).Pairwise (fun a b => a.cps.toList ≤ b.cps.toList)
  | p, [], _ => by simp
  | p, x :: r, h => by
    have h : (!ltCps x.cps.toList p.cps.toList && risingS x r) = true := h
    rw [Bool.and_eq_true, Bool.not_eq_true'] at h
    have ih := sorted_pair x r h.2
    have h1 : p.cps.toList ≤ x.cps.toList := ltC_le.mp h.1
    refine List.pairwise_cons.mpr ⟨fun y hy => ?_, ih⟩
    rcases List.mem_cons.mp hy with hy | hy
    · exact hy ▸ h1
    · exact List.le_trans h1 (List.rel_of_pairwise_cons ih hy)
theorem sorted_uniq {xs ys : List Str} (h1 : sortedS xs = true) (h2 : sortedS ys = true) (p : xs.Perm ys) : xs = ys := by
  have key : ∀ l : List Str, sortedS l = true → l.Pairwise (fun a b => a.cps.toList ≤ b.cps.toList) := fun l h => by
    cases l with
    | nil => exact List.Pairwise.nil
    | cons x r => exact sorted_pair x r h
  refine List.Perm.eq_of_pairwise (fun a b _ _ h3 h4 => ?_) (key xs h1) (key ys h2) p
  have e : a.cps.toList = b.cps.toList := List.le_antisymm h3 h4
  obtain ⟨a⟩ := a
  obtain ⟨b⟩ := b
  exact congrArg Str.mk (Array.toList_inj.mp e)
def S (CL : Addr) : SD := fun ds m Q => ∃ (L L2' : LogD), ds = [logD CL L, logD CL L2'] ∧ L2'.items = L.items ∧ Names L.items 5 ∧ Q .non
theorem ok {P : Program} {w : World} {K : Fg} {mg : Str → Option Value} {base : Heap} {CL CD CS CU GS f : Addr} {fd : FuncData} (F : FnP K "check_alike" "check_alike" sDef f fd) (T : Txt K mg CL CD CS CU GS) (hLog_item_names : CalP P w K mg base CL 1 "item_names" (spP K (F_Log_item_names.S CL))) : FnOk P w K mg base CX0 3 f fd sP (spP K (S CL)) := by
  refine okP F sc (fun ds m Qd h => ?_) fun cdv A outer s H E hr => ?_
  · obtain ⟨L, L2', rfl, e, nm, q⟩ := h
    rfl
  have hu := hu_of hr
  refine ⟨_, _, (pss_one (ps_if (pt_cmpR (kNeD (K := K) (by rfl) hr.units) (pe_callB (kSortS (K := K) (by rfl)) (by rfl) T.n_sorted (by decide +kernel) (pa_cons (pe_calP hLog_item_names T.cLog hr (by decide) (pv 0)) pa_nil)) (pe_callB (kSortS (K := K) (by rfl)) (by rfl) T.n_sorted (by decide +kernel) (pa_cons (pe_calP hLog_item_names T.cLog hr (by decide) (pv 1)) pa_nil)) (by rfl)) (pss_one ps_never) pss_nil)), by walk_at "sim", ?h⟩
  intro ds m Qd hz h
  obtain ⟨L, L2', rfl, e, nm, q⟩ := h
  have i5 := nm.max
  refine ⟨_, rfl, _, .inl rfl, hz, L, rfl, _, L.items, rfl, .inl rfl, by omega, fun ys py sy => ?_⟩
  refine ⟨_, rfl, _, .inl rfl, hz, L2', rfl, _, L.items, rfl, .inl (by rw [e]), by omega, fun zs pz sz2 => ?_⟩
  obtain rfl := sorted_uniq sy sz2 (py.trans pz.symm)
  have sd : sD 1 (.lst (ys.map D.str)) = true := sD_strs fun x hx => nm.good x (py.mem_iff.mp hx)
  refine goNeD 1 (by decide) sd sd fun k hk => ⟨_, rfl, ifN ?_ ⟨.refl, q⟩⟩
  cases k with
  | true => exact absurd rfl (hk.mp rfl)
  | false => rfl
end F_check_alike
namespace F_has_ring
abbrev sDef : Stmt := top 75
abbrev sN : List Str := ["better", "item"]
abbrev sP : List Str := ["better"]
theorem sc : FnScope sN sP (defScope sDef) := ⟨rfl, rfl, rfl, by decide +kernel, rfl, by decide +kernel, by decide +kernel⟩
open F_reached
theorem key_map (items : List Str) (R : Str → Str → Bool) : (items.map fun a => (kS a, D.lst ((items.filter (R a)).map D.str))).map (fun kv => kD kv.1) = items.map D.str := by
  rw [List.map_map]
  rfl
def S : SD := fun ds m Q => ∃ (items : List Str) (F : Str → Str → Bool), ds = [tabD items F] ∧ items.Nodup ∧ items.length ≤ 100 ∧ Q (.bl (items.any fun a => F a a))
theorem ok {P : Program} {w : World} {K : Fg} {mg : Str → Option Value} {base : Heap} {CL CD CS CU GS f : Addr} {fd : FuncData} (F : FnP K "has_ring" "has_ring" sDef f fd) (T : Txt K mg CL CD CS CU GS)  : FnOk P w K mg base CX0 1 f fd sP (spP K (S)) := by
  refine okP F sc (fun ds m Qd h => ?_) fun cdv A outer s H E hr => ?_
  · obtain ⟨items, F0, rfl, nd, hl, q⟩ := h
    rfl
  have hu := hu_of hr
  refine ⟨_, _, (pss_one (ps_ret (pe_callB (kAny (K := K) (by rfl) (by rfl)) (by rfl) T.n_any (by decide +kernel) (pa_cons (pe_lock (pe_lc (own := [("item", 1)]) rfl sc.nd (pi_keys (pv 0)) (blkOk_by (N := sN) (sc := defScope sDef) (by decide +kernel)) (fun _ _ _ _ _ => (pg_name (i := 1) sc.nd rfl (by first | exact Or.inl rfl | exact Or.inr rfl))) (fun _ _ _ _ _ => pts_nil) (fun _ _ _ _ _ => (pe_cmpR (kMemS (K := K) (by rfl)) (pv 1) (pe_dget hu (pv 0) (pv 1) (fun _ _ => rfl)) (by rfl))))) pa_nil)))), by walk_at "sim", ?h⟩
  intro ds m Qd hz h
  obtain ⟨items, F0, rfl, nd, hl, q⟩ := h
  refine ⟨hz, _, rfl, fun a => ?_⟩
  rw [key_map]
  refine lcM D.str items (fun a => .bl (F0 a a)) trivial (sz (by omega)) (fun y hy Ny Nn k => ?_) ?_
  · have g := getD_map (f := kS) (v := fun z => D.lst ((items.filter (F0 z)).map D.str)) kS_inj hy
    refine ⟨_, rfl, _, rfl, _, rfl, _, .inl ⟨_, kS y, .inl rfl, rfl, g.symm⟩, y, items.filter (F0 y), rfl, .inl (.inl rfl), ?_⟩
    have r := row_mem (f := F0 y) hy
    exact r ▸ k
  · refine ⟨rfl, _, items.map fun a => F0 a a, rfl, .inl (by rw [List.map_map]; rfl), ?_⟩
    rw [any_bl]
    refine ⟨⟨fun _ _ e => e, hz.symm⟩, q⟩
end F_has_ring
namespace F_has_all
abbrev sDef : Stmt := top 76
abbrev sN : List Str := ["better", "others", "item", "end"]
abbrev sP : List Str := ["better", "others"]
theorem sc : FnScope sN sP (defScope sDef) := ⟨rfl, rfl, rfl, by decide +kernel, rfl, by decide +kernel, by decide +kernel⟩
open F_reached F_has_ring
def S : SD := fun ds m Q => ∃ (items : List Str) (F G : Str → Str → Bool), ds = [tabD items F, tabD items G] ∧ items.Nodup ∧ items.length ≤ 100 ∧ (∀ a ∈ items, ∀ b ∈ items, G a b = true → F a b = true) ∧ Q (.bl true)
theorem ok {P : Program} {w : World} {K : Fg} {mg : Str → Option Value} {base : Heap} {CL CD CS CU GS f : Addr} {fd : FuncData} (F : FnP K "has_all" "has_all" sDef f fd) (T : Txt K mg CL CD CS CU GS) (hhas_ring : Cal P w K mg base 1 "has_ring" ["better"] (spP K (F_has_ring.S))) : FnOk P w K mg base CX0 2 f fd sP (spP K (S)) := by
  refine okP F sc (fun ds m Qd h => ?_) fun cdv A outer s H E hr => ?_
  · obtain ⟨items, F0, G0, rfl, nd, hl, sub, q⟩ := h
    rfl
  have hu := hu_of hr
  refine ⟨_, _, (pss_one (ps_ret (pe_or (pe_cal hhas_ring hr (by decide) rfl (pa_cons (pv 0) pa_nil)) (pe_one (pe_callB (kAll (K := K) (by rfl) (by rfl)) (by rfl) T.n_all (by decide +kernel) (pa_cons (pe_lock (pe_lc2 (own := [("item", 2), ("end", 3)]) (vs1 := [3]) rfl sc.nd (pi_keys (pv 1)) (blkOk_by (N := sN) (sc := defScope sDef) (by decide +kernel)) (by decide) (fun _ _ _ _ _ => (pg_name (i := 2) sc.nd rfl (by first | exact Or.inl rfl | exact Or.inr rfl))) (fun _ _ _ _ _ => pts_nil) (fun _ _ _ _ _ => (kList (K := K) (by rfl) (pe_dget hu (pv 1) (pv 2) (fun _ _ => rfl)))) (fun _ _ _ _ _ => (pg_name (i := 3) sc.nd rfl (by first | exact Or.inl rfl | exact Or.inr rfl))) (fun _ _ _ _ _ => pts_nil) (fun _ _ _ _ _ => (pe_cmpR (kMemS (K := K) (by rfl)) (pv 3) (pe_dget hu (pv 0) (pv 2) (fun _ _ => rfl)) (by rfl))))) pa_nil)))))), by walk_at "sim", ?h⟩
  intro ds m Qd hz h
  obtain ⟨items, F0, G0, rfl, nd, hl, sub, q⟩ := h
  refine ⟨_, rfl, hz, items, F0, rfl, nd, hl, _, rfl, ?_⟩
  refine iteB (fun h => ⟨.refl, q⟩) fun h => ?_
  refine ⟨hz, _, rfl, fun a => ?_⟩
  rw [key_map]
  refine lc2FM D.str items (fun _ => D.str) (fun x => items.filter (G0 x)) (fun _ _ => true) (fun _ _ => .bl true) trivial (sz (Nat.le_trans (F_pairs_of.fm_len hl fun x _ => Nat.le_trans (List.length_filter_le _ _) hl) (by decide))) (fun x hx N Nn k => ?_) ?_
  · have g := getD_map (f := kS) (v := fun z => D.lst ((items.filter (G0 z)).map D.str)) kS_inj hx
    have g2 := getD_map (f := kS) (v := fun z => D.lst ((items.filter (F0 z)).map D.str)) kS_inj hx
    refine ⟨_, rfl, _, rfl, _, .inl ⟨_, kS x, .inl rfl, rfl, g.symm⟩, _, .inl rfl, k _ _ (.inl rfl) fun y hy Ny Nz k1 k2 => ?_⟩
    obtain ⟨hy1, hy2⟩ := List.mem_filter.mp hy
    refine ⟨_, rfl, _, rfl, _, rfl, _, .inl ⟨_, kS x, .inl rfl, rfl, g2.symm⟩, y, items.filter (F0 x), rfl, .inl (.inl rfl), ?_⟩
    have r := (row_mem (f := F0 x) hy1).trans (sub x hx y hy1 hy2)
    exact r.symm ▸ k1 rfl
  · refine ⟨rfl, _, items.flatMap fun x => ((items.filter (G0 x)).filter fun _ => true).map fun _ => true, rfl, .inl ?_, ⟨⟨fun _ _ e => e, hz.symm⟩, ?_⟩⟩
    · rw [List.map_flatMap]
      simp [List.map_map, Function.comp_def]
    · have e : (items.flatMap fun x => ((items.filter (G0 x)).filter fun _ => true).map fun _ => true).all id = true := by
        rw [List.all_eq_true]
        intro b hb
        obtain ⟨x, _, h2⟩ := List.mem_flatMap.mp hb
        obtain ⟨_, _, rfl⟩ := List.mem_map.mp h2
        rfl
      rw [e]
      exact q
end F_has_all
namespace F_says_all
abbrev sDef : Stmt := top 77
abbrev sN : List Str := ["one", "other"]
abbrev sP : List Str := ["one", "other"]
theorem sc : FnScope sN sP (defScope sDef) := ⟨rfl, rfl, rfl, by decide +kernel, rfl, by decide +kernel, by decide +kernel⟩
def S (CL : Addr) : SD := fun ds m Q => ∃ (L L2' : LogD), ds = [logD CL L, logD CL L2'] ∧ LogOk L ∧ LogOk L2' ∧ L2'.items = L.items ∧ (∀ a b, L2'.up a b = true → L.up a b = true) ∧ Q (.bl true)
theorem ok {P : Program} {w : World} {K : Fg} {mg : Str → Option Value} {base : Heap} {CL CD CS CU GS f : Addr} {fd : FuncData} (F : FnP K "says_all" "says_all" sDef f fd) (T : Txt K mg CL CD CS CU GS) (hcheck_alike : Cal P w K mg base 3 "check_alike" ["one", "other"] (spP K (F_check_alike.S CL))) (hLog_answers : CalM P w K mg base CL 2 "answers" ["self"] (spP K (F_Log_answers.S CL))) (hbetter_by : Cal P w K mg base 9 "better_by" ["log", "places"] (spP K (F_better_by.S CL))) (hhas_all : Cal P w K mg base 2 "has_all" ["better", "others"] (spP K (F_has_all.S))) : FnOk P w K mg base CX0 10 f fd sP (spP K (S CL)) := by
  refine okP F sc (fun ds m Qd h => ?_) fun cdv A outer s H E hr => ?_
  · obtain ⟨L, L2', rfl, ok, ok2, e, sub, q⟩ := h
    rfl
  have hu := hu_of hr
  refine ⟨_, _, (pss_cons (ps_expr (pe_cal hcheck_alike hr (by decide) rfl (pa_cons (pv 0) (pa_cons (pv 1) pa_nil)))) (pss_one (ps_ret (pe_cal hhas_all hr (by decide) rfl (pa_cons (pe_cal hbetter_by hr (by decide) rfl (pa_cons (pv 0) (pa_cons (pe_calM0 hLog_answers T.cLog hr (by decide) (pv 0)) pa_nil))) (pa_cons (pe_cal hbetter_by hr (by decide) rfl (pa_cons (pv 1) (pa_cons (pe_calM0 hLog_answers T.cLog hr (by decide) (pv 1)) pa_nil))) pa_nil)))))), by walk_at "sim", ?h⟩
  intro ds m Qd hz h
  obtain ⟨L, L2', rfl, ok, ok2, e, sub, q⟩ := h
  have n9 := ok.n9
  have n92 := ok2.n9
  have i5 := ok.it.max
  refine ⟨_, rfl, _, rfl, hz, L, L2', rfl, e, ok.it, ?_⟩
  refine ⟨_, rfl, _, rfl, _, .inl rfl, rfl, hz, L, rfl, by omega, hz, L, rfl, ok, ?_⟩
  refine ⟨_, rfl, _, rfl, _, .inl rfl, rfl, hz, L2', rfl, by omega, hz, L2', rfl, ok2, ?_⟩
  exact ⟨hz, L.items, L.up, L2'.up, by rw [e], ok.it.nd, by omega, fun a _ b _ => sub a b, .refl, q⟩
end F_says_all
namespace F_say_same
abbrev sDef : Stmt := top 78
abbrev sN : List Str := ["one", "other"]
abbrev sP : List Str := ["one", "other"]
theorem sc : FnScope sN sP (defScope sDef) := ⟨rfl, rfl, rfl, by decide +kernel, rfl, by decide +kernel, by decide +kernel⟩
def S (CL : Addr) : SD := fun ds m Q => ∃ (L L2' : LogD), ds = [logD CL L, logD CL L2'] ∧ LogOk L ∧ LogOk L2' ∧ L2'.items = L.items ∧ L2'.up = L.up ∧ Q (.bl true)
theorem ok {P : Program} {w : World} {K : Fg} {mg : Str → Option Value} {base : Heap} {CL CD CS CU GS f : Addr} {fd : FuncData} (F : FnP K "say_same" "say_same" sDef f fd) (T : Txt K mg CL CD CS CU GS) (hsays_all : Cal P w K mg base 10 "says_all" ["one", "other"] (spP K (F_says_all.S CL))) : FnOk P w K mg base CX0 11 f fd sP (spP K (S CL)) := by
  refine okP F sc (fun ds m Qd h => ?_) fun cdv A outer s H E hr => ?_
  · obtain ⟨L, L2', rfl, ok, ok2, e, same, q⟩ := h
    rfl
  have hu := hu_of hr
  refine ⟨_, _, (pss_one (ps_ret (pe_and (pe_cal hsays_all hr (by decide) rfl (pa_cons (pv 0) (pa_cons (pv 1) pa_nil))) (pe_one (pe_cal hsays_all hr (by decide) rfl (pa_cons (pv 1) (pa_cons (pv 0) pa_nil))))))), by walk_at "sim", ?h⟩
  intro ds m Qd hz h
  obtain ⟨L, L2', rfl, ok, ok2, e, same, q⟩ := h
  refine ⟨_, rfl, _, rfl, hz, L, L2', rfl, ok, ok2, e, fun a b h => same ▸ h, _, rfl, ?_⟩
  exact ⟨_, rfl, _, rfl, hz, L2', L, rfl, ok2, ok, e.symm, fun a b h => same.symm ▸ h, .refl, q⟩
end F_say_same
namespace F_ring_in
abbrev sDef : Stmt := top 52
abbrev sN : List Str := ["logs", "ring", "places", "office", "log", "place", "first", "second"]
abbrev sP : List Str := ["logs"]
theorem sc : FnScope sN sP (defScope sDef) := ⟨rfl, rfl, rfl, by decide +kernel, rfl, by decide +kernel, by decide +kernel⟩
def plc (Ls : List LogD) : List (Nat × Nat) := (List.range Ls.length).flatMap fun o => ((List.range (at0 Ls o).n).filter fun _ => true).map fun p => (o, p)
theorem plc_len (Ls : List LogD) : (plc Ls).length = (joinL Ls).n := by
  unfold plc LogD.n joinL
  generalize List.range Ls.length = xs
  induction xs with
  | nil => rfl
  | cons x xs ih =>
    rw [List.flatMap_cons, List.flatMap_cons, List.length_append, List.length_append, ih, List.length_map, List.length_map, List.filter_eq_self.mpr (fun _ _ => rfl), List.length_range]
theorem plc_get {Ls : List LogD} {k : Nat} (h : k < (joinL Ls).n) : ((plc Ls).map prD)[k]? = some (prD ((plc Ls).getD k (0, 0))) := by
  rw [← plc_len] at h
  rw [List.getElem?_map, List.getD_eq_getElem?_getD, List.getElem?_eq_getElem h]
  rfl
def S (CL : Addr) : SD := fun ds m Q => ∃ (Ls : List LogD), ds = [.lst (Ls.map (logD CL))] ∧ Solo Ls ∧ (¬ (joinL Ls).Ring → Q .non) ∧ ((joinL Ls).Ring → ∀ es, Q (.lst es))
theorem ok {P : Program} {w : World} {K : Fg} {mg : Str → Option Value} {base : Heap} {CL CD CS CU GS f : Addr} {fd : FuncData} (F : FnP K "ring_in" "ring_in" sDef f fd) (T : Txt K mg CL CD CS CU GS) (hjoined : Cal P w K mg base 6 "joined" ["logs"] (spP K (F_joined.S CL))) (hring_of : Cal P w K mg base 9 "ring_of" ["log"] (spP K (F_ring_of.S CL))) (hLog_events : CalP P w K mg base CL 1 "events" (spP K (F_Log_events.S CL))) : FnOk P w K mg base CX0 10 f fd sP (spP K (S CL)) := by
  refine okP F sc (fun ds m Qd h => ?_) fun cdv A outer s H E hr => ?_
  · obtain ⟨Ls, rfl, so, q0, q1⟩ := h
    rfl
  have hu := hu_of hr
  refine ⟨_, _, (pss_cons (ps_set (i := 1) sc.nd rfl (Or.inl rfl) (pe_cal hring_of hr (by decide) rfl (pa_cons (pe_cal hjoined hr (by decide) rfl (pa_cons (pv 0) pa_nil)) pa_nil))) (pss_cons (ps_if (pt_cmpR op_isN (pv 1) pe_non (by rfl)) (pss_one (ps_ret pe_non)) pss_nil) (pss_cons (ps_set (i := 2) sc.nd rfl (Or.inr rfl) (pe_lc2 (own := [("office", 3), ("log", 4), ("place", 5)]) (vs1 := [5]) rfl sc.nd (kEnum (K := K) (by rfl) rfl T.n_enumerate (pa_cons (pv 0) pa_nil)) (blkOk_by (N := sN) (sc := defScope sDef) (by decide +kernel)) (by decide) (fun _ _ _ _ _ => (kTup (K := K) (n := 2) (by rfl) rfl (pgs_cons (pg_name (i := 3) sc.nd rfl (by first | exact Or.inl rfl | exact Or.inr rfl)) (pgs_cons (pg_name (i := 4) sc.nd rfl (by first | exact Or.inl rfl | exact Or.inr rfl)) pgs_nil)))) (fun _ _ _ _ _ => pts_nil) (fun _ _ _ _ _ => (pi_range1 rfl T.n_range (pa_cons (pe_callB (kLen (K := K) (by rfl)) (by rfl) T.n_len PySem.boot_len (pa_cons (pe_calP hLog_events T.cLog hr (by decide) (pv 4)) pa_nil)) pa_nil))) (fun _ _ _ _ _ => (pg_name (i := 5) sc.nd rfl (by first | exact Or.inl rfl | exact Or.inr rfl))) (fun _ _ _ _ _ => pts_nil) (fun _ _ _ _ _ => (pe_tup (pa_cons (pv 3) (pa_cons (pv 5) pa_nil)))))) (pss_one (ps_ret (pe_lc (own := [("first", 6), ("second", 7)]) rfl sc.nd (kList (K := K) (by rfl) (pv 1)) (blkOk_by (N := sN) (sc := defScope sDef) (by decide +kernel)) (fun _ _ _ _ _ => (kTup (K := K) (n := 2) (by rfl) rfl (pgs_cons (pg_name (i := 6) sc.nd rfl (by first | exact Or.inl rfl | exact Or.inr rfl)) (pgs_cons (pg_name (i := 7) sc.nd rfl (by first | exact Or.inl rfl | exact Or.inr rfl)) pgs_nil)))) (fun _ _ _ _ _ => pts_nil) (fun _ _ _ _ _ => (pe_op (kCatT (K := K) (by rfl)) (pe_ix (kIx (K := K) (by rfl)) (pv 2) (pv 6) (fun _ _ => rfl)) (pe_slice (kSlT (K := K) (by rfl)) (pe_ix (kIx (K := K) (by rfl)) (pv 2) (pv 7) (fun _ _ => rfl)) (po_some pe_int) po_none))))))))), by walk_at "sim", ?h⟩
  intro ds m Qd hz h
  obtain ⟨Ls, rfl, so, q0, q1⟩ := h
  have m3 := so.max
  have ok := so.join
  refine ⟨_, rfl, hz, Ls, rfl, so, hz, joinL Ls, rfl, ok, fun nr => ⟨_, rfl, rfl, _, rfl, .refl, q0 nr⟩, fun hr way hw hl => ⟨_, rfl, rfl, _, rfl, ?_⟩⟩
  refine ⟨_, rfl, _, _, rfl, .inl rfl, ?_⟩
  rw [enum_logs]
  refine lc2FM (fun (o : Nat) => .tup [.int (o : Nat), logD CL (at0 Ls o)]) (List.range Ls.length) (fun _ (p : Nat) => .int (p : Nat)) (fun o => List.range (at0 Ls o).n) (fun _ _ => true) (fun o p => prD (o, p)) (.inl rfl) ?_ (fun o ho N Nn k => ?_) ?_
  · have := plc_len Ls
    have e : ((List.range Ls.length).flatMap fun o => List.range (at0 Ls o).n).length = (plc Ls).length := by
      unfold plc
      generalize List.range Ls.length = xs
      induction xs with
      | nil => rfl
      | cons x xs ih => rw [List.flatMap_cons, List.flatMap_cons, List.length_append, List.length_append, ih, List.length_map, List.filter_eq_self.mpr (fun _ _ => rfl)]
    rw [e, this]
    exact sz (Nat.le_trans so.ev (by decide))
  · have ho := List.mem_range.mp ho
    have okl := (so.ok _ (at0_mem ho)).n9
    have el : ((at0 Ls o).events.map evD).length = (at0 Ls o).n := List.length_map _
    refine ⟨_, rfl, rfl, _, _, rfl, _, _, rfl, rfl, _, rfl, _, .inl rfl, hz, at0 Ls o, rfl, _, _, rfl, .inl ⟨_, .inl (.inl rfl), rfl⟩, _, rfl, by omega, by omega, ?_⟩
    rw [rngD_map, el]
    exact k _ _ trivial fun p hp Ny Nz k1 k2 => ⟨_, rfl, _, rfl, (by decide : 2 ≤ sizeLine), k1 rfl⟩
  have ep : ((List.range Ls.length).flatMap fun o => ((List.range (at0 Ls o).n).filter fun _ => true).map fun p => prD (o, p)) = (plc Ls).map prD := by
    unfold plc
    rw [List.map_flatMap]
    simp [List.map_map, Function.comp_def]
  rw [ep]
  refine ⟨_, rfl, _, .inl rfl, lcM prD way (fun p => .tup ([.int ((plc Ls).getD p.1 (0, 0)).1, .int ((plc Ls).getD p.1 (0, 0)).2] ++ cutD [.int ((plc Ls).getD p.2 (0, 0)).1, .int ((plc Ls).getD p.2 (0, 0)).2] (some 1) none)) (.inl rfl) (sz (by omega)) (fun p hp Ny Nn k => ?_) ⟨.refl, ?_⟩⟩
  · have hk := hw p hp
    exact ⟨_, rfl, rfl, _, _, rfl, _, _, rfl, rfl, _, rfl, _, rfl, _, _, _, .inl (.inl rfl), rfl, at_nat (plc_get hk.1), _, rfl, _, rfl, _, _, _, .inl (.inl rfl), rfl, at_nat (plc_get hk.2.1), _, rfl, _, rfl, (fun h => by have h1 : (1 : Nat) = 0 := h.1; omega), _, _, rfl, rfl, (fun h => by cases h), (show 2 + 1 ≤ sizeLine by decide), k⟩
  · exact q1 hr _
end F_ring_in
namespace F_read_grade
abbrev sDef : Stmt := top 68
abbrev sN : List Str := ["word"]
abbrev sP : List Str := ["word"]
theorem sc : FnScope sN sP (defScope sDef) := ⟨rfl, rfl, rfl, by decide +kernel, rfl, by decide +kernel, by decide +kernel⟩
def S : SD := fun ds m Q => ∃ (g : Nat), ds = [.str (numT g)] ∧ g < 10 ∧ Q (.int g)
theorem ok {P : Program} {w : World} {K : Fg} {mg : Str → Option Value} {base : Heap} {CL CD CS CU GS f : Addr} {fd : FuncData} (F : FnP K "read_grade" "read_grade" sDef f fd) (T : Txt K mg CL CD CS CU GS)  : FnOk P w K mg base CX0 1 f fd sP (spP K (S)) := by
  refine okP F sc (fun ds m Qd h => ?_) fun cdv A outer s H E hr => ?_
  · obtain ⟨g, rfl, hg, q⟩ := h
    rfl
  have hu := hu_of hr
  refine ⟨_, _, (pss_one (ps_ret (pe_ifExp (PW.pt (pw_and (pt_cmpR op_eq (pe_callB (kLen (K := K) (by rfl)) (by rfl) T.n_len PySem.boot_len (pa_cons (pv 0) pa_nil)) pe_int (by rfl)) (pw_and1 (pt_cmpR op_in_sign (pv 0) (pe_gstr rfl T.sDIGITS) (by rfl))))) (pe_callTy call_int_str (by rfl) T.n_int (by decide +kernel) (pa_cons (pv 0) pa_nil)) pe_non))), by walk_at "sim", ?h⟩
  intro ds m Qd hz h
  obtain ⟨g, rfl, hg, q⟩ := h
  obtain ⟨_, h1, h2, _⟩ := num_ok g hg
  have h3 : ∃ c, numT (g : Nat) = ⟨#[c]⟩ ∧ c ∈ (Str.ofString "0123456789").cps.toList := by
    have k : ∀ g : Nat, g < 10 → numT (g : Nat) = ⟨#[(TL.tl (numT (g : Nat))).headD 0]⟩ ∧ (TL.tl (numT (g : Nat))).headD 0 ∈ (Str.ofString "0123456789").cps.toList := by decide +kernel
    exact ⟨_, k g hg⟩
  obtain ⟨c, e1, e2⟩ := h3
  have hl : (numT (g : Nat)).length ≤ sizeLine := by rw [h1]; decide
  refine ⟨_, rfl, _, _, rfl, .inr ⟨_, rfl, hl, rfl⟩, true, ?_, _, rfl, _, rfl, c, _, congrArg D.str e1, rfl, _, rfl, ?_⟩
  · rw [h1]
    rfl
  · exact ifY (decide_eq_true e2) ⟨_, rfl, _, _, rfl, h2, by rw [h1]; decide, .refl, q⟩
end F_read_grade
namespace F_read_event
abbrev sDef : Stmt := top 69
abbrev sN : List Str := ["line", "words", "grade"]
abbrev sP : List Str := ["line"]
theorem sc : FnScope sN sP (defScope sDef) := ⟨rfl, rfl, rfl, by decide +kernel, rfl, by decide +kernel, by decide +kernel⟩
/-- a line of a log's event, or a line that is none -/
def RdE (x : Str) (r : D) : Prop := (∃ (L : LogD) (e : Ev), x = evT e ∧ LogOk L ∧ e ∈ L.events ∧ r = evD e) ∨ ((x = Str.ofString "pairs" ∨ x = Str.ofString "ring") ∧ r = .non)
def S : SD := fun ds m Q => ∃ (x : Str) (r : D), ds = [.str x] ∧ RdE x r ∧ Q r
theorem ok {P : Program} {w : World} {K : Fg} {mg : Str → Option Value} {base : Heap} {CL CD CS CU GS f : Addr} {fd : FuncData} (F : FnP K "read_event" "read_event" sDef f fd) (T : Txt K mg CL CD CS CU GS) (his_name : Cal P w K mg base 1 "is_name" ["text"] (spP K (F_is_name.S))) (hread_grade : Cal P w K mg base 1 "read_grade" ["word"] (spP K (F_read_grade.S))) : FnOk P w K mg base CX0 2 f fd sP (spP K (S)) := by
  refine okP F sc (fun ds m Qd h => ?_) fun cdv A outer s H E hr => ?_
  · obtain ⟨x, r, rfl, h, q⟩ := h
    rfl
  have hu := hu_of hr
  refine ⟨_, _, (pss_cons (ps_set (i := 1) sc.nd rfl (Or.inl rfl) (pe_split (pv 0) pe_str)) (pss_cons (ps_if (PW.pt (pw_and (pt_cmpR op_eq (pe_callB (kLen (K := K) (by rfl)) (by rfl) T.n_len PySem.boot_len (pa_cons (pv 1) pa_nil)) pe_int (by rfl)) (pw_and (pt_cmpR op_eq (pe_ix (kIx (K := K) (by rfl)) (pv 1) pe_int (fun _ _ => rfl)) pe_str (by rfl)) (pw_and1 (pt_val (pe_cal his_name hr (by decide) rfl (pa_cons (pe_ix (kIx (K := K) (by rfl)) (pv 1) pe_int (fun _ _ => rfl)) pa_nil))))))) (pss_one (ps_ret (pe_tup (pa_cons pe_str (pa_cons (pe_ix (kIx (K := K) (by rfl)) (pv 1) pe_int (fun _ _ => rfl)) pa_nil))))) pss_nil) (pss_cons (ps_if (PW.pt (pw_or (pt_cmpR op_ne (pe_callB (kLen (K := K) (by rfl)) (by rfl) T.n_len PySem.boot_len (pa_cons (pv 1) pa_nil)) pe_int (by rfl)) (pw_or (pt_cmpR op_ne (pe_ix (kIx (K := K) (by rfl)) (pv 1) pe_int (fun _ _ => rfl)) pe_str (by rfl)) (pw_or (pt_not (pt_val (pe_cal his_name hr (by decide) rfl (pa_cons (pe_ix (kIx (K := K) (by rfl)) (pv 1) pe_int (fun _ _ => rfl)) pa_nil)))) (pw_or1 (pt_not (pt_val (pe_cal his_name hr (by decide) rfl (pa_cons (pe_ix (kIx (K := K) (by rfl)) (pv 1) pe_int (fun _ _ => rfl)) pa_nil))))))))) (pss_one (ps_ret pe_non)) pss_nil) (pss_cons (ps_set (i := 2) sc.nd rfl (Or.inl rfl) (pe_cal hread_grade hr (by decide) rfl (pa_cons (pe_ix (kIx (K := K) (by rfl)) (pv 1) pe_int (fun _ _ => rfl)) pa_nil))) (pss_one (ps_ret (pe_ifExp (pt_cmpR op_isN (pv 2) pe_non (by rfl)) pe_non (pe_tup (pa_cons pe_str (pa_cons (pe_ix (kIx (K := K) (by rfl)) (pv 1) pe_int (fun _ _ => rfl)) (pa_cons (pe_ix (kIx (K := K) (by rfl)) (pv 1) pe_int (fun _ _ => rfl)) (pa_cons (pv 2) pa_nil)))))))))))), by walk_at "sim", ?h⟩
  intro ds m Qd hz h
  obtain ⟨x, r, rfl, h, q⟩ := h
  rcases h with ⟨L, e, rfl, ok, he, rfl⟩ | ⟨hx, rfl⟩
  · have h0 := ok.ev e he
    have g9 := ok.g9
    have hs : Txt.split (evT e) (Str.ofString " ") = evW e := split_sp (ws := evW e) (by cases e <;> simp [evW]) (clean_evW ok he)
    have hl := evT_len ok he
    refine ⟨_, rfl, ⟨_, rfl⟩, _, _, rfl, rfl, by decide +kernel, sz (by omega), ?_⟩
    rw [hs]
    cases e with
    | ans j i g =>
      unfold evB at h0
      simp only [Bool.and_eq_true, decide_eq_true_eq] at h0
      obtain ⟨k, rfl, hk⟩ := g_nat (show 0 ≤ g from h0.1.2) (by omega)
      have nj := ok.ju.good _ h0.1.1.1
      have ni := ok.it.good _ h0.1.1.2
      have lj := nameB_len nj
      have li := nameB_len ni
      refine ⟨_, rfl, _, _, rfl, .inl ⟨_, .inl (.inl rfl), rfl⟩, false, rfl, _, rfl, ?_⟩
      refine ⟨_, rfl, _, _, rfl, .inl ⟨_, .inl (.inl rfl), rfl⟩, true, rfl, _, rfl, ?_⟩
      refine ⟨_, rfl, _, _, _, .inl (.inl rfl), rfl, rfl, true, rfl, _, rfl, ?_⟩
      refine ⟨_, rfl, _, _, _, .inl (.inl rfl), rfl, rfl, hz, j, rfl, sz (by omega), _, rfl, ?_⟩
      rw [nj]
      refine ⟨_, rfl, _, _, _, .inl (.inl rfl), rfl, rfl, hz, i, rfl, sz (by omega), _, rfl, ?_⟩
      rw [ni]
      refine ⟨_, rfl, _, _, _, .inl (.inl rfl), rfl, rfl, hz, k, rfl, hk, ?_⟩
      refine ⟨_, rfl, rfl, _, rfl, ?_⟩
      exact ⟨_, rfl, _, _, _, .inl (.inl rfl), rfl, rfl, _, rfl, _, _, _, .inl (.inl rfl), rfl, rfl, _, rfl, (by decide : 4 ≤ sizeLine), .refl, q⟩
    | rst j =>
      have nj := ok.ju.good _ (of_decide_eq_true h0)
      have lj := nameB_len nj
      refine ⟨_, rfl, _, _, rfl, .inl ⟨_, .inl (.inl rfl), rfl⟩, true, rfl, _, rfl, ?_⟩
      refine ⟨_, rfl, _, _, _, .inl (.inl rfl), rfl, rfl, true, rfl, _, rfl, ?_⟩
      refine ⟨_, rfl, _, _, _, .inl (.inl rfl), rfl, rfl, hz, j, rfl, sz (by omega), _, rfl, ?_⟩
      rw [nj]
      exact ⟨_, rfl, _, _, _, .inl (.inl rfl), rfl, rfl, (by decide : 2 ≤ sizeLine), .refl, q⟩
  · have hs : Txt.split x (Str.ofString " ") = [x] := by
      have := split_sp (ws := [x]) (by simp) (fun y hy => by rw [List.mem_singleton.mp hy]; rcases hx with rfl | rfl <;> decide +kernel)
      exact this
    have hl : x.length ≤ 10 := by rcases hx with rfl | rfl <;> decide +kernel
    refine ⟨_, rfl, ⟨_, rfl⟩, _, _, rfl, rfl, by decide +kernel, sz (by omega), ?_⟩
    rw [hs]
    refine ⟨_, rfl, _, _, rfl, .inl ⟨_, .inl (.inl rfl), rfl⟩, false, rfl, _, rfl, ?_⟩
    exact ⟨_, rfl, _, _, rfl, .inl ⟨_, .inl (.inl rfl), rfl⟩, false, rfl, _, rfl, .refl, q⟩
end F_read_event
namespace F_read_line
abbrev sDef : Stmt := top 70
abbrev sN : List Str := ["line", "words", "event"]
abbrev sP : List Str := ["line"]
theorem sc : FnScope sN sP (defScope sDef) := ⟨rfl, rfl, rfl, by decide +kernel, rfl, by decide +kernel, by decide +kernel⟩
/-- a line of a good log -/
def RdL (x : Str) (r : D) : Prop := (∃ n, nameB n = true ∧ x = lnI n ∧ r = .tup [.str "item", .str n]) ∨ (∃ g : Nat, g < 10 ∧ x = lnG (g : Nat) ∧ r = .tup [.str "grades", .int (g : Nat)]) ∨
  (∃ p : Str × Str, nameB p.1 = true ∧ driftB p.2 = true ∧ x = lnJ p ∧ r = .tup [.str "judge", juD p]) ∨ ∃ (L : LogD) (e : Ev), x = evT e ∧ LogOk L ∧ e ∈ L.events ∧ r = .tup [.str "event", evD e]
def S : SD := fun ds m Q => ∃ (x : Str) (r : D), ds = [.str x] ∧ RdL x r ∧ Q r
theorem ok {P : Program} {w : World} {K : Fg} {mg : Str → Option Value} {base : Heap} {CL CD CS CU GS f : Addr} {fd : FuncData} (F : FnP K "read_line" "read_line" sDef f fd) (T : Txt K mg CL CD CS CU GS) (hread_grade : Cal P w K mg base 1 "read_grade" ["word"] (spP K (F_read_grade.S))) (hread_event : Cal P w K mg base 2 "read_event" ["line"] (spP K (F_read_event.S))) : FnOk P w K mg base CX0 3 f fd sP (spP K (S)) := by
  refine okP F sc (fun ds m Qd h => ?_) fun cdv A outer s H E hr => ?_
  · obtain ⟨x, r, rfl, h, q⟩ := h
    rfl
  have hu := hu_of hr
  refine ⟨_, _, (pss_cons (ps_set (i := 1) sc.nd rfl (Or.inl rfl) (pe_split (pv 0) pe_str)) (pss_cons (ps_if (PW.pt (pw_and (pt_cmpR op_eq (pe_callB (kLen (K := K) (by rfl)) (by rfl) T.n_len PySem.boot_len (pa_cons (pv 1) pa_nil)) pe_int (by rfl)) (pw_and1 (pt_cmpR op_eq (pe_ix (kIx (K := K) (by rfl)) (pv 1) pe_int (fun _ _ => rfl)) pe_str (by rfl))))) (pss_one (ps_ret (pe_tup (pa_cons pe_str (pa_cons (pe_ix (kIx (K := K) (by rfl)) (pv 1) pe_int (fun _ _ => rfl)) pa_nil))))) pss_nil) (pss_cons (ps_if (PW.pt (pw_and (pt_cmpR op_eq (pe_callB (kLen (K := K) (by rfl)) (by rfl) T.n_len PySem.boot_len (pa_cons (pv 1) pa_nil)) pe_int (by rfl)) (pw_and (pt_cmpR op_eq (pe_ix (kIx (K := K) (by rfl)) (pv 1) pe_int (fun _ _ => rfl)) pe_str (by rfl)) (pw_and1 (pt_cmpR op_notN (pe_cal hread_grade hr (by decide) rfl (pa_cons (pe_ix (kIx (K := K) (by rfl)) (pv 1) pe_int (fun _ _ => rfl)) pa_nil)) pe_non (by rfl)))))) (pss_one (ps_ret (pe_tup (pa_cons pe_str (pa_cons (pe_cal hread_grade hr (by decide) rfl (pa_cons (pe_ix (kIx (K := K) (by rfl)) (pv 1) pe_int (fun _ _ => rfl)) pa_nil)) pa_nil))))) pss_nil) (pss_cons (ps_if (PW.pt (pw_and (pt_cmpR op_eq (pe_callB (kLen (K := K) (by rfl)) (by rfl) T.n_len PySem.boot_len (pa_cons (pv 1) pa_nil)) pe_int (by rfl)) (pw_and1 (pt_cmpR op_eq (pe_ix (kIx (K := K) (by rfl)) (pv 1) pe_int (fun _ _ => rfl)) pe_str (by rfl))))) (pss_one (ps_ret (pe_tup (pa_cons pe_str (pa_cons (pe_tup (pa_cons (pe_ix (kIx (K := K) (by rfl)) (pv 1) pe_int (fun _ _ => rfl)) (pa_cons (pe_ix (kIx (K := K) (by rfl)) (pv 1) pe_int (fun _ _ => rfl)) pa_nil))) pa_nil))))) pss_nil) (pss_cons (ps_set (i := 2) sc.nd rfl (Or.inl rfl) (pe_cal hread_event hr (by decide) rfl (pa_cons (pv 0) pa_nil))) (pss_one (ps_ret (pe_ifExp (pt_cmpR op_isN (pv 2) pe_non (by rfl)) pe_non (pe_tup (pa_cons pe_str (pa_cons (pv 2) pa_nil))))))))))), by walk_at "sim", ?h⟩
  intro ds m Qd hz h
  obtain ⟨x, r, rfl, h, q⟩ := h
  have ll : ∀ a b, LsD m (.lst [a, b]) [a, b] := fun a b => .inl rfl
  rcases h with ⟨n, hn, rfl, rfl⟩ | ⟨g, hg, rfl, rfl⟩ | ⟨p, h1, h2, rfl, rfl⟩ | ⟨L, e, rfl, ok, he, rfl⟩
  · have hs : Txt.split (lnI n) (Str.ofString " ") = [Str.ofString "item", n] := by
      rw [lnI_eq]
      refine split_sp (by simp) fun y hy => ?_
      simp only [List.mem_cons, List.not_mem_nil, or_false] at hy
      rcases hy with rfl | rfl
      · decide +kernel
      · exact clean_name hn
    have hl := lnI_len hn
    refine ⟨_, rfl, ⟨_, rfl⟩, _, _, rfl, rfl, by decide +kernel, sz (by omega), ?_⟩
    rw [hs]
    refine ⟨_, rfl, _, _, rfl, .inl ⟨_, .inl (.inl rfl), rfl⟩, true, rfl, _, rfl, ?_⟩
    refine ⟨_, rfl, _, _, _, .inl (.inl rfl), rfl, rfl, true, rfl, _, rfl, ?_⟩
    exact ⟨_, rfl, _, _, _, .inl (.inl rfl), rfl, rfl, (by decide : 2 ≤ sizeLine), .refl, q⟩
  · have nk := num_ok g hg
    have hs : Txt.split (lnG (g : Nat)) (Str.ofString " ") = [Str.ofString "grades", numT (g : Nat)] := by
      rw [lnG_eq]
      refine split_sp (by simp) fun y hy => ?_
      simp only [List.mem_cons, List.not_mem_nil, or_false] at hy
      rcases hy with rfl | rfl
      · decide +kernel
      · exact nk.1
    have hl := lnG_len (g := (g : Nat)) (by omega) (by omega)
    refine ⟨_, rfl, ⟨_, rfl⟩, _, _, rfl, rfl, by decide +kernel, sz (by omega), ?_⟩
    rw [hs]
    refine ⟨_, rfl, _, _, rfl, .inl ⟨_, .inl (.inl rfl), rfl⟩, true, rfl, _, rfl, ?_⟩
    refine ⟨_, rfl, _, _, _, .inl (.inl rfl), rfl, rfl, false, rfl, _, rfl, ?_⟩
    refine ⟨_, rfl, _, _, rfl, .inl ⟨_, .inl (.inl rfl), rfl⟩, true, rfl, _, rfl, ?_⟩
    refine ⟨_, rfl, _, _, _, .inl (.inl rfl), rfl, rfl, true, rfl, _, rfl, ?_⟩
    refine ⟨_, rfl, _, _, _, .inl (.inl rfl), rfl, rfl, hz, g, rfl, hg, rfl, _, rfl, ?_⟩
    exact ⟨_, rfl, _, _, _, .inl (.inl rfl), rfl, rfl, hz, g, rfl, hg, (by decide : 2 ≤ sizeLine), .refl, q⟩
  · have hs : Txt.split (lnJ p) (Str.ofString " ") = [Str.ofString "judge", p.1, p.2] := by
      rw [lnJ_eq]
      refine split_sp (by simp) fun y hy => ?_
      simp only [List.mem_cons, List.not_mem_nil, or_false] at hy
      rcases hy with rfl | rfl | rfl
      · decide +kernel
      · exact clean_name h1
      · exact clean_drift h2
    have hl := lnJ_len h1 h2
    refine ⟨_, rfl, ⟨_, rfl⟩, _, _, rfl, rfl, by decide +kernel, sz (by omega), ?_⟩
    rw [hs]
    refine ⟨_, rfl, _, _, rfl, .inl ⟨_, .inl (.inl rfl), rfl⟩, false, rfl, _, rfl, ?_⟩
    refine ⟨_, rfl, _, _, rfl, .inl ⟨_, .inl (.inl rfl), rfl⟩, false, rfl, _, rfl, ?_⟩
    refine ⟨_, rfl, _, _, rfl, .inl ⟨_, .inl (.inl rfl), rfl⟩, true, rfl, _, rfl, ?_⟩
    refine ⟨_, rfl, _, _, _, .inl (.inl rfl), rfl, rfl, true, rfl, _, rfl, ?_⟩
    exact ⟨_, rfl, _, _, _, .inl (.inl rfl), rfl, rfl, _, rfl, _, _, _, .inl (.inl rfl), rfl, rfl, (by decide : 2 ≤ sizeLine), (by decide : 2 ≤ sizeLine), .refl, q⟩
  · have hs : Txt.split (evT e) (Str.ofString " ") = evW e := split_sp (ws := evW e) (by cases e <;> simp [evW]) (clean_evW ok he)
    have hl := evT_len ok he
    have h0 : F_read_event.RdE (evT e) (evD e) := .inl ⟨L, e, rfl, ok, he, rfl⟩
    refine ⟨_, rfl, ⟨_, rfl⟩, _, _, rfl, rfl, by decide +kernel, sz (by omega), ?_⟩
    rw [hs]
    cases e with
    | ans j i g =>
      refine ⟨_, rfl, _, _, rfl, .inl ⟨_, .inl (.inl rfl), rfl⟩, false, rfl, _, rfl, ?_⟩
      refine ⟨_, rfl, _, _, rfl, .inl ⟨_, .inl (.inl rfl), rfl⟩, false, rfl, _, rfl, ?_⟩
      refine ⟨_, rfl, _, _, rfl, .inl ⟨_, .inl (.inl rfl), rfl⟩, false, rfl, _, rfl, ?_⟩
      exact ⟨_, rfl, hz, _, _, rfl, h0, _, rfl, rfl, _, rfl, _, rfl, (by decide : 2 ≤ sizeLine), .refl, q⟩
    | rst j =>
      refine ⟨_, rfl, _, _, rfl, .inl ⟨_, .inl (.inl rfl), rfl⟩, true, rfl, _, rfl, ?_⟩
      refine ⟨_, rfl, _, _, _, .inl (.inl rfl), rfl, rfl, false, rfl, _, rfl, ?_⟩
      refine ⟨_, rfl, _, _, rfl, .inl ⟨_, .inl (.inl rfl), rfl⟩, true, rfl, _, rfl, ?_⟩
      refine ⟨_, rfl, _, _, _, .inl (.inl rfl), rfl, rfl, false, rfl, _, rfl, ?_⟩
      refine ⟨_, rfl, _, _, rfl, .inl ⟨_, .inl (.inl rfl), rfl⟩, false, rfl, _, rfl, ?_⟩
      exact ⟨_, rfl, hz, _, _, rfl, h0, _, rfl, rfl, _, rfl, _, rfl, (by decide : 2 ≤ sizeLine), .refl, q⟩
end F_read_line
namespace F_made_log
abbrev sDef : Stmt := top 71
abbrev sN : List Str := ["found", "line", "grades", "judges"]
abbrev sP : List Str := ["found", "line"]
theorem sc : FnScope sN sP (defScope sDef) := ⟨rfl, rfl, rfl, by decide +kernel, rfl, by decide +kernel, by decide +kernel⟩
/-- what a text's lines gave so far -/
abbrev fdD (a1 a2 a3 a4 : Addr) : List (Key × D) := [(kS "item", .ref a1), (kS "grades", .ref a2), (kS "judge", .ref a3), (kS "event", .ref a4)]
def S (CL : Addr) : SD := fun ds m Q => ∃ (a1 a2 a3 a4 : Addr) (k : Nat) (L : LogD) (gs : List Int) (js : List (Str × Str)), ds = [.dic (fdD a1 a2 a3 a4), iD k] ∧ m.c a1 = some (.lst (L.items.map D.str)) ∧ m.c a2 = some (.lst (gs.map D.int)) ∧ m.c a3 = some (.lst (js.map juD)) ∧ m.c a4 = some (.lst (L.events.map evD)) ∧
  (gs = [L.grades] ∨ gs = [] ∧ L.grades = 1) ∧ (js = L.judges ∧ js ≠ [] ∨ js = [] ∧ L.judges = [(Str.ofString "x", Str.ofString "stays")]) ∧ LogOk L ∧ Q (logD CL L)
theorem ok {P : Program} {w : World} {K : Fg} {mg : Str → Option Value} {base : Heap} {CL CD CS CU GS f : Addr} {fd : FuncData} (F : FnP K "made_log" "made_log" sDef f fd) (T : Txt K mg CL CD CS CU GS) (hLog : CalC P w K mg base CL 3 "Log" ["self", "items", "grades", "judges", "events"] (spM K (F_Log___init__.S CL))) : FnOk P w K mg base CX0 5 f fd sP (spP K (S CL)) := by
  refine okP F sc (fun ds m Qd h => ?_) fun cdv A outer s H E hr => ?_
  · obtain ⟨a1, a2, a3, a4, k, L, gs, js, rfl, h1, h2, h3, h4, hg, hj, ok, q⟩ := h
    rfl
  have hu := hu_of hr
  refine ⟨_, _, (pss_cons (ps_set (i := 2) sc.nd rfl (Or.inl rfl) (pe_ifExp (kTru (K := K) (by rfl) (pe_dget hu (pv 0) pe_str (fun _ _ => rfl)) (by intro _; rfl)) (pe_ix (kIx (K := K) (by rfl)) (pe_dget hu (pv 0) pe_str (fun _ _ => rfl)) pe_int (fun _ _ => rfl)) pe_int)) (pss_cons (ps_set (i := 3) sc.nd rfl (Or.inl rfl) (kOrT (K := K) (by rfl) (pe_dget hu (pv 0) pe_str (fun _ _ => rfl)) (pe_one (pe_lst (pa_cons (pe_tup (pa_cons pe_str (pa_cons pe_str pa_nil))) pa_nil))))) (pss_one (ps_try_thru0 (pss_one (ps_ret (pe_calC hLog hr (by decide) rfl (pa_cons (pe_dget hu (pv 0) pe_str (fun _ _ => rfl)) (pa_cons (pv 2) (pa_cons (pv 3) (pa_cons (pe_dget hu (pv 0) pe_str (fun _ _ => rfl)) pa_nil))))))))))), by walk_at "sim", ?h⟩
  intro ds m Qd hz h
  obtain ⟨a1, a2, a3, a4, k, L, gs, js, rfl, h1, h2, h3, h4, hg, hj, ok, q⟩ := h
  have g1 : getD (fdD a1 a2 a3 a4) (kS "item") = some (.ref a1) := rfl
  have g2 : getD (fdD a1 a2 a3 a4) (kS "grades") = some (.ref a2) := rfl
  have g3 : getD (fdD a1 a2 a3 a4) (kS "judge") = some (.ref a3) := rfl
  have g4 : getD (fdD a1 a2 a3 a4) (kS "event") = some (.ref a4) := rfl
  have lc : ∀ (a : Addr) (xs : List D), m.c a = some (.lst xs) → LsD m (.ref a) xs := fun a xs h => .inr (.inr ⟨a, rfl, h⟩)
  have fin : ∀ xj, LsD m xj (L.judges.map juD) → dRet (dMake CL (F_Log___init__.S CL) (dCons (dDGet (dVar 0) (dC (D.str (Str.ofString "item")))) (dCons (dVar 2) (dCons (dVar 3) (dCons (dDGet (dVar 0) (dC (D.str (Str.ofString "event")))) dNil)))))
      { nx := fun x m' => L3.Sub m m' ∧ Qd D.non, rt := fun d m' => L3.Sub m m' ∧ Qd d } [some (.dic (fdD a1 a2 a3 a4)), some (iD k), some (.int L.grades), some xj] m := fun xj hx => by
    refine ⟨_, rfl, _, .inl ⟨_, kS "item", .inl rfl, rfl, g1.symm⟩, _, rfl, _, rfl, _, rfl, _, .inl ⟨_, kS "event", .inl rfl, rfl, g4.symm⟩, hz, fun c hc => ?_⟩
    refine ⟨c, _, _, _, L, rfl, Mu.set_same, (lc _ _ h1).new hc, hx.new hc, (lc _ _ h4).new hc, ok, rfl, _, Mu.set_same, ?_, q⟩
    rw [Mu.set_set, Mu.del_set hc]
    exact .refl
  have jud : dSeq (dAsg (dOrT (dDGet (dVar 0) (dC (D.str (Str.ofString "judge")))) (dLst (dCons (dTup (dCons (dC (D.str (Str.ofString "x"))) (dCons (dC (D.str (Str.ofString "stays"))) dNil))) dNil))) (hName 3))
      (dRet (dMake CL (F_Log___init__.S CL) (dCons (dDGet (dVar 0) (dC (D.str (Str.ofString "item")))) (dCons (dVar 2) (dCons (dVar 3) (dCons (dDGet (dVar 0) (dC (D.str (Str.ofString "event")))) dNil))))))
      { nx := fun x m' => L3.Sub m m' ∧ Qd D.non, rt := fun d m' => L3.Sub m m' ∧ Qd d } [some (.dic (fdD a1 a2 a3 a4)), some (iD k), some (.int L.grades), none] m := by
    refine ⟨_, rfl, _, .inl ⟨_, kS "judge", .inl rfl, rfl, g3.symm⟩, !(js.map juD).isEmpty, .inr (.inr (.inr ⟨_, .inl (lc _ _ h3), rfl⟩)), ?_⟩
    rcases hj with ⟨rfl, hne⟩ | ⟨rfl, hj⟩
    · refine ifY ?_ (fin _ (lc _ _ h3))
      cases e : L.judges with
      | nil => exact absurd e hne
      | cons x r => rfl
    · exact ⟨(by decide : 2 ≤ sizeLine), (by decide : 1 ≤ sizeLine), fin _ (.inl (by rw [hj]; rfl))⟩
  refine ⟨_, rfl, _, .inl ⟨_, kS "grades", .inl rfl, rfl, g2.symm⟩, !(gs.map D.int).isEmpty, .inr (.inr (.inr ⟨_, .inl (lc _ _ h2), rfl⟩)), ?_⟩
  rcases hg with rfl | ⟨rfl, hg⟩
  · exact ⟨_, rfl, _, .inl ⟨_, kS "grades", .inl rfl, rfl, g2.symm⟩, _, _, _, .inl (lc _ _ h2), rfl, at_zero, jud⟩
  · rw [hg] at jud
    exact jud
end F_made_log
end RB
/-! A text's lines, one by one. -/
namespace RB
open PySem PySem.Spec PyProof.Rows L2 L3 F_read_line
def sorts : List Str := ["item", "grades", "judge", "event"]
def LogD.nI (L : LogD) : Nat := L.items.length
def LogD.nJ (L : LogD) : Nat := L.judges.length
def kindL (L : LogD) (i : Nat) : Nat := if i < L.nI then 0 else if i = L.nI then 1 else if i < L.nI + 1 + L.nJ then 2 else 3
def pG (L : LogD) (i : Nat) : List Int := if L.nI < i then [L.grades] else []
def pJ (L : LogD) (i : Nat) : List (Str × Str) := L.judges.take (i - (L.nI + 1))
def pE (L : LogD) (i : Nat) : List Ev := L.events.take (i - (L.nI + 1 + L.nJ))
def cellL (L : LogD) (i : Nat) : Nat → List D
  | 0 => (L.items.take i).map D.str
  | 1 => (pG L i).map D.int
  | 2 => (pJ L i).map juD
  | _ => (pE L i).map evD
def partL (L : LogD) (i : Nat) : LogD where
  items := L.items.take i
  grades := if L.nI < i then L.grades else 1
  judges := if L.nI + 1 < i then pJ L i else [(Str.ofString "x", Str.ofString "stays")]
  events := pE L i
theorem lines_n (L : LogD) : (linesL L).length = L.nI + 1 + L.nJ + L.n := by
  unfold linesL LogD.nI LogD.nJ LogD.n
  simp only [List.length_append, List.length_map, List.length_cons, List.length_nil]
theorem line_at {L : LogD} (ok : LogOk L) {i : Nat} (hi : i < (linesL L).length) : ∃ x v, (linesL L)[i]? = some x ∧ RdL x (.tup [.str (sorts.getD (kindL L i) Str.empty), v]) ∧
    ∀ z, z < 4 → cellL L (i + 1) z = if z = kindL L i then cellL L i z ++ [v] else cellL L i z := by
  rw [lines_n] at hi
  have g1 := ok.g1
  have g9 := ok.g9
  have hA : (L.items.map lnI).length = L.nI := List.length_map _
  have hB : (L.items.map lnI ++ [lnG L.grades]).length = L.nI + 1 := by rw [List.length_append, hA]; rfl
  have hC : (L.items.map lnI ++ [lnG L.grades] ++ L.judges.map lnJ).length = L.nI + 1 + L.nJ := by rw [List.length_append, hB, List.length_map]; rfl
  by_cases c0 : i < L.nI
  · have hx : L.items[i]? = some L.items[i] := List.getElem?_eq_getElem c0
    have k : kindL L i = 0 := if_pos c0
    refine ⟨lnI L.items[i], .str L.items[i], ?_, ?_, fun z hz => ?_⟩
    · unfold linesL
      rw [List.getElem?_append_left (by rw [hC]; omega), List.getElem?_append_left (by rw [hB]; omega), List.getElem?_append_left (by rw [hA]; omega), List.getElem?_map, hx]
      rfl
    · rw [k]
      exact .inl ⟨_, ok.it.good _ (List.getElem_mem c0), rfl, rfl⟩
    · rw [k]
      rcases (by omega : z = 0 ∨ z = 1 ∨ z = 2 ∨ z = 3) with rfl | rfl | rfl | rfl
      · show (L.items.take (i + 1)).map D.str = (L.items.take i).map D.str ++ _
        rw [take_next hx, List.map_append]
        rfl
      · rw [if_neg (by decide)]
        show (pG L (i + 1)).map D.int = (pG L i).map D.int
        unfold pG
        rw [if_neg (by omega), if_neg (by omega)]
      · rw [if_neg (by decide)]
        show (pJ L (i + 1)).map juD = (pJ L i).map juD
        unfold pJ
        rw [show i + 1 - (L.nI + 1) = 0 by omega, show i - (L.nI + 1) = 0 by omega]
      · rw [if_neg (by decide)]
        show (pE L (i + 1)).map evD = (pE L i).map evD
        unfold pE
        rw [show i + 1 - (L.nI + 1 + L.nJ) = 0 by omega, show i - (L.nI + 1 + L.nJ) = 0 by omega]
  · by_cases c1 : i = L.nI
    · have k : kindL L i = 1 := by unfold kindL; rw [if_neg c0, if_pos c1]
      obtain ⟨n, eg, hn⟩ := g_nat (show 0 ≤ L.grades by omega) g9
      refine ⟨lnG L.grades, .int L.grades, ?_, ?_, fun z hz => ?_⟩
      · unfold linesL
        rw [List.getElem?_append_left (by rw [hC]; omega), List.getElem?_append_left (by rw [hB]; omega), List.getElem?_append_right (by rw [hA]; omega), hA, c1, Nat.sub_self]
        rfl
      · rw [k, eg]
        exact .inr (.inl ⟨n, hn, rfl, rfl⟩)
      · rw [k]
        rcases (by omega : z = 0 ∨ z = 1 ∨ z = 2 ∨ z = 3) with rfl | rfl | rfl | rfl
        · rw [if_neg (by decide)]
          show (L.items.take (i + 1)).map D.str = (L.items.take i).map D.str
          rw [List.take_of_length_le (by unfold LogD.nI at c1; omega), List.take_of_length_le (by unfold LogD.nI at c1; omega)]
        · show (pG L (i + 1)).map D.int = (pG L i).map D.int ++ _
          unfold pG
          rw [if_pos (by omega), if_neg (by omega)]
          rfl
        · rw [if_neg (by decide)]
          show (pJ L (i + 1)).map juD = (pJ L i).map juD
          unfold pJ
          rw [show i + 1 - (L.nI + 1) = 0 by omega, show i - (L.nI + 1) = 0 by omega]
        · rw [if_neg (by decide)]
          show (pE L (i + 1)).map evD = (pE L i).map evD
          unfold pE
          rw [show i + 1 - (L.nI + 1 + L.nJ) = 0 by omega, show i - (L.nI + 1 + L.nJ) = 0 by omega]
    · by_cases c2 : i < L.nI + 1 + L.nJ
      · have k : kindL L i = 2 := by unfold kindL; rw [if_neg c0, if_neg c1, if_pos c2]
        have hj : i - (L.nI + 1) < L.judges.length := by unfold LogD.nJ at c2; omega
        have hx : L.judges[i - (L.nI + 1)]? = some L.judges[i - (L.nI + 1)] := List.getElem?_eq_getElem hj
        have hm := List.getElem_mem hj
        refine ⟨lnJ L.judges[i - (L.nI + 1)], juD L.judges[i - (L.nI + 1)], ?_, ?_, fun z hz => ?_⟩
        · unfold linesL
          rw [List.getElem?_append_left (by rw [hC]; omega), List.getElem?_append_right (by rw [hB]; omega), hB, List.getElem?_map, hx]
          rfl
        · rw [k]
          exact .inr (.inr (.inl ⟨_, ok.ju.good _ (List.mem_map.mpr ⟨_, hm, rfl⟩), ok.dr _ hm, rfl, rfl⟩))
        · rw [k]
          rcases (by omega : z = 0 ∨ z = 1 ∨ z = 2 ∨ z = 3) with rfl | rfl | rfl | rfl
          · rw [if_neg (by decide)]
            show (L.items.take (i + 1)).map D.str = (L.items.take i).map D.str
            rw [List.take_of_length_le (by unfold LogD.nI at c0 c1; omega), List.take_of_length_le (by unfold LogD.nI at c0 c1; omega)]
          · rw [if_neg (by decide)]
            show (pG L (i + 1)).map D.int = (pG L i).map D.int
            unfold pG
            rw [if_pos (by omega), if_pos (by omega)]
          · show (pJ L (i + 1)).map juD = (pJ L i).map juD ++ _
            unfold pJ
            rw [show i + 1 - (L.nI + 1) = i - (L.nI + 1) + 1 by omega, take_next hx, List.map_append]
            rfl
          · rw [if_neg (by decide)]
            show (pE L (i + 1)).map evD = (pE L i).map evD
            unfold pE
            rw [show i + 1 - (L.nI + 1 + L.nJ) = 0 by omega, show i - (L.nI + 1 + L.nJ) = 0 by omega]
      · have k : kindL L i = 3 := by unfold kindL; rw [if_neg c0, if_neg c1, if_neg c2]
        have hj : i - (L.nI + 1 + L.nJ) < L.events.length := by unfold LogD.n at hi; omega
        have hx : L.events[i - (L.nI + 1 + L.nJ)]? = some L.events[i - (L.nI + 1 + L.nJ)] := List.getElem?_eq_getElem hj
        have hm := List.getElem_mem hj
        refine ⟨evT L.events[i - (L.nI + 1 + L.nJ)], evD L.events[i - (L.nI + 1 + L.nJ)], ?_, ?_, fun z hz => ?_⟩
        · unfold linesL
          rw [List.getElem?_append_right (by rw [hC]; omega), hC, List.getElem?_map, hx]
          rfl
        · rw [k]
          exact .inr (.inr (.inr ⟨L, _, rfl, ok, hm, rfl⟩))
        · rw [k]
          rcases (by omega : z = 0 ∨ z = 1 ∨ z = 2 ∨ z = 3) with rfl | rfl | rfl | rfl
          · rw [if_neg (by decide)]
            show (L.items.take (i + 1)).map D.str = (L.items.take i).map D.str
            rw [List.take_of_length_le (by unfold LogD.nI at c0 c1; omega), List.take_of_length_le (by unfold LogD.nI at c0 c1; omega)]
          · rw [if_neg (by decide)]
            show (pG L (i + 1)).map D.int = (pG L i).map D.int
            unfold pG
            rw [if_pos (by omega), if_pos (by omega)]
          · rw [if_neg (by decide)]
            show (pJ L (i + 1)).map juD = (pJ L i).map juD
            unfold pJ
            rw [List.take_of_length_le (by unfold LogD.nJ at c2; omega), List.take_of_length_le (by unfold LogD.nJ at c2; omega)]
          · show (pE L (i + 1)).map evD = (pE L i).map evD ++ _
            unfold pE
            rw [show i + 1 - (L.nI + 1 + L.nJ) = i - (L.nI + 1 + L.nJ) + 1 by omega, take_next hx, List.map_append]
            rfl
theorem part_ok {L : LogD} (ok : LogOk L) {i : Nat} (hi : 1 ≤ i) : LogOk (partL L i) := by
  have pos := ok.it.pos
  have mx := ok.it.max
  have g1 := ok.g1
  have g9 := ok.g9
  have jn : (partL L i).names = if L.nI + 1 < i then L.names.take (i - (L.nI + 1)) else [Str.ofString "x"] := by
    unfold LogD.names partL pJ
    by_cases h : L.nI + 1 < i
    · simp only [if_pos h, List.map_take]
    · simp only [if_neg h, List.map_cons, List.map_nil]
  have ev : ∀ e ∈ pE L i, e ∈ L.events ∧ L.nI + 1 + L.nJ < i := fun e he => by
    refine ⟨List.mem_of_mem_take he, ?_⟩
    rcases Nat.lt_or_ge (L.nI + 1 + L.nJ) i with h | h
    · exact h
    · unfold pE at he
      rw [show i - (L.nI + 1 + L.nJ) = 0 by omega, List.take_zero] at he
      cases he
  refine ⟨⟨(List.take_sublist _ _).nodup ok.it.nd, ?_, ?_, fun x hx => ok.it.good x (List.mem_of_mem_take hx)⟩, ?_, ?_, ?_, ?_, ?_, ?_⟩
  · show 1 ≤ (L.items.take i).length
    rw [List.length_take]
    omega
  · show (L.items.take i).length ≤ 5
    rw [List.length_take]
    omega
  · rw [jn]
    have jl := ok.ju.max
    have jp := ok.ju.pos
    by_cases h : L.nI + 1 < i
    · rw [if_pos h]
      refine ⟨(List.take_sublist _ _).nodup ok.ju.nd, ?_, ?_, fun x hx => ok.ju.good x (List.mem_of_mem_take hx)⟩
      · rw [List.length_take]
        omega
      · rw [List.length_take]
        omega
    · rw [if_neg h]
      exact ⟨by simp, by simp, by simp, fun x hx => by rw [List.mem_singleton.mp hx]; decide +kernel⟩
  · intro p hp
    unfold partL at hp
    by_cases h : L.nI + 1 < i
    · simp only [if_pos h] at hp
      exact ok.dr p (List.mem_of_mem_take hp)
    · simp only [if_neg h] at hp
      rw [List.mem_singleton.mp hp]
      decide +kernel
  · show 1 ≤ if L.nI < i then L.grades else 1
    split <;> omega
  · show (if L.nI < i then L.grades else 1) ≤ 9
    split <;> omega
  · show (pE L i).length ≤ 9
    have := ok.ne
    unfold pE
    rw [List.length_take]
    omega
  · intro e he
    obtain ⟨h1, h2⟩ := ev e he
    have e1 : (partL L i).items = L.items := List.take_of_length_le (by unfold LogD.nI at h2; omega)
    have e2 : (partL L i).grades = L.grades := if_pos (by omega)
    have e3 : (partL L i).names = L.names := by
      rw [jn, if_pos (by omega), List.take_of_length_le]
      have : L.names.length = L.nJ := List.length_map _
      omega
    rw [e1, e2, e3]
    exact ok.ev e h1
theorem part_all {L : LogD} (ok : LogOk L) : partL L (linesL L).length = L := by
  have jp := ok.ju.pos
  have : L.names.length = L.nJ := List.length_map _
  rw [lines_n]
  unfold partL pJ pE
  obtain ⟨I, g, J, E⟩ := L
  have e1 : I.take (LogD.nI ⟨I, g, J, E⟩ + 1 + LogD.nJ ⟨I, g, J, E⟩ + LogD.n ⟨I, g, J, E⟩) = I := List.take_of_length_le (by show I.length ≤ I.length + 1 + _ + _; omega)
  have e2 : J.take (LogD.nI ⟨I, g, J, E⟩ + 1 + LogD.nJ ⟨I, g, J, E⟩ + LogD.n ⟨I, g, J, E⟩ - (LogD.nI ⟨I, g, J, E⟩ + 1)) = J := List.take_of_length_le (by show J.length ≤ I.length + 1 + J.length + E.length - (I.length + 1); omega)
  have e3 : E.take (LogD.nI ⟨I, g, J, E⟩ + 1 + LogD.nJ ⟨I, g, J, E⟩ + LogD.n ⟨I, g, J, E⟩ - (LogD.nI ⟨I, g, J, E⟩ + 1 + LogD.nJ ⟨I, g, J, E⟩)) = E := List.take_of_length_le (by show E.length ≤ I.length + 1 + J.length + E.length - (I.length + 1 + J.length); omega)
  simp only [e1, e2, e3]
  rw [if_pos (by omega), if_pos (by omega)]
theorem kind_lt (L : LogD) (i : Nat) : kindL L i < 4 := by
  unfold kindL
  split
  · omega
  · split
    · omega
    · split <;> omega
theorem kind_mono (L : LogD) {i j : Nat} (h : i ≤ j) : kindL L i ≤ kindL L j := by
  unfold kindL
  repeat' split
  all_goals omega
/-- the earlier lists are not empty -/
theorem cell_ne {L : LogD} (ok : LogOk L) {i z : Nat} (hz : z < kindL L i) : cellL L i z ≠ [] := by
  have p1 := ok.it.pos
  have p2 : 1 ≤ L.nJ := by
    have := ok.ju.pos
    have e : L.names.length = L.nJ := List.length_map _
    omega
  have hk := kind_lt L i
  have c0 : L.nI ≤ i := by
    rcases Nat.lt_or_ge i L.nI with h | h
    · unfold kindL at hz
      rw [if_pos h] at hz
      omega
    · exact h
  rcases (by omega : z = 0 ∨ z = 1 ∨ z = 2) with rfl | rfl | rfl
  · intro e
    have e := congrArg List.length e
    simp only [cellL, List.length_map, List.length_take, List.length_nil] at e
    unfold LogD.nI at c0
    omega
  · have c1 : L.nI < i := by
      rcases Nat.lt_or_eq_of_le c0 with h | h
      · exact h
      · unfold kindL at hz
        rw [if_neg (by omega), if_pos h.symm] at hz
        omega
    simp [cellL, pG, c1]
  · have c2 : L.nI + 1 + L.nJ ≤ i := by
      rcases Nat.lt_or_ge i (L.nI + 1 + L.nJ) with h | h
      · unfold kindL at hz
        rw [if_neg (by omega)] at hz
        split at hz
        · omega
        · omega
      · exact h
    intro e
    have e := congrArg List.length e
    simp only [cellL, pJ, List.length_map, List.length_take, List.length_nil] at e
    have e2 : L.nJ = L.judges.length := rfl
    omega
theorem cell_grades {L : LogD} {i : Nat} (h : kindL L i = 1) : cellL L i 1 = [] := by
  have : ¬ L.nI < i := by
    unfold kindL at h
    split at h
    · omega
    · split at h
      · omega
      · split at h <;> omega
  simp [cellL, pG, this]
theorem enumI_map (k : Int) (f : Str → D) (xs : List Str) : enumI k (xs.map f) = (List.range xs.length).map fun i => D.tup [.int (k + (i : Nat)), f (xs.getD i Str.empty)] := by
  refine List.ext_getElem? fun i => ?_
  rw [enumI_get, List.getElem?_map, List.getElem?_map]
  by_cases h : i < xs.length
  · rw [List.getElem?_eq_getElem h, List.getElem?_range h]
    simp [List.getD_eq_getElem?_getD, List.getElem?_eq_getElem h]
  · rw [List.getElem?_eq_none (by omega), List.getElem?_eq_none (by rw [List.length_range]; omega)]
    rfl
end RB
namespace RB
open PySem PySem.Spec PyProof.Rows L2 L3
local macro_rules
  | `(tactic| walk_at "op") => `(tactic| first
    | exact os_cat2 | exact os_catM | exact os_eq | exact os_ix | exact os_mInS | exact os_mInI | exact os_eqD | exact os_neD | exact os_ne
    | exact os_I0 (fun _ _ _ => .int _) | exact os_I0 (fun _ _ _ => .bl _) | exact os_IC (fun _ _ _ => .int _)
    | exact os_isN | exact os_notN | exact os_notB | exact os_inC | exact os_cat | exact os_catT | exact os_inD | exact os_ninD | exact os_ext2 | exact os_ip)
local macro_rules
  | `(tactic| walk_at "cs") => `(tactic| first
    | exact cs_len | exact cs_any | exact cs_all | exact cs_sum | exact cs_abs | exact cs_max2 | exact cs_int1 | exact cs_intS | exact cs_list | exact cs_str | exact cs_sortP | exact cs_sortS | exact cs_sortR | exact cs_isi)
local macro_rules
  | `(tactic| walk_at "sim") => `(tactic| repeat' (first
    | with_reducible exact os_cat2
    | with_reducible exact os_catM
    | with_reducible exact sim_var
    | with_reducible exact sim_nil
    | with_reducible exact sim_next
    | with_reducible exact sim_never
    | with_reducible exact sim_retN
    | with_reducible exact sim_break
    | with_reducible exact sim_cont
    | with_reducible exact sim_gname
    | with_reducible exact sim_gnil
    | with_reducible exact sim_yes
    | with_reducible exact sim_noPart
    | with_reducible exact sim_newK
    | with_reducible exact sim_mNewKt
    | with_reducible exact sim_newT
    | with_reducible exact SimL.nil
    | with_reducible exact sim_disp1 (fun _ => .int _)
    | with_reducible exact sim_c (fun _ => .str _)
    | with_reducible exact sim_c (fun _ => .int _)
    | with_reducible exact sim_c (fun _ => .bl _)
    | with_reducible exact sim_c (fun _ => .non)
    | with_reducible exact sim_c (fun _ => .ty _)
    | with_reducible apply sim_asgX (fun _ _ h => h)
    | with_reducible apply sim_op
    | with_reducible apply sim_test
    | with_reducible apply sim_neg
    | with_reducible apply sim_B
    | with_reducible apply sim_and
    | with_reducible apply sim_or
    | with_reducible apply sim_not
    | with_reducible apply sim_cons
    | with_reducible apply sim_call
    | with_reducible apply sim_meth
    | with_reducible apply sim_prop
    | with_reducible apply sim_fld
    | with_reducible apply sim_tup
    | with_reducible apply sim_lst
    | with_reducible apply sim_mLst
    | with_reducible apply sim_CB
    | with_reducible apply sim_seq
    | with_reducible apply sim_asg
    | with_reducible apply sim_ret
    | with_reducible apply sim_mRetF
    | with_reducible apply sim_drop
    | with_reducible apply sim_ifS
    | with_reducible apply sim_mFrz
    | with_reducible apply sim_gcons
    | with_reducible apply sim_gtup
    | with_reducible apply sim_lc
    | with_reducible apply sim_ilist
    | with_reducible apply sim_irng1
    | with_reducible apply sim_istr
    | with_reducible apply sim_ienum
    | with_reducible apply sim_itup
    | with_reducible apply sim_for
    | with_reducible apply sim_while
    | with_reducible apply sim_andV
    | with_reducible apply sim_orV
    | with_reducible apply sim_notV
    | with_reducible apply sim_chain
    | with_reducible apply sim_dget
    | with_reducible apply sim_din
    | with_reducible apply sim_dnin
    | with_reducible apply sim_dget1
    | with_reducible apply sim_app
    | with_reducible apply sim_ext
    | with_reducible apply sim_popAt
    | with_reducible apply sim_indexS
    | with_reducible apply sim_dput
    | with_reducible apply sim_fldS
    | with_reducible apply sim_aug
    | with_reducible apply sim_slLM
    | with_reducible apply sim_slL
    | with_reducible apply sim_slT
    | with_reducible apply sim_part
    | with_reducible apply sim_if
    | with_reducible apply sim_tru
    | with_reducible apply sim_orT
    | with_reducible assumption
    | exact sim_nev
    | exact sim_raiseE (fun _ _ _ h => h)
    | with_reducible apply sim_callN
    | with_reducible apply sim_dc
    | with_reducible apply sim_par
    | with_reducible apply sim_dcM
    | with_reducible apply sim_lc2
    | with_reducible (apply sim_lock; apply simF_lc)
    | with_reducible (apply sim_lock; apply simF_lc2)
    | with_reducible apply sim_split
    | with_reducible apply sim_join
    | with_reducible apply sim_fmt
    | with_reducible apply sim_joined
    | with_reducible apply SimL.cons
    | with_reducible apply sim_callM
    | with_reducible apply sim_methM
    | with_reducible apply sim_make
    | with_reducible apply sim_lenSet
    | with_reducible apply sim_rgL
    | with_reducible apply sim_ienumK
    | with_reducible apply sim_kw kw_minDf
    | with_reducible apply sim_kw kw_maxDf
    | exact sim_var
    | exact sim_nil
    | exact sim_next
    | exact sim_never
    | exact sim_retN
    | exact sim_break
    | exact sim_cont
    | exact sim_gname
    | exact sim_gnil
    | exact sim_yes
    | exact sim_noPart
    | exact sim_newK
    | exact sim_mNewKt
    | exact sim_newT
    | exact SimL.nil
    | exact sim_disp1 (fun _ => .int _)
    | exact sim_c (fun _ => .str _)
    | exact sim_c (fun _ => .int _)
    | exact sim_c (fun _ => .bl _)
    | exact sim_c (fun _ => .non)
    | exact sim_c (fun _ => .ty _)
    | apply sim_call
    | apply sim_meth
    | apply sim_prop
    | apply sim_CB
    | apply sim_op
    | apply sim_test
    | apply sim_B
    | apply sim_and
    | apply sim_or
    | apply sim_not
    | apply sim_cons
    | apply sim_fld
    | apply sim_tup
    | apply sim_lst
    | apply sim_mLst
    | apply sim_seq
    | apply sim_asg
    | apply sim_ret
    | apply sim_mRetF
    | apply sim_drop
    | apply sim_ifS
    | apply sim_mFrz
    | apply sim_gcons
    | apply sim_gtup
    | apply sim_lc
    | apply sim_ilist
    | apply sim_irng1
    | apply sim_istr
    | apply sim_ienum
    | apply sim_itup
    | apply sim_for
    | apply sim_while
    | apply sim_andV
    | apply sim_orV
    | apply sim_notV
    | apply sim_chain
    | apply sim_dget
    | apply sim_din
    | apply sim_dnin
    | apply sim_dget1
    | apply sim_app
    | apply sim_ext
    | apply sim_popAt
    | apply sim_indexS
    | apply sim_dput
    | apply sim_fldS
    | apply sim_aug
    | apply sim_slL
    | apply sim_slT
    | apply sim_part
    | apply sim_if
    | apply sim_tru
    | apply sim_orT
    | apply sim_dc
    | apply sim_lc2
    | (apply sim_lock; apply simF_lc)
    | (apply sim_lock; apply simF_lc2)
    | apply sim_split
    | apply sim_join
    | apply sim_fmt
    | apply sim_joined
    | apply SimL.cons
    | apply sim_callM
    | apply sim_methM
    | apply sim_make
    | apply sim_lenSet
    | apply sim_rgL
    | apply sim_ienumK
    | apply sim_kw kw_minDf
    | apply sim_kw kw_maxDf
    | exact rfl
    | (walk_at "op")
    | (walk_at "cs")))
local macro_rules
  | `(tactic| walk_at "rd") => `(tactic| repeat (first | refine ⟨_, rfl, ?_⟩ | refine ⟨_, _, rfl, ?_⟩ | refine ⟨_, _, rfl, rfl, ?_⟩))
namespace F_format_event
abbrev sDef : Stmt := top 66
abbrev sN : List Str := ["event", "part"]
abbrev sP : List Str := ["event"]
theorem sc : FnScope sN sP (defScope sDef) := ⟨rfl, rfl, rfl, by decide +kernel, rfl, by decide +kernel, by decide +kernel⟩
def strD : D → D
  | .int g => .str (numT g)
  | d => d
theorem len_name {x : Str} (h : nameB x = true) : x.length ≤ 12 := nameB_len h
def S : SD := fun ds m Q => ∃ (L : LogD) (e : Ev), ds = [evD e] ∧ LogOk L ∧ e ∈ L.events ∧ Q (.str (evT e))
theorem ok {P : Program} {w : World} {K : Fg} {mg : Str → Option Value} {base : Heap} {CL CD CS CU GS f : Addr} {fd : FuncData} (F : FnP K "format_event" "format_event" sDef f fd) (T : Txt K mg CL CD CS CU GS)  : FnOk P w K mg base CX0 1 f fd sP (spP K (S)) := by
  refine okP F sc (fun ds m Qd h => ?_) fun cdv A outer s H E hr => ?_
  · obtain ⟨L, e, rfl, ok, he, q⟩ := h
    rfl
  have hu := hu_of hr
  refine ⟨_, _, (pss_one (ps_ret (kJoin (K := K) (by rfl) pe_str (pe_lc (own := [("part", 1)]) rfl sc.nd (kTupI (K := K) (by rfl) (pv 0)) (blkOk_by (N := sN) (sc := defScope sDef) (by decide +kernel)) (fun _ _ _ _ _ => (pg_name (i := 1) sc.nd rfl (by first | exact Or.inl rfl | exact Or.inr rfl))) (fun _ _ _ _ _ => pts_nil) (fun _ _ _ _ _ => (pe_callTy (CallR.or call_str_int SkE.call_str_str) (by rfl) T.n_str (by decide +kernel) (pa_cons (pv 1) pa_nil))))))), by walk_at "sim", ?h⟩
  intro ds m Qd hz h
  obtain ⟨L, e, rfl, ok, he, q⟩ := h
  have h0 := ok.ev e he
  have g9 := ok.g9
  have fin : ∀ z, evT e = z → L3.Sub m m ∧ Qd (.str z) := fun z h => ⟨.refl, h ▸ q⟩
  refine ⟨⟨_, rfl⟩, ?_⟩
  cases e with
  | ans j i g =>
    unfold evB at h0
    simp only [Bool.and_eq_true, decide_eq_true_eq] at h0
    obtain ⟨k, rfl, hk⟩ := g_nat (show 0 ≤ g from h0.1.2) (by omega)
    have nk := num_ok k hk
    have lj := nameB_len (ok.ju.good _ h0.1.1.1)
    have li := nameB_len (ok.it.good _ h0.1.1.2)
    refine ⟨_, rfl, _, rfl, lcM (fun d => d) [.str "answer", .str j, .str i, .int (k : Nat)] strD trivial (by decide : 4 ≤ sizeLine) (fun d hd Ny Nn y => ?_) ?_⟩
    · simp only [List.mem_cons, List.not_mem_nil, or_false] at hd
      rcases hd with rfl | rfl | rfl | rfl
      · exact ⟨_, rfl, .inl ⟨_, rfl, y⟩⟩
      · exact ⟨_, rfl, .inl ⟨_, rfl, y⟩⟩
      · exact ⟨_, rfl, .inl ⟨_, rfl, y⟩⟩
      · exact ⟨_, rfl, .inr ⟨_, rfl, (by
          have : ((k : Nat) : Int).natAbs = k := rfl
          rw [this]
          exact Nat.lt_of_le_of_lt (Nat.log2_le_self k) (by omega)), y⟩⟩
    · refine ⟨_, [Str.ofString "answer", j, i, numT (k : Nat)], rfl, .inl (.inl rfl), ?_, fin _ rfl⟩
      have h6 : (Str.ofString "answer").length = 6 := by decide +kernel
      have h1 : (Str.ofString " ").length = 1 := by decide +kernel
      simp only [List.map_cons, List.map_nil, List.sum_cons, List.sum_nil, List.length_cons, List.length_nil, h6, h1, nk.2.1]
      omega
  | rst j =>
    have lj := nameB_len (ok.ju.good _ (of_decide_eq_true h0))
    refine ⟨_, rfl, _, rfl, lcM (fun d => d) [.str "reset", .str j] strD trivial (by decide : 2 ≤ sizeLine) (fun d hd Ny Nn y => ?_) ?_⟩
    · simp only [List.mem_cons, List.not_mem_nil, or_false] at hd
      rcases hd with rfl | rfl
      · exact ⟨_, rfl, .inl ⟨_, rfl, y⟩⟩
      · exact ⟨_, rfl, .inl ⟨_, rfl, y⟩⟩
    · refine ⟨_, [Str.ofString "reset", j], rfl, .inl (.inl rfl), ?_, fin _ rfl⟩
      have h6 : (Str.ofString "reset").length = 5 := by decide +kernel
      have h1 : (Str.ofString " ").length = 1 := by decide +kernel
      simp only [List.map_cons, List.map_nil, List.sum_cons, List.sum_nil, List.length_cons, List.length_nil, h6, h1]
      omega
end F_format_event
namespace F_format_log
abbrev sDef : Stmt := top 67
abbrev sN : List Str := ["log", "lines", "item", "name", "drift", "event"]
abbrev sP : List Str := ["log"]
theorem sc : FnScope sN sP (defScope sDef) := ⟨rfl, rfl, rfl, by decide +kernel, rfl, by decide +kernel, by decide +kernel⟩
theorem lines_len {L : LogD} (ok : LogOk L) : (linesL L).length ≤ 18 := by
  have i5 := ok.it.max
  have j3 := ok.j3
  have n9 := ok.ne
  unfold linesL
  simp only [List.length_append, List.length_map, List.length_cons, List.length_nil]
  omega
theorem line_len {L : LogD} (ok : LogOk L) : ∀ x ∈ linesL L, x.length ≤ 40 := by
  have g1 := ok.g1
  intro x hx
  unfold linesL at hx
  simp only [List.mem_append, List.mem_map, List.mem_singleton] at hx
  rcases hx with ((⟨i, hi, rfl⟩ | rfl) | ⟨p, hp, rfl⟩) | ⟨e, he, rfl⟩
  · exact lnI_len (ok.it.good _ hi)
  · exact lnG_len (by omega) ok.g9
  · exact lnJ_len (ok.ju.good _ (List.mem_map.mpr ⟨p, hp, rfl⟩)) (ok.dr p hp)
  · exact evT_len ok he
theorem sum_len {xs : List Nat} {k : Nat} (h : ∀ x ∈ xs, x ≤ k) : xs.sum ≤ k * xs.length := by
  induction xs with
  | nil => exact Nat.zero_le _
  | cons x xs ih =>
    have := ih fun y hy => h y (List.mem_cons_of_mem _ hy)
    have := h x List.mem_cons_self
    rw [List.sum_cons, List.length_cons, Nat.mul_add]
    omega
theorem fmt_sum {L : LogD} (ok : LogOk L) : ((linesL L).map Str.length).sum ≤ 720 := by
  have h := sum_len (xs := (linesL L).map Str.length) (k := 40) fun n hn => by
    obtain ⟨x, hx, rfl⟩ := List.mem_map.mp hn
    exact line_len ok x hx
  have := lines_len ok
  rw [List.length_map] at h
  omega
theorem fmt_len {L : LogD} (ok : LogOk L) : (fmtL L).length ≤ 1000 := by
  have h := join_len nl (linesL L)
  rw [nl_len] at h
  have h1 := fmt_sum ok
  have h2 := lines_len ok
  unfold fmtL
  omega
theorem pre_len {a b : Str} {k : Nat} (h : (a ++ b).length ≤ k) : a.length ≤ k := by
  rw [TL.len_tl, TL.tl_append, List.length_append, ← TL.len_tl] at h
  omega
def S (CL : Addr) : SD := fun ds m Q => ∃ (L : LogD), ds = [logD CL L] ∧ LogOk L ∧ Q (.str (fmtL L))
theorem ok {P : Program} {w : World} {K : Fg} {mg : Str → Option Value} {base : Heap} {CL CD CS CU GS f : Addr} {fd : FuncData} (F : FnP K "format_log" "format_log" sDef f fd) (T : Txt K mg CL CD CS CU GS) (hLog_item_names : CalP P w K mg base CL 1 "item_names" (spP K (F_Log_item_names.S CL))) (hLog_grades : CalP P w K mg base CL 1 "grades" (spP K (F_Log_grades.S CL))) (hLog_judges : CalP P w K mg base CL 1 "judges" (spP K (F_Log_judges.S CL))) (hLog_events : CalP P w K mg base CL 1 "events" (spP K (F_Log_events.S CL))) (hformat_event : Cal P w K mg base 1 "format_event" ["event"] (spP K (F_format_event.S))) : FnOk P w K mg base CX0 3 f fd sP (spP K (S CL)) := by
  refine okP F sc (fun ds m Qd h => ?_) fun cdv A outer s H E hr => ?_
  · obtain ⟨L, rfl, ok, q⟩ := h
    rfl
  have hu := hu_of hr
  refine ⟨_, _, (pss_cons (ps_set (i := 1) sc.nd rfl (Or.inl rfl) (pe_op op_catM (pe_lc (own := [("item", 2)]) rfl sc.nd (kList (K := K) (by rfl) (pe_calP hLog_item_names T.cLog hr (by decide) (pv 0))) (blkOk_by (N := sN) (sc := defScope sDef) (by decide +kernel)) (fun _ _ _ _ _ => (pg_name (i := 2) sc.nd rfl (by first | exact Or.inl rfl | exact Or.inr rfl))) (fun _ _ _ _ _ => pts_nil) (fun _ _ _ _ _ => (pe_joined (PJ.cons pe_str (PJ.cons (pe_fmt (pv 2)) PJ.nil))))) (pe_lst (pa_cons (pe_joined (PJ.cons pe_str (PJ.cons (pe_fmt (pe_calP hLog_grades T.cLog hr (by decide) (pv 0))) PJ.nil))) pa_nil)))) (pss_cons (ps_aug (i := 1) sc.nd rfl (Or.inl rfl) (pe_lc (own := [("name", 3), ("drift", 4)]) rfl sc.nd (kList (K := K) (by rfl) (pe_calP hLog_judges T.cLog hr (by decide) (pv 0))) (blkOk_by (N := sN) (sc := defScope sDef) (by decide +kernel)) (fun _ _ _ _ _ => (kTup (K := K) (n := 2) (by rfl) rfl (pgs_cons (pg_name (i := 3) sc.nd rfl (by first | exact Or.inl rfl | exact Or.inr rfl)) (pgs_cons (pg_name (i := 4) sc.nd rfl (by first | exact Or.inl rfl | exact Or.inr rfl)) pgs_nil)))) (fun _ _ _ _ _ => pts_nil) (fun _ _ _ _ _ => (pe_joined (PJ.cons pe_str (PJ.cons (pe_fmt (pv 3)) (PJ.cons pe_str (PJ.cons (pe_fmt (pv 4)) PJ.nil))))))) iop_ext) (pss_one (ps_ret (kJoin (K := K) (by rfl) pe_str (pe_op op_cat2 (pv 1) (pe_lc (own := [("event", 5)]) rfl sc.nd (kList (K := K) (by rfl) (pe_calP hLog_events T.cLog hr (by decide) (pv 0))) (blkOk_by (N := sN) (sc := defScope sDef) (by decide +kernel)) (fun _ _ _ _ _ => (pg_name (i := 5) sc.nd rfl (by first | exact Or.inl rfl | exact Or.inr rfl))) (fun _ _ _ _ _ => pts_nil) (fun _ _ _ _ _ => (pe_cal hformat_event hr (by decide) rfl (pa_cons (pv 5) pa_nil)))))))))), by walk_at "sim", ?h⟩
  intro ds m Qd hz h
  obtain ⟨L, rfl, ok, q⟩ := h
  have i5 := ok.it.max
  have j3 := ok.j3
  have n9 : L.events.length ≤ 9 := ok.ne
  have g1 := ok.g1
  refine ⟨_, rfl, _, .inl rfl, hz, L, rfl, _, .inl rfl, lcM D.str L.items (fun x => .str (lnI x)) (.inl rfl) (sz (by omega)) (fun x hx Ny Nn k => ?_) ?_⟩
  · have l := lnI_len (ok.it.good _ hx)
    exact ⟨_, rfl, by decide +kernel, _, rfl, .inl ⟨x, rfl, sz (Nat.le_trans (nameB_len (ok.it.good _ hx)) (by decide)), _, rfl, sz (Nat.le_trans l (by decide)), k⟩⟩
  obtain ⟨n, eg, hn⟩ := g_nat (show 0 ≤ L.grades by omega) ok.g9
  have lg := lnG_len (show 0 ≤ L.grades by omega) ok.g9
  refine ⟨_, rfl, by decide +kernel, _, rfl, _, .inl rfl, hz, L, rfl, .inr ⟨L.grades, rfl, ?_, _, rfl, sz (Nat.le_trans lg (by decide)), (by decide : 1 ≤ sizeLine), ?_⟩⟩
  · rw [eg]
    have : ((n : Nat) : Int).natAbs = n := rfl
    rw [this]
    exact Nat.lt_of_le_of_lt (Nat.log2_le_self n) (by omega)
  refine ⟨_, [.str (lnG L.grades)], .inl rfl, .inl rfl, ?_, fun a ha => ?_⟩
  · rw [List.length_map]
    exact sz (show L.items.length + 1 ≤ 10000 by omega)
  refine ⟨_, rfl, _, rfl, _, .inl rfl, hz, L, rfl, _, .inl rfl, lcM juD L.judges (fun p => .str (lnJ p)) (.inl rfl) (sz (by omega)) (fun p hp Ny Nn k => ?_) ?_⟩
  · have h1 := ok.ju.good _ (List.mem_map.mpr ⟨p, hp, rfl⟩)
    have h2 := ok.dr p hp
    have l := sz (Nat.le_trans (lnJ_len h1 h2) (by decide : 40 ≤ 10000))
    have l2 : (Str.empty ++ Str.ofString "judge " ++ p.1 ++ Str.ofString " ").length ≤ sizeLine := pre_len l
    have l3 : (Str.empty ++ Str.ofString "judge " ++ p.1).length ≤ sizeLine := pre_len l2
    have l4 : (Str.empty ++ Str.ofString "judge ").length ≤ sizeLine := pre_len l3
    exact ⟨_, rfl, rfl, _, _, rfl, _, _, rfl, rfl, _, rfl, l4, _, rfl, .inl ⟨p.1, rfl, sz (Nat.le_trans (nameB_len h1) (by decide)), _, rfl, l3, _, rfl, l2, _, rfl, .inl ⟨p.2, rfl, sz (by rw [drift_len h2]; decide), _, rfl, l, k⟩⟩⟩
  refine ⟨a, _, _, rfl, rfl, Mu.set_same, ?_, ?_⟩
  · rw [List.length_append, List.length_map, List.length_map]
    exact sz (show L.items.length + 1 + L.judges.length ≤ 10000 by omega)
  rw [Mu.set_set]
  have lw : LwD (m.set a (.lst (L.items.map (fun x => D.str (lnI x)) ++ [.str (lnG L.grades)] ++ L.judges.map fun p => D.str (lnJ p)))) (.ref a) (L.items.map (fun x => D.str (lnI x)) ++ [.str (lnG L.grades)] ++ L.judges.map fun p => D.str (lnJ p)) := .inr ⟨a, rfl, Mu.set_same⟩
  refine ⟨⟨_, rfl⟩, _, rfl, _, rfl, _, .inl rfl, hz, L, rfl, _, .inl rfl, lcM evD L.events (fun e => .str (evT e)) (.inl rfl) (sz (by omega)) (fun e he Ny Nn k => ⟨_, rfl, hz, L, e, rfl, ok, he, k⟩) ?_⟩
  refine ⟨_, _, lw, .inl rfl, ?_, ?_⟩
  · rw [List.length_append, List.length_append, List.length_map, List.length_map, List.length_map]
    exact sz (show L.items.length + 1 + L.judges.length + L.events.length ≤ 10000 by omega)
  · refine ⟨_, linesL L, rfl, .inl (.inl ?_), ?_, L3.Sub.refl.set ha, q⟩
    · unfold linesL
      simp [List.map_append, List.map_map, Function.comp_def]
    · have h1 := fmt_sum ok
      have h2 := lines_len ok
      have h3 : (Str.ofString "\n").length = 1 := by decide +kernel
      rw [h3]
      show ((linesL L).map Str.length).sum + _ ≤ _
      omega
end F_format_log
namespace F_parse_log
abbrev sDef : Stmt := top 72
abbrev sN : List Str := ["text", "found", "sort", "lines", "place", "log", "number", "line", "pair", "at"]
abbrev sP : List Str := ["text"]
theorem sc : FnScope sN sP (defScope sDef) := ⟨rfl, rfl, rfl, by decide +kernel, rfl, by decide +kernel, by decide +kernel⟩
open F_made_log
structure Cel (m m' : Mu) (ad : Nat → Addr) (f : Nat → List D) : Prop where
  c : ∀ z, z < 4 → m'.c (ad z) = some (.lst (f z))
  fz : m'.fz = m.fz
  ot : ∀ b, (∀ z, z < 4 → b ≠ ad z) → m'.c b = m.c b
theorem Cel.put {m m' : Mu} {ad : Nat → Addr} {f g : Nat → List D} (h : Cel m m' ad f) (inj : ∀ x y, x < 4 → y < 4 → ad x = ad y → x = y) {k : Nat} (hk : k < 4) {v : D} (hg : ∀ z, z < 4 → g z = if z = k then f z ++ [v] else f z) :
    Cel m (m'.set (ad k) (.lst (f k ++ [v]))) ad g where
  c := fun z hz => by
    rw [hg z hz]
    by_cases e : z = k
    · subst e
      rw [if_pos rfl]
      exact Mu.set_same
    · rw [if_neg e, Mu.set_ne (fun h => e (inj _ _ hz hk h))]
      exact h.c z hz
  fz := h.fz
  ot := fun b hb => by
    rw [Mu.set_ne (hb k hk)]
    exact h.ot b hb
structure New (m m' : Mu) (as : List Addr) : Prop where
  nd : as.Nodup
  c : ∀ a ∈ as, m.c a = none ∧ m'.c a = some (.lst [])
  fz : m'.fz = m.fz
  ot : ∀ b, b ∉ as → m'.c b = m.c b
theorem New.put {m m' : Mu} {as : List Addr} (h : New m m' as) {a : Addr} (ha : m'.c a = none) : New m (m'.set a (.lst [])) (as ++ [a]) := by
  have na : a ∉ as := fun z => by
    rw [(h.c a z).2] at ha
    cases ha
  refine ⟨List.nodup_append.mpr ⟨h.nd, by simp, fun x hx y hy e => ?_⟩, fun b hb => ?_, h.fz, fun b hb => ?_⟩
  · rw [List.mem_singleton.mp hy] at e
    exact na (e ▸ hx)
  · rcases List.mem_append.mp hb with hb | hb
    · refine ⟨(h.c b hb).1, ?_⟩
      rw [Mu.set_ne (show b ≠ a from fun e => na (e ▸ hb))]
      exact (h.c b hb).2
    · rw [List.mem_singleton.mp hb]
      refine ⟨?_, Mu.set_same⟩
      rw [← h.ot a na]
      exact ha
  · have hb1 : b ∉ as := fun z => hb (List.mem_append_left _ z)
    have hb2 : b ≠ a := fun e => hb (List.mem_append_right _ (List.mem_singleton.mpr e))
    rw [Mu.set_ne hb2]
    exact h.ot b hb1
def WW (m : Mu) : Nat → List (Key × D) → Mu → Prop
  | 0, acc, m' => acc = [] ∧ New m m' []
  | 1, acc, m' => ∃ a, acc = [(kS "item", .ref a)] ∧ New m m' [a]
  | 2, acc, m' => ∃ a b, acc = [(kS "item", .ref a), (kS "grades", .ref b)] ∧ New m m' [a, b]
  | 3, acc, m' => ∃ a b c, acc = [(kS "item", .ref a), (kS "grades", .ref b), (kS "judge", .ref c)] ∧ New m m' [a, b, c]
  | _, acc, m' => ∃ a b c d, acc = fdD a b c d ∧ New m m' [a, b, c, d]
def ad4 (a b c d : Addr) : Nat → Addr
  | 0 => a
  | 1 => b
  | 2 => c
  | _ => d
theorem sorts_at : ∀ k, k < 4 → sorts[k]? = some (sorts.getD k Str.empty) ∧ (∀ i, i < k → sorts[i]? ≠ some (sorts.getD k Str.empty)) ∧ (sorts.getD k Str.empty = Str.ofString "grades" → k = 1) := by decide +kernel
theorem fd_get (a b c d : Addr) : ∀ k, k < 4 → getD (fdD a b c d) (kS (sorts.getD k Str.empty)) = some (.ref (ad4 a b c d k))
  | 0, _ => rfl
  | 1, _ => rfl
  | 2, _ => rfl
  | 3, _ => rfl
  | n + 4, h => by omega
theorem cell0 (L : LogD) : ∀ z, cellL L 0 z = []
  | 0 => by simp [cellL]
  | 1 => by simp [cellL, pG]
  | 2 => by simp [cellL, pJ]
  | n + 3 => by simp [cellL, pE]
theorem cell_len {L : LogD} (ok : LogOk L) (i : Nat) : ∀ z, (cellL L i z).length ≤ 9
  | 0 => by
    have := ok.it.max
    simp only [cellL, List.length_map, List.length_take]
    omega
  | 1 => by
    simp only [cellL, pG, List.length_map]
    split <;> simp
  | 2 => by
    have := ok.j3
    simp only [cellL, pJ, List.length_map, List.length_take]
    omega
  | n + 3 => by
    have := ok.ne
    simp only [cellL, pE, List.length_map, List.length_take]
    omega
def S (CL : Addr) : SD := fun ds m Q => ∃ (L : LogD), ds = [.str (fmtL L)] ∧ LogOk L ∧ Q (logD CL L)
theorem ok {P : Program} {w : World} {K : Fg} {mg : Str → Option Value} {base : Heap} {CL CD CS CU GS f : Addr} {fd : FuncData} (F : FnP K "parse_log" "parse_log" sDef f fd) (T : Txt K mg CL CD CS CU GS) (hread_line : Cal P w K mg base 3 "read_line" ["line"] (spP K (F_read_line.S))) (hmade_log : Cal P w K mg base 5 "made_log" ["found", "line"] (spP K (F_made_log.S CL))) : FnOk P w K mg base CX0 6 f fd sP (spP K (S CL)) := by
  refine okP F sc (fun ds m Qd h => ?_) fun cdv A outer s H E hr => ?_
  · obtain ⟨L, rfl, ok, q⟩ := h
    rfl
  have hu := hu_of hr
  have hSO : Sim K (mGl GS sorts) (dC (.lsr (sorts.map D.str))) := sim_mGl T.vSORTS
  refine ⟨_, _, (pss_cons (ps_set (i := 1) sc.nd rfl (Or.inr rfl) (pe_dc (own := [("sort", 2)]) rfl sc.nd (kList (K := K) (by rfl) (pe_glst (xs := sorts) rfl T.gSORTS)) (blkOk_by (N := sN) (sc := defScope sDef) (by decide +kernel)) (fun _ _ _ _ _ => (pg_name (i := 2) sc.nd rfl (by first | exact Or.inl rfl | exact Or.inr rfl))) (fun _ _ _ _ _ => pts_nil) (fun _ _ _ _ _ => (pv 2)) (fun _ _ _ _ _ => (pe_lstM pa_nil)))) (pss_cons (ps_set (i := 3) sc.nd rfl (Or.inl rfl) (pe_split (pv 0) pe_str)) (pss_cons (ps_set (i := 4) sc.nd rfl (Or.inl rfl) pe_int) (pss_cons (ps_set (i := 5) sc.nd rfl (Or.inl rfl) pe_non) (pss_cons (ps_for PassesOwn.never rfl (kEnumK (K := K) (by rfl) rfl T.n_enumerate (pa_cons (pv 3) (pa_cons pe_int pa_nil))) (kTup (K := K) (n := 2) (by rfl) rfl (pgs_cons (pg_name (i := 6) sc.nd rfl (by first | exact Or.inl rfl | exact Or.inr rfl)) (pgs_cons (pg_name (i := 7) sc.nd rfl (by first | exact Or.inl rfl | exact Or.inr rfl)) pgs_nil))) (pss_cons (ps_set (i := 8) sc.nd rfl (Or.inl rfl) (pe_cal hread_line hr (by decide) rfl (pa_cons (pv 7) pa_nil))) (pss_cons (ps_if (pt_cmpR op_isN (pv 8) pe_non (by rfl)) (pss_one ps_never) pss_nil) (pss_cons (ps_set (i := 2) sc.nd rfl (Or.inl rfl) (pe_bm PySem.F.plainAttrs_list PySem.F.slot_list_index PySem.F.type_list_index mt_index (pe_glst (xs := sorts) rfl T.gSORTS) (pa_cons (pe_ix (kIx (K := K) (by rfl)) (pv 8) pe_int (fun _ _ => rfl)) pa_nil))) (pss_cons (ps_if (PW.pt (pw_or (pt_cmpR op_lt (pv 2) (pv 4) (by rfl)) (pw_or1 (pt_val (pe_callB (kAny (K := K) (by rfl) (by rfl)) (by rfl) T.n_any (by decide +kernel) (pa_cons (pe_lc (own := [("at", 9)]) rfl sc.nd (pi_range1 rfl T.n_range (pa_cons (pv 2) pa_nil)) (blkOk_by (N := sN) (sc := defScope sDef) (by decide +kernel)) (fun _ _ _ _ _ => (pg_name (i := 9) sc.nd rfl (by first | exact Or.inl rfl | exact Or.inr rfl))) (fun _ _ _ _ _ => pts_nil) (fun _ _ _ _ _ => (pe_cmpR op_eq (pe_callB (kLen (K := K) (by rfl)) (by rfl) T.n_len PySem.boot_len (pa_cons (pe_dget hu (pv 1) (pe_ix (kIx (K := K) (by rfl)) (pe_glst (xs := sorts) rfl T.gSORTS) (pv 9) (fun _ _ => rfl)) (fun _ _ => rfl)) pa_nil)) pe_int (by rfl)))) pa_nil)))))) (pss_one ps_never) pss_nil) (pss_cons (ps_if (PW.pt (pw_and (pt_cmpR op_eq (pe_ix (kIx (K := K) (by rfl)) (pv 8) pe_int (fun _ _ => rfl)) pe_str (by rfl)) (pw_and1 (pt_cmpR op_gt (pe_callB (kLen (K := K) (by rfl)) (by rfl) T.n_len PySem.boot_len (pa_cons (pe_dget hu (pv 1) pe_str (fun _ _ => rfl)) pa_nil)) pe_int (by rfl))))) (pss_one ps_never) pss_nil) (pss_cons (ps_set (i := 4) sc.nd rfl (Or.inl rfl) (pv 2)) (pss_cons (ps_expr (pe_bm PySem.F.plainAttrs_list PySem.F.slot_list_append PySem.F.type_list_append mt_append (pe_dget hu (pv 1) (pe_ix (kIx (K := K) (by rfl)) (pv 8) pe_int (fun _ _ => rfl)) (fun _ _ => rfl)) (pa_cons (pe_ix (kIx (K := K) (by rfl)) (pv 8) pe_int (fun _ _ => rfl)) pa_nil))) (pss_one (ps_set (i := 5) sc.nd rfl (Or.inl rfl) (pe_cal hmade_log hr (by decide) rfl (pa_cons (pv 1) (pa_cons (pv 6) pa_nil))))))))))))) (pss_cons (ps_if (pt_cmpR op_eq (pe_callB (kLen (K := K) (by rfl)) (by rfl) T.n_len PySem.boot_len (pa_cons (pe_dget hu (pv 1) pe_str (fun _ _ => rfl)) pa_nil)) pe_int (by rfl)) (pss_one ps_never) pss_nil) (pss_one (ps_ret (pv 5))))))))), by walk_at "sim", ?h⟩
  intro ds m Qd hz h
  obtain ⟨L, rfl, ok, q⟩ := h
  have hs : Txt.split (fmtL L) (Str.ofString "\n") = linesL L := split_fmt ok
  have fl := F_format_log.fmt_len ok
  have p1 := ok.it.pos
  have jp : 1 ≤ L.nJ := by
    have := ok.ju.pos
    have e : L.names.length = L.nJ := List.length_map _
    omega
  refine ⟨_, .inr (.inl rfl), ?_⟩
  refine ⟨WW m, ⟨rfl, ⟨List.nodup_nil, (fun a h => by cases h), rfl, fun _ _ => rfl⟩⟩, (fun i acc m' h => .inr (.inl rfl)), (fun i d acc m' hd h => ?_), fun acc m' h => ?_⟩
  · rcases i with _ | _ | _ | _ | i
    · obtain ⟨rfl, h⟩ := h
      cases hd
      exact ⟨_, rfl, (by decide : 0 ≤ sizeLine), fun a ha => ⟨kS "item", rfl, (by decide : 0 < sizeLine), a, rfl, h.put ha⟩⟩
    · obtain ⟨a1, rfl, h⟩ := h
      cases hd
      exact ⟨_, rfl, (by decide : 0 ≤ sizeLine), fun a ha => ⟨kS "grades", rfl, (by decide : 1 < sizeLine), a1, a, rfl, h.put ha⟩⟩
    · obtain ⟨a1, a2, rfl, h⟩ := h
      cases hd
      exact ⟨_, rfl, (by decide : 0 ≤ sizeLine), fun a ha => ⟨kS "judge", rfl, (by decide : 2 < sizeLine), a1, a2, a, rfl, h.put ha⟩⟩
    · obtain ⟨a1, a2, a3, rfl, h⟩ := h
      cases hd
      exact ⟨_, rfl, (by decide : 0 ≤ sizeLine), fun a ha => ⟨kS "event", rfl, (by decide : 3 < sizeLine), a1, a2, a3, a, rfl, h.put ha⟩⟩
    · cases hd
  obtain ⟨a1, a2, a3, a4, rfl, nw⟩ := h
  have none4 : ∀ z, z < 4 → m.c (ad4 a1 a2 a3 a4 z) = none ∧ m'.c (ad4 a1 a2 a3 a4 z) = some (.lst []) := fun z hz => by
    rcases (by omega : z = 0 ∨ z = 1 ∨ z = 2 ∨ z = 3) with rfl | rfl | rfl | rfl <;> exact nw.c _ (by simp [ad4])
  have inj : ∀ x y, x < 4 → y < 4 → ad4 a1 a2 a3 a4 x = ad4 a1 a2 a3 a4 y → x = y := fun x y hx hy e => by
    have nd := nw.nd
    simp only [List.nodup_cons, List.mem_cons, List.not_mem_nil, or_false, not_or] at nd
    obtain ⟨⟨n1, n2, n3⟩, ⟨n4, n5⟩, n6, _⟩ := nd
    rcases (by omega : x = 0 ∨ x = 1 ∨ x = 2 ∨ x = 3) with rfl | rfl | rfl | rfl <;> rcases (by omega : y = 0 ∨ y = 1 ∨ y = 2 ∨ y = 3) with rfl | rfl | rfl | rfl <;> first
      | rfl
      | exact absurd e ‹_›
      | exact absurd e.symm ‹_›
  have cel0 : Cel m m' (ad4 a1 a2 a3 a4) (cellL L 0) := ⟨fun z hz => by rw [cell0]; exact (none4 z hz).2, nw.fz, fun b hb => nw.ot b (by
    simp only [List.mem_cons, List.not_mem_nil, or_false, not_or]
    exact ⟨hb 0 (by omega), hb 1 (by omega), hb 2 (by omega), hb 3 (by omega)⟩)⟩
  refine ⟨_, rfl, ⟨_, rfl⟩, _, _, rfl, rfl, by decide +kernel, sz (by omega), ?_⟩
  rw [hs]
  refine ⟨_, rfl, _, _, 1, rfl, by decide, by decide, .inl rfl, ?_⟩
  rw [enumI_map]
  refine forX (fun (i : Nat) => D.tup [.int (1 + (i : Nat)), .str ((linesL L).getD i Str.empty)]) (List.range (linesL L).length)
    (fun i δ' m2 => Cel m m2 (ad4 a1 a2 a3 a4) (cellL L i) ∧ ∃ (pl : Nat) (lg : D) (t2 t6 t7 t8 t9 : Option D), δ' = [some (.str (fmtL L)), some (.dic (fdD a1 a2 a3 a4)), t2, some (.lst ((linesL L).map D.str)), some (iD pl), some lg, t6, t7, t8, t9] ∧ pl ≤ kindL L i ∧ (1 ≤ i → lg = logD CL (partL L i)))
    ⟨cel0, 0, .non, _, _, _, _, _, rfl, Nat.zero_le _, fun h => by omega⟩ (fun i δ' m2 h => .inl rfl) (fun i z δ' m2 hzi h => ?_) fun δ' m2 h => ?_
  · obtain ⟨hi, rfl⟩ := List.getElem?_eq_some_iff.mp hzi
    rw [List.length_range] at hi
    rw [List.getElem_range]
    obtain ⟨cel, pl, lg, t2, t6, t7, t8, t9, rfl, hpl, hlg⟩ := h
    obtain ⟨x, v, e1, rd, st⟩ := line_at ok hi
    have hx : (linesL L).getD i Str.empty = x := by rw [List.getD_eq_getElem?_getD, e1]; rfl
    have hk := kind_lt L i
    obtain ⟨sk1, sk2, sk3⟩ := sorts_at _ hk
    have hz2 : m2.fz = [] := cel.fz.trans hz
    have ei : (1 + ((i : Nat) : Int)) = ((i + 1 : Nat) : Int) := by omega
    have ls : ∀ z, z < 4 → LsD m2 (.ref (ad4 a1 a2 a3 a4 z)) (cellL L i z) := fun z hz => .inr (.inr ⟨_, rfl, cel.c z hz⟩)
    rw [hx, ei]
    refine ⟨_, rfl, rfl, _, _, rfl, _, _, rfl, rfl, ?_⟩
    refine ⟨_, rfl, hz2, x, _, rfl, rd, _, rfl, rfl, _, rfl, ?_⟩
    refine ⟨⟨_, .inr (.inl rfl)⟩, _, rfl, _, _, _, .inr rfl, rfl, rfl, sorts, _, kindL L i, .inr (.inl rfl), rfl, sk1, sk2, ?_⟩
    refine ⟨_, rfl, _, rfl, _, _, rfl, rfl, _, rfl, ifN (decide_eq_false (by omega)) ?_⟩
    refine ⟨_, rfl, _, rfl, by omega, by omega, ?_⟩
    rw [Int.toNat_natCast, rngD_map]
    refine lcM (fun (z : Nat) => D.int (z : Nat)) (List.range (kindL L i)) (fun _ => .bl false) trivial (by rw [List.length_range]; exact sz (by omega)) (fun z hzr Ny Nn k => ?_) ?_
    · have hzk := List.mem_range.mp hzr
      have hne := cell_ne ok hzk
      have hl0 : ((cellL L i z).length : Int) ≠ 0 := by
        have := List.length_pos_iff.mpr hne
        omega
      refine ⟨_, rfl, _, rfl, _, _, .str (sorts.getD z Str.empty), .inl (.inr (.inl rfl)), rfl, at_nat (by rw [List.getElem?_map, (sorts_at z (by omega)).1]; rfl), _, .inl ⟨_, kS (sorts.getD z Str.empty), .inl rfl, rfl, (fd_get a1 a2 a3 a4 z (by omega)).symm⟩, _, _, rfl, .inl ⟨_, .inl (ls z (by omega)), rfl⟩, false, ?_, k⟩
      show some (decide (((cellL L i z).length : Int) = 0)) = some false
      rw [decide_eq_false hl0]
    refine ⟨_, (List.range (kindL L i)).map fun _ => false, rfl, .inl (by rw [List.map_map]; rfl), _, rfl, ?_⟩
    have e0 : ((List.range (kindL L i)).map fun _ => false).any id = false := by simp
    rw [e0]
    have body : dSeq (dAsg (dVar 2) (hName 4)) (dSeq (dDrop (dApp (dDGet (dVar 1) (dOp dIx (dVar 8) (dC (D.int 0)))) (dCons (dOp dIx (dVar 8) (dC (D.int 1))) dNil))) (dAsg (dCall (F_made_log.S CL) (dCons (dVar 1) (dCons (dVar 6) dNil))) (hName 5)))
        { nx := fun δ' m2 => Cel m m2 (ad4 a1 a2 a3 a4) (cellL L (i + 1)) ∧ ∃ (pl : Nat) (lg : D) (t2 t6 t7 t8 t9 : Option D), δ' = [some (.str (fmtL L)), some (.dic (fdD a1 a2 a3 a4)), t2, some (.lst ((linesL L).map D.str)), some (iD pl), some lg, t6, t7, t8, t9] ∧ pl ≤ kindL L (i + 1) ∧ (1 ≤ i + 1 → lg = logD CL (partL L (i + 1))), rt := fun d m' => L3.Sub m m' ∧ Qd d }
        [some (.str (fmtL L)), some (.dic (fdD a1 a2 a3 a4)), some (iD (kindL L i)), some (.lst ((linesL L).map D.str)), some (iD pl), some lg, some (iD (i + 1)), some (.str x), some (.tup [.str (sorts.getD (kindL L i) Str.empty), v]), t9] m2 := by
      have cel2 := cel.put inj hk st
      have h1 : m2.c (ad4 a1 a2 a3 a4 (kindL L i)) = some (.lst (cellL L i (kindL L i))) := cel.c _ hk
      refine ⟨_, rfl, _, rfl, _, rfl, _, _, _, .inr rfl, rfl, rfl, .ref (ad4 a1 a2 a3 a4 (kindL L i)), .inl ⟨_, kS (sorts.getD (kindL L i) Str.empty), .inl rfl, rfl, (fd_get a1 a2 a3 a4 _ hk).symm⟩, ⟨_, ls _ hk⟩, _, rfl, _, _, _, .inr rfl, rfl, rfl, _, _, _, rfl, rfl, h1, ?_, ?_⟩
      · exact Nat.lt_of_le_of_lt (cell_len ok i _) (by decide)
      · refine ⟨_, rfl, _, rfl, cel2.fz.trans hz, a1, a2, a3, a4, i + 1, partL L (i + 1), pG L (i + 1), pJ L (i + 1), rfl, cel2.c 0 (by omega), cel2.c 1 (by omega), cel2.c 2 (by omega), cel2.c 3 (by omega), ?_, ?_, part_ok ok (by omega), cel2, _, _, _, _, _, _, _, rfl, kind_mono L (Nat.le_succ i), fun _ => rfl⟩
        · show pG L (i + 1) = [if L.nI < i + 1 then L.grades else 1] ∨ pG L (i + 1) = [] ∧ (if L.nI < i + 1 then L.grades else 1) = 1
          unfold pG
          by_cases h : L.nI < i + 1
          · exact .inl (by rw [if_pos h, if_pos h])
          · exact .inr ⟨if_neg h, if_neg h⟩
        · show (pJ L (i + 1) = (if L.nI + 1 < i + 1 then pJ L (i + 1) else [(Str.ofString "x", Str.ofString "stays")]) ∧ pJ L (i + 1) ≠ []) ∨ (pJ L (i + 1) = [] ∧ (if L.nI + 1 < i + 1 then pJ L (i + 1) else [(Str.ofString "x", Str.ofString "stays")]) = [(Str.ofString "x", Str.ofString "stays")])
          by_cases h : L.nI + 1 < i + 1
          · refine .inl ⟨by rw [if_pos h], fun e => ?_⟩
            have e := congrArg List.length e
            unfold pJ at e
            rw [List.length_take, List.length_nil] at e
            have e2 : L.nJ = L.judges.length := rfl
            omega
          · refine .inr ⟨?_, if_neg h⟩
            unfold pJ
            rw [show i + 1 - (L.nI + 1) = 0 by omega, List.take_zero]
    refine ⟨_, rfl, _, _, _, .inr rfl, rfl, rfl, _, rfl, _, rfl, iteB (fun h => ?_) fun h => body⟩
    have k1 := sk3 (of_decide_eq_true h)
    have c1 := ls 1 (by omega)
    rw [cell_grades k1] at c1
    exact ⟨_, rfl, _, .inl ⟨_, kS "grades", .inl rfl, rfl, (fd_get a1 a2 a3 a4 1 (by omega)).symm⟩, _, _, rfl, .inl ⟨_, .inl c1, rfl⟩, _, _, rfl, rfl, _, rfl, body⟩
  · rw [List.length_range] at h
    obtain ⟨cel, pl, lg, t2, t6, t7, t8, t9, rfl, hpl, hlg⟩ := h
    have hlg := hlg (by rw [lines_n]; omega)
    rw [part_all ok] at hlg
    subst hlg
    have hne : cellL L (linesL L).length 2 ≠ [] := fun e => by
      have e := congrArg List.length e
      rw [lines_n] at e
      simp only [cellL, pJ, List.length_map, List.length_take, List.length_nil] at e
      have e2 : L.nJ = L.judges.length := rfl
      omega
    have hl0 : ((cellL L (linesL L).length 2).length : Int) ≠ 0 := by
      have := List.length_pos_iff.mpr hne
      omega
    refine ⟨_, rfl, _, .inl ⟨_, kS "judge", .inl rfl, rfl, (fd_get a1 a2 a3 a4 2 (by omega)).symm⟩, _, _, rfl, .inl ⟨_, .inl (.inr (.inr ⟨_, rfl, cel.c 2 (by omega)⟩)), rfl⟩, false, ?_, _, rfl, _, rfl, ⟨fun a o e => ?_, cel.fz⟩, q⟩
    · show some (decide (((cellL L (linesL L).length 2).length : Int) = 0)) = some false
      rw [decide_eq_false hl0]
    · rw [cel.ot a fun z hz e2 => ?_]
      · exact e
      · rw [e2, (none4 z hz).1] at e
        cases e
end F_parse_log
namespace F_Desk___init__
abbrev sDef : Stmt := inClass (top 85) 0
abbrev sN : List Str := ["self", "log"]
abbrev sP : List Str := ["self", "log"]
theorem sc : FnScope sN sP (defScope sDef) := ⟨rfl, rfl, rfl, by decide +kernel, rfl, by decide +kernel, by decide +kernel⟩
abbrev dkF (CL : Addr) (L : LogD) (k : Addr) : List (Str × D) := [("state", logD CL L), ("past", .tup []), ("future", .tup []), ("known", .ref k)]
def S (CL CD : Addr) : SM := fun ds m Q => ∃ (a : Addr) (L : LogD), ds = [.ref a, logD CL L] ∧ m.c a = some (.ins CD []) ∧ ∀ k, k ≠ a → m.c k = none → Q .non ((m.set k (.dT [])).set a (.ins CD (dkF CL L k)))
theorem ok {P : Program} {w : World} {K : Fg} {mg : Str → Option Value} {base : Heap} {CL CD CS CU GS f : Addr} {fd : FuncData} (F : FnP K "__init__" "Desk.__init__" sDef f fd) (T : Txt K mg CL CD CS CU GS)  : FnOk P w K mg base CX0 1 f fd sP (spM K (S CL CD)) := by
  refine okM F sc (fun ds m Qd h => ?_) fun cdv A outer s H E hr => ?_
  · obtain ⟨a, L, rfl, ha, q⟩ := h
    rfl
  have hu := hu_of hr
  refine ⟨_, _, (pss_cons (ps_fld (pv 0) (pv 1) (by rfl)) (pss_cons (ps_fld (pv 0) (pe_tup pa_nil) (by rfl)) (pss_cons (ps_fld (pv 0) (pe_tup pa_nil) (by rfl)) (pss_one (ps_fld (pv 0) pe_dnewT (by rfl)))))), by walk_at "sim", ?h⟩
  intro ds m Qd hz h
  obtain ⟨a, L, rfl, ha, q⟩ := h
  refine ⟨_, rfl, _, rfl, a, CD, _, rfl, ha, T.cDesk, T.a_state, (by decide), ?_⟩
  refine ⟨(by decide : 0 ≤ sizeLine), _, rfl, a, CD, _, rfl, Mu.set_same, T.cDesk, T.a_past, (show 1 < 1000 by decide), ?_⟩
  refine ⟨(by decide : 0 ≤ sizeLine), _, rfl, a, CD, _, rfl, Mu.set_same, T.cDesk, T.a_future, (show 2 < 1000 by decide), ?_⟩
  rw [Mu.set_set, Mu.set_set]
  intro k hk
  have hka : k ≠ a := fun e => by
    rw [e, Mu.set_same] at hk
    cases hk
  have hk0 : m.c k = none := by
    rw [Mu.set_ne hka] at hk
    exact hk
  have hc := (Mu.set_ne (m := m.set a (.ins CD (putFD (Str.ofString "future") (.tup []) (putFD (Str.ofString "past") (.tup []) (putFD (Str.ofString "state") (logD CL L) []))))) (o := .dT []) hka.symm).trans Mu.set_same
  refine ⟨_, rfl, a, CD, _, rfl, hc, T.cDesk, T.a_known, (show 3 < 1000 by decide), _, .refl, ?_⟩
  rw [Mu.set_comm (m := m) hka.symm, Mu.set_set]
  exact q k hka hk0
end F_Desk___init__
namespace F_Session___init__
abbrev sDef : Stmt := inClass (top 92) 0
abbrev sN : List Str := ["self", "log"]
abbrev sP : List Str := ["self", "log"]
theorem sc : FnScope sN sP (defScope sDef) := ⟨rfl, rfl, rfl, by decide +kernel, rfl, by decide +kernel, by decide +kernel⟩
open F_Desk___init__
abbrev seF (CL CD : Addr) (L : LogD) (k : Addr) : List (Str × D) := [("desk", .ins CD (dkF CL L k))]
def S (CL CD CS : Addr) : SM := fun ds m Q => ∃ (a : Addr) (L : LogD), ds = [.ref a, logD CL L] ∧ m.c a = some (.ins CS []) ∧ ∀ k, k ≠ a → m.c k = none → Q .non ((m.set k (.dT [])).set a (.ins CS (seF CL CD L k)))
theorem ok {P : Program} {w : World} {K : Fg} {mg : Str → Option Value} {base : Heap} {CL CD CS CU GS f : Addr} {fd : FuncData} (F : FnP K "__init__" "Session.__init__" sDef f fd) (T : Txt K mg CL CD CS CU GS) (hDesk : CalC P w K mg base CD 1 "Desk" ["self", "log"] (spM K (F_Desk___init__.S CL CD))) : FnOk P w K mg base CX0 3 f fd sP (spM K (S CL CD CS)) := by
  refine okM F sc (fun ds m Qd h => ?_) fun cdv A outer s H E hr => ?_
  · obtain ⟨a, L, rfl, ha, q⟩ := h
    rfl
  have hu := hu_of hr
  refine ⟨_, _, (pss_one (ps_fld (pv 0) (pe_calC hDesk hr (by decide) rfl (pa_cons (pv 1) pa_nil)) (by rfl))), by walk_at "sim", ?h⟩
  intro ds m Qd hz h
  obtain ⟨a, L, rfl, ha, q⟩ := h
  refine ⟨_, rfl, hz, fun b hb => ?_⟩
  have hba : b ≠ a := fun e => by
    rw [e, ha] at hb
    cases hb
  refine ⟨b, L, rfl, Mu.set_same, fun k hkb hk => ?_⟩
  have hk0 : m.c k = none := by
    rw [Mu.set_ne hkb] at hk
    exact hk
  have hka : k ≠ a := fun e => by
    rw [e, ha] at hk0
    cases hk0
  refine ⟨rfl, _, Mu.set_same, ?_⟩
  have hb1 : (m.set k (.dT [])).c b = none := by
    rw [Mu.set_ne hkb.symm]
    exact hb
  rw [Mu.set_comm (m := m) hkb.symm, Mu.set_set, Mu.del_set hb1]
  have hc : (m.set k (.dT [])).c a = some (.ins CS []) := by
    rw [Mu.set_ne hka.symm]
    exact ha
  exact ⟨_, rfl, a, CS, _, rfl, hc, T.cSession, T.a_desk, (by decide), _, .refl, q k hka hk0⟩
end F_Session___init__
namespace F_Log_told
abbrev sDef : Stmt := inClass (top 43) 34
abbrev sN : List Str := ["self"]
abbrev sP : List Str := ["self"]
theorem sc : FnScope sN sP (defScope sDef) := ⟨rfl, rfl, rfl, by decide +kernel, rfl, by decide +kernel, by decide +kernel⟩
def S (CL : Addr) : SD := fun ds m Q => ∃ (L : LogD), ds = [logD CL L] ∧ Q (.tup [.lst (L.items.map D.str), .int L.grades, .lst (L.judges.map juD), .lst (L.events.map evD)])
theorem ok {P : Program} {w : World} {K : Fg} {mg : Str → Option Value} {base : Heap} {CL CD CS CU GS f : Addr} {fd : FuncData} (F : FnP K "told" "Log.told" sDef f fd) (T : Txt K mg CL CD CS CU GS)  : FnOk P w K mg base CX0 1 f fd sP (spP K (S CL)) := by
  refine okP F sc (fun ds m Qd h => ?_) fun cdv A outer s H E hr => ?_
  · obtain ⟨L, rfl, q⟩ := h
    rfl
  have hu := hu_of hr
  refine ⟨_, _, (pss_one (ps_ret (pe_tup (pa_cons (kFld (K := K) (by rfl) (pv 0) (by rfl)) (pa_cons (kFld (K := K) (by rfl) (pv 0) (by rfl)) (pa_cons (kFld (K := K) (by rfl) (pv 0) (by rfl)) (pa_cons (kFld (K := K) (by rfl) (pv 0) (by rfl)) pa_nil))))))), by walk_at "sim", ?h⟩
  intro ds m Qd hz h
  obtain ⟨L, rfl, q⟩ := h
  exact ⟨_, rfl, CL, _, _, .inl rfl, T.cLog, T.a_items, rfl, _, rfl, CL, _, _, .inl rfl, T.cLog, T.a_grades, rfl, _, rfl, CL, _, _, .inl rfl, T.cLog, T.a_judges, rfl, _, rfl, CL, _, _, .inl rfl, T.cLog, T.a_events, rfl, (by decide : 4 ≤ sizeLine), .refl, q⟩
end F_Log_told
namespace F_Log_same_as
abbrev sDef : Stmt := inClass (top 43) 35
abbrev sN : List Str := ["self", "other"]
abbrev sP : List Str := ["self", "other"]
theorem sc : FnScope sN sP (defScope sDef) := ⟨rfl, rfl, rfl, by decide +kernel, rfl, by decide +kernel, by decide +kernel⟩
def S (CL : Addr) : SD := fun ds m Q => ∃ (L : LogD), ds = [logD CL L, logD CL L] ∧ LogOk L ∧ Q (.bl true)
theorem ok {P : Program} {w : World} {K : Fg} {mg : Str → Option Value} {base : Heap} {CL CD CS CU GS f : Addr} {fd : FuncData} (F : FnP K "same_as" "Log.same_as" sDef f fd) (T : Txt K mg CL CD CS CU GS) (hLog_told : CalM P w K mg base CL 1 "told" ["self"] (spP K (F_Log_told.S CL))) : FnOk P w K mg base CX0 2 f fd sP (spP K (S CL)) := by
  refine okP F sc (fun ds m Qd h => ?_) fun cdv A outer s H E hr => ?_
  · obtain ⟨L, rfl, hn, q⟩ := h
    rfl
  have hu := hu_of hr
  refine ⟨_, _, (pss_one (ps_ret (pe_cmpR (kEqD (K := K) (by rfl) hr.units) (pe_calM0 hLog_told T.cLog hr (by decide) (pv 0)) (pe_calM0 hLog_told T.cLog hr (by decide) (pv 1)) (by rfl)))), by walk_at "sim", ?h⟩
  intro ds m Qd hz h
  obtain ⟨L, rfl, hn, q⟩ := h
  refine ⟨_, rfl, _, .inl rfl, rfl, hz, L, rfl, _, rfl, _, .inl rfl, rfl, hz, L, rfl, ?_⟩
  refine goEqD 3 (by decide) (sD_told hn) (sD_told hn) fun k e => ⟨.refl, ?_⟩
  rw [e.mpr rfl]
  exact q
end F_Log_same_as
namespace F_worse_in
abbrev sDef : Stmt := top 55
abbrev sN : List Str := ["log", "worse", "item"]
abbrev sP : List Str := ["log"]
theorem sc : FnScope sN sP (defScope sDef) := ⟨rfl, rfl, rfl, by decide +kernel, rfl, by decide +kernel, by decide +kernel⟩
open F_reached F_has_ring
def S (CL : Addr) : SX := fun ds m Q Er => ∃ (L : LogD), ds = [logD CL L] ∧ LogOk L ∧ ((∀ a ∈ L.items, L.up a a = false) → Q (tabD L.items fun a w => L.up w a)) ∧ ((∃ a ∈ L.items, L.up a a = true) → Er)
theorem ok {P : Program} {w : World} {K : Fg} {mg : Str → Option Value} {base : Heap} {CL CD CS CU GS f : Addr} {fd : FuncData} (F : FnP K "worse_in" "worse_in" sDef f fd) (T : Txt K mg CL CD CS CU GS) (U : TxU K mg CU) (hworse_than : Cal P w K mg base 10 "worse_than" ["log"] (spP K (F_worse_than.S CL))) : FnOk P w K mg base (L2.CX P w) 11 f fd sP (spX K CU (S CL)) := by
  refine okX F sc (fun ds m Qd Er h => ?_) fun cdv A outer s H E hr => ?_
  · obtain ⟨L, rfl, ok, q0, q1⟩ := h
    rfl
  have hu := hu_of hr
  refine ⟨_, _, (pss_cons (ps_set (i := 1) sc.nd rfl (Or.inr rfl) (pe_cal hworse_than hr (by decide) rfl (pa_cons (pv 0) pa_nil))) (pss_cons (ps_if (pt_val (pe_callB (kAny (K := K) (by rfl) (by rfl)) (by rfl) T.n_any (by decide +kernel) (pa_cons (pe_lock (pe_lc (own := [("item", 2)]) rfl sc.nd (pi_keys (pv 1)) (blkOk_by (N := sN) (sc := defScope sDef) (by decide +kernel)) (fun _ _ _ _ _ => (pg_name (i := 2) sc.nd rfl (by first | exact Or.inl rfl | exact Or.inr rfl))) (fun _ _ _ _ _ => pts_nil) (fun _ _ _ _ _ => (pe_cmpR (kMemS (K := K) (by rfl)) (pv 2) (pe_dget hu (pv 1) (pv 2) (fun _ _ => rfl)) (by rfl))))) pa_nil))) (pss_one (ps_raise rfl (takes_of rfl rfl rfl rfl) (pmk_own PySem.F.excBase_ValueError U.xU U.gU U.kU (raises_own U.bU U.tU) rfl))) pss_nil) (pss_one (ps_ret (pv 1))))), by walk_at "sim", ?h⟩
  intro ds m Qd Er hz h
  obtain ⟨L, rfl, ok, q0, q1⟩ := h
  have i5 := ok.it.max
  refine ⟨_, rfl, hz, L, rfl, ok, ?_⟩
  refine ⟨hz, _, rfl, fun a => ?_⟩
  rw [key_map]
  refine lcM D.str L.items (fun a => .bl (L.up a a)) trivial (sz (by omega)) (fun y hy Ny Nn k => ?_) ?_
  · have g := getD_map (f := kS) (v := fun z => D.lst ((L.items.filter fun w => L.up w z).map D.str)) kS_inj hy
    refine ⟨_, rfl, _, rfl, _, rfl, _, .inl ⟨_, kS y, .inl rfl, rfl, g.symm⟩, y, L.items.filter fun w => L.up w y, rfl, .inl (.inl rfl), ?_⟩
    have r := row_mem (f := fun w => L.up w y) hy
    exact r ▸ k
  · refine ⟨rfl, _, L.items.map fun a => L.up a a, rfl, .inl (by rw [List.map_map]; rfl), _, rfl, ?_⟩
    rw [any_bl]
    refine iteB (fun h => ⟨⟨fun _ _ e => e, hz.symm⟩, q1 ?ring⟩) fun h => ⟨_, rfl, ⟨fun _ _ e => e, hz.symm⟩, q0 fun a ha => ?no⟩
    case ring =>
      obtain ⟨a, ha, e⟩ := List.any_eq_true.mp h
      exact ⟨a, ha, e⟩
    case no =>
      cases e : L.up a a with
      | false => rfl
      | true =>
        have : (L.items.any fun a => L.up a a) = true := List.any_eq_true.mpr ⟨a, ha, e⟩
        rw [this] at h
        cases h
end F_worse_in
namespace F_sure_pairs
abbrev sDef : Stmt := top 56
abbrev sN : List Str := ["log", "worse", "one", "other"]
abbrev sP : List Str := ["log"]
theorem sc : FnScope sN sP (defScope sDef) := ⟨rfl, rfl, rfl, by decide +kernel, rfl, by decide +kernel, by decide +kernel⟩
open F_reached F_pairs_of
def S (CL : Addr) : SX := fun ds m Q Er => ∃ (L : LogD), ds = [logD CL L] ∧ LogOk L ∧ ((∀ a ∈ L.items, L.up a a = false) → Q (.lst ((prs L.items L.up).map ssD))) ∧ ((∃ a ∈ L.items, L.up a a = true) → Er)
theorem ok {P : Program} {w : World} {K : Fg} {mg : Str → Option Value} {base : Heap} {CL CD CS CU GS f : Addr} {fd : FuncData} (F : FnP K "sure_pairs" "sure_pairs" sDef f fd) (T : Txt K mg CL CD CS CU GS) (U : TxU K mg CU) (hworse_in : CalX P w K mg base 11 "worse_in" ["log"] (spX K CU (F_worse_in.S CL))) (hLog_item_names : CalP P w K mg base CL 1 "item_names" (spP K (F_Log_item_names.S CL))) : FnOk P w K mg base (L2.CX P w) 12 f fd sP (spX K CU (S CL)) := by
  refine okX F sc (fun ds m Qd Er h => ?_) fun cdv A outer s H E hr => ?_
  · obtain ⟨L, rfl, ok, q0, q1⟩ := h
    rfl
  have hu := hu_of hr
  refine ⟨_, _, (pss_cons (ps_set (i := 1) sc.nd rfl (Or.inr rfl) (pe_calX hworse_in hr (by decide) rfl (takes_of rfl rfl rfl rfl) (pa_cons (pv 0) pa_nil))) (pss_one (ps_ret (pe_lc2 (own := [("one", 2), ("other", 3)]) (vs1 := [3]) rfl sc.nd (kList (K := K) (by rfl) (pe_calP hLog_item_names T.cLog hr (by decide) (pv 0))) (blkOk_by (N := sN) (sc := defScope sDef) (by decide +kernel)) (by decide) (fun _ _ _ _ _ => (pg_name (i := 2) sc.nd rfl (by first | exact Or.inl rfl | exact Or.inr rfl))) (fun _ _ _ _ _ => pts_nil) (fun _ _ _ _ _ => (kList (K := K) (by rfl) (pe_calP hLog_item_names T.cLog hr (by decide) (pv 0)))) (fun _ _ _ _ _ => (pg_name (i := 3) sc.nd rfl (by first | exact Or.inl rfl | exact Or.inr rfl))) (fun _ _ _ _ _ => pts_one (pt_cmpR (kMemS (K := K) (by rfl)) (pv 2) (pe_dget hu (pv 1) (pv 3) (fun _ _ => rfl)) (by rfl))) (fun _ _ _ _ _ => (pe_tup (pa_cons (pv 2) (pa_cons (pv 3) pa_nil)))))))), by walk_at "sim", ?h⟩
  intro ds m Qd Er hz h
  obtain ⟨L, rfl, ok, q0, q1⟩ := h
  have i5 := ok.it.max
  rw [prs_map] at q0
  refine ⟨_, rfl, hz, L, rfl, ok, fun nr => ?_, fun hr => ⟨.refl, q1 hr⟩⟩
  refine ⟨_, rfl, _, .inl rfl, hz, L, rfl, _, .inl rfl, lc2FM D.str L.items (fun _ => D.str) (fun _ => L.items) L.up (fun a b => ssD (a, b)) (.inl rfl) (sz (Nat.le_trans (fm_len i5 fun _ _ => i5) (by decide))) (fun a ha N Nn k => ?_) ⟨.refl, q0 nr⟩⟩
  refine ⟨_, rfl, _, .inl rfl, hz, L, rfl, _, .inl rfl, k _ _ (.inl rfl) fun b hb Ny Nz k1 k2 => ?_⟩
  have g := getD_map (f := kS) (v := fun z => D.lst ((L.items.filter fun w => L.up w z).map D.str)) kS_inj hb
  refine ⟨_, rfl, _, rfl, _, rfl, _, .inl ⟨_, kS b, .inl rfl, rfl, g.symm⟩, a, L.items.filter fun w => L.up w b, rfl, .inl (.inl rfl), _, rfl, ?_⟩
  have r := row_mem (f := fun w => L.up w b) ha
  exact iteB (fun h => ⟨_, rfl, _, rfl, (by decide : 2 ≤ sizeLine), k1 (r ▸ h)⟩) fun h => k2 (r ▸ h)
end F_sure_pairs
namespace F_found_answer
abbrev sDef : Stmt := top 83
abbrev sN : List Str := ["log", "question"]
abbrev sP : List Str := ["log", "question"]
theorem sc : FnScope sN sP (defScope sDef) := ⟨rfl, rfl, rfl, by decide +kernel, rfl, by decide +kernel, by decide +kernel⟩
open F_pairs_of
def S (CL : Addr) : SD := fun ds m Q => ∃ (L : LogD) (x : Str), ds = [logD CL L, .str x] ∧ LogOk L ∧ ((x = Str.ofString "ring" ∧ (¬ L.Ring → Q .non) ∧ (L.Ring → ∀ way : List (Nat × Nat), way.length ≤ 4000 → Q (.lst (way.map prD)))) ∨
  (x = Str.ofString "pairs" ∧ ((∀ a ∈ L.items, L.up a a = false) → Q (.lst ((prs L.items L.up).map ssD))) ∧ ((∃ a ∈ L.items, L.up a a = true) → Q .non)))
theorem ok {P : Program} {w : World} {K : Fg} {mg : Str → Option Value} {base : Heap} {CL CD CS CU GS f : Addr} {fd : FuncData} (F : FnP K "found_answer" "found_answer" sDef f fd) (T : Txt K mg CL CD CS CU GS) (U : TxU K mg CU) (hring_of : Cal P w K mg base 9 "ring_of" ["log"] (spP K (F_ring_of.S CL))) (hsure_pairs : CalX P w K mg base 12 "sure_pairs" ["log"] (spX K CU (F_sure_pairs.S CL))) : FnOk P w K mg base CX0 13 f fd sP (spP K (S CL)) := by
  refine okP F sc (fun ds m Qd h => ?_) fun cdv A outer s H E hr => ?_
  · obtain ⟨L, x, rfl, ok, h⟩ := h
    rfl
  have hu := hu_of hr
  refine ⟨_, _, (pss_cons (ps_if (pt_cmpR op_eq (pv 1) pe_str (by rfl)) (pss_one (ps_ret (pe_cal hring_of hr (by decide) rfl (pa_cons (pv 0) pa_nil)))) pss_nil) (pss_cons (ps_if (pt_cmpR op_eq (pv 1) pe_str (by rfl)) (pss_one ps_never) pss_nil) (pss_one (ps_tryN (tb := fun W => tRet (tIf (tTest (tOp rEq (tVar 1) (tC (.str "pairs")))) (tCallS (spX K CU (F_sure_pairs.S CL)) (WE W) (tCons (tVar 0) tNil)) tNev)) rfl rfl ⟨rfl, by decide, .inl U.gU⟩ (fun W pn xe tk _ => (pss_one (ps_ret (pe_ifExp (pt_cmpR op_eq (pv 1) pe_str (by rfl)) (pe_calX hsure_pairs hr (by decide) rfl tk (pa_cons (pv 0) pa_nil)) pe_nev)))) (fun a oe pn => (pss_one (ps_ret pe_non))))))), sim_seq (by walk_at "sim") (sim_seq (by walk_at "sim") (sim_mTryN (ub := dRetIfX (dTest (dOp dEq (dVar 1) (dC (.str "pairs")))) (F_sure_pairs.S CL) (dCons (dVar 0) dNil) dNev) U.eU fun W Wy hW => sim_retIfX hW (by walk_at "sim") (by walk_at "sim") sim_nev)), ?h⟩
  intro ds m Qd hz h
  obtain ⟨L, x, rfl, ok, h⟩ := h
  rcases h with ⟨rfl, q0, q1⟩ | ⟨rfl, q0, q1⟩
  · exact ⟨_, rfl, true, rfl, _, rfl, _, rfl, hz, L, rfl, ok, fun nr => ⟨.refl, q0 nr⟩, fun r way hw hl => ⟨.refl, q1 r way hl⟩⟩
  · exact ⟨_, rfl, false, rfl, _, rfl, _, rfl, false, rfl, _, rfl, _, rfl, true, rfl, _, rfl, _, rfl, hz, L, rfl, ok, fun nr => ⟨.refl, q0 nr⟩, fun hr => ⟨.refl, q1 hr⟩⟩
end F_found_answer
namespace F_copied
abbrev sDef : Stmt := top 84
abbrev sN : List Str := ["answer", "judge"]
abbrev sP : List Str := ["answer"]
theorem sc : FnScope sN sP (defScope sDef) := ⟨rfl, rfl, rfl, by decide +kernel, rfl, by decide +kernel, by decide +kernel⟩
def S : SD := fun ds m Q => ∃ (d : D), ds = [d] ∧ ((d = .non ∧ Q .non) ∨ ∃ xs, d = .lst xs ∧ Q (.lst xs))
theorem ok {P : Program} {w : World} {K : Fg} {mg : Str → Option Value} {base : Heap} {CL CD CS CU GS f : Addr} {fd : FuncData} (F : FnP K "copied" "copied" sDef f fd) (T : Txt K mg CL CD CS CU GS)  : FnOk P w K mg base CX0 1 f fd sP (spP K (S)) := by
  refine okP F sc (fun ds m Qd h => ?_) fun cdv A outer s H E hr => ?_
  · obtain ⟨d, rfl, h⟩ := h
    rfl
  have hu := hu_of hr
  refine ⟨_, _, (pss_cons (ps_if (pt_val (pe_callB (kIsi (K := K) (by rfl)) (by rfl) T.n_isinstance (by decide +kernel) (pa_cons (pv 0) (pa_cons (pe_bltn (v := .ty "dict") (by rfl) T.n_dict (by decide +kernel) rfl) pa_nil)))) (pss_one ps_never) pss_nil) (pss_one (ps_ret (pe_ifExp (pt_val (pe_callB (kIsi (K := K) (by rfl)) (by rfl) T.n_isinstance (by decide +kernel) (pa_cons (pv 0) (pa_cons (pe_bltn (v := .ty "list") (by rfl) T.n_list (by decide +kernel) rfl) pa_nil)))) (pe_callTy (kListOf (K := K) (by rfl)) (by rfl) T.n_list (by decide +kernel) (pa_cons (pv 0) pa_nil)) (pv 0))))), by walk_at "sim", ?h⟩
  intro ds m Qd hz h
  obtain ⟨d, rfl, h⟩ := h
  rcases h with ⟨rfl, q⟩ | ⟨xs, rfl, q⟩
  · exact ⟨_, rfl, _, "dict", "NoneType", rfl, rfl, (fun K => by rfl), _, rfl, _, rfl, _, "list", "NoneType", rfl, rfl, (fun K => by rfl), _, rfl, _, rfl, .refl, q⟩
  · exact ⟨_, rfl, _, "dict", "list", rfl, rfl, (fun K => by rfl), _, rfl, _, rfl, _, "list", "list", rfl, rfl, (fun K => by rfl), _, rfl, _, rfl, _, _, rfl, .inl (.inl rfl), .refl, q⟩
end F_copied
namespace F_Desk_answer
abbrev sDef : Stmt := inClass (top 85) 10
abbrev sN : List Str := ["self", "question", "texts"]
abbrev sP : List Str := ["self", "question"]
theorem sc : FnScope sN sP (defScope sDef) := ⟨rfl, rfl, rfl, by decide +kernel, rfl, by decide +kernel, by decide +kernel⟩
open F_pairs_of F_Desk___init__
def S (CL CD : Addr) : SM := fun ds m Q => ∃ (L : LogD) (k : Addr) (kds : List (List Key × D)) (x : Str), ds = [.ins CD (dkF CL L k), .str x] ∧ LogOk L ∧ m.c k = some (.dT kds) ∧ getD kds [kS x, kS (fmtL L)] = none ∧ kds.length ≤ 10 ∧
  ((x = Str.ofString "ring" ∧ (¬ L.Ring → Q .non (m.set k (.dT (kds ++ [([kS x, kS (fmtL L)], .non)])))) ∧ (L.Ring → ∀ way : List (Nat × Nat), Q (.lst (way.map prD)) (m.set k (.dT (kds ++ [([kS x, kS (fmtL L)], .lst (way.map prD))]))))) ∨
  (x = Str.ofString "pairs" ∧ ((∀ a ∈ L.items, L.up a a = false) → Q (.lst ((prs L.items L.up).map ssD)) (m.set k (.dT (kds ++ [([kS x, kS (fmtL L)], .lst ((prs L.items L.up).map ssD))])))) ∧ ((∃ a ∈ L.items, L.up a a = true) → Q .non (m.set k (.dT (kds ++ [([kS x, kS (fmtL L)], .non)]))))))
theorem ok {P : Program} {w : World} {K : Fg} {mg : Str → Option Value} {base : Heap} {CL CD CS CU GS f : Addr} {fd : FuncData} (F : FnP K "answer" "Desk.answer" sDef f fd) (T : Txt K mg CL CD CS CU GS) (hformat_log : Cal P w K mg base 3 "format_log" ["log"] (spP K (F_format_log.S CL))) (hfound_answer : Cal P w K mg base 13 "found_answer" ["log", "question"] (spP K (F_found_answer.S CL))) (hcopied : Cal P w K mg base 1 "copied" ["answer"] (spP K (F_copied.S))) : FnOk P w K mg base CX0 14 f fd sP (spM K (S CL CD)) := by
  refine okM F sc (fun ds m Qd h => ?_) fun cdv A outer s H E hr => ?_
  · obtain ⟨L, k, kds, x, rfl, ok, hk, hg, hn, h⟩ := h
    rfl
  have hu := hu_of hr
  refine ⟨_, _, (pss_cons (ps_set (i := 2) sc.nd rfl (Or.inl rfl) (pe_tup (pa_cons (pv 1) (pa_cons (pe_cal hformat_log hr (by decide) rfl (pa_cons (kFld (K := K) (by rfl) (pv 0) (by rfl)) pa_nil)) pa_nil)))) (pss_cons (ps_if (pt_cmp (pc_dnotin hu (pv 2) (kFld (K := K) (by rfl) (pv 0) (by rfl))) rfl) (pss_one (ps_dput hu (kFld (K := K) (by rfl) (pv 0) (by rfl)) (pv 2) (pe_cal hfound_answer hr (by decide) rfl (pa_cons (kFld (K := K) (by rfl) (pv 0) (by rfl)) (pa_cons (pv 1) pa_nil))) rfl)) pss_nil) (pss_one (ps_ret (pe_cal hcopied hr (by decide) rfl (pa_cons (pe_dget hu (kFld (K := K) (by rfl) (pv 0) (by rfl)) (pv 2) (fun _ _ => rfl)) pa_nil)))))), by walk_at "sim", ?h⟩
  intro ds m Qd hz h
  obtain ⟨L, k, kds, x, rfl, ok, hk, hg, hn, h⟩ := h
  have go : ∀ d, (d = .non ∨ ∃ xs, d = .lst xs) → Qd d (m.set k (.dT (kds ++ [([kS x, kS (fmtL L)], d)]))) → dDPut (dFld K (dVar 0) (Str.ofString "known")) (dVar 2) (dC d)
      { nx := dRet (dCall F_copied.S (dCons (dDGet (dFld K (dVar 0) (Str.ofString "known")) (dVar 2)) dNil)) { nx := fun x m' => ∃ m2, L3.Sub m2 m' ∧ Qd D.non m2, rt := fun d m' => ∃ m2, L3.Sub m2 m' ∧ Qd d m2 }, rt := fun d m' => ∃ m2, L3.Sub m2 m' ∧ Qd d m2 }
      [some (.ins CD (dkF CL L k)), some (.str x), some (.tup [.str x, .str (fmtL L)])] m := fun d hd q => by
    refine ⟨_, rfl, CD, _, _, .inl rfl, T.cDesk, T.a_known, rfl, _, rfl, k, rfl, .inr ⟨kds, [kS x, kS (fmtL L)], hk, rfl, Nat.lt_of_le_of_lt hn (by decide), ?_⟩⟩
    rw [setD_new hg]
    have g2 : getD (kds ++ [([kS x, kS (fmtL L)], d)]) [kS x, kS (fmtL L)] = some d := by
      rw [← setD_new hg, getD_setD, if_pos rfl]
    refine ⟨_, rfl, CD, _, _, .inl rfl, T.cDesk, T.a_known, rfl, _, rfl, d, .inr ⟨_, [kS x, kS (fmtL L)], .inr ⟨k, rfl, Mu.set_same⟩, rfl, g2.symm⟩, hz, d, rfl, ?_⟩
    rcases hd with rfl | ⟨xs, rfl⟩
    · exact .inl ⟨rfl, _, .refl, q⟩
    · exact .inr ⟨xs, rfl, _, .refl, q⟩
  refine ⟨_, rfl, _, rfl, CD, _, _, .inl rfl, T.cDesk, T.a_state, rfl, hz, L, rfl, ok, (by decide : 2 ≤ sizeLine), ?_⟩
  refine ⟨_, rfl, _, rfl, CD, _, _, .inl rfl, T.cDesk, T.a_known, rfl, _, .inr ⟨kds, [kS x, kS (fmtL L)], .inr ⟨k, rfl, hk⟩, rfl, rfl⟩, _, rfl, ?_⟩
  rw [hg]
  refine ⟨_, rfl, CD, _, _, .inl rfl, T.cDesk, T.a_state, rfl, _, rfl, hz, L, x, rfl, ok, ?_⟩
  rcases h with ⟨rfl, q0, q1⟩ | ⟨rfl, q0, q1⟩
  · exact .inl ⟨rfl, fun nr => go .non (.inl rfl) (q0 nr), fun r way _ => go _ (.inr ⟨_, rfl⟩) (q1 r way)⟩
  · exact .inr ⟨rfl, fun nr => go _ (.inr ⟨_, rfl⟩) (q0 nr), fun hr => go .non (.inl rfl) (q1 hr)⟩
end F_Desk_answer
namespace F_deed_of
abbrev sDef : Stmt := top 91
abbrev sN : List Str := ["line", "event", "words"]
abbrev sP : List Str := ["line"]
theorem sc : FnScope sN sP (defScope sDef) := ⟨rfl, rfl, rfl, by decide +kernel, rfl, by decide +kernel, by decide +kernel⟩
def Word (x : Str) : Prop := x = Str.ofString "pairs" ∨ x = Str.ofString "ring"
theorem word_split {x : Str} (hx : Word x) : Txt.split x (Str.ofString " ") = [x] := by
  have := split_sp (ws := [x]) (by simp) (fun y hy => by rw [List.mem_singleton.mp hy]; rcases hx with rfl | rfl <;> decide +kernel)
  exact this
theorem word_len {x : Str} (hx : Word x) : x.length ≤ 10 := by rcases hx with rfl | rfl <;> decide +kernel
def S : SD := fun ds m Q => ∃ (x : Str), ds = [.str x] ∧ Word x ∧ Q .non
theorem ok {P : Program} {w : World} {K : Fg} {mg : Str → Option Value} {base : Heap} {CL CD CS CU GS f : Addr} {fd : FuncData} (F : FnP K "deed_of" "deed_of" sDef f fd) (T : Txt K mg CL CD CS CU GS) (hread_event : Cal P w K mg base 2 "read_event" ["line"] (spP K (F_read_event.S))) : FnOk P w K mg base CX0 3 f fd sP (spP K (S)) := by
  refine okP F sc (fun ds m Qd h => ?_) fun cdv A outer s H E hr => ?_
  · obtain ⟨x, rfl, hx, q⟩ := h
    rfl
  have hu := hu_of hr
  refine ⟨_, _, (pss_cons (ps_set (i := 1) sc.nd rfl (Or.inl rfl) (pe_cal hread_event hr (by decide) rfl (pa_cons (pv 0) pa_nil))) (pss_cons (ps_if (pt_cmpR op_notN (pv 1) pe_non (by rfl)) (pss_one ps_never) pss_nil) (pss_cons (ps_set (i := 2) sc.nd rfl (Or.inl rfl) (pe_split (pv 0) pe_str)) (pss_cons (ps_if (PW.pt (pw_and (pt_cmpR op_eq (pe_callB (kLen (K := K) (by rfl)) (by rfl) T.n_len PySem.boot_len (pa_cons (pv 2) pa_nil)) pe_int (by rfl)) (pw_and (pt_cmpR op_eq (pe_ix (kIx (K := K) (by rfl)) (pv 2) pe_int (fun _ _ => rfl)) pe_str (by rfl)) (pw_and1 (pt_cmpR op_notN pe_nev pe_non (by rfl)))))) (pss_one ps_never) pss_nil) (pss_cons (ps_if (PW.pt (pw_or (PW.pt (pw_and (pt_cmpR op_eq (pe_callB (kLen (K := K) (by rfl)) (by rfl) T.n_len PySem.boot_len (pa_cons (pv 2) pa_nil)) pe_int (by rfl)) (pw_and1 (pt_cmpR op_eq (pe_ix (kIx (K := K) (by rfl)) (pv 2) pe_int (fun _ _ => rfl)) pe_str (by rfl))))) (pw_or1 (PW.pt (pw_and (pt_cmpR op_eq (pe_callB (kLen (K := K) (by rfl)) (by rfl) T.n_len PySem.boot_len (pa_cons (pv 2) pa_nil)) pe_int (by rfl)) (pw_and1 (pt_cmpR (kMemS (K := K) (by rfl)) (pe_ix (kIx (K := K) (by rfl)) (pv 2) pe_int (fun _ _ => rfl)) (pe_lst (pa_cons pe_str (pa_cons pe_str pa_nil))) (by rfl)))))))) (pss_one ps_never) pss_nil) (pss_one (ps_ret pe_non))))))), by walk_at "sim", ?h⟩
  intro ds m Qd hz h
  obtain ⟨x, rfl, hx, q⟩ := h
  have hl := word_len hx
  refine ⟨_, rfl, hz, x, _, rfl, .inr ⟨hx, rfl⟩, _, rfl, rfl, _, rfl, ?_⟩
  refine ⟨_, rfl, ⟨_, rfl⟩, _, _, rfl, rfl, by decide +kernel, sz (by omega), ?_⟩
  rw [word_split hx]
  refine ⟨_, rfl, _, _, rfl, .inl ⟨_, .inl (.inl rfl), rfl⟩, false, rfl, _, rfl, ?_⟩
  refine ⟨_, rfl, _, _, rfl, .inl ⟨_, .inl (.inl rfl), rfl⟩, false, rfl, _, rfl, ?_⟩
  exact ⟨_, rfl, _, _, rfl, .inl ⟨_, .inl (.inl rfl), rfl⟩, false, rfl, _, rfl, .refl, q⟩
end F_deed_of
namespace F_Session_told
abbrev sDef : Stmt := inClass (top 92) 7
abbrev sN : List Str := ["self", "word", "desk", "ring", "pairs", "one", "other"]
abbrev sP : List Str := ["self", "word"]
theorem sc : FnScope sN sP (defScope sDef) := ⟨rfl, rfl, rfl, by decide +kernel, rfl, by decide +kernel, by decide +kernel⟩
open F_Session___init__ F_Desk___init__
def S (CL CD CS : Addr) : SM := fun ds m Q => ∃ (L : LogD) (k : Addr) (x : Str), ds = [.ins CS (seF CL CD L k), .str x] ∧ LogOk L ∧ m.c k = some (.dT []) ∧ ((x = Str.ofString "ring" ∧ ¬ L.Ring ∧ ∀ o, Q (.str "none") (m.set k o)) ∨ (x = Str.ofString "pairs" ∧ (∃ a ∈ L.items, L.up a a = true) ∧ ∀ o, Q (.str "contradiction") (m.set k o)))
theorem ok {P : Program} {w : World} {K : Fg} {mg : Str → Option Value} {base : Heap} {CL CD CS CU GS f : Addr} {fd : FuncData} (F : FnP K "told" "Session.told" sDef f fd) (T : Txt K mg CL CD CS CU GS) (hDesk_answer : CalM P w K mg base CD 14 "answer" ["self", "question"] (spM K (F_Desk_answer.S CL CD))) : FnOk P w K mg base CX0 15 f fd sP (spM K (S CL CD CS)) := by
  refine okM F sc (fun ds m Qd h => ?_) fun cdv A outer s H E hr => ?_
  · obtain ⟨L, k, x, rfl, ok, hk, h⟩ := h
    rfl
  have hu := hu_of hr
  refine ⟨_, _, (pss_cons (ps_set (i := 2) sc.nd rfl (Or.inl rfl) (kFld (K := K) (by rfl) (pv 0) (by rfl))) (pss_cons (ps_if (pt_cmpR op_eq (pv 1) pe_str (by rfl)) (pss_cons ps_never (pss_one (ps_ret pe_str))) pss_nil) (pss_cons (ps_if (pt_cmpR op_eq (pv 1) pe_str (by rfl)) (pss_cons ps_never (pss_one (ps_ret pe_str))) pss_nil) (pss_cons (ps_if (pt_cmpR op_eq (pv 1) pe_str (by rfl)) (pss_cons (ps_set (i := 3) sc.nd rfl (Or.inl rfl) (pe_calM hDesk_answer T.cDesk hr (by decide) (pv 2) (pa_cons pe_str pa_nil))) (pss_one (ps_ret (pe_ifExp (pt_cmpR op_isN (pv 3) pe_non (by rfl)) pe_str pe_nev)))) pss_nil) (pss_cons (ps_if (pt_cmpR op_eq (pv 1) pe_str (by rfl)) (pss_cons (ps_set (i := 4) sc.nd rfl (Or.inl rfl) (pe_calM hDesk_answer T.cDesk hr (by decide) (pv 2) (pa_cons pe_str pa_nil))) (pss_cons (ps_if (pt_cmpR op_isN (pv 4) pe_non (by rfl)) (pss_one (ps_ret pe_str)) pss_nil) (pss_one ps_never))) pss_nil) (pss_cons (ps_if (pt_cmpR op_eq (pv 1) pe_str (by rfl)) (pss_one ps_never) pss_nil) (pss_one (ps_ret pe_non)))))))), by walk_at "sim", ?h⟩
  intro ds m Qd hz h
  obtain ⟨L, k, x, rfl, ok, hk, h⟩ := h
  have hg : ∀ z : List Key, getD ([] : List (List Key × D)) z = none := fun _ => rfl
  refine ⟨_, rfl, CS, _, _, .inl rfl, T.cSession, T.a_desk, rfl, ?_⟩
  rcases h with ⟨rfl, nr, q⟩ | ⟨rfl, hr, q⟩
  · refine ⟨_, rfl, false, rfl, _, rfl, _, rfl, false, rfl, _, rfl, _, rfl, true, rfl, _, rfl, ?_⟩
    refine ⟨_, rfl, _, .inl rfl, rfl, hz, L, k, [], _, rfl, ok, hk, hg _, by decide, .inl ⟨rfl, fun _ => ?_, fun r => absurd r nr⟩⟩
    exact ⟨_, rfl, rfl, _, rfl, _, .refl, q _⟩
  · refine ⟨_, rfl, false, rfl, _, rfl, _, rfl, false, rfl, _, rfl, _, rfl, false, rfl, _, rfl, _, rfl, true, rfl, _, rfl, ?_⟩
    refine ⟨_, rfl, _, .inl rfl, rfl, hz, L, k, [], _, rfl, ok, hk, hg _, by decide, .inr ⟨rfl, fun nr => ?_, fun _ => ?_⟩⟩
    · obtain ⟨a, ha, e⟩ := hr
      rw [nr a ha] at e
      cases e
    · exact ⟨_, rfl, rfl, _, rfl, _, .refl, q _⟩
end F_Session_told
namespace F_Session_obeyed
abbrev sDef : Stmt := inClass (top 92) 3
abbrev sN : List Str := ["self", "line", "deed", "words"]
abbrev sP : List Str := ["self", "line"]
theorem sc : FnScope sN sP (defScope sDef) := ⟨rfl, rfl, rfl, by decide +kernel, rfl, by decide +kernel, by decide +kernel⟩
open F_Session___init__ F_deed_of
def S (CL CD CS : Addr) : SM := fun ds m Q => ∃ (L : LogD) (k : Addr) (x : Str), ds = [.ins CS (seF CL CD L k), .str x] ∧ LogOk L ∧ m.c k = some (.dT []) ∧ ((x = Str.ofString "ring" ∧ ¬ L.Ring ∧ ∀ o, Q (.str "none") (m.set k o)) ∨ (x = Str.ofString "pairs" ∧ (∃ a ∈ L.items, L.up a a = true) ∧ ∀ o, Q (.str "contradiction") (m.set k o)))
theorem ok {P : Program} {w : World} {K : Fg} {mg : Str → Option Value} {base : Heap} {CL CD CS CU GS f : Addr} {fd : FuncData} (F : FnP K "obeyed" "Session.obeyed" sDef f fd) (T : Txt K mg CL CD CS CU GS) (hdeed_of : Cal P w K mg base 3 "deed_of" ["line"] (spP K (F_deed_of.S))) (hSession_told : CalM P w K mg base CS 15 "told" ["self", "word"] (spM K (F_Session_told.S CL CD CS))) : FnOk P w K mg base CX0 16 f fd sP (spM K (S CL CD CS)) := by
  refine okM F sc (fun ds m Qd h => ?_) fun cdv A outer s H E hr => ?_
  · obtain ⟨L, k, x, rfl, ok, hk, h⟩ := h
    rfl
  have hu := hu_of hr
  refine ⟨_, _, (pss_cons (ps_set (i := 2) sc.nd rfl (Or.inl rfl) (pe_cal hdeed_of hr (by decide) rfl (pa_cons (pv 1) pa_nil))) (pss_cons (ps_set (i := 3) sc.nd rfl (Or.inl rfl) (pe_split (pv 1) pe_str)) (pss_cons (ps_if (pt_cmpR op_notN (pv 2) pe_non (by rfl)) (pss_cons ps_never (pss_one (ps_ret pe_str))) pss_nil) (pss_cons (ps_if (pt_cmpR op_eq (pe_callB (kLen (K := K) (by rfl)) (by rfl) T.n_len PySem.boot_len (pa_cons (pv 3) pa_nil)) pe_int (by rfl)) (pss_one (ps_ret (pe_calM hSession_told T.cSession hr (by decide) (pv 0) (pa_cons (pe_ix (kIx (K := K) (by rfl)) (pv 3) pe_int (fun _ _ => rfl)) pa_nil)))) pss_nil) (pss_cons (ps_if (PW.pt (pw_and (pt_cmpR op_eq (pe_callB (kLen (K := K) (by rfl)) (by rfl) T.n_len PySem.boot_len (pa_cons (pv 3) pa_nil)) pe_int (by rfl)) (pw_and1 (pt_cmpR op_eq (pe_ix (kIx (K := K) (by rfl)) (pv 3) pe_int (fun _ _ => rfl)) pe_str (by rfl))))) (pss_one ps_never) pss_nil) (pss_cons (ps_if (PW.pt (pw_and (pt_cmpR op_eq (pe_callB (kLen (K := K) (by rfl)) (by rfl) T.n_len PySem.boot_len (pa_cons (pv 3) pa_nil)) pe_int (by rfl)) (pw_and1 (pt_cmpR op_eq (pe_ix (kIx (K := K) (by rfl)) (pv 3) pe_int (fun _ _ => rfl)) pe_str (by rfl))))) (pss_one ps_never) pss_nil) (pss_one (ps_ret pe_non)))))))), by walk_at "sim", ?h⟩
  intro ds m Qd hz h
  obtain ⟨L, k, x, rfl, ok, hk, h⟩ := h
  have hx : Word x := by
    rcases h with ⟨rfl, _⟩ | ⟨rfl, _⟩
    · exact .inr rfl
    · exact .inl rfl
  have hl := word_len hx
  refine ⟨_, rfl, hz, x, rfl, hx, ?_⟩
  refine ⟨_, rfl, ⟨_, rfl⟩, _, _, rfl, rfl, by decide +kernel, sz (by omega), ?_⟩
  rw [word_split hx]
  refine ⟨_, rfl, rfl, _, rfl, ?_⟩
  refine ⟨_, rfl, _, _, rfl, .inl ⟨_, .inl (.inl rfl), rfl⟩, true, rfl, _, rfl, ?_⟩
  refine ⟨_, rfl, _, .inl rfl, rfl, _, rfl, _, _, _, .inl (.inl rfl), rfl, rfl, hz, L, k, x, rfl, ok, hk, ?_⟩
  rcases h with ⟨e, nr, q⟩ | ⟨e, hr, q⟩
  · exact .inl ⟨e, nr, fun o => ⟨_, .refl, q o⟩⟩
  · exact .inr ⟨e, hr, fun o => ⟨_, .refl, q o⟩⟩
end F_Session_obeyed
namespace F_Session_obey
abbrev sDef : Stmt := inClass (top 92) 1
abbrev sN : List Str := ["self", "line", "reply", "error"]
abbrev sP : List Str := ["self", "line"]
theorem sc : FnScope sN sP (defScope sDef) := ⟨rfl, rfl, rfl, by decide +kernel, rfl, by decide +kernel, by decide +kernel⟩
open F_Session___init__ F_deed_of
def S (CL CD CS : Addr) : SM := fun ds m Q => ∃ (L : LogD) (k : Addr) (x : Str), ds = [.ins CS (seF CL CD L k), .str x] ∧ LogOk L ∧ m.c k = some (.dT []) ∧ ((x = Str.ofString "ring" ∧ ¬ L.Ring ∧ ∀ o, Q (.str "none") (m.set k o)) ∨ (x = Str.ofString "pairs" ∧ (∃ a ∈ L.items, L.up a a = true) ∧ ∀ o, Q (.str "contradiction") (m.set k o)))
theorem ok {P : Program} {w : World} {K : Fg} {mg : Str → Option Value} {base : Heap} {CL CD CS CU GS f : Addr} {fd : FuncData} (F : FnP K "obey" "Session.obey" sDef f fd) (T : Txt K mg CL CD CS CU GS) (hSession_obeyed : CalM P w K mg base CS 16 "obeyed" ["self", "line"] (spM K (F_Session_obeyed.S CL CD CS))) : FnOk P w K mg base CX0 17 f fd sP (spM K (S CL CD CS)) := by
  refine okM F sc (fun ds m Qd h => ?_) fun cdv A outer s H E hr => ?_
  · obtain ⟨L, k, x, rfl, ok, hk, h⟩ := h
    rfl
  have hu := hu_of hr
  refine ⟨_, _, (pss_cons (ps_try_thru0 (pss_cons (ps_set (i := 2) sc.nd rfl (Or.inl rfl) pe_non) (pss_one (ps_if (pt_cmpR (kNmemS (K := K) (by rfl)) pe_str (pe_split (pv 1) pe_str) (by rfl)) (pss_one (ps_set (i := 2) sc.nd rfl (Or.inl rfl) (pe_calM hSession_obeyed T.cSession hr (by decide) (pv 0) (pa_cons (pv 1) pa_nil)))) pss_nil)))) (pss_cons (ps_if (pt_cmpR op_isN (pv 2) pe_non (by rfl)) (pss_one (ps_ret pe_str)) pss_nil) (pss_one (ps_ret (pv 2))))), by walk_at "sim", ?h⟩
  intro ds m Qd hz h
  obtain ⟨L, k, x, rfl, ok, hk, h⟩ := h
  have hx : Word x := by
    rcases h with ⟨rfl, _⟩ | ⟨rfl, _⟩
    · exact .inr rfl
    · exact .inl rfl
  have hl := word_len hx
  have no : decide (Str.ofString "" ∈ Txt.split x (Str.ofString " ")) = false := by
    rw [word_split hx]
    rcases hx with rfl | rfl <;> decide +kernel
  refine ⟨_, rfl, ⟨_, rfl⟩, _, _, rfl, rfl, by decide +kernel, sz (by omega), ?_⟩
  refine ⟨_, Txt.split x (Str.ofString " "), rfl, .inl (.inl rfl), _, rfl, ?_⟩
  rw [no]
  refine ⟨_, rfl, _, .inl rfl, rfl, _, rfl, hz, L, k, x, rfl, ok, hk, ?_⟩
  rcases h with ⟨e, nr, q⟩ | ⟨e, hr, q⟩
  · exact .inl ⟨e, nr, fun o => ⟨_, rfl, rfl, _, rfl, _, rfl, _, .refl, q o⟩⟩
  · exact .inr ⟨e, hr, fun o => ⟨_, rfl, rfl, _, rfl, _, rfl, _, .refl, q o⟩⟩
end F_Session_obey
namespace F_law
abbrev sDef : Stmt := top 109
abbrev sN : List Str := ["_law_script", "_law_numbers_here", "_law_parts_here", "_law_log_here", "_law_alone_here", "_law_judge", "_law_drift_here", "_law_logs", "_law_some", "_law_rings", "_law_again", "_law_desk", "_law_session", "_law_pairs_here", "_law_single", "_law_pair"]
abbrev sP : List Str := ["_law_script"]
theorem sc : FnScope sN sP (defScope sDef) := ⟨rfl, rfl, rfl, by decide +kernel, rfl, by decide +kernel, by decide +kernel⟩
open F__law_alone F_pairs_of F_together F_Desk___init__ F_Session___init__ F_reached
theorem getD_one {k1 k2 : List Key} {d : D} (h : k1 ≠ k2) : getD [(k1, d)] k2 = none := by
  unfold getD
  rw [List.find?_cons, decide_eq_false h]
  rfl
theorem key_ne (z : Str) : ([kS (Str.ofString "pairs"), kS z] : List Key) ≠ [kS (Str.ofString "ring"), kS z] := fun e => by
  have e : kS (Str.ofString "pairs") = kS (Str.ofString "ring") := (List.cons.inj e).1
  have e := kS_inj _ _ e
  exact absurd e (by decide +kernel)
theorem sD_prs {items : List Str} (h : ∀ x ∈ items, nameB x = true) (up : Str → Str → Bool) (f : Str × Str → Bool) : sD 2 (.lst (((prs items up).filter f).map ssD)) = true := sD_lst fun p hp => sD_ss h (List.mem_filter.mp hp).1
theorem sD_prs0 {items : List Str} (h : ∀ x ∈ items, nameB x = true) (up : Str → Str → Bool) : sD 2 (.lst ((prs items up).map ssD)) = true := sD_lst fun p hp => sD_ss h hp
theorem told_alls (L : LogD) : (L.judges.map fun p => toldD (aloneL L p.1)) = (alls L).map toldD := by
  unfold alls
  rw [List.map_map]
  rfl
theorem knw_len {L : LogD} (ok : LogOk L) (k : Nat) : (((alls L).take k).flatMap fun l => prs l.items l.up).length ≤ 3 * 25 := by
  have so := solo ok
  have m3 := so.max
  refine fm_len (by rw [List.length_take]; omega) fun l hl => prs_len (so.ok l (List.mem_of_mem_take hl)).it.max
def S : SD := fun ds m Q => ∃ (x : D) (xs : List Int), ds = [x] ∧ LsD m x (xs.map D.int) ∧ Q (.bl true)
theorem ok {P : Program} {w : World} {K : Fg} {mg : Str → Option Value} {base : Heap} {CL CD CS CU GS f : Addr} {fd : FuncData} (F : FnP K "law" "law" sDef f fd) (T : Txt K mg CL CD CS CU GS) (hlaw_numbers : Cal P w K mg base 2 "_law_numbers" ["_law_script", "_law_many"] (spP K (F__law_numbers.S))) (hlaw_parts : Cal P w K mg base 1 "_law_parts" ["_law_numbers_here", "_law_at", "_law_many", "_law_more"] (spP K (F__law_parts.S))) (hlaw_log : Cal P w K mg base 5 "_law_log" ["_law_parts_here"] (spP K (F__law_log.S CL))) (hlaw_alone : Cal P w K mg base 1 "_law_alone" ["_law_parts_here", "_law_judge"] (spP K (F__law_alone.S))) (hlaw_has_ring : Cal P w K mg base 3 "_law_has_ring" ["_law_parts_here"] (spP K (F__law_has_ring.S))) (hlaw_pairs : Cal P w K mg base 3 "_law_pairs" ["_law_parts_here"] (spP K (F__law_pairs.S))) (hsay_same : Cal P w K mg base 11 "say_same" ["one", "other"] (spP K (F_say_same.S CL))) (hjoined : Cal P w K mg base 6 "joined" ["logs"] (spP K (F_joined.S CL))) (hring_in : Cal P w K mg base 10 "ring_in" ["logs"] (spP K (F_ring_in.S CL))) (hparse_log : Cal P w K mg base 6 "parse_log" ["text"] (spP K (F_parse_log.S CL))) (hformat_log : Cal P w K mg base 3 "format_log" ["log"] (spP K (F_format_log.S CL))) (hDesk : CalC P w K mg base CD 1 "Desk" ["self", "log"] (spM K (F_Desk___init__.S CL CD))) (hSession : CalC P w K mg base CS 3 "Session" ["self", "log"] (spM K (F_Session___init__.S CL CD CS))) (hLog_same_as : CalM P w K mg base CL 2 "same_as" ["self", "other"] (spP K (F_Log_same_as.S CL))) (hDesk_answer : CalM P w K mg base CD 14 "answer" ["self", "question"] (spM K (F_Desk_answer.S CL CD))) (hSession_obey : CalM P w K mg base CS 17 "obey" ["self", "line"] (spM K (F_Session_obey.S CL CD CS))) (hsure_pairs : CalX P w K mg base 12 "sure_pairs" ["log"] (spX K CU (F_sure_pairs.S CL))) (htogether : Cal P w K mg base 12 "together" ["logs"] (spP K (F_together.S CL))) : FnOk P w K mg base CX0 18 f fd sP (spP K (S)) := by
  refine okP F sc (fun ds m Qd h => ?_) fun cdv A outer s H E hr => ?_
  · obtain ⟨x, xs, rfl, hx, q⟩ := h
    rfl
  have hu := hu_of hr
  refine ⟨_, _, (pss_cons (ps_set (i := 1) sc.nd rfl (Or.inl rfl) (pe_cal hlaw_numbers hr (by decide) rfl (pa_cons (pv 0) (pa_cons pe_int pa_nil)))) (pss_cons (ps_set (i := 2) sc.nd rfl (Or.inr rfl) (pe_cal hlaw_parts hr (by decide) rfl (pa_cons (pv 1) (pa_cons pe_int (pa_cons pe_int (pa_cons pe_int pa_nil)))))) (pss_cons (ps_set (i := 3) sc.nd rfl (Or.inl rfl) (pe_cal hlaw_log hr (by decide) rfl (pa_cons (pv 2) pa_nil))) (pss_cons (ps_setLc (i := 4) (own := [("_law_judge", 5), ("_law_drift_here", 6)]) rfl sc.nd rfl rfl (sw_true rfl rfl rfl (by decide +kernel)) (kList (K := K) (by rfl) (pe_ix (kIx (K := K) (by rfl)) (pv 2) pe_int (fun _ _ => rfl))) (blkOk_by (N := sN) (sc := defScope sDef) (by decide +kernel)) (fun _ _ _ _ _ => (kTup (K := K) (n := 2) (by rfl) rfl (pgs_cons (pg_name (i := 5) sc.nd rfl (by first | exact Or.inl rfl | exact Or.inr rfl)) (pgs_cons (pg_name (i := 6) sc.nd rfl (by first | exact Or.inl rfl | exact Or.inr rfl)) pgs_nil)))) (fun _ _ _ _ _ => pts_nil) (fun _ _ _ _ _ => (pe_cal hlaw_alone hr (by decide) rfl (pa_cons (pv 2) (pa_cons (pv 5) pa_nil))))) (pss_cons (ps_setLc (i := 7) (own := [("_law_some", 8)]) rfl sc.nd rfl rfl (sw_true rfl rfl rfl (by decide +kernel)) (kList (K := K) (by rfl) (pv 4)) (blkOk_by (N := sN) (sc := defScope sDef) (by decide +kernel)) (fun _ _ _ _ _ => (pg_name (i := 8) sc.nd rfl (by first | exact Or.inl rfl | exact Or.inr rfl))) (fun _ _ _ _ _ => pts_nil) (fun _ _ _ _ _ => (pe_cal hlaw_log hr (by decide) rfl (pa_cons (pv 8) pa_nil)))) (pss_cons (ps_set (i := 9) sc.nd rfl (Or.inl rfl) (pe_cal hlaw_has_ring hr (by decide) rfl (pa_cons (pv 2) pa_nil))) (pss_cons (ps_if (PW.pt (pw_or (pt_cmpR op_isnot_bl (pe_cal hsay_same hr (by decide) rfl (pa_cons (pe_cal hjoined hr (by decide) rfl (pa_cons (pv 7) pa_nil)) (pa_cons (pv 3) pa_nil))) pe_bl (by rfl)) (pw_or1 (pt_cmpR op_ne (pe_cmpR op_notN (pe_cal hring_in hr (by decide) rfl (pa_cons (pv 7) pa_nil)) pe_non (by rfl)) (pv 9) (by rfl))))) (pss_one (ps_ret pe_bl)) pss_nil) (pss_cons (ps_set (i := 10) sc.nd rfl (Or.inl rfl) (pe_cal hparse_log hr (by decide) rfl (pa_cons (pe_cal hformat_log hr (by decide) rfl (pa_cons (pv 3) pa_nil)) pa_nil))) (pss_cons (ps_set (i := 11) sc.nd rfl (Or.inl rfl) (pe_calC hDesk hr (by decide) rfl (pa_cons (pv 10) pa_nil))) (pss_cons (ps_set (i := 12) sc.nd rfl (Or.inl rfl) (pe_calC hSession hr (by decide) rfl (pa_cons (pv 10) pa_nil))) (pss_cons (ps_if (PW.pt (pw_or (pt_cmpR op_isnot_bl (pe_cal hsay_same hr (by decide) rfl (pa_cons (pv 10) (pa_cons (pv 3) pa_nil))) pe_bl (by rfl)) (pw_or1 (pt_cmpR op_isnot_bl (pe_calM hLog_same_as T.cLog hr (by decide) (pv 10) (pa_cons (pv 3) pa_nil)) pe_bl (by rfl))))) (pss_one (ps_ret pe_bl)) pss_nil) (pss_cons (ps_if (kTru (K := K) (by rfl) (pv 9) (by intro _; rfl)) (pss_one (ps_ret (pe_and (pe_cmpR op_isN (pe_calM hDesk_answer T.cDesk hr (by decide) (pv 11) (pa_cons pe_str pa_nil)) pe_non (by rfl)) (pe_and (pe_cmpR op_eq (pe_calM hSession_obey T.cSession hr (by decide) (pv 12) (pa_cons pe_str pa_nil)) pe_str (by rfl)) (pe_one (pe_cmpR op_notN (pe_calM hDesk_answer T.cDesk hr (by decide) (pv 11) (pa_cons pe_str pa_nil)) pe_non (by rfl))))))) pss_nil) (pss_cons (ps_set (i := 13) sc.nd rfl (Or.inl rfl) (pe_cal hlaw_pairs hr (by decide) rfl (pa_cons (pv 2) pa_nil))) (pss_cons (ps_if (PW.pt (pw_or (pt_cmpR (kNeD (K := K) (by rfl) hr.units) (pe_calN hsure_pairs hr (by decide) rfl (pa_cons (pe_cal hjoined hr (by decide) rfl (pa_cons (pv 7) pa_nil)) pa_nil)) (pv 13) (by rfl)) (pw_or (pt_cmpR (kNeD (K := K) (by rfl) hr.units) (pe_calM hDesk_answer T.cDesk hr (by decide) (pv 11) (pa_cons pe_str pa_nil)) (pv 13) (by rfl)) (pw_or (pt_cmpR op_notN (pe_calM hDesk_answer T.cDesk hr (by decide) (pv 11) (pa_cons pe_str pa_nil)) pe_non (by rfl)) (pw_or1 (pt_cmpR op_ne (pe_calM hSession_obey T.cSession hr (by decide) (pv 12) (pa_cons pe_str pa_nil)) pe_str (by rfl))))))) (pss_one (ps_ret pe_bl)) pss_nil) (pss_cons (ps_set (i := 14) sc.nd rfl (Or.inr rfl) (pe_lst pa_nil)) (pss_cons (ps_for PassesOwn.never rfl (kList (K := K) (by rfl) (pv 4)) (pg_name (i := 8) sc.nd rfl (by first | exact Or.inl rfl | exact Or.inr rfl)) (pss_one (ps_set (i := 14) sc.nd rfl (Or.inr rfl) (pe_op op_cat (pv 14) (pe_cal hlaw_pairs hr (by decide) rfl (pa_cons (pv 8) pa_nil)))))) (pss_one (ps_ret (pe_cmpR (kEqD (K := K) (by rfl) hr.units) (pe_cal htogether hr (by decide) rfl (pa_cons (pv 7) pa_nil)) (pe_lc (own := [("_law_pair", 15)]) rfl sc.nd (kList (K := K) (by rfl) (pv 13)) (blkOk_by (N := sN) (sc := defScope sDef) (by decide +kernel)) (fun _ _ _ _ _ => (pg_name (i := 15) sc.nd rfl (by first | exact Or.inl rfl | exact Or.inr rfl))) (fun _ _ _ _ _ => pts_one (pt_cmpR (kNotInD (K := K) (by rfl) (hr65 hr)) (pv 15) (pv 14) (by rfl))) (fun _ _ _ _ _ => (pv 15))) (by rfl)))))))))))))))))))), by walk_at "sim", ?h⟩
  intro ds m Qd hz h
  obtain ⟨x, xs, rfl, hx, q⟩ := h
  refine ⟨_, rfl, hz, x, xs, rfl, hx, fun ns nl low => ?_⟩
  refine ⟨_, rfl, hz, ns, rfl, nl, low, fun L ok => ?_⟩
  clear hx nl low
  have so := solo ok
  have j3 := ok.j3
  have i5 := ok.it.max
  have al := alls_len L
  refine ⟨_, rfl, hz, L, rfl, ok, ?_⟩
  refine ⟨_, rfl, _, _, _, .inr rfl, rfl, rfl, _, .inl rfl, lcM juD L.judges (fun p => toldD (aloneL L p.1)) (.inl rfl) (sz (by omega)) (fun p hp Ny Nn y => ⟨_, rfl, rfl, _, _, rfl, _, _, rfl, rfl, _, rfl, _, rfl, hz, L, p.1, rfl, ok, List.mem_map.mpr ⟨p, hp, rfl⟩, y⟩) ?_⟩
  rw [told_alls]
  refine ⟨_, rfl, _, .inl rfl, lcM toldD (alls L) (logD CL) (.inl rfl) (sz (by omega)) (fun l hl Ny Nn y => ⟨_, rfl, hz, l, rfl, so.ok l hl, y⟩) ?_⟩
  refine ⟨_, rfl, hz, L, rfl, ok, fun nr => ?_, fun hr => ?_⟩
  · -- no ring
    have nup := noring_up ok nr
    refine ⟨_, rfl, hz, alls L, rfl, so, _, rfl, hz, joinL (alls L), L, rfl, so.join, ok, (join_items ok).symm, (join_up ok).symm, _, _, rfl, rfl, _, rfl, ifN rfl ?_⟩
    refine ⟨_, rfl, hz, alls L, rfl, so, fun njr => ⟨rfl, _, rfl, _, rfl, _, rfl, ifN rfl ?_⟩, fun jr => absurd ((join_ring ok).mp jr) nr⟩
    refine ⟨_, rfl, hz, L, rfl, ok, hz, L, rfl, ok, ?_⟩
    refine ⟨_, rfl, hz, fun a ha => ⟨a, L, rfl, Mu.set_same, fun k hka hk => ⟨rfl, _, Mu.set_same, ?_⟩⟩⟩
    rw [Mu.set_ne hka] at hk
    have hb1 : (m.set k (.dT [])).c a = none := by
      rw [Mu.set_ne hka.symm]
      exact ha
    rw [Mu.set_comm (m := m) hka.symm, Mu.set_set, Mu.del_set hb1]
    clear hb1 ha hka a
    refine ⟨_, rfl, hz, fun a ha => ⟨a, L, rfl, Mu.set_same, fun k2 hka hk2 => ⟨rfl, _, Mu.set_same, ?_⟩⟩⟩
    rw [Mu.set_ne hka] at hk2
    have hb1 : ((m.set k (.dT [])).set k2 (.dT [])).c a = none := by
      rw [Mu.set_ne hka.symm]
      exact ha
    rw [Mu.set_comm (m := m.set k (.dT [])) hka.symm, Mu.set_set, Mu.del_set hb1]
    clear hb1 ha hka a
    have hkk : k ≠ k2 := fun e => by
      rw [← e, Mu.set_same] at hk2
      cases hk2
    rw [Mu.set_ne hkk.symm] at hk2
    have c1 : ((m.set k (.dT [])).set k2 (.dT [])).c k = some (.dT []) := by rw [Mu.set_ne hkk, Mu.set_same]
    have c2 : ((m.set k (.dT [])).set k2 (.dT [])).c k2 = some (.dT []) := Mu.set_same
    have s1 : L3.Sub m ((m.set k (.dT [])).set k2 (.dT [])) := (L3.Sub.refl.set hk).set hk2
    have z1 : ((m.set k (.dT [])).set k2 (.dT [])).fz = [] := hz
    generalize (m.set k (.dT [])).set k2 (.dT []) = M at c1 c2 s1 z1
    refine ⟨_, rfl, _, rfl, z1, L, L, rfl, ok, ok, rfl, rfl, _, _, rfl, rfl, _, rfl, ifN rfl ⟨_, rfl, _, .inl rfl, rfl, _, rfl, z1, L, rfl, ok, _, _, rfl, rfl, _, rfl, ifN rfl ?_⟩⟩
    refine ⟨_, rfl, _, .inr (.inl rfl), ifN rfl ?_⟩
    refine ⟨_, rfl, z1, L, rfl, ok, fun up hup => ?_⟩
    have eup : prs L.items up = prs L.items L.up := prs_congr fun x hx y hy => bool_iff ((hup x hx y hy).trans (up_iff ok).symm)
    rw [eup]
    clear eup hup up
    have spp := sD_prs0 ok.it.good L.up
    refine ⟨_, rfl, z1, alls L, rfl, so, z1, joinL (alls L), rfl, so.join, fun nj => ?_, fun ⟨a, ha, e⟩ => ?_⟩
    · rw [join_items ok, join_up ok]
      refine ⟨_, rfl, goNeD 2 (by decide) spp spp fun b hb => ⟨_, rfl, ifN ?_ ?_⟩⟩
      · cases b with
        | false => rfl
        | true => exact absurd rfl (hb.mp rfl)
      refine ⟨_, rfl, _, .inl rfl, rfl, z1, L, k, [], _, rfl, ok, c1, rfl, by decide, .inr ⟨rfl, fun _ => ?_, fun ⟨a, ha, e⟩ => ?_⟩⟩
      · have c3 : (M.set k (.dT ([] ++ [([kS (Str.ofString "pairs"), kS (fmtL L)], .lst ((prs L.items L.up).map ssD))]))).c k2 = some (.dT []) := by
          rw [Mu.set_ne hkk.symm]
          exact c2
        have c4 : (M.set k (.dT ([] ++ [([kS (Str.ofString "pairs"), kS (fmtL L)], .lst ((prs L.items L.up).map ssD))]))).c k = some (.dT [([kS (Str.ofString "pairs"), kS (fmtL L)], .lst ((prs L.items L.up).map ssD))]) := Mu.set_same
        have s2 := s1.set (p := k) (o := .dT ([] ++ [([kS (Str.ofString "pairs"), kS (fmtL L)], .lst ((prs L.items L.up).map ssD))])) hk
        have z2 : (M.set k (.dT ([] ++ [([kS (Str.ofString "pairs"), kS (fmtL L)], .lst ((prs L.items L.up).map ssD))]))).fz = [] := z1
        generalize M.set k (.dT ([] ++ [([kS (Str.ofString "pairs"), kS (fmtL L)], .lst ((prs L.items L.up).map ssD))])) = M2 at c3 c4 s2 z2
        refine ⟨_, rfl, goNeD 2 (by decide) spp spp fun b hb => ⟨_, rfl, ifN ?_ ?_⟩⟩
        · cases b with
          | false => rfl
          | true => exact absurd rfl (hb.mp rfl)
        refine ⟨_, rfl, _, .inl rfl, rfl, z2, L, k, _, _, rfl, ok, c4, getD_one (key_ne _), (show 1 ≤ 10 by decide), .inl ⟨rfl, fun _ => ⟨rfl, _, rfl, ifN rfl ?_⟩, fun r => absurd r nr⟩⟩
        refine ⟨_, rfl, _, .inl rfl, rfl, z2, L, k2, _, rfl, ok, ?_, .inl ⟨rfl, nr, fun o => ⟨_, rfl, _, rfl, ifN (by decide +kernel) ?_⟩⟩⟩
        · rw [Mu.set_ne hkk.symm]
          exact c3
        have s3 := (s2.set (p := k) (o := .dT ([([kS (Str.ofString "pairs"), kS (fmtL L)], .lst ((prs L.items L.up).map ssD))] ++ [([kS (Str.ofString "ring"), kS (fmtL L)], .non)])) hk).set (p := k2) (o := o) hk2
        have z3 : ((M2.set k (.dT ([([kS (Str.ofString "pairs"), kS (fmtL L)], .lst ((prs L.items L.up).map ssD))] ++ [([kS (Str.ofString "ring"), kS (fmtL L)], .non)]))).set k2 o).fz = [] := z2
        generalize (M2.set k (.dT ([([kS (Str.ofString "pairs"), kS (fmtL L)], .lst ((prs L.items L.up).map ssD))] ++ [([kS (Str.ofString "ring"), kS (fmtL L)], .non)]))).set k2 o = M3 at s3 z3
        refine ⟨(by decide : 0 ≤ sizeLine), _, rfl, _, .inl rfl, ?_⟩
        refine forX toldD (alls L) (fun i δ' m' => m' = M3 ∧ ∃ p, δ' = [some x, some (.lst (ns.map D.int)), some (toldD L), some (logD CL L), some (.lst ((alls L).map toldD)), none, none, some (.lst ((alls L).map (logD CL))), p, some (.bl false), some (logD CL L), some (.ins CD (dkF CL L k)), some (.ins CS (seF CL CD L k2)), some (.lst ((prs L.items L.up).map ssD)), some (.lst ((((alls L).take i).flatMap fun l => prs l.items l.up).map ssD)), none])
          ⟨rfl, _, rfl⟩ (fun _ _ _ _ => .inl rfl) (fun i l δ' m' hl h => ?_) fun δ' m' h => ?_
        · obtain ⟨rfl, p, rfl⟩ := h
          have hlm := List.mem_of_getElem? hl
          have okl := so.ok l hlm
          refine ⟨_, rfl, _, rfl, z3, l, rfl, okl, fun up hup => ⟨_, _, rfl, rfl, ?_, rfl, some (toldD l), ?_⟩⟩
          · rw [List.length_map, List.length_map]
            have h1 := knw_len ok i
            have h2 := prs_len (up := up) okl.it.max
            exact sz (by omega)
          · have eup : prs l.items up = prs l.items l.up := prs_congr fun x hx y hy => bool_iff ((hup x hx y hy).trans (up_iff okl).symm)
            rw [eup, take_next hl, List.flatMap_append, List.flatMap_singleton, List.map_append]
            rfl
        · obtain ⟨rfl, p, rfl⟩ := h
          rw [List.take_length]
          have ek : ((alls L).flatMap fun l => prs l.items l.up) = knw (alls L) := rfl
          rw [ek]
          refine ⟨_, rfl, z3, alls L, rfl, so, njr, ?_⟩
          rw [join_items ok, join_up ok]
          refine ⟨_, rfl, _, .inl rfl, lcFM ssD (prs L.items L.up) (fun p => decide (p ∉ knw (alls L))) ssD (.inl rfl) (sz (Nat.le_trans (prs_len i5) (by decide))) (fun p hp Ny Nn k1 k2 => ?_) ?_⟩
          · refine ⟨_, rfl, _, rfl, goInD true 1 (by decide) (.inl rfl) (sD_ss ok.it.good hp) (fun d hd => ?_) fun b hb => ⟨_, rfl, ?_⟩⟩
            · obtain ⟨z, hz2, rfl⟩ := List.mem_map.mp hd
              obtain ⟨l, hl, hz3⟩ := List.mem_flatMap.mp hz2
              exact sD_ss (so.ok l hl).it.good hz3
            · rw [mem_ss] at hb
              cases b with
              | true => exact k2 (decide_eq_false fun h => h (hb.mp rfl))
              | false => exact ⟨_, rfl, k1 (decide_eq_true fun h => by cases hb.mpr h)⟩
          · have sf := sD_prs ok.it.good L.up fun p => decide (p ∉ knw (alls L))
            refine goEqD 2 (by decide) sf sf fun b hb => ⟨s3, ?_⟩
            rw [hb.mpr rfl]
            exact q
      · rw [nup a ha] at e
        cases e
    · rw [join_items ok] at ha
      rw [join_up ok, nup a ha] at e
      cases e
  · -- a ring
    have hup := (ring_up ok).mp hr
    refine ⟨_, rfl, hz, alls L, rfl, so, _, rfl, hz, joinL (alls L), L, rfl, so.join, ok, (join_items ok).symm, (join_up ok).symm, _, _, rfl, rfl, _, rfl, ifN rfl ?_⟩
    refine ⟨_, rfl, hz, alls L, rfl, so, fun njr => absurd ((join_ring ok).mpr hr) njr, fun jr es => ⟨rfl, _, rfl, _, rfl, _, rfl, ifN rfl ?_⟩⟩
    refine ⟨_, rfl, hz, L, rfl, ok, hz, L, rfl, ok, ?_⟩
    refine ⟨_, rfl, hz, fun a ha => ⟨a, L, rfl, Mu.set_same, fun k hka hk => ⟨rfl, _, Mu.set_same, ?_⟩⟩⟩
    rw [Mu.set_ne hka] at hk
    have hb1 : (m.set k (.dT [])).c a = none := by
      rw [Mu.set_ne hka.symm]
      exact ha
    rw [Mu.set_comm (m := m) hka.symm, Mu.set_set, Mu.del_set hb1]
    clear hb1 ha hka a
    refine ⟨_, rfl, hz, fun a ha => ⟨a, L, rfl, Mu.set_same, fun k2 hka hk2 => ⟨rfl, _, Mu.set_same, ?_⟩⟩⟩
    rw [Mu.set_ne hka] at hk2
    have hb1 : ((m.set k (.dT [])).set k2 (.dT [])).c a = none := by
      rw [Mu.set_ne hka.symm]
      exact ha
    rw [Mu.set_comm (m := m.set k (.dT [])) hka.symm, Mu.set_set, Mu.del_set hb1]
    clear hb1 ha hka a
    have hkk : k ≠ k2 := fun e => by
      rw [← e, Mu.set_same] at hk2
      cases hk2
    rw [Mu.set_ne hkk.symm] at hk2
    have c1 : ((m.set k (.dT [])).set k2 (.dT [])).c k = some (.dT []) := by rw [Mu.set_ne hkk, Mu.set_same]
    have c2 : ((m.set k (.dT [])).set k2 (.dT [])).c k2 = some (.dT []) := Mu.set_same
    have s1 : L3.Sub m ((m.set k (.dT [])).set k2 (.dT [])) := (L3.Sub.refl.set hk).set hk2
    have z1 : ((m.set k (.dT [])).set k2 (.dT [])).fz = [] := hz
    generalize (m.set k (.dT [])).set k2 (.dT []) = M at c1 c2 s1 z1
    refine ⟨_, rfl, _, rfl, z1, L, L, rfl, ok, ok, rfl, rfl, _, _, rfl, rfl, _, rfl, ifN rfl ⟨_, rfl, _, .inl rfl, rfl, _, rfl, z1, L, rfl, ok, _, _, rfl, rfl, _, rfl, ifN rfl ?_⟩⟩
    refine ⟨_, rfl, _, .inr (.inl rfl), ifY rfl ?_⟩
    refine ⟨_, rfl, _, .inl rfl, rfl, z1, L, k, [], _, rfl, ok, c1, rfl, by decide, .inr ⟨rfl, fun nj => ?_, fun _ => ⟨rfl, _, rfl, ifY rfl ?_⟩⟩⟩
    · obtain ⟨a, ha, e⟩ := hup
      rw [nj a ha] at e
      cases e
    have c3 : (M.set k (.dT ([] ++ [([kS (Str.ofString "pairs"), kS (fmtL L)], .non)]))).c k2 = some (.dT []) := by
      rw [Mu.set_ne hkk.symm]
      exact c2
    refine ⟨_, rfl, _, .inl rfl, rfl, z1, L, k2, _, rfl, ok, c3, .inr ⟨rfl, hup, fun o => ⟨_, rfl, _, rfl, ifY (by decide +kernel) ?_⟩⟩⟩
    have c4 : ((M.set k (.dT ([] ++ [([kS (Str.ofString "pairs"), kS (fmtL L)], .non)]))).set k2 o).c k = some (.dT [([kS (Str.ofString "pairs"), kS (fmtL L)], .non)]) := by
      rw [Mu.set_ne hkk]
      exact Mu.set_same
    refine ⟨_, rfl, _, .inl rfl, rfl, z1, L, k, _, _, rfl, ok, c4, getD_one (key_ne _), (show 1 ≤ 10 by decide), .inl ⟨rfl, fun r => absurd hr r, fun _ way => ⟨rfl, ?_, q⟩⟩⟩
    exact ((s1.set hk).set hk2).set hk
end F_law
end RB
/-! All promises joined. -/
namespace RB
open PySem PySem.Spec PyProof.Rows L2 L3
structure Hd (K : Fg) (h : Heap) (mg : Str → Option Value) : Prop where
  X : K.In h
  G : h.Ns mainGlobals mg
  c : He.SaysD fasL fnsL K
  p : ∀ p ∈ prsL, pgB K p.1 p.2.1 = true ∧ fdB K (pgA K p.1 p.2.1) p.2.2 = true ∧ fdA K (pgA K p.1 p.2.1) = p.2.2.val
  v : He.lstB K "SORTS" sortsV = true
section
variable {P : Program} {w : World} {K : Fg} {h : Heap} {mg : Str → Option Value} {base : Heap}
theorem Hd.txt (H : Hd K h mg) : Txt K mg (He.ga K "Log") (He.ga K "Desk") (He.ga K "Session") (He.ga K "Unexplained") (He.ga K "SORTS") where
  n_len := He.free_ok H.X H.G (H.c.fact 0 (f := .free "len") rfl)
  n_all := He.free_ok H.X H.G (H.c.fact 1 (f := .free "all") rfl)
  n_any := He.free_ok H.X H.G (H.c.fact 2 (f := .free "any") rfl)
  n_sum := He.free_ok H.X H.G (H.c.fact 3 (f := .free "sum") rfl)
  n_abs := He.free_ok H.X H.G (H.c.fact 4 (f := .free "abs") rfl)
  n_max := He.free_ok H.X H.G (H.c.fact 5 (f := .free "max") rfl)
  n_min := He.free_ok H.X H.G (H.c.fact 6 (f := .free "min") rfl)
  n_int := He.free_ok H.X H.G (H.c.fact 7 (f := .free "int") rfl)
  n_str := He.free_ok H.X H.G (H.c.fact 8 (f := .free "str") rfl)
  n_set := He.free_ok H.X H.G (H.c.fact 9 (f := .free "set") rfl)
  n_list := He.free_ok H.X H.G (H.c.fact 10 (f := .free "list") rfl)
  n_dict := He.free_ok H.X H.G (H.c.fact 11 (f := .free "dict") rfl)
  n_range := He.free_ok H.X H.G (H.c.fact 12 (f := .free "range") rfl)
  n_enumerate := He.free_ok H.X H.G (H.c.fact 13 (f := .free "enumerate") rfl)
  n_sorted := He.free_ok H.X H.G (H.c.fact 14 (f := .free "sorted") rfl)
  n_isinstance := He.free_ok H.X H.G (H.c.fact 15 (f := .free "isinstance") rfl)
  sLETTERS := He.str_ok H.X H.G (H.c.fact 16 (f := .str "LETTERS" "abcdefghijklmnopqrstuvwxyz0123456789") rfl)
  sDIGITS := He.str_ok H.X H.G (H.c.fact 17 (f := .str "DIGITS" "0123456789") rfl)
  sRISES := He.str_ok H.X H.G (H.c.fact 18 (f := .str "RISES" "rises") rfl)
  sFALLS := He.str_ok H.X H.G (H.c.fact 19 (f := .str "FALLS" "falls") rfl)
  sSTAYS := He.str_ok H.X H.G (H.c.fact 20 (f := .str "STAYS" "stays") rfl)
  sANSWER := He.str_ok H.X H.G (H.c.fact 21 (f := .str "ANSWER" "answer") rfl)
  sRESET := He.str_ok H.X H.G (H.c.fact 22 (f := .str "RESET" "reset") rfl)
  iMOST_ITEMS := He.int_ok H.X H.G (H.c.fact 23 (f := .int "MOST_ITEMS" 20) rfl)
  iMOST_JUDGES := He.int_ok H.X H.G (H.c.fact 24 (f := .int "MOST_JUDGES" 8) rfl)
  iMOST_EVENTS := He.int_ok H.X H.G (H.c.fact 25 (f := .int "MOST_EVENTS" 120) rfl)
  iMOST_GRADE := He.int_ok H.X H.G (H.c.fact 26 (f := .int "MOST_GRADE" 9) rfl)
  gSORTS := He.glo_ok H.X H.G (H.c.fact 27 (f := .glo "SORTS") rfl)
  vSORTS := He.lstB_ok H.v
  cLog := He.cls_ok (H.c.fact 28 (f := .cls "Log") rfl)
  cDesk := He.cls_ok (H.c.fact 29 (f := .cls "Desk") rfl)
  cSession := He.cls_ok (H.c.fact 30 (f := .cls "Session") rfl)
  a_items := He.noat_ok (H.c.fact 31 (f := .noat "Log" "_items") rfl)
  a_grades := He.noat_ok (H.c.fact 32 (f := .noat "Log" "_grades") rfl)
  a_judges := He.noat_ok (H.c.fact 33 (f := .noat "Log" "_judges") rfl)
  a_events := He.noat_ok (H.c.fact 34 (f := .noat "Log" "_events") rfl)
  a_state := He.noat_ok (H.c.fact 35 (f := .noat "Desk" "state") rfl)
  a_past := He.noat_ok (H.c.fact 36 (f := .noat "Desk" "past") rfl)
  a_future := He.noat_ok (H.c.fact 37 (f := .noat "Desk" "future") rfl)
  a_known := He.noat_ok (H.c.fact 38 (f := .noat "Desk" "known") rfl)
  a_desk := He.noat_ok (H.c.fact 39 (f := .noat "Session" "desk") rfl)
theorem Hd.txU (H : Hd K h mg) : TxU K mg (He.ga K "Unexplained") := by
  obtain ⟨h1, h2, h3, h4⟩ := He.exc_ok (H.c.fact 47 (f := .exc "Unexplained") rfl)
  exact ⟨He.glo_ok H.X H.G (H.c.fact 46 (f := .glo "Unexplained") rfl), h1, h2, h3, h4, He.exm_ok (H.c.fact 48 (f := .exm "Unexplained" "Unexplained" true) rfl)⟩
theorem cal__law_row (H : Hd K h mg) : Cal P w K mg base 1 "_law_row" ["_law_cell", "_law_many"] (spP K (F__law_row.S)) := by
  obtain ⟨fd, F⟩ := H.c.def_ 0 rfl
  have F : FnP K "_law_row" "_law_row" (top 94) (He.fAd K ("_law_row", none)) fd := F
  exact ⟨_, fd, F__law_row.ok F H.txt, He.glo_ok H.X H.G (H.c.fact 49 (f := .glo "_law_row") rfl), F.kp, (F.bindsN fun _ _ _ _ _ _ us hl => match us, hl with | [_, _], _ => rfl)⟩
theorem cal__law_numbers (H : Hd K h mg) : Cal P w K mg base 2 "_law_numbers" ["_law_script", "_law_many"] (spP K (F__law_numbers.S)) := by
  obtain ⟨fd, F⟩ := H.c.def_ 1 rfl
  have F : FnP K "_law_numbers" "_law_numbers" (top 95) (He.fAd K ("_law_numbers", none)) fd := F
  exact ⟨_, fd, F__law_numbers.ok F H.txt (cal__law_row H), He.glo_ok H.X H.G (H.c.fact 50 (f := .glo "_law_numbers") rfl), F.kp, (F.bindsN fun _ _ _ _ _ _ us hl => match us, hl with | [_, _], _ => rfl)⟩
theorem cal__law_parts (H : Hd K h mg) : Cal P w K mg base 1 "_law_parts" ["_law_numbers_here", "_law_at", "_law_many", "_law_more"] (spP K (F__law_parts.S)) := by
  obtain ⟨fd, F⟩ := H.c.def_ 2 rfl
  have F : FnP K "_law_parts" "_law_parts" (top 96) (He.fAd K ("_law_parts", none)) fd := F
  exact ⟨_, fd, F__law_parts.ok F H.txt, He.glo_ok H.X H.G (H.c.fact 51 (f := .glo "_law_parts") rfl), F.kp, (F.bindsN fun _ _ _ _ _ _ us hl => match us, hl with | [_, _, _, _], _ => rfl)⟩
theorem cal_is_drift (H : Hd K h mg) : Cal P w K mg base 1 "is_drift" ["text"] (spP K (F_is_drift.S)) := by
  obtain ⟨fd, F⟩ := H.c.def_ 3 rfl
  have F : FnP K "is_drift" "is_drift" (top 40) (He.fAd K ("is_drift", none)) fd := F
  exact ⟨_, fd, F_is_drift.ok F H.txt, He.glo_ok H.X H.G (H.c.fact 52 (f := .glo "is_drift") rfl), F.kp, (F.bindsN fun _ _ _ _ _ _ us hl => match us, hl with | [_], _ => rfl)⟩
theorem cal_is_name (H : Hd K h mg) : Cal P w K mg base 1 "is_name" ["text"] (spP K (F_is_name.S)) := by
  obtain ⟨fd, F⟩ := H.c.def_ 4 rfl
  have F : FnP K "is_name" "is_name" (top 39) (He.fAd K ("is_name", none)) fd := F
  exact ⟨_, fd, F_is_name.ok F H.txt, He.glo_ok H.X H.G (H.c.fact 53 (f := .glo "is_name") rfl), F.kp, (F.bindsN fun _ _ _ _ _ _ us hl => match us, hl with | [_], _ => rfl)⟩
theorem cal_are_names (H : Hd K h mg) : Cal P w K mg base 2 "are_names" ["texts", "most"] (spP K (F_are_names.S)) := by
  obtain ⟨fd, F⟩ := H.c.def_ 5 rfl
  have F : FnP K "are_names" "are_names" (top 41) (He.fAd K ("are_names", none)) fd := F
  exact ⟨_, fd, F_are_names.ok F H.txt (cal_is_name H), He.glo_ok H.X H.G (H.c.fact 54 (f := .glo "are_names") rfl), F.kp, (F.bindsN fun _ _ _ _ _ _ us hl => match us, hl with | [_, _], _ => rfl)⟩
theorem cal_is_event (H : Hd K h mg) : Cal P w K mg base 1 "is_event" ["event", "items", "grades", "judges"] (spP K (F_is_event.S)) := by
  obtain ⟨fd, F⟩ := H.c.def_ 6 rfl
  have F : FnP K "is_event" "is_event" (top 42) (He.fAd K ("is_event", none)) fd := F
  exact ⟨_, fd, F_is_event.ok F H.txt, He.glo_ok H.X H.G (H.c.fact 55 (f := .glo "is_event") rfl), F.kp, (F.bindsN fun _ _ _ _ _ _ us hl => match us, hl with | [_, _, _, _], _ => rfl)⟩
theorem cal_Log___init__ (H : Hd K h mg) : CalC P w K mg base (He.ga K "Log") 3 "Log" ["self", "items", "grades", "judges", "events"] (spM K (F_Log___init__.S (He.ga K "Log"))) := by
  obtain ⟨fd, F⟩ := H.c.def_ 7 rfl
  have F : FnP K "__init__" "Log.__init__" (inClass (top 43) 0) (He.fAd K ("Log", some "__init__")) fd := F
  exact ⟨_, fd, F_Log___init__.ok F H.txt (cal_is_drift H) (cal_are_names H) (cal_is_event H), He.mkr_ok (H.c.fact 40 (f := .mkr "Log") rfl), He.glo_ok H.X H.G (H.c.fact 43 (f := .glo "Log") rfl), (F.bindsN fun _ _ _ _ _ _ us hl => match us, hl with | [_, _, _, _, _], _ => rfl)⟩
theorem cal__law_log (H : Hd K h mg) : Cal P w K mg base 5 "_law_log" ["_law_parts_here"] (spP K (F__law_log.S (He.ga K "Log"))) := by
  obtain ⟨fd, F⟩ := H.c.def_ 8 rfl
  have F : FnP K "_law_log" "_law_log" (top 97) (He.fAd K ("_law_log", none)) fd := F
  exact ⟨_, fd, F__law_log.ok F H.txt (cal_Log___init__ H), He.glo_ok H.X H.G (H.c.fact 56 (f := .glo "_law_log") rfl), F.kp, (F.bindsN fun _ _ _ _ _ _ us hl => match us, hl with | [_], _ => rfl)⟩
theorem cal__law_alone (H : Hd K h mg) : Cal P w K mg base 1 "_law_alone" ["_law_parts_here", "_law_judge"] (spP K (F__law_alone.S)) := by
  obtain ⟨fd, F⟩ := H.c.def_ 9 rfl
  have F : FnP K "_law_alone" "_law_alone" (top 108) (He.fAd K ("_law_alone", none)) fd := F
  exact ⟨_, fd, F__law_alone.ok F H.txt, He.glo_ok H.X H.G (H.c.fact 57 (f := .glo "_law_alone") rfl), F.kp, (F.bindsN fun _ _ _ _ _ _ us hl => match us, hl with | [_, _], _ => rfl)⟩
theorem cal__law_links (H : Hd K h mg) : Cal P w K mg base 1 "_law_links" ["_law_parts_here"] (spP K (F__law_links.S)) := by
  obtain ⟨fd, F⟩ := H.c.def_ 10 rfl
  have F : FnP K "_law_links" "_law_links" (top 102) (He.fAd K ("_law_links", none)) fd := F
  exact ⟨_, fd, F__law_links.ok F H.txt, He.glo_ok H.X H.G (H.c.fact 58 (f := .glo "_law_links") rfl), F.kp, (F.bindsN fun _ _ _ _ _ _ us hl => match us, hl with | [_], _ => rfl)⟩
theorem cal__law_worse (H : Hd K h mg) : Cal P w K mg base 2 "_law_worse" ["_law_parts_here"] (spP K (F__law_worse.S)) := by
  obtain ⟨fd, F⟩ := H.c.def_ 11 rfl
  have F : FnP K "_law_worse" "_law_worse" (top 103) (He.fAd K ("_law_worse", none)) fd := F
  exact ⟨_, fd, F__law_worse.ok F H.txt (cal__law_links H), He.glo_ok H.X H.G (H.c.fact 59 (f := .glo "_law_worse") rfl), F.kp, (F.bindsN fun _ _ _ _ _ _ us hl => match us, hl with | [_], _ => rfl)⟩
theorem cal__law_has_ring (H : Hd K h mg) : Cal P w K mg base 3 "_law_has_ring" ["_law_parts_here"] (spP K (F__law_has_ring.S)) := by
  obtain ⟨fd, F⟩ := H.c.def_ 12 rfl
  have F : FnP K "_law_has_ring" "_law_has_ring" (top 104) (He.fAd K ("_law_has_ring", none)) fd := F
  exact ⟨_, fd, F__law_has_ring.ok F H.txt (cal__law_worse H), He.glo_ok H.X H.G (H.c.fact 60 (f := .glo "_law_has_ring") rfl), F.kp, (F.bindsN fun _ _ _ _ _ _ us hl => match us, hl with | [_], _ => rfl)⟩
theorem cal__law_pairs (H : Hd K h mg) : Cal P w K mg base 3 "_law_pairs" ["_law_parts_here"] (spP K (F__law_pairs.S)) := by
  obtain ⟨fd, F⟩ := H.c.def_ 13 rfl
  have F : FnP K "_law_pairs" "_law_pairs" (top 106) (He.fAd K ("_law_pairs", none)) fd := F
  exact ⟨_, fd, F__law_pairs.ok F H.txt (cal__law_worse H), He.glo_ok H.X H.G (H.c.fact 61 (f := .glo "_law_pairs") rfl), F.kp, (F.bindsN fun _ _ _ _ _ _ us hl => match us, hl with | [_], _ => rfl)⟩
theorem cal_Log_item_names (H : Hd K h mg) : CalP P w K mg base (He.ga K "Log") 1 "item_names" (spP K (F_Log_item_names.S (He.ga K "Log"))) := by
  obtain ⟨h1, h2, h3⟩ := H.p _ (List.mem_of_getElem? (show prsL[0]? = some _ from rfl))
  obtain ⟨fd, F⟩ := fdB_ok h3 h2
  have F : FnP K "item_names" "Log.item_names" (inClass (top 43) 1) (pgA K "Log" "item_names") fd := F
  exact ⟨_, _, fd, F_Log_item_names.ok F H.txt, pgB_ok h1, (F.bindsN fun _ _ _ _ _ _ us hl => match us, hl with | [_], _ => rfl)⟩
theorem cal_check_alike (H : Hd K h mg) : Cal P w K mg base 3 "check_alike" ["one", "other"] (spP K (F_check_alike.S (He.ga K "Log"))) := by
  obtain ⟨fd, F⟩ := H.c.def_ 14 rfl
  have F : FnP K "check_alike" "check_alike" (top 74) (He.fAd K ("check_alike", none)) fd := F
  exact ⟨_, fd, F_check_alike.ok F H.txt (cal_Log_item_names H), He.glo_ok H.X H.G (H.c.fact 62 (f := .glo "check_alike") rfl), F.kp, (F.bindsN fun _ _ _ _ _ _ us hl => match us, hl with | [_, _], _ => rfl)⟩
theorem cal_Log_is_answer (H : Hd K h mg) : CalM P w K mg base (He.ga K "Log") 1 "is_answer" ["self", "place"] (spP K (F_Log_is_answer.S (He.ga K "Log"))) := by
  obtain ⟨fd, F⟩ := H.c.def_ 15 rfl
  have F : FnP K "is_answer" "Log.is_answer" (inClass (top 43) 6) (He.fAd K ("Log", some "is_answer")) fd := F
  exact ⟨_, fd, F_Log_is_answer.ok F H.txt, He.meth_ok (H.c.fact 63 (f := .meth "Log" "is_answer") rfl), (F.bindsN fun _ _ _ _ _ _ us hl => match us, hl with | [_, _], _ => rfl)⟩
theorem cal_Log_answers (H : Hd K h mg) : CalM P w K mg base (He.ga K "Log") 2 "answers" ["self"] (spP K (F_Log_answers.S (He.ga K "Log"))) := by
  obtain ⟨fd, F⟩ := H.c.def_ 16 rfl
  have F : FnP K "answers" "Log.answers" (inClass (top 43) 7) (He.fAd K ("Log", some "answers")) fd := F
  exact ⟨_, fd, F_Log_answers.ok F H.txt (cal_Log_is_answer H), He.meth_ok (H.c.fact 64 (f := .meth "Log" "answers") rfl), (F.bindsN fun _ _ _ _ _ _ us hl => match us, hl with | [_], _ => rfl)⟩
theorem cal_Log_answer_at (H : Hd K h mg) : CalM P w K mg base (He.ga K "Log") 2 "answer_at" ["self", "place"] (spP K (F_Log_answer_at.S (He.ga K "Log"))) := by
  obtain ⟨fd, F⟩ := H.c.def_ 17 rfl
  have F : FnP K "answer_at" "Log.answer_at" (inClass (top 43) 9) (He.fAd K ("Log", some "answer_at")) fd := F
  exact ⟨_, fd, F_Log_answer_at.ok F H.txt (cal_Log_is_answer H), He.meth_ok (H.c.fact 65 (f := .meth "Log" "answer_at") rfl), (F.bindsN fun _ _ _ _ _ _ us hl => match us, hl with | [_, _], _ => rfl)⟩
theorem cal_Log_item_at (H : Hd K h mg) : CalM P w K mg base (He.ga K "Log") 3 "item_at" ["self", "place"] (spP K (F_Log_item_at.S (He.ga K "Log"))) := by
  obtain ⟨fd, F⟩ := H.c.def_ 18 rfl
  have F : FnP K "item_at" "Log.item_at" (inClass (top 43) 11) (He.fAd K ("Log", some "item_at")) fd := F
  exact ⟨_, fd, F_Log_item_at.ok F H.txt (cal_Log_answer_at H), He.meth_ok (H.c.fact 66 (f := .meth "Log" "item_at") rfl), (F.bindsN fun _ _ _ _ _ _ us hl => match us, hl with | [_, _], _ => rfl)⟩
theorem cal_Log_judges (H : Hd K h mg) : CalP P w K mg base (He.ga K "Log") 1 "judges" (spP K (F_Log_judges.S (He.ga K "Log"))) := by
  obtain ⟨h1, h2, h3⟩ := H.p _ (List.mem_of_getElem? (show prsL[1]? = some _ from rfl))
  obtain ⟨fd, F⟩ := fdB_ok h3 h2
  have F : FnP K "judges" "Log.judges" (inClass (top 43) 3) (pgA K "Log" "judges") fd := F
  exact ⟨_, _, fd, F_Log_judges.ok F H.txt, pgB_ok h1, (F.bindsN fun _ _ _ _ _ _ us hl => match us, hl with | [_], _ => rfl)⟩
theorem cal_Log_drift_of (H : Hd K h mg) : CalM P w K mg base (He.ga K "Log") 1 "drift_of" ["self", "judge"] (spP K (F_Log_drift_of.S (He.ga K "Log"))) := by
  obtain ⟨fd, F⟩ := H.c.def_ 19 rfl
  have F : FnP K "drift_of" "Log.drift_of" (inClass (top 43) 5) (He.fAd K ("Log", some "drift_of")) fd := F
  exact ⟨_, fd, F_Log_drift_of.ok F H.txt, He.meth_ok (H.c.fact 67 (f := .meth "Log" "drift_of") rfl), (F.bindsN fun _ _ _ _ _ _ us hl => match us, hl with | [_, _], _ => rfl)⟩
theorem cal_Log_answers_of (H : Hd K h mg) : CalM P w K mg base (He.ga K "Log") 3 "answers_of" ["self", "judge"] (spP K (F_Log_answers_of.S (He.ga K "Log"))) := by
  obtain ⟨fd, F⟩ := H.c.def_ 20 rfl
  have F : FnP K "answers_of" "Log.answers_of" (inClass (top 43) 8) (He.fAd K ("Log", some "answers_of")) fd := F
  exact ⟨_, fd, F_Log_answers_of.ok F H.txt (cal_Log_drift_of H) (cal_Log_answers H), He.meth_ok (H.c.fact 68 (f := .meth "Log" "answers_of") rfl), (F.bindsN fun _ _ _ _ _ _ us hl => match us, hl with | [_, _], _ => rfl)⟩
theorem cal_Log_judge_at (H : Hd K h mg) : CalM P w K mg base (He.ga K "Log") 3 "judge_at" ["self", "place"] (spP K (F_Log_judge_at.S (He.ga K "Log"))) := by
  obtain ⟨fd, F⟩ := H.c.def_ 21 rfl
  have F : FnP K "judge_at" "Log.judge_at" (inClass (top 43) 10) (He.fAd K ("Log", some "judge_at")) fd := F
  exact ⟨_, fd, F_Log_judge_at.ok F H.txt (cal_Log_answer_at H), He.meth_ok (H.c.fact 69 (f := .meth "Log" "judge_at") rfl), (F.bindsN fun _ _ _ _ _ _ us hl => match us, hl with | [_, _], _ => rfl)⟩
theorem cal_Log_span_at (H : Hd K h mg) : CalM P w K mg base (He.ga K "Log") 1 "span_at" ["self", "judge", "place"] (spP K (F_Log_span_at.S (He.ga K "Log"))) := by
  obtain ⟨fd, F⟩ := H.c.def_ 22 rfl
  have F : FnP K "span_at" "Log.span_at" (inClass (top 43) 13) (He.fAd K ("Log", some "span_at")) fd := F
  exact ⟨_, fd, F_Log_span_at.ok F H.txt, He.meth_ok (H.c.fact 70 (f := .meth "Log" "span_at") rfl), (F.bindsN fun _ _ _ _ _ _ us hl => match us, hl with | [_, _, _], _ => rfl)⟩
theorem cal_Log_stretch_at (H : Hd K h mg) : CalM P w K mg base (He.ga K "Log") 4 "stretch_at" ["self", "judge", "place"] (spP K (F_Log_stretch_at.S (He.ga K "Log"))) := by
  obtain ⟨fd, F⟩ := H.c.def_ 23 rfl
  have F : FnP K "stretch_at" "Log.stretch_at" (inClass (top 43) 14) (He.fAd K ("Log", some "stretch_at")) fd := F
  exact ⟨_, fd, F_Log_stretch_at.ok F H.txt (cal_Log_answers_of H) (cal_Log_span_at H), He.meth_ok (H.c.fact 71 (f := .meth "Log" "stretch_at") rfl), (F.bindsN fun _ _ _ _ _ _ us hl => match us, hl with | [_, _, _], _ => rfl)⟩
theorem cal_Log_stretch_of (H : Hd K h mg) : CalM P w K mg base (He.ga K "Log") 5 "stretch_of" ["self", "place"] (spP K (F_Log_stretch_of.S (He.ga K "Log"))) := by
  obtain ⟨fd, F⟩ := H.c.def_ 24 rfl
  have F : FnP K "stretch_of" "Log.stretch_of" (inClass (top 43) 15) (He.fAd K ("Log", some "stretch_of")) fd := F
  exact ⟨_, fd, F_Log_stretch_of.ok F H.txt (cal_Log_judge_at H) (cal_Log_stretch_at H), He.meth_ok (H.c.fact 72 (f := .meth "Log" "stretch_of") rfl), (F.bindsN fun _ _ _ _ _ _ us hl => match us, hl with | [_, _], _ => rfl)⟩
theorem cal_Log_stretches (H : Hd K h mg) : CalM P w K mg base (He.ga K "Log") 6 "stretches" ["self", "judge"] (spP K (F_Log_stretches.S (He.ga K "Log"))) := by
  obtain ⟨fd, F⟩ := H.c.def_ 25 rfl
  have F : FnP K "stretches" "Log.stretches" (inClass (top 43) 16) (He.fAd K ("Log", some "stretches")) fd := F
  exact ⟨_, fd, F_Log_stretches.ok F H.txt (cal_Log_answers_of H) (cal_Log_stretch_of H), He.meth_ok (H.c.fact 73 (f := .meth "Log" "stretches") rfl), (F.bindsN fun _ _ _ _ _ _ us hl => match us, hl with | [_, _], _ => rfl)⟩
theorem cal_Log_grade_at (H : Hd K h mg) : CalM P w K mg base (He.ga K "Log") 3 "grade_at" ["self", "place"] (spP K (F_Log_grade_at.S (He.ga K "Log"))) := by
  obtain ⟨fd, F⟩ := H.c.def_ 26 rfl
  have F : FnP K "grade_at" "Log.grade_at" (inClass (top 43) 12) (He.fAd K ("Log", some "grade_at")) fd := F
  exact ⟨_, fd, F_Log_grade_at.ok F H.txt (cal_Log_answer_at H), He.meth_ok (H.c.fact 74 (f := .meth "Log" "grade_at") rfl), (F.bindsN fun _ _ _ _ _ _ us hl => match us, hl with | [_, _], _ => rfl)⟩
theorem cal_links_in (H : Hd K h mg) : Cal P w K mg base 4 "links_in" ["log", "drift", "stretch"] (spP K (F_links_in.S (He.ga K "Log"))) := by
  obtain ⟨fd, F⟩ := H.c.def_ 27 rfl
  have F : FnP K "links_in" "links_in" (top 17) (He.fAd K ("links_in", none)) fd := F
  exact ⟨_, fd, F_links_in.ok F H.txt (cal_Log_grade_at H), He.glo_ok H.X H.G (H.c.fact 75 (f := .glo "links_in") rfl), F.kp, (F.bindsN fun _ _ _ _ _ _ us hl => match us, hl with | [_, _, _], _ => rfl)⟩
theorem cal_links_of (H : Hd K h mg) : Cal P w K mg base 7 "links_of" ["log"] (spP K (F_links_of.S (He.ga K "Log"))) := by
  obtain ⟨fd, F⟩ := H.c.def_ 28 rfl
  have F : FnP K "links_of" "links_of" (top 18) (He.fAd K ("links_of", none)) fd := F
  exact ⟨_, fd, F_links_of.ok F H.txt (cal_Log_judges H) (cal_Log_stretches H) (cal_links_in H), He.glo_ok H.X H.G (H.c.fact 76 (f := .glo "links_of") rfl), F.kp, (F.bindsN fun _ _ _ _ _ _ us hl => match us, hl with | [_], _ => rfl)⟩
theorem cal_ends_of (H : Hd K h mg) : Cal P w K mg base 8 "ends_of_links" ["log"] (spP K (F_ends_of.S (He.ga K "Log"))) := by
  obtain ⟨fd, F⟩ := H.c.def_ 29 rfl
  have F : FnP K "ends_of" "ends_of" (top 19) (He.fAd K ("ends_of_links", none)) fd := F
  exact ⟨_, fd, F_ends_of.ok F H.txt (cal_Log_item_at H) (cal_Log_answers H) (cal_links_of H), He.glo_ok H.X H.G (H.c.fact 77 (f := .glo "ends_of_links") rfl), F.kp, (F.bindsN fun _ _ _ _ _ _ us hl => match us, hl with | [_], _ => rfl)⟩
theorem cal_reached (H : Hd K h mg) : Cal P w K mg base 1 "reached" ["items", "ends"] (spP K (F_reached.S)) := by
  obtain ⟨fd, F⟩ := H.c.def_ 30 rfl
  have F : FnP K "reached" "reached" (top 23) (He.fAd K ("reached", none)) fd := F
  exact ⟨_, fd, F_reached.ok F H.txt, He.glo_ok H.X H.G (H.c.fact 78 (f := .glo "reached") rfl), F.kp, (F.bindsN fun _ _ _ _ _ _ us hl => match us, hl with | [_, _], _ => rfl)⟩
theorem cal_better_by (H : Hd K h mg) : Cal P w K mg base 9 "better_by" ["log", "places"] (spP K (F_better_by.S (He.ga K "Log"))) := by
  obtain ⟨fd, F⟩ := H.c.def_ 31 rfl
  have F : FnP K "better_by" "better_by" (top 24) (He.fAd K ("better_by", none)) fd := F
  exact ⟨_, fd, F_better_by.ok F H.txt (cal_ends_of H) (cal_Log_item_names H) (cal_reached H), He.glo_ok H.X H.G (H.c.fact 79 (f := .glo "better_by") rfl), F.kp, (F.bindsN fun _ _ _ _ _ _ us hl => match us, hl with | [_, _], _ => rfl)⟩
theorem cal_has_ring (H : Hd K h mg) : Cal P w K mg base 1 "has_ring" ["better"] (spP K (F_has_ring.S)) := by
  obtain ⟨fd, F⟩ := H.c.def_ 32 rfl
  have F : FnP K "has_ring" "has_ring" (top 75) (He.fAd K ("has_ring", none)) fd := F
  exact ⟨_, fd, F_has_ring.ok F H.txt, He.glo_ok H.X H.G (H.c.fact 80 (f := .glo "has_ring") rfl), F.kp, (F.bindsN fun _ _ _ _ _ _ us hl => match us, hl with | [_], _ => rfl)⟩
theorem cal_has_all (H : Hd K h mg) : Cal P w K mg base 2 "has_all" ["better", "others"] (spP K (F_has_all.S)) := by
  obtain ⟨fd, F⟩ := H.c.def_ 33 rfl
  have F : FnP K "has_all" "has_all" (top 76) (He.fAd K ("has_all", none)) fd := F
  exact ⟨_, fd, F_has_all.ok F H.txt (cal_has_ring H), He.glo_ok H.X H.G (H.c.fact 81 (f := .glo "has_all") rfl), F.kp, (F.bindsN fun _ _ _ _ _ _ us hl => match us, hl with | [_, _], _ => rfl)⟩
theorem cal_says_all (H : Hd K h mg) : Cal P w K mg base 10 "says_all" ["one", "other"] (spP K (F_says_all.S (He.ga K "Log"))) := by
  obtain ⟨fd, F⟩ := H.c.def_ 34 rfl
  have F : FnP K "says_all" "says_all" (top 77) (He.fAd K ("says_all", none)) fd := F
  exact ⟨_, fd, F_says_all.ok F H.txt (cal_check_alike H) (cal_Log_answers H) (cal_better_by H) (cal_has_all H), He.glo_ok H.X H.G (H.c.fact 82 (f := .glo "says_all") rfl), F.kp, (F.bindsN fun _ _ _ _ _ _ us hl => match us, hl with | [_, _], _ => rfl)⟩
theorem cal_say_same (H : Hd K h mg) : Cal P w K mg base 11 "say_same" ["one", "other"] (spP K (F_say_same.S (He.ga K "Log"))) := by
  obtain ⟨fd, F⟩ := H.c.def_ 35 rfl
  have F : FnP K "say_same" "say_same" (top 78) (He.fAd K ("say_same", none)) fd := F
  exact ⟨_, fd, F_say_same.ok F H.txt (cal_says_all H), He.glo_ok H.X H.G (H.c.fact 83 (f := .glo "say_same") rfl), F.kp, (F.bindsN fun _ _ _ _ _ _ us hl => match us, hl with | [_, _], _ => rfl)⟩
theorem cal_Log_grades (H : Hd K h mg) : CalP P w K mg base (He.ga K "Log") 1 "grades" (spP K (F_Log_grades.S (He.ga K "Log"))) := by
  obtain ⟨h1, h2, h3⟩ := H.p _ (List.mem_of_getElem? (show prsL[2]? = some _ from rfl))
  obtain ⟨fd, F⟩ := fdB_ok h3 h2
  have F : FnP K "grades" "Log.grades" (inClass (top 43) 2) (pgA K "Log" "grades") fd := F
  exact ⟨_, _, fd, F_Log_grades.ok F H.txt, pgB_ok h1, (F.bindsN fun _ _ _ _ _ _ us hl => match us, hl with | [_], _ => rfl)⟩
theorem cal_Log_events (H : Hd K h mg) : CalP P w K mg base (He.ga K "Log") 1 "events" (spP K (F_Log_events.S (He.ga K "Log"))) := by
  obtain ⟨h1, h2, h3⟩ := H.p _ (List.mem_of_getElem? (show prsL[3]? = some _ from rfl))
  obtain ⟨fd, F⟩ := fdB_ok h3 h2
  have F : FnP K "events" "Log.events" (inClass (top 43) 4) (pgA K "Log" "events") fd := F
  exact ⟨_, _, fd, F_Log_events.ok F H.txt, pgB_ok h1, (F.bindsN fun _ _ _ _ _ _ us hl => match us, hl with | [_], _ => rfl)⟩
theorem cal_check_offices (H : Hd K h mg) : Cal P w K mg base 3 "check_offices" ["logs"] (spP K (F_check_offices.S (He.ga K "Log"))) := by
  obtain ⟨fd, F⟩ := H.c.def_ 36 rfl
  have F : FnP K "check_offices" "check_offices" (top 48) (He.fAd K ("check_offices", none)) fd := F
  exact ⟨_, fd, F_check_offices.ok F H.txt (cal_Log_item_names H) (cal_Log_grades H) (cal_Log_judges H) (cal_Log_events H), He.glo_ok H.X H.G (H.c.fact 84 (f := .glo "check_offices") rfl), F.kp, (F.bindsN fun _ _ _ _ _ _ us hl => match us, hl with | [_], _ => rfl)⟩
theorem cal_names_in (H : Hd K h mg) : Cal P w K mg base 3 "names_in" ["log", "office"] (spP K (F_names_in.S (He.ga K "Log"))) := by
  obtain ⟨fd, F⟩ := H.c.def_ 37 rfl
  have F : FnP K "names_in" "names_in" (top 49) (He.fAd K ("names_in", none)) fd := F
  exact ⟨_, fd, F_names_in.ok F H.txt (cal_Log_judges H), He.glo_ok H.X H.G (H.c.fact 85 (f := .glo "names_in") rfl), F.kp, (F.bindsN fun _ _ _ _ _ _ us hl => match us, hl with | [_, _], _ => rfl)⟩
theorem cal_side_by_side (H : Hd K h mg) : Cal P w K mg base 5 "side_by_side" ["logs", "offices"] (spP K (F_side_by_side.S (He.ga K "Log"))) := by
  obtain ⟨fd, F⟩ := H.c.def_ 38 rfl
  have F : FnP K "side_by_side" "side_by_side" (top 50) (He.fAd K ("side_by_side", none)) fd := F
  exact ⟨_, fd, F_side_by_side.ok F H.txt (cal_names_in H) (cal_Log_judges H) (cal_Log_events H) (cal_Log_item_names H) (cal_Log_grades H) (cal_Log___init__ H), He.glo_ok H.X H.G (H.c.fact 86 (f := .glo "side_by_side") rfl), F.kp, (F.bindsN fun _ _ _ _ _ _ us hl => match us, hl with | [_, _], _ => rfl)⟩
theorem cal_joined (H : Hd K h mg) : Cal P w K mg base 6 "joined" ["logs"] (spP K (F_joined.S (He.ga K "Log"))) := by
  obtain ⟨fd, F⟩ := H.c.def_ 39 rfl
  have F : FnP K "joined" "joined" (top 51) (He.fAd K ("joined", none)) fd := F
  exact ⟨_, fd, F_joined.ok F H.txt (cal_check_offices H) (cal_side_by_side H), He.glo_ok H.X H.G (H.c.fact 87 (f := .glo "joined") rfl), F.kp, (F.bindsN fun _ _ _ _ _ _ us hl => match us, hl with | [_], _ => rfl)⟩
theorem cal_lengths_to (H : Hd K h mg) : Cal P w K mg base 1 "lengths_to" ["ends", "better"] (spP K (F_lengths_to.S)) := by
  obtain ⟨fd, F⟩ := H.c.def_ 40 rfl
  have F : FnP K "lengths_to" "lengths_to" (top 21) (He.fAd K ("lengths_to", none)) fd := F
  exact ⟨_, fd, F_lengths_to.ok F H.txt, He.glo_ok H.X H.G (H.c.fact 88 (f := .glo "lengths_to") rfl), F.kp, (F.bindsN fun _ _ _ _ _ _ us hl => match us, hl with | [_, _], _ => rfl)⟩
theorem cal_first_way (H : Hd K h mg) : Cal P w K mg base 2 "first_way" ["ends", "worse", "better"] (spP K (F_first_way.S)) := by
  obtain ⟨fd, F⟩ := H.c.def_ 41 rfl
  have F : FnP K "first_way" "first_way" (top 22) (He.fAd K ("first_way", none)) fd := F
  exact ⟨_, fd, F_first_way.ok F H.txt (cal_lengths_to H), He.glo_ok H.X H.G (H.c.fact 89 (f := .glo "first_way") rfl), F.kp, (F.bindsN fun _ _ _ _ _ _ us hl => match us, hl with | [_, _, _], _ => rfl)⟩
theorem cal_ring_of (H : Hd K h mg) : Cal P w K mg base 9 "ring_of" ["log"] (spP K (F_ring_of.S (He.ga K "Log"))) := by
  obtain ⟨fd, F⟩ := H.c.def_ 42 rfl
  have F : FnP K "ring_of" "ring_of" (top 27) (He.fAd K ("ring_of", none)) fd := F
  exact ⟨_, fd, F_ring_of.ok F H.txt (cal_ends_of H) (cal_Log_item_names H) (cal_first_way H), He.glo_ok H.X H.G (H.c.fact 90 (f := .glo "ring_of") rfl), F.kp, (F.bindsN fun _ _ _ _ _ _ us hl => match us, hl with | [_], _ => rfl)⟩
theorem cal_ring_in (H : Hd K h mg) : Cal P w K mg base 10 "ring_in" ["logs"] (spP K (F_ring_in.S (He.ga K "Log"))) := by
  obtain ⟨fd, F⟩ := H.c.def_ 43 rfl
  have F : FnP K "ring_in" "ring_in" (top 52) (He.fAd K ("ring_in", none)) fd := F
  exact ⟨_, fd, F_ring_in.ok F H.txt (cal_joined H) (cal_ring_of H) (cal_Log_events H), He.glo_ok H.X H.G (H.c.fact 91 (f := .glo "ring_in") rfl), F.kp, (F.bindsN fun _ _ _ _ _ _ us hl => match us, hl with | [_], _ => rfl)⟩
theorem cal_read_grade (H : Hd K h mg) : Cal P w K mg base 1 "read_grade" ["word"] (spP K (F_read_grade.S)) := by
  obtain ⟨fd, F⟩ := H.c.def_ 44 rfl
  have F : FnP K "read_grade" "read_grade" (top 68) (He.fAd K ("read_grade", none)) fd := F
  exact ⟨_, fd, F_read_grade.ok F H.txt, He.glo_ok H.X H.G (H.c.fact 92 (f := .glo "read_grade") rfl), F.kp, (F.bindsN fun _ _ _ _ _ _ us hl => match us, hl with | [_], _ => rfl)⟩
theorem cal_read_event (H : Hd K h mg) : Cal P w K mg base 2 "read_event" ["line"] (spP K (F_read_event.S)) := by
  obtain ⟨fd, F⟩ := H.c.def_ 45 rfl
  have F : FnP K "read_event" "read_event" (top 69) (He.fAd K ("read_event", none)) fd := F
  exact ⟨_, fd, F_read_event.ok F H.txt (cal_is_name H) (cal_read_grade H), He.glo_ok H.X H.G (H.c.fact 93 (f := .glo "read_event") rfl), F.kp, (F.bindsN fun _ _ _ _ _ _ us hl => match us, hl with | [_], _ => rfl)⟩
theorem cal_read_line (H : Hd K h mg) : Cal P w K mg base 3 "read_line" ["line"] (spP K (F_read_line.S)) := by
  obtain ⟨fd, F⟩ := H.c.def_ 46 rfl
  have F : FnP K "read_line" "read_line" (top 70) (He.fAd K ("read_line", none)) fd := F
  exact ⟨_, fd, F_read_line.ok F H.txt (cal_read_grade H) (cal_read_event H), He.glo_ok H.X H.G (H.c.fact 94 (f := .glo "read_line") rfl), F.kp, (F.bindsN fun _ _ _ _ _ _ us hl => match us, hl with | [_], _ => rfl)⟩
theorem cal_made_log (H : Hd K h mg) : Cal P w K mg base 5 "made_log" ["found", "line"] (spP K (F_made_log.S (He.ga K "Log"))) := by
  obtain ⟨fd, F⟩ := H.c.def_ 47 rfl
  have F : FnP K "made_log" "made_log" (top 71) (He.fAd K ("made_log", none)) fd := F
  exact ⟨_, fd, F_made_log.ok F H.txt (cal_Log___init__ H), He.glo_ok H.X H.G (H.c.fact 95 (f := .glo "made_log") rfl), F.kp, (F.bindsN fun _ _ _ _ _ _ us hl => match us, hl with | [_, _], _ => rfl)⟩
theorem cal_parse_log (H : Hd K h mg) : Cal P w K mg base 6 "parse_log" ["text"] (spP K (F_parse_log.S (He.ga K "Log"))) := by
  obtain ⟨fd, F⟩ := H.c.def_ 48 rfl
  have F : FnP K "parse_log" "parse_log" (top 72) (He.fAd K ("parse_log", none)) fd := F
  exact ⟨_, fd, F_parse_log.ok F H.txt (cal_read_line H) (cal_made_log H), He.glo_ok H.X H.G (H.c.fact 96 (f := .glo "parse_log") rfl), F.kp, (F.bindsN fun _ _ _ _ _ _ us hl => match us, hl with | [_], _ => rfl)⟩
theorem cal_format_event (H : Hd K h mg) : Cal P w K mg base 1 "format_event" ["event"] (spP K (F_format_event.S)) := by
  obtain ⟨fd, F⟩ := H.c.def_ 49 rfl
  have F : FnP K "format_event" "format_event" (top 66) (He.fAd K ("format_event", none)) fd := F
  exact ⟨_, fd, F_format_event.ok F H.txt, He.glo_ok H.X H.G (H.c.fact 97 (f := .glo "format_event") rfl), F.kp, (F.bindsN fun _ _ _ _ _ _ us hl => match us, hl with | [_], _ => rfl)⟩
theorem cal_format_log (H : Hd K h mg) : Cal P w K mg base 3 "format_log" ["log"] (spP K (F_format_log.S (He.ga K "Log"))) := by
  obtain ⟨fd, F⟩ := H.c.def_ 50 rfl
  have F : FnP K "format_log" "format_log" (top 67) (He.fAd K ("format_log", none)) fd := F
  exact ⟨_, fd, F_format_log.ok F H.txt (cal_Log_item_names H) (cal_Log_grades H) (cal_Log_judges H) (cal_Log_events H) (cal_format_event H), He.glo_ok H.X H.G (H.c.fact 98 (f := .glo "format_log") rfl), F.kp, (F.bindsN fun _ _ _ _ _ _ us hl => match us, hl with | [_], _ => rfl)⟩
theorem cal_Desk___init__ (H : Hd K h mg) : CalC P w K mg base (He.ga K "Desk") 1 "Desk" ["self", "log"] (spM K (F_Desk___init__.S (He.ga K "Log") (He.ga K "Desk"))) := by
  obtain ⟨fd, F⟩ := H.c.def_ 51 rfl
  have F : FnP K "__init__" "Desk.__init__" (inClass (top 85) 0) (He.fAd K ("Desk", some "__init__")) fd := F
  exact ⟨_, fd, F_Desk___init__.ok F H.txt, He.mkr_ok (H.c.fact 41 (f := .mkr "Desk") rfl), He.glo_ok H.X H.G (H.c.fact 44 (f := .glo "Desk") rfl), (F.bindsN fun _ _ _ _ _ _ us hl => match us, hl with | [_, _], _ => rfl)⟩
theorem cal_Session___init__ (H : Hd K h mg) : CalC P w K mg base (He.ga K "Session") 3 "Session" ["self", "log"] (spM K (F_Session___init__.S (He.ga K "Log") (He.ga K "Desk") (He.ga K "Session"))) := by
  obtain ⟨fd, F⟩ := H.c.def_ 52 rfl
  have F : FnP K "__init__" "Session.__init__" (inClass (top 92) 0) (He.fAd K ("Session", some "__init__")) fd := F
  exact ⟨_, fd, F_Session___init__.ok F H.txt (cal_Desk___init__ H), He.mkr_ok (H.c.fact 42 (f := .mkr "Session") rfl), He.glo_ok H.X H.G (H.c.fact 45 (f := .glo "Session") rfl), (F.bindsN fun _ _ _ _ _ _ us hl => match us, hl with | [_, _], _ => rfl)⟩
theorem cal_Log_told (H : Hd K h mg) : CalM P w K mg base (He.ga K "Log") 1 "told" ["self"] (spP K (F_Log_told.S (He.ga K "Log"))) := by
  obtain ⟨fd, F⟩ := H.c.def_ 53 rfl
  have F : FnP K "told" "Log.told" (inClass (top 43) 34) (He.fAd K ("Log", some "told")) fd := F
  exact ⟨_, fd, F_Log_told.ok F H.txt, He.meth_ok (H.c.fact 99 (f := .meth "Log" "told") rfl), (F.bindsN fun _ _ _ _ _ _ us hl => match us, hl with | [_], _ => rfl)⟩
theorem cal_Log_same_as (H : Hd K h mg) : CalM P w K mg base (He.ga K "Log") 2 "same_as" ["self", "other"] (spP K (F_Log_same_as.S (He.ga K "Log"))) := by
  obtain ⟨fd, F⟩ := H.c.def_ 54 rfl
  have F : FnP K "same_as" "Log.same_as" (inClass (top 43) 35) (He.fAd K ("Log", some "same_as")) fd := F
  exact ⟨_, fd, F_Log_same_as.ok F H.txt (cal_Log_told H), He.meth_ok (H.c.fact 100 (f := .meth "Log" "same_as") rfl), (F.bindsN fun _ _ _ _ _ _ us hl => match us, hl with | [_, _], _ => rfl)⟩
theorem cal_worse_than (H : Hd K h mg) : Cal P w K mg base 10 "worse_than" ["log"] (spP K (F_worse_than.S (He.ga K "Log"))) := by
  obtain ⟨fd, F⟩ := H.c.def_ 55 rfl
  have F : FnP K "worse_than" "worse_than" (top 25) (He.fAd K ("worse_than", none)) fd := F
  exact ⟨_, fd, F_worse_than.ok F H.txt (cal_Log_answers H) (cal_better_by H) (cal_Log_item_names H), He.glo_ok H.X H.G (H.c.fact 101 (f := .glo "worse_than") rfl), F.kp, (F.bindsN fun _ _ _ _ _ _ us hl => match us, hl with | [_], _ => rfl)⟩
theorem cal_worse_in (H : Hd K h mg) : CalX P w K mg base 11 "worse_in" ["log"] (spX K (He.ga K "Unexplained") (F_worse_in.S (He.ga K "Log"))) := by
  obtain ⟨fd, F⟩ := H.c.def_ 56 rfl
  have F : FnP K "worse_in" "worse_in" (top 55) (He.fAd K ("worse_in", none)) fd := F
  exact ⟨_, fd, F_worse_in.ok F H.txt H.txU (cal_worse_than H), He.glo_ok H.X H.G (H.c.fact 102 (f := .glo "worse_in") rfl), F.kp, (F.bindsN fun _ _ _ _ _ _ us hl => match us, hl with | [_], _ => rfl)⟩
theorem cal_sure_pairs (H : Hd K h mg) : CalX P w K mg base 12 "sure_pairs" ["log"] (spX K (He.ga K "Unexplained") (F_sure_pairs.S (He.ga K "Log"))) := by
  obtain ⟨fd, F⟩ := H.c.def_ 57 rfl
  have F : FnP K "sure_pairs" "sure_pairs" (top 56) (He.fAd K ("sure_pairs", none)) fd := F
  exact ⟨_, fd, F_sure_pairs.ok F H.txt H.txU (cal_worse_in H) (cal_Log_item_names H), He.glo_ok H.X H.G (H.c.fact 103 (f := .glo "sure_pairs") rfl), F.kp, (F.bindsN fun _ _ _ _ _ _ us hl => match us, hl with | [_], _ => rfl)⟩
theorem cal_found_answer (H : Hd K h mg) : Cal P w K mg base 13 "found_answer" ["log", "question"] (spP K (F_found_answer.S (He.ga K "Log"))) := by
  obtain ⟨fd, F⟩ := H.c.def_ 58 rfl
  have F : FnP K "found_answer" "found_answer" (top 83) (He.fAd K ("found_answer", none)) fd := F
  exact ⟨_, fd, F_found_answer.ok F H.txt H.txU (cal_ring_of H) (cal_sure_pairs H), He.glo_ok H.X H.G (H.c.fact 104 (f := .glo "found_answer") rfl), F.kp, (F.bindsN fun _ _ _ _ _ _ us hl => match us, hl with | [_, _], _ => rfl)⟩
theorem cal_copied (H : Hd K h mg) : Cal P w K mg base 1 "copied" ["answer"] (spP K (F_copied.S)) := by
  obtain ⟨fd, F⟩ := H.c.def_ 59 rfl
  have F : FnP K "copied" "copied" (top 84) (He.fAd K ("copied", none)) fd := F
  exact ⟨_, fd, F_copied.ok F H.txt, He.glo_ok H.X H.G (H.c.fact 105 (f := .glo "copied") rfl), F.kp, (F.bindsN fun _ _ _ _ _ _ us hl => match us, hl with | [_], _ => rfl)⟩
theorem cal_Desk_answer (H : Hd K h mg) : CalM P w K mg base (He.ga K "Desk") 14 "answer" ["self", "question"] (spM K (F_Desk_answer.S (He.ga K "Log") (He.ga K "Desk"))) := by
  obtain ⟨fd, F⟩ := H.c.def_ 60 rfl
  have F : FnP K "answer" "Desk.answer" (inClass (top 85) 10) (He.fAd K ("Desk", some "answer")) fd := F
  exact ⟨_, fd, F_Desk_answer.ok F H.txt (cal_format_log H) (cal_found_answer H) (cal_copied H), He.meth_ok (H.c.fact 106 (f := .meth "Desk" "answer") rfl), (F.bindsN fun _ _ _ _ _ _ us hl => match us, hl with | [_, _], _ => rfl)⟩
theorem cal_deed_of (H : Hd K h mg) : Cal P w K mg base 3 "deed_of" ["line"] (spP K (F_deed_of.S)) := by
  obtain ⟨fd, F⟩ := H.c.def_ 61 rfl
  have F : FnP K "deed_of" "deed_of" (top 91) (He.fAd K ("deed_of", none)) fd := F
  exact ⟨_, fd, F_deed_of.ok F H.txt (cal_read_event H), He.glo_ok H.X H.G (H.c.fact 107 (f := .glo "deed_of") rfl), F.kp, (F.bindsN fun _ _ _ _ _ _ us hl => match us, hl with | [_], _ => rfl)⟩
theorem cal_Session_told (H : Hd K h mg) : CalM P w K mg base (He.ga K "Session") 15 "told" ["self", "word"] (spM K (F_Session_told.S (He.ga K "Log") (He.ga K "Desk") (He.ga K "Session"))) := by
  obtain ⟨fd, F⟩ := H.c.def_ 62 rfl
  have F : FnP K "told" "Session.told" (inClass (top 92) 7) (He.fAd K ("Session", some "told")) fd := F
  exact ⟨_, fd, F_Session_told.ok F H.txt (cal_Desk_answer H), He.meth_ok (H.c.fact 108 (f := .meth "Session" "told") rfl), (F.bindsN fun _ _ _ _ _ _ us hl => match us, hl with | [_, _], _ => rfl)⟩
theorem cal_Session_obeyed (H : Hd K h mg) : CalM P w K mg base (He.ga K "Session") 16 "obeyed" ["self", "line"] (spM K (F_Session_obeyed.S (He.ga K "Log") (He.ga K "Desk") (He.ga K "Session"))) := by
  obtain ⟨fd, F⟩ := H.c.def_ 63 rfl
  have F : FnP K "obeyed" "Session.obeyed" (inClass (top 92) 3) (He.fAd K ("Session", some "obeyed")) fd := F
  exact ⟨_, fd, F_Session_obeyed.ok F H.txt (cal_deed_of H) (cal_Session_told H), He.meth_ok (H.c.fact 109 (f := .meth "Session" "obeyed") rfl), (F.bindsN fun _ _ _ _ _ _ us hl => match us, hl with | [_, _], _ => rfl)⟩
theorem cal_Session_obey (H : Hd K h mg) : CalM P w K mg base (He.ga K "Session") 17 "obey" ["self", "line"] (spM K (F_Session_obey.S (He.ga K "Log") (He.ga K "Desk") (He.ga K "Session"))) := by
  obtain ⟨fd, F⟩ := H.c.def_ 64 rfl
  have F : FnP K "obey" "Session.obey" (inClass (top 92) 1) (He.fAd K ("Session", some "obey")) fd := F
  exact ⟨_, fd, F_Session_obey.ok F H.txt (cal_Session_obeyed H), He.meth_ok (H.c.fact 110 (f := .meth "Session" "obey") rfl), (F.bindsN fun _ _ _ _ _ _ us hl => match us, hl with | [_, _], _ => rfl)⟩
theorem cal_check_explained (H : Hd K h mg) : Cal P w K mg base 10 "check_explained" ["log"] (spP K (F_check_explained.S (He.ga K "Log"))) := by
  obtain ⟨fd, F⟩ := H.c.def_ 65 rfl
  have F : FnP K "check_explained" "check_explained" (top 45) (He.fAd K ("check_explained", none)) fd := F
  exact ⟨_, fd, F_check_explained.ok F H.txt (cal_ring_of H), He.glo_ok H.X H.G (H.c.fact 111 (f := .glo "check_explained") rfl), F.kp, (F.bindsN fun _ _ _ _ _ _ us hl => match us, hl with | [_], _ => rfl)⟩
theorem cal_pairs_of (H : Hd K h mg) : Cal P w K mg base 11 "pairs_of" ["log"] (spP K (F_pairs_of.S (He.ga K "Log"))) := by
  obtain ⟨fd, F⟩ := H.c.def_ 66 rfl
  have F : FnP K "pairs_of" "pairs_of" (top 46) (He.fAd K ("pairs_of", none)) fd := F
  exact ⟨_, fd, F_pairs_of.ok F H.txt (cal_worse_than H) (cal_Log_item_names H), He.glo_ok H.X H.G (H.c.fact 112 (f := .glo "pairs_of") rfl), F.kp, (F.bindsN fun _ _ _ _ _ _ us hl => match us, hl with | [_], _ => rfl)⟩
theorem cal_together (H : Hd K h mg) : Cal P w K mg base 12 "together" ["logs"] (spP K (F_together.S (He.ga K "Log"))) := by
  obtain ⟨fd, F⟩ := H.c.def_ 67 rfl
  have F : FnP K "together" "together" (top 53) (He.fAd K ("together", none)) fd := F
  exact ⟨_, fd, F_together.ok F H.txt (cal_joined H) (cal_check_explained H) (cal_pairs_of H), He.glo_ok H.X H.G (H.c.fact 113 (f := .glo "together") rfl), F.kp, (F.bindsN fun _ _ _ _ _ _ us hl => match us, hl with | [_], _ => rfl)⟩
theorem law_all (H : Hd K h mg) : ∃ fd, FnP K "law" "law" (top 109) (He.fAd K ("law", none)) fd ∧ ∀ (P : Program) (w : World) (base : Heap), FnOk P w K mg base CX0 18 (He.fAd K ("law", none)) fd ["_law_script"] (spP K (F_law.S)) := by
  obtain ⟨fd, F⟩ := H.c.def_ 68 rfl
  have F : FnP K "law" "law" (top 109) (He.fAd K ("law", none)) fd := F
  exact ⟨fd, F, fun P w base => F_law.ok F H.txt (cal__law_numbers H) (cal__law_parts H) (cal__law_log H) (cal__law_alone H) (cal__law_has_ring H) (cal__law_pairs H) (cal_say_same H) (cal_joined H) (cal_ring_in H) (cal_parse_log H) (cal_format_log H) (cal_Desk___init__ H) (cal_Session___init__ H) (cal_Log_same_as H) (cal_Desk_answer H) (cal_Session_obey H) (cal_sure_pairs H) (cal_together H)⟩
theorem law_glo (H : Hd K h mg) : mg "law" = some (.ref (He.ga K "law")) := He.glo_ok H.X H.G (H.c.fact 114 (f := .glo "law") rfl)
end
end RB
/-! The end. -/
namespace RB
open PySem PySem.Spec PyProof.Rows L2 L3
theorem says_of {K : Fg} (e : obsP K = valP) : He.SaysD fasL fnsL K ∧ obsQ K = valQ := by
  have e1 : He.obsD fasL [] K = He.valD [] := congrArg (fun z : AlP => z.1) e
  have e2 : He.obsD [] fnsL K = He.valD fnsL := congrArg (fun z : AlP => z.2.1) e
  have e3 : obsQ K = valQ := congrArg (fun z : AlP => z.2.2) e
  refine ⟨?_, e3⟩
  have k1 : ((fasL.all fun f => f.ok K) && true) = true := congrArg (fun z : He.AlD => z.1) e1
  have k2 : (true && fnsL.all fun d => d.ok K) = true := congrArg (fun z : He.AlD => z.1) e2
  have k3 : (fnsL.map fun d => He.fnW K d.at_) = fnsL.map He.DefD.val := congrArg (fun z : He.AlD => z.2) e2
  rw [Bool.and_true] at k1
  rw [Bool.true_and] at k2
  show (((fasL.all fun f => f.ok K) && fnsL.all fun d => d.ok K), fnsL.map fun d => He.fnW K d.at_) = He.valD fnsL
  rw [k1, k2, k3]
  rfl
theorem map_at {α β : Type} {f g : α → β} : ∀ {xs : List α}, xs.map f = xs.map g → ∀ x ∈ xs, f x = g x
  | y :: ys, h, x, hx => by
    rw [List.map_cons, List.map_cons] at h
    injection h with h1 h2
    rcases List.mem_cons.mp hx with rfl | hx
    · exact h1
    · exact map_at h2 x hx
theorem hd_of {K : Fg} {h : Heap} {mg : Str → Option Value} (X : K.In h) (G : h.Ns mainGlobals mg) (e : obsP K = valP) : Hd K h mg := by
  obtain ⟨c, e3⟩ := says_of e
  have k1 : (prsL.map fun p => fdA K (pgA K p.1 p.2.1)) = prsL.map fun p => p.2.2.val := congrArg (fun z : List He.FnW × Bool => z.1) e3
  have k2 : ((prsL.all fun p => pgB K p.1 p.2.1 && fdB K (pgA K p.1 p.2.1) p.2.2) && He.lstB K "SORTS" sortsV) = true := congrArg (fun z : List He.FnW × Bool => z.2) e3
  rw [Bool.and_eq_true] at k2
  refine ⟨X, G, c, fun p hp => ?_, k2.2⟩
  have k3 := List.all_eq_true.mp k2.1 p hp
  rw [Bool.and_eq_true] at k3
  exact ⟨k3.1, k3.2, map_at k1 p hp⟩
/-- the law's promise at the script -/
theorem law_at {K : Fg} {H : Hp} {a : Addr} {ns : List Int} (hO : Only H) (hS : SqL K H a (ns.map V.int)) : spP K F_law.S [.ref a] H (fun v _ => v = .bl true) fun _ _ _ => False := by
  refine ⟨[.lsr (ns.map D.int)], H, ⟨fun _ => none, []⟩, fun d => d = .bl true, ⟨fun _ _ e => e, (fun _ _ e => by cases e), fun b o u e => ?_⟩, rfl, .cons (.lsr hS (Reps.ofInts ns)) .nil, ⟨_, ns, rfl, .inr (.inl rfl), rfl⟩, fun v d H' B' _ _ r q => ?_⟩
  · rcases hO b with z | ⟨o2, xs, z⟩
    · rw [z] at e
      cases e
    · rw [z] at e
      cases e
      exact .inl fun _ z => by cases z
  · subst q
    cases r
    rfl
end RB
open PySem PySem.W PySem.Calls PyProof.Rows
set_option maxHeartbeats 0 in
theorem PySem.Challenge.cw_risingbars_k83_whole_offices_and_texts_holds : PySem.Challenge.rw_risingbars_k83_whole_offices_and_texts.Holds := by
  refine RB.h_fin ?_
  refine L2.walk_ofE (l := PySem.Challenge.rw_risingbars_k83_whole_offices_and_texts) (n := 63) (k := 18) (x := "_law_script") (CX := L2.CX0) rfl (by decide) (by kernel_rfl) ⟨rfl, by decide, by decide⟩ ?F (fun _ _ _ _ z => z)
  intro w mg fa h Y G hmg0
  obtain ⟨K, KX, e⟩ := Y
  have hmg : mg ("law" : PySem.Str) = some (.ref fa) := by
    have e : (RB.dLaw).name = ("law" : PySem.Str) := by kernel_rfl
    rw [← e]
    exact hmg0
  have H := RB.hd_of KX G e
  obtain ⟨fd, F, hF⟩ := RB.law_all H
  have ea : mg ("law" : PySem.Str) = some (.ref (He.fAd K ("law", none))) := RB.law_glo H
  have ef : fa = He.fAd K ("law", none) := by
    rw [hmg] at ea
    cases ea
    rfl
  subst ef
  refine ⟨K, fd, _, KX, ?_, fun H2 a ns hl hO hS => RB.law_at hO hS, fun base _ _ => hF _ w base⟩
  intro s v
  exact L2.FunD.bindsA (ps := ["_law_script"]) F (fun _ _ _ _ _ _ us hl => match us, hl with | [_], _ => rfl) s [v] rfl
