import PyProof.Rows.All
import Wide.All
import OpenK.AllK
import Wide.FinOn
import HandS.ForMost
import HandS.Wide
import HandS.IsInst
import HandS.SortInts
import HandS.EndBits
import HandS.TupAny
import HandS.TupMul
import KE.LtData
import HandS.Style
import HandS.More
import HandS.Zip
import HandS.HeadHook3
import KE.GoesMore
import KE.GoesNew
import KE.GoesEnum
import PySem.Challenge.RW_longwork_k05_on_move_by_move
import HandS.Defaults
import HandS.Head0
import HandS.Head1
import HandS.Head2
import HandS.HeadEnd
import HandS.HeadHook1
import HandS.HeadHook2
import HandS.HeadHook4
import HandS.Deep
import KE.DataFind
import HandS.Conv
set_option Elab.async false
set_option linter.all false
set_option maxRecDepth 100000
set_option maxHeartbeats 0
namespace K05H
open PySem PySem.Spec PyProof.Rows L2
def topS (i : Nat) : Stmt := PySem.Challenge.pw_longwork_k05_on_move_by_move.main.body.getD i (.Pass ⟨0, 0, 0, 0⟩)
abbrev shapes : List (Str × Str) := [(Str.ofString "set", Str.ofString "nx"), (Str.ofString "take", Str.ofString "n"), (Str.ofString "add", Str.ofString "fx"), (Str.ofString "put", Str.ofString "fxx"), (Str.ofString "cut", Str.ofString "fx"), (Str.ofString "get", Str.ofString "nfx"), (Str.ofString "size", Str.ofString "nf"), (Str.ofString "send", Str.ofString "x")]
abbrev jumps : List (Str × Str) := [(Str.ofString "go", Str.ofString "r"), (Str.ofString "unless", Str.ofString "nr"), (Str.ofString "mark", Str.ofString "")]
abbrev FE : List Str := ["row", "taken", "name", "number", "file", "at", "old", "new", "letter", "fault"]
abbrev FM : List Str := ["row", "names", "taken", "passed", "letters"]
abbrev FI : List Str := ["row", "names", "taken", "passed", "letters", "since", "noted", "out", "again"]
abbrev FW : List Str := ["rows", "handed", "way", "often", "held", "letters", "mark", "jots", "made", "over", "inner", "count"]
abbrev s_is_number : Stmt := topS 19
abbrev s_is_part : Stmt := topS 20
abbrev s__law_next : Stmt := topS 40
abbrev s__law_dice : Stmt := topS 39
abbrev s__law_any_part : Stmt := topS 42
abbrev s__law_any_row : Stmt := topS 43
abbrev s__law_any_handed : Stmt := topS 45
abbrev s__law_any_program : Stmt := topS 44
abbrev s_shape_of : Stmt := topS 21
abbrev s_why_not : Stmt := topS 22
abbrev s_need_program : Stmt := topS 23
abbrev s_need_handed : Stmt := topS 24
abbrev s_worth : Stmt := topS 25
abbrev s_Effect___init__ : Stmt := inClass (topS 27) 0
abbrev s_Effect_change : Stmt := inClass (topS 27) 1
abbrev s_changed : Stmt := topS 28
abbrev s_named : Stmt := topS 30
abbrev s_effect : Stmt := topS 29
abbrev s_Mark___init__ : Stmt := inClass (topS 35) 0
abbrev s_Inner___init__ : Stmt := inClass (topS 36) 0
abbrev s_Work_fall : Stmt := inClass (topS 37) 1
abbrev s_Work_files : Stmt := inClass (topS 37) 11
abbrev s_Work_sent : Stmt := inClass (topS 37) 12
abbrev s_Work_stands : Stmt := inClass (topS 37) 13
abbrev s_Work_kept : Stmt := inClass (topS 37) 14
abbrev s_Work_end : Stmt := inClass (topS 37) 15
abbrev s_Work_steps : Stmt := inClass (topS 37) 16
abbrev s_Work_take_over : Stmt := inClass (topS 37) 5
abbrev s_Work_keep : Stmt := inClass (topS 37) 6
abbrev s_Work_ends : Stmt := inClass (topS 37) 7
abbrev s_Work_sends : Stmt := inClass (topS 37) 10
abbrev s_Work_done : Stmt := inClass (topS 37) 9
abbrev s_Work_rise : Stmt := inClass (topS 37) 3
abbrev s_Work_go_through : Stmt := inClass (topS 37) 4
abbrev s_Work_begin : Stmt := inClass (topS 37) 8
abbrev s_Work_move : Stmt := inClass (topS 37) 2
abbrev s_Work___init__ : Stmt := inClass (topS 37) 0
abbrev s__law_like : Stmt := topS 41
abbrev s__law_worth : Stmt := topS 46
abbrev s__law_effect : Stmt := topS 47
abbrev s__law_pass : Stmt := topS 48
abbrev s__law_inner : Stmt := topS 49
abbrev s__law_copy : Stmt := topS 50
abbrev s__law_own : Stmt := topS 51
abbrev s__law_marks : Stmt := topS 52
abbrev s__law_begin : Stmt := topS 53
abbrev s__law_rise : Stmt := topS 54
abbrev s__law_move : Stmt := topS 55
abbrev s__law_all : Stmt := topS 57
abbrev s__law_due : Stmt := topS 58
abbrev s__law_falls : Stmt := topS 56
abbrev s_law : Stmt := topS 59
def dd_is_number : He.DefD := ⟨("is_number", none), "is_number", "is_number", defArgs s_is_number, defBody s_is_number, defScope s_is_number, [], []⟩
def dd_is_part : He.DefD := ⟨("is_part", none), "is_part", "is_part", defArgs s_is_part, defBody s_is_part, defScope s_is_part, [], []⟩
def dd_shape_of : He.DefD := ⟨("shape_of", none), "shape_of", "shape_of", defArgs s_shape_of, defBody s_shape_of, defScope s_shape_of, [], []⟩
def dd_why_not : He.DefD := ⟨("why_not", none), "why_not", "why_not", defArgs s_why_not, defBody s_why_not, defScope s_why_not, [], []⟩
def dd_need_program : He.DefD := ⟨("need_program", none), "need_program", "need_program", defArgs s_need_program, defBody s_need_program, defScope s_need_program, [], []⟩
def dd_need_handed : He.DefD := ⟨("need_handed", none), "need_handed", "need_handed", defArgs s_need_handed, defBody s_need_handed, defScope s_need_handed, [], []⟩
def dd_worth : He.DefD := ⟨("worth", none), "worth", "worth", defArgs s_worth, defBody s_worth, defScope s_worth, [], []⟩
def dd_changed : He.DefD := ⟨("changed", none), "changed", "changed", defArgs s_changed, defBody s_changed, defScope s_changed, [], []⟩
def dd_effect : He.DefD := ⟨("effect", none), "effect", "effect", defArgs s_effect, defBody s_effect, defScope s_effect, [], []⟩
def dd_named : He.DefD := ⟨("named", none), "named", "named", defArgs s_named, defBody s_named, defScope s_named, [], []⟩
def dd__law_dice : He.DefD := ⟨("_law_dice", none), "_law_dice", "_law_dice", defArgs s__law_dice, defBody s__law_dice, defScope s__law_dice, [], []⟩
def dd__law_next : He.DefD := ⟨("_law_next", none), "_law_next", "_law_next", defArgs s__law_next, defBody s__law_next, defScope s__law_next, [], []⟩
def dd__law_like : He.DefD := ⟨("_law_like", none), "_law_like", "_law_like", defArgs s__law_like, defBody s__law_like, defScope s__law_like, [], []⟩
def dd__law_any_part : He.DefD := ⟨("_law_any_part", none), "_law_any_part", "_law_any_part", defArgs s__law_any_part, defBody s__law_any_part, defScope s__law_any_part, [], []⟩
def dd__law_any_row : He.DefD := ⟨("_law_any_row", none), "_law_any_row", "_law_any_row", defArgs s__law_any_row, defBody s__law_any_row, defScope s__law_any_row, [], []⟩
def dd__law_any_program : He.DefD := ⟨("_law_any_program", none), "_law_any_program", "_law_any_program", defArgs s__law_any_program, defBody s__law_any_program, defScope s__law_any_program, [], []⟩
def dd__law_any_handed : He.DefD := ⟨("_law_any_handed", none), "_law_any_handed", "_law_any_handed", defArgs s__law_any_handed, defBody s__law_any_handed, defScope s__law_any_handed, [], []⟩
def dd__law_worth : He.DefD := ⟨("_law_worth", none), "_law_worth", "_law_worth", defArgs s__law_worth, defBody s__law_worth, defScope s__law_worth, [], []⟩
def dd__law_effect : He.DefD := ⟨("_law_effect", none), "_law_effect", "_law_effect", defArgs s__law_effect, defBody s__law_effect, defScope s__law_effect, [], []⟩
def dd__law_pass : He.DefD := ⟨("_law_pass", none), "_law_pass", "_law_pass", defArgs s__law_pass, defBody s__law_pass, defScope s__law_pass, [], []⟩
def dd__law_inner : He.DefD := ⟨("_law_inner", none), "_law_inner", "_law_inner", defArgs s__law_inner, defBody s__law_inner, defScope s__law_inner, [], []⟩
def dd__law_copy : He.DefD := ⟨("_law_copy", none), "_law_copy", "_law_copy", defArgs s__law_copy, defBody s__law_copy, defScope s__law_copy, [], []⟩
def dd__law_own : He.DefD := ⟨("_law_own", none), "_law_own", "_law_own", defArgs s__law_own, defBody s__law_own, defScope s__law_own, [], []⟩
def dd__law_marks : He.DefD := ⟨("_law_marks", none), "_law_marks", "_law_marks", defArgs s__law_marks, defBody s__law_marks, defScope s__law_marks, [], []⟩
def dd__law_begin : He.DefD := ⟨("_law_begin", none), "_law_begin", "_law_begin", defArgs s__law_begin, defBody s__law_begin, defScope s__law_begin, [], []⟩
def dd__law_rise : He.DefD := ⟨("_law_rise", none), "_law_rise", "_law_rise", defArgs s__law_rise, defBody s__law_rise, defScope s__law_rise, [], []⟩
def dd__law_move : He.DefD := ⟨("_law_move", none), "_law_move", "_law_move", defArgs s__law_move, defBody s__law_move, defScope s__law_move, [], []⟩
def dd__law_falls : He.DefD := ⟨("_law_falls", none), "_law_falls", "_law_falls", defArgs s__law_falls, defBody s__law_falls, defScope s__law_falls, [], []⟩
def dd__law_all : He.DefD := ⟨("_law_all", none), "_law_all", "_law_all", defArgs s__law_all, defBody s__law_all, defScope s__law_all, [], []⟩
def dd__law_due : He.DefD := ⟨("_law_due", none), "_law_due", "_law_due", defArgs s__law_due, defBody s__law_due, defScope s__law_due, [], []⟩
def dd_law : He.DefD := ⟨("law", none), "law", "law", defArgs s_law, defBody s_law, defScope s_law, [], []⟩
def dd_Effect___init__ : He.DefD := ⟨("Effect", some "__init__"), "__init__", "Effect.__init__", defArgs s_Effect___init__, defBody s_Effect___init__, defScope s_Effect___init__, [], []⟩
def dd_Effect_change : He.DefD := ⟨("Effect", some "change"), "change", "Effect.change", defArgs s_Effect_change, defBody s_Effect_change, defScope s_Effect_change, [], []⟩
def dd_Mark___init__ : He.DefD := ⟨("Mark", some "__init__"), "__init__", "Mark.__init__", defArgs s_Mark___init__, defBody s_Mark___init__, defScope s_Mark___init__, [], []⟩
def dd_Inner___init__ : He.DefD := ⟨("Inner", some "__init__"), "__init__", "Inner.__init__", defArgs s_Inner___init__, defBody s_Inner___init__, defScope s_Inner___init__, [], []⟩
def dd_Work___init__ : He.DefD := ⟨("Work", some "__init__"), "__init__", "Work.__init__", defArgs s_Work___init__, defBody s_Work___init__, defScope s_Work___init__, [], []⟩
def dd_Work_fall : He.DefD := ⟨("Work", some "fall"), "fall", "Work.fall", defArgs s_Work_fall, defBody s_Work_fall, defScope s_Work_fall, [], []⟩
def dd_Work_move : He.DefD := ⟨("Work", some "move"), "move", "Work.move", defArgs s_Work_move, defBody s_Work_move, defScope s_Work_move, [], []⟩
def dd_Work_rise : He.DefD := ⟨("Work", some "rise"), "rise", "Work.rise", defArgs s_Work_rise, defBody s_Work_rise, defScope s_Work_rise, [], []⟩
def dd_Work_go_through : He.DefD := ⟨("Work", some "go_through"), "go_through", "Work.go_through", defArgs s_Work_go_through, defBody s_Work_go_through, defScope s_Work_go_through, [], []⟩
def dd_Work_take_over : He.DefD := ⟨("Work", some "take_over"), "take_over", "Work.take_over", defArgs s_Work_take_over, defBody s_Work_take_over, defScope s_Work_take_over, [], []⟩
def dd_Work_keep : He.DefD := ⟨("Work", some "keep"), "keep", "Work.keep", defArgs s_Work_keep, defBody s_Work_keep, defScope s_Work_keep, [], []⟩
def dd_Work_ends : He.DefD := ⟨("Work", some "ends"), "ends", "Work.ends", defArgs s_Work_ends, defBody s_Work_ends, defScope s_Work_ends, [], []⟩
def dd_Work_begin : He.DefD := ⟨("Work", some "begin"), "begin", "Work.begin", defArgs s_Work_begin, defBody s_Work_begin, defScope s_Work_begin, [], []⟩
def dd_Work_done : He.DefD := ⟨("Work", some "done"), "done", "Work.done", defArgs s_Work_done, defBody s_Work_done, defScope s_Work_done, [], []⟩
def dd_Work_sends : He.DefD := ⟨("Work", some "sends"), "sends", "Work.sends", defArgs s_Work_sends, defBody s_Work_sends, defScope s_Work_sends, [], []⟩
def dd_Work_files : He.DefD := ⟨("Work", some "files"), "files", "Work.files", defArgs s_Work_files, defBody s_Work_files, defScope s_Work_files, [], []⟩
def dd_Work_sent : He.DefD := ⟨("Work", some "sent"), "sent", "Work.sent", defArgs s_Work_sent, defBody s_Work_sent, defScope s_Work_sent, [], []⟩
def dd_Work_stands : He.DefD := ⟨("Work", some "stands"), "stands", "Work.stands", defArgs s_Work_stands, defBody s_Work_stands, defScope s_Work_stands, [], []⟩
def dd_Work_kept : He.DefD := ⟨("Work", some "kept"), "kept", "Work.kept", defArgs s_Work_kept, defBody s_Work_kept, defScope s_Work_kept, [], []⟩
def dd_Work_end : He.DefD := ⟨("Work", some "end"), "end", "Work.end", defArgs s_Work_end, defBody s_Work_end, defScope s_Work_end, [], []⟩
def dd_Work_steps : He.DefD := ⟨("Work", some "steps"), "steps", "Work.steps", defArgs s_Work_steps, defBody s_Work_steps, defScope s_Work_steps, [], []⟩
def fn : List He.DefD := [dd_is_number, dd_is_part, dd_shape_of, dd_why_not, dd_need_program, dd_need_handed, dd_worth, dd_changed, dd_effect, dd_named, dd__law_dice, dd__law_next, dd__law_like, dd__law_any_part, dd__law_any_row, dd__law_any_program, dd__law_any_handed, dd__law_worth, dd__law_effect, dd__law_pass, dd__law_inner, dd__law_copy, dd__law_own, dd__law_marks, dd__law_begin, dd__law_rise, dd__law_move, dd__law_falls, dd__law_all, dd__law_due, dd_law, dd_Effect___init__, dd_Effect_change, dd_Mark___init__, dd_Inner___init__, dd_Work___init__, dd_Work_fall, dd_Work_move, dd_Work_rise, dd_Work_go_through, dd_Work_take_over, dd_Work_keep, dd_Work_ends, dd_Work_begin, dd_Work_done, dd_Work_sends, dd_Work_files, dd_Work_sent, dd_Work_stands, dd_Work_kept, dd_Work_end, dd_Work_steps]
def faA : List He.Fa := [.glo "is_number", .glo "is_part", .glo "shape_of", .glo "why_not", .glo "need_program", .glo "need_handed", .glo "worth", .glo "changed", .glo "effect", .glo "named", .glo "_law_dice", .glo "_law_next", .glo "_law_like", .glo "_law_any_part", .glo "_law_any_row", .glo "_law_any_program", .glo "_law_any_handed", .glo "_law_worth", .glo "_law_effect", .glo "_law_pass", .glo "_law_inner", .glo "_law_copy", .glo "_law_own", .glo "_law_marks", .glo "_law_begin", .glo "_law_rise", .glo "_law_move", .glo "_law_falls", .glo "_law_all", .glo "_law_due", .glo "law", .free "len", .free "range", .free "int", .free "sum", .free "max", .free "min", .free "sorted", .free "list", .free "tuple", .free "isinstance", .free "enumerate", .free "str", .free "bool", .free "zip", .free "set", .free "dict", .int "REST" (10007), .int "MOST_NAMES" (8), .int "MOST_FILES" (4), .int "MOST_ROWS" (60), .int "MOST_DEEP" (3), .int "MOST_HANDED" (40), .int "MOST_FILE" (40), .int "MOST_STEPS" (1000), .int "MOST_OFTEN" (99), .str "BACK" "back", .str "ON" "on", .glo "PAIRS", .glo "CHANGES", .glo "SHAPES", .glo "JUMPS", .glo "Effect", .glo "Mark", .glo "Inner", .glo "Work", .cls "Effect", .cls "Mark", .cls "Inner", .cls "Work", .mkr "Effect", .meth "Effect" "change", .mkr "Mark", .mkr "Inner", .mkr "Work", .meth "Work" "fall", .meth "Work" "move", .meth "Work" "rise", .meth "Work" "go_through", .meth "Work" "take_over", .meth "Work" "keep", .meth "Work" "ends", .meth "Work" "begin", .meth "Work" "done", .meth "Work" "sends", .meth "Work" "files", .meth "Work" "sent", .meth "Work" "stands", .meth "Work" "kept", .meth "Work" "end", .meth "Work" "steps"]
def fa : List He.Fa := faA ++ (FE).map (He.Fa.noat "Effect") ++ (FM).map (He.Fa.noat "Mark") ++ (FI).map (He.Fa.noat "Inner") ++ (FW).map (He.Fa.noat "Work")
def ts : List He.Tab := [(fun K => He.ga K "SHAPES", shapes.map (·.1)), (fun K => He.ga K "JUMPS", jumps.map (·.1))]
def ex (K : PySem.W.Frag) : Bool := He.tupB K "PAIRS" [.str "sum", .str "diff", .str "less"] && (He.tupB K "CHANGES" [.str "add", .str "put", .str "cut"] && (He.valsB K (He.ga K "SHAPES") (shapes.map fun q => (q.1, He.Dv.str q.2)) && (He.valsB K (He.ga K "JUMPS") (jumps.map fun q => (q.1, He.Dv.str q.2)))))
abbrev Rw : PySem.W.OpenRow := PySem.W.OpenLaw.row PySem.Challenge.rw_longwork_k05_on_move_by_move
abbrev hk : PySem.W.Hook := He.hookX 5 fa fn ts [] ex
def ob (s : PySem.W.SharedT) : He.AlX := He.obsX 5 fa fn ts [] ex (HandSHeadRun.getT s)
theorem ob_eq (s : PySem.W.SharedT) : ob s = hk.obs s.abs := He.obsX_eq (HandSHeadRun.getT_eq s)
def loose0 : List Str := ["WorkError", "BadProgram", "BadHanded", "BadWay", "BadOften", "REST", "MOST_NAMES", "MOST_FILES", "MOST_ROWS", "MOST_DEEP", "MOST_HANDED", "MOST_FILE", "MOST_STEPS", "SHAPES", "JUMPS", "PAIRS", "CHANGES", "is_number", "is_part", "shape_of", "why_not", "need_program", "need_handed", "worth", "Effect", "changed", "effect", "named", "BACK", "ON"]
def loose1 : List Str := ["MOST_OFTEN", "Mark", "Inner", "Work", "_law_dice", "_law_next", "_law_like", "_law_any_part", "_law_any_row", "_law_any_program", "_law_any_handed", "_law_worth", "_law_effect", "_law_pass", "_law_inner", "_law_copy", "_law_own", "_law_marks", "_law_begin", "_law_rise", "_law_move", "_law_falls", "_law_all", "_law_due"]
def loose : List Str := loose0 ++ loose1
theorem runF (w : World) : HandSHeadRun.RunEq Rw (PySem.W.view Rw.prog [59]) hk ob 6000 loose (w.withFollow "special-get-raises" false) := by
  intro os
  kernel_rfl
theorem runT (w : World) : HandSHeadRun.RunEq Rw (PySem.W.view Rw.prog [59]) hk ob 6000 loose (w.withFollow "special-get-raises" true) := by
  intro os
  kernel_rfl
theorem run (w : World) : HandSHeadRun.RunEq Rw (PySem.W.view Rw.prog [59]) hk ob 6000 loose w := PySem.W.byRow2 "special-get-raises" (P := fun w => HandSHeadRun.RunEq Rw (PySem.W.view Rw.prog [59]) hk ob 6000 loose w) runF runT w
end K05H
set_option maxHeartbeats 200000
set_option Elab.async false
set_option linter.all false
set_option maxRecDepth 100000
set_option maxHeartbeats 4000000
/-! DL, first part: live values known by data, a symbolic heap of cells, and how readings of the hand layer are lifted over them. -/
namespace DL
open PySem PySem.Spec PyProof.Rows L2

abbrev Fg := PySem.W.Frag

/-- what a live value is known as: data, or itself -/
inductive R where
  | dat (d : PyData)
  | val (v : V)
  | scr (ns : List Int)
  | tp (rs : List R)
  | obj (C : Addr) (ks : List Str) (rs : List R)
  | dic (ks : List Key) (rs : List R)

def KTup (K : Fg) (a : Addr) (xs : List V) : Prop := ∃ (o : Obj) (its : Array Value) (n : Nat), K.lookup a = some o ∧ o.cls = .type "tuple" ∧ o.data = .seq its n ∧ its.size ≤ sizeLine ∧ Vals xs its.toList

mutual
inductive Rep (K : Fg) (A : Addr → Prop) (H : Hp) : V → PyData → Prop
  | non : Rep K A H .non .none
  | bl (b : Bool) : Rep K A H (.bl b) (.bool b)
  | int (i : Int) : Rep K A H (.int i) (.int i)
  | str (x : Str) : Rep K A H (.str x) (.str x)
  | lst {a : Addr} {xs : List V} {ds : List PyData} : H a = some (.lst xs) → ¬ A a → RepAll K A H xs ds → Rep K A H (.ref a) (.list ds)
  | tup {a : Addr} {xs : List V} {ds : List PyData} : (H a = some (.tup xs) ∨ KTup K a xs) → RepAll K A H xs ds → Rep K A H (.ref a) (.tuple ds)
inductive RepAll (K : Fg) (A : Addr → Prop) (H : Hp) : List V → List PyData → Prop
  | nil : RepAll K A H [] []
  | cons {v : V} {vs : List V} {d : PyData} {ds : List PyData} : Rep K A H v d → RepAll K A H vs ds → RepAll K A H (v :: vs) (d :: ds)
end

/-- a step of the heap and of the addresses to be kept off that data outlives -/
structure Stp (A A' : Addr → Prop) (H H' : Hp) : Prop where
  l : ∀ a xs, H a = some (.lst xs) → ¬ A a → H' a = some (.lst xs) ∧ ¬ A' a
  t : ∀ a xs, H a = some (.tup xs) → H' a = some (.tup xs)
  f : ∀ a o u, H a = some (.frz o u) → H' a = some (.frz o u)
  i : ∀ a C dx ws, H a = some (.ins C dx ws) → ¬ A a → H' a = some (.ins C dx ws) ∧ ¬ A' a
  d : ∀ a ws, H a = some (.dK ws) → ¬ A a → H' a = some (.dK ws) ∧ ¬ A' a
theorem Stp.refl {A : Addr → Prop} {H : Hp} : Stp A A H H := ⟨fun _ _ h n => ⟨h, n⟩, fun _ _ h => h, fun _ _ _ h => h, fun _ _ _ _ h n => ⟨h, n⟩, fun _ _ h n => ⟨h, n⟩⟩
section
variable {K : Fg} {A A' : Addr → Prop} {H H' : Hp}
mutual
theorem Rep.stp (s : Stp A A' H H') : ∀ {v : V} {d : PyData}, Rep K A H v d → Rep K A' H' v d
  | _, _, .non => .non
  | _, _, .bl b => .bl b
  | _, _, .int i => .int i
  | _, _, .str x => .str x
  | _, _, .lst h n q => .lst (s.l _ _ h n).1 (s.l _ _ h n).2 (RepAll.stp s q)
  | _, _, .tup h q => .tup (h.imp (s.t _ _) id) (RepAll.stp s q)
theorem RepAll.stp (s : Stp A A' H H') : ∀ {v : List V} {d : List PyData}, RepAll K A H v d → RepAll K A' H' v d
  | _, _, .nil => .nil
  | _, _, .cons h q => .cons (Rep.stp s h) (RepAll.stp s q)
end
mutual
theorem Rep.dp : ∀ {v : V} {d : PyData}, Rep K A H v d → Dp K H v d
  | _, _, .non => .non
  | _, _, .bl b => .bl b
  | _, _, .int i => .int i
  | _, _, .str x => .str x
  | _, _, .lst h n q => .lst (SqL.of h) (RepAll.dp q)
  | _, _, .tup (.inl h) q => .tup (SqT.of h) (RepAll.dp q)
  | _, _, .tup (.inr h) q => .tup (.inr h) (RepAll.dp q)
theorem RepAll.dp : ∀ {v : List V} {d : List PyData}, RepAll K A H v d → DpAll K H v d
  | _, _, .nil => .nil
  | _, _, .cons h q => .cons (Rep.dp h) (RepAll.dp q)
end
theorem RepAll.length : ∀ {vs : List V} {ds : List PyData}, RepAll K A H vs ds → vs.length = ds.length
  | _, _, .nil => rfl
  | _, _, .cons _ q => by rw [List.length_cons, List.length_cons, RepAll.length q]
theorem RepAll.get : ∀ {vs : List V} {ds : List PyData} {i : Nat} {v : V}, RepAll K A H vs ds → vs[i]? = some v → ∃ d, ds[i]? = some d ∧ Rep K A H v d
  | _, _, _, _, .nil, e => by simp at e
  | _, _, 0, _, .cons r _, e => by simp at e; subst e; exact ⟨_, rfl, r⟩
  | _, _, i + 1, v, .cons _ t, e => by
    obtain ⟨d, h1, h2⟩ := RepAll.get (i := i) (v := v) t (by simpa using e)
    exact ⟨d, by simpa using h1, h2⟩
theorem RepAll.get' : ∀ {vs : List V} {ds : List PyData} {i : Nat} {d : PyData}, RepAll K A H vs ds → ds[i]? = some d → ∃ v, vs[i]? = some v ∧ Rep K A H v d
  | _, _, _, _, .nil, e => by simp at e
  | _, _, 0, _, .cons r _, e => by simp at e; subst e; exact ⟨_, rfl, r⟩
  | _, _, i + 1, v, .cons _ t, e => by
    obtain ⟨d, h1, h2⟩ := RepAll.get' (i := i) (d := v) t (by simpa using e)
    exact ⟨d, by simpa using h1, h2⟩
theorem RepAll.append : ∀ {vs ws : List V} {ds es : List PyData}, RepAll K A H vs ds → RepAll K A H ws es → RepAll K A H (vs ++ ws) (ds ++ es)
  | _, _, _, _, .nil, q => q
  | _, _, _, _, .cons h t, q => .cons h (RepAll.append t q)
theorem RepAll.take : ∀ {vs : List V} {ds : List PyData} (n : Nat), RepAll K A H vs ds → RepAll K A H (vs.take n) (ds.take n)
  | _, _, 0, _ => .nil
  | _, _, _ + 1, .nil => .nil
  | _, _, n + 1, .cons h t => .cons h (RepAll.take n t)
theorem RepAll.drop : ∀ {vs : List V} {ds : List PyData} (n : Nat), RepAll K A H vs ds → RepAll K A H (vs.drop n) (ds.drop n)
  | _, _, 0, h => h
  | _, _, _ + 1, .nil => .nil
  | _, _, n + 1, .cons _ t => RepAll.drop n t
theorem RepAll.reverse {vs : List V} {ds : List PyData} (h : RepAll K A H vs ds) : RepAll K A H vs.reverse ds.reverse := by
  induction ds generalizing vs with
  | nil => cases h; exact .nil
  | cons d ds ih =>
    cases h with
    | cons h t =>
      rw [List.reverse_cons, List.reverse_cons]
      exact RepAll.append (ih t) (.cons h .nil)
theorem RepAll.rep {vs : List V} {ds : List PyData} (h : RepAll K A H vs ds) : ∀ n : Nat, RepAll K A H (List.replicate n vs).flatten (List.replicate n ds).flatten
  | 0 => .nil
  | n + 1 => by
    rw [List.replicate_succ, List.replicate_succ, List.flatten_cons, List.flatten_cons]
    exact RepAll.append h (RepAll.rep h n)
theorem RepAll.ints : ∀ (ns : List Int), RepAll K A H (ns.map V.int) (ns.map PyData.int)
  | [] => .nil
  | n :: ns => .cons (.int n) (RepAll.ints ns)
theorem RepAll.strs : ∀ (ns : List Str), RepAll K A H (ns.map V.str) (ns.map PyData.str)
  | [] => .nil
  | n :: ns => .cons (.str n) (RepAll.strs ns)
theorem RepAll.ints_inv : ∀ {ns : List Int} {vs : List V}, RepAll K A H vs (ns.map PyData.int) → vs = ns.map V.int
  | [], _, .nil => rfl
  | n :: ns, _, .cons h t => by cases h; rw [RepAll.ints_inv t]; rfl
theorem RepAll.strs_inv : ∀ {ns : List Str} {vs : List V}, RepAll K A H vs (ns.map PyData.str) → vs = ns.map V.str
  | [], _, .nil => rfl
  | n :: ns, _, .cons h t => by cases h; rw [RepAll.strs_inv t]; rfl
theorem RepAll.bls_inv : ∀ {ns : List Bool} {vs : List V}, RepAll K A H vs (ns.map PyData.bool) → vs = ns.map V.bl
  | [], _, .nil => rfl
  | n :: ns, _, .cons h t => by cases h; rw [RepAll.bls_inv t]; rfl
end

/-- the script: locked, or written -/
def ScrAt (K : Fg) (H : Hp) (a : Addr) (xs : List V) : Prop := (∃ o, H a = some (.frz o (.lst xs))) ∨
  ∃ (o : Obj) (its : Array Value) (n : Nat), K.lookup a = some o ∧ o.cls = .type "list" ∧ o.dict = none ∧ o.data = .seq its n ∧ its.size ≤ sizeLine ∧ Vals xs its.toList
theorem ScrAt.sq {K : Fg} {H : Hp} {a : Addr} {xs : List V} (h : ScrAt K H a xs) : SqL K H a xs := h.imp (fun ⟨o, e⟩ => .inr ⟨o, e⟩) id
theorem ScrAt.of {K : Fg} {H : Hp} {a : Addr} {xs : List V} (hO : Only H) (h : SqL K H a xs) : ScrAt K H a xs := by
  rcases h with (h | ⟨o, e⟩) | h
  · rcases hO a with z | ⟨o, ys, z⟩
    · rw [z] at h; cases h
    · rw [z] at h; cases h
  · exact .inl ⟨o, e⟩
  · exact .inr h
mutual
def RepR (K : Fg) (A : Addr → Prop) (H : Hp) : V → R → Prop
  | v, .dat d => Rep K A H v d
  | v, .val w => v = w
  | v, .scr ns => ∃ a, v = .ref a ∧ ScrAt K H a (ns.map V.int)
  | v, .tp rs => ∃ a vs, v = .ref a ∧ (H a = some (.tup vs) ∨ KTup K a vs) ∧ RepRl K A H vs rs
  | v, .obj C ks rs => ∃ a dx vs, v = .ref a ∧ H a = some (.ins C dx (ks.zip vs)) ∧ ¬ A a ∧ vs.length = ks.length ∧ RepRl K A H vs rs
  | v, .dic ks rs => ∃ a vs, v = .ref a ∧ H a = some (.dK (ks.zip vs)) ∧ ¬ A a ∧ vs.length = ks.length ∧ RepRl K A H vs rs
def RepRl (K : Fg) (A : Addr → Prop) (H : Hp) : List V → List R → Prop
  | [], [] => True
  | v :: vs, r :: rs => RepR K A H v r ∧ RepRl K A H vs rs
  | [], _ :: _ => False
  | _ :: _, [] => False
end
mutual
theorem RepR.stp {K : Fg} {A A' : Addr → Prop} {H H' : Hp} (s : Stp A A' H H') : ∀ {v : V} {r : R}, RepR K A H v r → RepR K A' H' v r
  | _, .dat d, h => Rep.stp s h
  | _, .val w, h => h
  | _, .scr ns, h => by obtain ⟨a, e, h⟩ := h; exact ⟨a, e, h.imp (fun ⟨o, h⟩ => ⟨o, s.f _ _ _ h⟩) id⟩
  | _, .tp rs, h => by obtain ⟨a, vs, e, h, q⟩ := h; exact ⟨a, vs, e, h.imp (s.t _ _) id, RepRl.stp s q⟩
  | _, .obj C ks rs, h => by obtain ⟨a, dx, vs, e, h, n, l, q⟩ := h; exact ⟨a, dx, vs, e, (s.i _ _ _ _ h n).1, (s.i _ _ _ _ h n).2, l, RepRl.stp s q⟩
  | _, .dic ks rs, h => by obtain ⟨a, vs, e, h, n, l, q⟩ := h; exact ⟨a, vs, e, (s.d _ _ h n).1, (s.d _ _ h n).2, l, RepRl.stp s q⟩
theorem RepRl.stp {K : Fg} {A A' : Addr → Prop} {H H' : Hp} (s : Stp A A' H H') : ∀ {v : List V} {r : List R}, RepRl K A H v r → RepRl K A' H' v r
  | [], [], h => h
  | _ :: _, _ :: _, h => ⟨RepR.stp s h.1, RepRl.stp s h.2⟩
  | [], _ :: _, h => h.elim
  | _ :: _, [], h => h.elim
end
abbrev RepRs (K : Fg) (A : Addr → Prop) (H : Hp) : List V → List R → Prop := Paired (RepR K A H)
theorem RepRl.pair {K : Fg} {A : Addr → Prop} {H : Hp} : ∀ {vs : List V} {rs : List R}, RepRl K A H vs rs → RepRs K A H vs rs
  | [], [], _ => .nil
  | _ :: _, _ :: _, h => .cons h.1 (RepRl.pair h.2)
  | [], _ :: _, h => h.elim
  | _ :: _, [], h => h.elim
theorem RepRl.of {K : Fg} {A : Addr → Prop} {H : Hp} : ∀ {vs : List V} {rs : List R}, RepRs K A H vs rs → RepRl K A H vs rs
  | _, _, .nil => True.intro
  | _, _, .cons h t => ⟨h, RepRl.of t⟩
theorem RepRs.stp {K : Fg} {A A' : Addr → Prop} {H H' : Hp} (s : Stp A A' H H') {vs : List V} {rs : List R} (h : RepRs K A H vs rs) : RepRs K A' H' vs rs := Paired.mapP h fun _ _ q => q.stp s

inductive Cell where
  | lst (p : Addr) (xs : List R)
  | dct (p : Addr) (kvs : List (Key × R))
  | ins (p C : Addr) (ks : List Str) (rs : List R)
  | pk (p : Addr) (P : List R → Prop)
def Cell.pt : Cell → Addr
  | .lst p _ => p
  | .dct p _ => p
  | .ins p _ _ _ => p
  | .pk p _ => p
abbrev SH := List Cell
def Av (S : SH) : Addr → Prop := fun a => a ∈ S.map Cell.pt
def CellOk (K : Fg) (A : Addr → Prop) (H : Hp) : Cell → Prop
  | .lst p xs => ∃ vs, H p = some (.lst vs) ∧ RepRs K A H vs xs
  | .dct p kvs => ∃ kws : List (Key × V), H p = some (.dK kws) ∧ Paired (fun (a : Key × V) (b : Key × R) => a.1 = b.1 ∧ RepR K A H a.2 b.2) kws kvs
  | .ins p C ks rs => ∃ (dx : Addr) (vs : List V), H p = some (.ins C dx (ks.zip vs)) ∧ vs.length ≤ ks.length ∧ RepRs K A H vs rs
  | .pk p P => ∃ vs xs, H p = some (.lst vs) ∧ RepRs K A H vs xs ∧ P xs
theorem CellOk.some {K : Fg} {A : Addr → Prop} {H : Hp} {c : Cell} (h : CellOk K A H c) : ∃ o, H c.pt = some o := by
  cases c with
  | lst p xs => obtain ⟨_, h, _⟩ := h; exact ⟨_, h⟩
  | dct p xs => obtain ⟨_, h, _⟩ := h; exact ⟨_, h⟩
  | ins p C ks xs => obtain ⟨_, _, h, _⟩ := h; exact ⟨_, h⟩
  | pk p xs => obtain ⟨_, _, h, _⟩ := h; exact ⟨_, h⟩
/-- a cell stays where its own object stays -/
theorem CellOk.stp {K : Fg} {A A' : Addr → Prop} {H H' : Hp} (s : Stp A A' H H') {c : Cell} (h : CellOk K A H c) (e : H' c.pt = H c.pt) : CellOk K A' H' c := by
  cases c with
  | lst p xs => obtain ⟨vs, h, q⟩ := h; exact ⟨vs, by rw [← h]; exact e, q.stp s⟩
  | dct p xs => obtain ⟨vs, h, q⟩ := h; exact ⟨vs, by rw [← h]; exact e, Paired.mapP q fun _ _ z => ⟨z.1, z.2.stp s⟩⟩
  | ins p C ks xs => obtain ⟨dx, vs, h, l, q⟩ := h; exact ⟨dx, vs, by rw [← h]; exact e, l, q.stp s⟩
  | pk p P => obtain ⟨vs, xs, h, q, z⟩ := h; exact ⟨vs, xs, by rw [← h]; exact e, q.stp s, z⟩

abbrev Live := List (V × R)
structure Ok (K : Fg) (H : Hp) (S : SH) (L : Live) : Prop where
  nd : (S.map Cell.pt).Nodup
  cells : ∀ c ∈ S, CellOk K (Av S) H c
  live : ∀ e ∈ L, RepR K (Av S) H e.1 e.2
section
variable {K : Fg} {H : Hp} {S : SH} {L L' : Live}
theorem Ok.sub (o : Ok K H S L) (h : ∀ e ∈ L', e ∈ L) : Ok K H S L' := ⟨o.nd, o.cells, fun e he => o.live e (h e he)⟩
theorem Ok.at (o : Ok K H S L) {v : V} {r : R} (h : (v, r) ∈ L) : RepR K (Av S) H v r := o.live _ h
theorem Ok.dat (o : Ok K H S L) {v : V} {d : PyData} (h : (v, R.dat d) ∈ L) : Rep K (Av S) H v d := o.live _ h
theorem Ok.val (o : Ok K H S L) {v w : V} (h : (v, R.val w) ∈ L) : v = w := o.live _ h
theorem Ok.push (o : Ok K H S L) {v : V} {r : R} (h : RepR K (Av S) H v r) : Ok K H S ((v, r) :: L) := ⟨o.nd, o.cells, fun e he => by
  rcases List.mem_cons.mp he with rfl | he
  · exact h
  · exact o.live e he⟩
theorem Ok.pd (o : Ok K H S L) {v : V} {d : PyData} (h : Rep K (Av S) H v d) : Ok K H S ((v, .dat d) :: L) := o.push h
theorem Ok.av (o : Ok K H S L) {a : Addr} (h : Av S a) : ∃ u, H a = some u := by
  obtain ⟨c, hc, rfl⟩ := List.mem_map.mp h
  exact (o.cells c hc).some
/-- a new object -/
theorem stp_new {A : Addr → Prop} {p : Addr} {u : HO} (h : H p = none) : Stp A A H (upd H p u) :=
  ⟨fun a xs e n => ⟨by rw [upd_ne (ne_of_none e h)]; exact e, n⟩, fun a xs e => by rw [upd_ne (ne_of_none e h)]; exact e, fun a ob xs e => by rw [upd_ne (ne_of_none e h)]; exact e, fun a C dx ws e n => ⟨by rw [upd_ne (ne_of_none e h)]; exact e, n⟩, fun a ws e n => ⟨by rw [upd_ne (ne_of_none e h)]; exact e, n⟩⟩
theorem Ok.new (o : Ok K H S L) {p : Addr} {u : HO} (h : H p = none) : Ok K (upd H p u) S L := ⟨o.nd, fun c hc => (o.cells c hc).stp (stp_new h) (by
    obtain ⟨w, e⟩ := (o.cells c hc).some
    rw [upd_ne (ne_of_none e h)]), fun e he => (o.live e he).stp (stp_new h)⟩
theorem Ok.fresh (o : Ok K H S L) {p : Addr} (h : H p = none) : ¬ Av S p := fun q => by
  obtain ⟨u, e⟩ := o.av q
  rw [e] at h; cases h
abbrev Lives (L : Live) : List V → List R → Prop := Paired fun v r => (v, r) ∈ L
theorem Lives.mono (h : ∀ e ∈ L, e ∈ L') {vs : List V} {rs : List R} (q : Lives L vs rs) : Lives L' vs rs := Paired.mapP q fun _ _ z => h _ z
def dats : List R → Option (List PyData)
  | [] => some []
  | .dat d :: r => (dats r).map fun ds => d :: ds
  | _ :: _ => none
theorem dats_map : ∀ ds : List PyData, dats (ds.map R.dat) = some ds
  | [] => rfl
  | d :: ds => by show (dats (ds.map R.dat)).map _ = _; rw [dats_map ds]; rfl
theorem of_dats : ∀ {rs : List R} {ds : List PyData}, dats rs = some ds → rs = ds.map R.dat
  | [], _, h => by cases h; rfl
  | .dat d :: r, ds, h => by
    cases e : dats r with
    | none => simp [dats, e] at h
    | some es =>
      have h' : some (d :: es) = some ds := by simpa [dats, e] using h
      cases h'
      rw [List.map_cons, of_dats e]
  | .val _ :: _, _, h => by simp [dats] at h
  | .scr _ :: _, _, h => by simp [dats] at h
  | .tp _ :: _, _, h => by simp [dats] at h
  | .obj _ _ _ :: _, _, h => by simp [dats] at h
  | .dic _ _ :: _, _, h => by simp [dats] at h
theorem Ok.reps (o : Ok K H S L) : ∀ {vs : List V} {rs : List R}, Lives L vs rs → RepRs K (Av S) H vs rs := fun q => Paired.mapP q fun _ _ z => o.live _ z
theorem reps_all {A : Addr → Prop} : ∀ {vs : List V} {rs : List R} {ds : List PyData}, RepRs K A H vs rs → dats rs = some ds → RepAll K A H vs ds := by
  intro vs rs ds h e
  have e' := of_dats e
  subst e'
  clear e
  induction ds generalizing vs with
  | nil => cases h; exact .nil
  | cons d ds ih =>
    cases h with
    | cons h t => exact .cons h (ih t)
theorem all_reps {A : Addr → Prop} : ∀ {vs : List V} {ds : List PyData}, RepAll K A H vs ds → RepRs K A H vs (ds.map R.dat)
  | _, _, .nil => .nil
  | _, _, .cons h t => .cons h (all_reps t)
theorem Ok.all (o : Ok K H S L) {vs : List V} {rs : List R} {ds : List PyData} (h : Lives L vs rs) (e : dats rs = some ds) : RepAll K (Av S) H vs ds := reps_all (o.reps h) e
theorem Ok.tup (o : Ok K H S L) {p : Addr} {vs : List V} {ds : List PyData} (h : H p = none) (q : RepAll K (Av S) H vs ds) : Ok K (upd H p (.tup vs)) S ((.ref p, .dat (.tuple ds)) :: L) :=
  (o.new h).push (.tup (.inl upd_same) (q.stp (stp_new h)))
theorem Ok.lst (o : Ok K H S L) {p : Addr} {vs : List V} {ds : List PyData} (h : H p = none) (q : RepAll K (Av S) H vs ds) : Ok K (upd H p (.lst vs)) S ((.ref p, .dat (.list ds)) :: L) :=
  (o.new h).push (.lst upd_same (o.fresh h) (q.stp (stp_new h)))
/-- a new object that is a cell -/
theorem stp_cell {p : Addr} {u : HO} {c : Cell} (hc : c.pt = p) (h : H p = none) : Stp (Av S) (Av (c :: S)) H (upd H p u) :=
  ⟨fun a xs e n => ⟨by rw [upd_ne (ne_of_none e h)]; exact e, fun z => by
    rcases List.mem_cons.mp z with z | z
    · exact ne_of_none e h (z.trans hc)
    · exact n z⟩, fun a xs e => by rw [upd_ne (ne_of_none e h)]; exact e, fun a ob xs e => by rw [upd_ne (ne_of_none e h)]; exact e, fun a C dx ws e n => ⟨by rw [upd_ne (ne_of_none e h)]; exact e, fun z => by
    rcases List.mem_cons.mp z with z | z
    · exact ne_of_none e h (z.trans hc)
    · exact n z⟩, fun a ws e n => ⟨by rw [upd_ne (ne_of_none e h)]; exact e, fun z => by
    rcases List.mem_cons.mp z with z | z
    · exact ne_of_none e h (z.trans hc)
    · exact n z⟩⟩
theorem Ok.cell (o : Ok K H S L) {p : Addr} {u : HO} {c : Cell} (hc : c.pt = p) (h : H p = none) (new : CellOk K (Av (c :: S)) (upd H p u) c) : Ok K (upd H p u) (c :: S) L :=
  ⟨List.nodup_cons.mpr ⟨fun z => o.fresh h (by rw [hc] at z; exact z), o.nd⟩, fun c' hc' => by
    rcases List.mem_cons.mp hc' with rfl | hc'
    · exact new
    · refine (o.cells c' hc').stp (stp_cell hc h) ?_
      obtain ⟨w, e⟩ := (o.cells c' hc').some
      rw [upd_ne (ne_of_none e h)], fun e he => (o.live e he).stp (stp_cell hc h)⟩
theorem Ok.lstC (o : Ok K H S L) {p : Addr} {vs : List V} {rs : List R} (h : H p = none) (q : RepRs K (Av S) H vs rs) : Ok K (upd H p (.lst vs)) (.lst p rs :: S) L :=
  o.cell (c := .lst p rs) rfl h ⟨vs, upd_same, q.stp (stp_cell rfl h)⟩
/-- a cell is let go -/
theorem stp_less {S' : SH} (h : ∀ a, Av S' a → Av S a) : Stp (Av S) (Av S') H H := ⟨fun _ _ e n => ⟨e, fun z => n (h _ z)⟩, fun _ _ e => e, fun _ _ _ e => e, fun _ _ _ _ e n => ⟨e, fun z => n (h _ z)⟩, fun _ _ e n => ⟨e, fun z => n (h _ z)⟩⟩
theorem Ok.less (o : Ok K H S L) {S' : SH} (h : S'.Sublist S) : Ok K H S' L := by
  have hs : ∀ a, Av S' a → Av S a := fun a z => (h.map Cell.pt).subset z
  exact ⟨(h.map Cell.pt).nodup o.nd, fun c hc => (o.cells c (h.subset hc)).stp (stp_less hs) rfl, fun e he => (o.live e he).stp (stp_less hs)⟩
/-- the cell at i is changed -/
theorem at_split {i : Nat} {c : Cell} (h : S[i]? = some c) : c ∈ S := List.mem_of_getElem? h
theorem pts_set {i : Nat} {c c' : Cell} (h : S[i]? = some c) (e : c'.pt = c.pt) : (S.set i c').map Cell.pt = S.map Cell.pt := by
  apply List.ext_getElem?
  intro j
  rw [List.getElem?_map, List.getElem?_map, List.getElem?_set]
  split
  · rename_i hj
    subst hj
    obtain ⟨hl, _⟩ := List.getElem?_eq_some_iff.mp h
    rw [if_pos hl, h]
    simp [e]
  · rfl
theorem av_set {i : Nat} {c c' : Cell} (h : S[i]? = some c) (e : c'.pt = c.pt) : Av (S.set i c') = Av S := by unfold Av; rw [pts_set h e]
theorem stp_upd {A : Addr → Prop} {p : Addr} {u w : HO} (hp : H p = some w) (ha : A p) (hw : Mut (some w)) : Stp A A H (upd H p u) :=
  ⟨fun a xs e n => ⟨by rw [upd_ne (fun z => n (by rw [z]; exact ha))]; exact e, n⟩, fun a xs e => by rw [upd_ne (fun z => by subst z; rw [hp] at e; cases e; exact hw)]; exact e, fun a ob xs e => by rw [upd_ne (fun z => by subst z; rw [hp] at e; cases e; exact hw)]; exact e, fun a C dx ws e n => ⟨by rw [upd_ne (fun z => n (by rw [z]; exact ha))]; exact e, n⟩, fun a ws e n => ⟨by rw [upd_ne (fun z => n (by rw [z]; exact ha))]; exact e, n⟩⟩
theorem pt_at {i : Nat} {c : Cell} (h : S[i]? = some c) : Av S c.pt := List.mem_map.mpr ⟨c, at_split h, rfl⟩
theorem Ok.put (o : Ok K H S L) {i : Nat} {c c' : Cell} {p : Addr} {u w : HO} (h : S[i]? = some c) (hp : c.pt = p) (e : c'.pt = p) (hw : H p = some w) (nt : Mut (some w)) (new : CellOk K (Av S) (upd H p u) c') : Ok K (upd H p u) (S.set i c') L := by
  have ec : c'.pt = c.pt := e.trans hp.symm
  have st : Stp (Av S) (Av S) H (upd H p u) := stp_upd hw (by rw [← hp]; exact pt_at h) nt
  refine ⟨by rw [pts_set h ec]; exact o.nd, fun d hd => ?_, fun e he => ?_⟩
  · rw [av_set h ec]
    obtain ⟨j, hj⟩ := List.getElem?_of_mem hd
    rw [List.getElem?_set] at hj
    split at hj
    · split at hj
      · cases hj; exact new
      · cases hj
    · rename_i hij
      have hne : d.pt ≠ p := fun z => by
        have h1 : (S.map Cell.pt)[i]? = some p := by rw [List.getElem?_map, h]; simp [hp]
        have h2 : (S.map Cell.pt)[j]? = some p := by rw [List.getElem?_map, hj]; simp [z]
        exact hij (nd_ix o.nd h1 h2)
      exact (o.cells d (List.mem_of_getElem? hj)).stp st (by rw [upd_ne hne])
  · rw [av_set h ec]
    exact (o.live e he).stp st
theorem Ok.putL (o : Ok K H S L) {i : Nat} {p : Addr} {xs ys : List R} {us : List V} (h : S[i]? = some (.lst p xs)) (q : RepRs K (Av S) H us ys) : Ok K (upd H p (.lst us)) (S.set i (.lst p ys)) L := by
  obtain ⟨vs, e, _⟩ := o.cells _ (at_split h)
  exact o.put h rfl rfl e True.intro ⟨us, upd_same, q.stp (stp_upd e (pt_at h) True.intro)⟩
/-- a list cell becomes data -/
theorem Ok.frz (o : Ok K H S L) {i : Nat} {p : Addr} {xs : List R} {ds : List PyData} (h : S[i]? = some (.lst p xs)) (e : dats xs = some ds) : Ok K H (S.eraseIdx i) ((.ref p, .dat (.list ds)) :: L) := by
  obtain ⟨vs, e1, q⟩ := o.cells _ (at_split h)
  have hs : (S.eraseIdx i).Sublist S := List.eraseIdx_sublist S i
  have o' := o.less hs
  have hs' : ∀ a, Av (S.eraseIdx i) a → Av S a := fun a z => (hs.map Cell.pt).subset z
  refine o'.push (.lst e1 (fun z => ?_) ((reps_all q e).stp (stp_less hs')))
  have nd := o.nd
  obtain ⟨c, hc, hp⟩ := List.mem_map.mp z
  obtain ⟨j, hj, hji⟩ : ∃ j, S[j]? = some c ∧ j ≠ i := by
    obtain ⟨k, hk⟩ := List.getElem?_of_mem hc
    rw [List.getElem?_eraseIdx] at hk
    split at hk
    · exact ⟨k, hk, by omega⟩
    · exact ⟨k + 1, hk, by omega⟩
  have h1 : (S.map Cell.pt)[i]? = some p := by rw [List.getElem?_map, h]; rfl
  have h2 : (S.map Cell.pt)[j]? = some p := by rw [List.getElem?_map, hj]; simp [hp]
  exact hji (nd_ix nd h2 h1)
theorem Ok.erase_pt (o : Ok K H S L) {i : Nat} {c : Cell} (h : S[i]? = some c) : ¬ Av (S.eraseIdx i) c.pt := fun z => by
  obtain ⟨d, hd, hp⟩ := List.mem_map.mp z
  obtain ⟨j, hj, hji⟩ : ∃ j, S[j]? = some d ∧ j ≠ i := by
    obtain ⟨k, hk⟩ := List.getElem?_of_mem hd
    rw [List.getElem?_eraseIdx] at hk
    split at hk
    · exact ⟨k, hk, by omega⟩
    · exact ⟨k + 1, hk, by omega⟩
  have h1 : (S.map Cell.pt)[i]? = some c.pt := by rw [List.getElem?_map, h]; rfl
  have h2 : (S.map Cell.pt)[j]? = some c.pt := by rw [List.getElem?_map, hj]; simp [hp]
  exact hji (nd_ix o.nd h2 h1)
/-- an instance's cell becomes a frozen one -/
theorem Ok.frzI (o : Ok K H S L) {i : Nat} {p C : Addr} {ks : List Str} {rs : List R} (h : S[i]? = some (.ins p C ks rs)) (hl : rs.length = ks.length) : Ok K H (S.eraseIdx i) ((.ref p, .obj C ks rs) :: L) := by
  obtain ⟨dx, vs, e1, hv, q⟩ := o.cells _ (at_split h)
  have hs : (S.eraseIdx i).Sublist S := List.eraseIdx_sublist S i
  have hs' : ∀ a, Av (S.eraseIdx i) a → Av S a := fun a z => (hs.map Cell.pt).subset z
  have lv : vs.length = ks.length := by
    have : ∀ {l : List V} {m : List R}, Paired (RepR K (Av S) H) l m → l.length = m.length := by
      intro l m w
      induction w with
      | nil => rfl
      | cons _ _ ih => rw [List.length_cons, List.length_cons, ih]
    rw [this q]; exact hl
  exact (o.less hs).push ⟨p, dx, vs, rfl, e1, o.erase_pt h, lv, RepRl.of (q.stp (stp_less hs'))⟩
/-- a dict's cell becomes a frozen one -/
theorem zip_of_kv {K : Fg} {A : Addr → Prop} {H : Hp} : ∀ {kws : List (Key × V)} {kvs : List (Key × R)}, Paired (fun (a : Key × V) (b : Key × R) => a.1 = b.1 ∧ RepR K A H a.2 b.2) kws kvs → kws = (kvs.map (·.1)).zip (kws.map (·.2)) ∧ (kws.map (·.2)).length = (kvs.map (·.1)).length ∧ RepRs K A H (kws.map (·.2)) (kvs.map (·.2))
  | _, _, .nil => ⟨rfl, rfl, .nil⟩
  | (k, v) :: kws, (k', r) :: kvs, .cons h t => by
    obtain ⟨e, hr⟩ := h
    cases (show k = k' from e)
    obtain ⟨a, b, c⟩ := zip_of_kv t
    refine ⟨?_, by simpa using b, .cons hr c⟩
    show (k, v) :: kws = (k, v) :: (kvs.map (·.1)).zip (kws.map (·.2))
    rw [← a]
theorem Ok.frzD (o : Ok K H S L) {i : Nat} {p : Addr} {kvs : List (Key × R)} (h : S[i]? = some (.dct p kvs)) : Ok K H (S.eraseIdx i) ((.ref p, .dic (kvs.map (·.1)) (kvs.map (·.2))) :: L) := by
  obtain ⟨kws, e1, q⟩ := o.cells _ (at_split h)
  have hs : (S.eraseIdx i).Sublist S := List.eraseIdx_sublist S i
  have hs' : ∀ a, Av (S.eraseIdx i) a → Av S a := fun a z => (hs.map Cell.pt).subset z
  obtain ⟨ez, el, er⟩ := zip_of_kv q
  exact (o.less hs).push ⟨p, _, rfl, by rw [← ez]; exact e1, o.erase_pt h, el, RepRl.of (er.stp (stp_less hs'))⟩
/-- a packed list is opened; a list is packed -/
theorem Ok.open_pk (o : Ok K H S L) {i : Nat} {p : Addr} {P : List R → Prop} (h : S[i]? = some (.pk p P)) : ∃ xs, P xs ∧ Ok K H (S.set i (.lst p xs)) L := by
  obtain ⟨vs, xs, e, q, z⟩ := o.cells _ (at_split h)
  have ec : (Cell.lst p xs).pt = (Cell.pk p P).pt := rfl
  refine ⟨xs, z, by rw [pts_set h ec]; exact o.nd, fun d hd => ?_, fun e he => by rw [av_set h ec]; exact o.live e he⟩
  rw [av_set h ec]
  rcases List.mem_or_eq_of_mem_set hd with hd | rfl
  · exact o.cells d hd
  · exact ⟨vs, e, q⟩
theorem Ok.pack (o : Ok K H S L) {i : Nat} {p : Addr} {xs : List R} {P : List R → Prop} (h : S[i]? = some (.lst p xs)) (z : P xs) : Ok K H (S.set i (.pk p P)) L := by
  obtain ⟨vs, e, q⟩ := o.cells _ (at_split h)
  have ec : (Cell.pk p P).pt = (Cell.lst p xs).pt := rfl
  refine ⟨by rw [pts_set h ec]; exact o.nd, fun d hd => ?_, fun e he => by rw [av_set h ec]; exact o.live e he⟩
  rw [av_set h ec]
  rcases List.mem_or_eq_of_mem_set hd with hd | rfl
  · exact o.cells d hd
  · exact ⟨vs, xs, e, q, z⟩
/-- cells in another order -/
theorem Ok.perm (o : Ok K H S L) {S' : SH} (h : S.Perm S') : Ok K H S' L := by
  have hm : ∀ a, Av S a ↔ Av S' a := fun a => (h.map Cell.pt).mem_iff
  have ea : Av S = Av S' := funext fun a => propext (hm a)
  exact ⟨(h.map Cell.pt).nodup_iff.mp o.nd, fun c hc => by rw [← ea]; exact o.cells c (h.mem_iff.mpr hc), fun e he => by rw [← ea]; exact o.live e he⟩
end

/-! ### frames, readings, lifts -/
abbrev Fr := List (Option R)
structure FrOk (σ : L2.St) (fr : Fr) (L : Live) : Prop where
  len : fr.length = σ.length
  at_ : ∀ (i : Nat) (r : R), fr[i]? = some (some r) → ∃ v, σ[i]? = some (some v) ∧ (v, r) ∈ L
theorem FrOk.mono {σ : L2.St} {fr : Fr} {L L' : Live} (f : FrOk σ fr L) (h : ∀ e ∈ L, e ∈ L') : FrOk σ fr L' := ⟨f.len, fun i r e => let ⟨v, a, b⟩ := f.at_ i r e; ⟨v, a, h _ b⟩⟩
theorem FrOk.set {σ : L2.St} {fr : Fr} {L : Live} (f : FrOk σ fr L) {v : V} {r : R} (h : (v, r) ∈ L) (i : Nat) : FrOk (σ.set i (some v)) (fr.set i (some r)) L := by
  refine ⟨by rw [List.length_set, List.length_set]; exact f.len, fun j q e => ?_⟩
  rw [List.getElem?_set] at e
  split at e
  · rename_i hj
    subst hj
    split at e
    · rename_i hl
      cases e
      exact ⟨v, by rw [List.getElem?_set_self (by rw [← f.len]; exact hl)], h⟩
    · cases e
  · rename_i hj
    rw [List.getElem?_set_ne hj]
    exact f.at_ j q e
theorem FrOk.none {σ : L2.St} {fr : Fr} {L : Live} (f : FrOk σ fr L) (i : Nat) : FrOk (σ.set i .none) (fr.set i .none) L := by
  refine ⟨by rw [List.length_set, List.length_set]; exact f.len, fun j q e => ?_⟩
  rw [List.getElem?_set] at e
  split at e
  · split at e <;> cases e
  · rename_i hj
    rw [List.getElem?_set_ne hj]
    exact f.at_ j q e
def wipeF (fr : Fr) : List Nat → Fr
  | [] => fr
  | v :: vs => (wipeF fr vs).set v none
theorem FrOk.wipe {σ : L2.St} {fr : Fr} {L : Live} (f : FrOk σ fr L) : ∀ vs : List Nat, FrOk (L2.wipe σ vs) (wipeF fr vs) L
  | [] => f
  | v :: vs => (FrOk.wipe f vs).none v

abbrev DE := Fr → SH → (R → SH → Prop) → Prop
abbrev DA := Fr → SH → (List R → SH → Prop) → Prop
abbrev DT := Fr → SH → (Bool → SH → Prop) → Prop
abbrev DO := Fr → SH → (Option Int → SH → Prop) → Prop
structure DEnds where
  nx : Fr → SH → Prop
  rt : R → SH → Prop
  bk : Fr → SH → Prop := fun _ _ => False
  ct : Fr → SH → Prop := fun _ _ => False
abbrev DS := DEnds → Fr → SH → Prop
abbrev DG := R → Fr → SH → (Fr → SH → Prop) → Prop
abbrev DGs := List R → Fr → SH → (Fr → SH → Prop) → Prop

/-- F: cells that a reading doesn't speak of -/
abbrev OkF (K : Fg) (F : SH) (H : Hp) (S : SH) (L : Live) : Prop := Ok K H (S ++ F) L
section
variable {K : Fg} {F : SH} {H : Hp} {S : SH} {L : Live}
theorem in_app {i : Nat} {c : Cell} (h : S[i]? = some c) : (S ++ F)[i]? = some c := by
  obtain ⟨hl, _⟩ := List.getElem?_eq_some_iff.mp h
  rw [List.getElem?_append_left hl]; exact h
theorem set_app {i : Nat} {c : Cell} (h : S[i]? = some c) (c' : Cell) : (S ++ F).set i c' = S.set i c' ++ F := by
  obtain ⟨hl, _⟩ := List.getElem?_eq_some_iff.mp h
  rw [List.set_append_left _ _ hl]
theorem erase_app {i : Nat} {c : Cell} (h : S[i]? = some c) : (S ++ F).eraseIdx i = S.eraseIdx i ++ F := by
  obtain ⟨hl, _⟩ := List.getElem?_eq_some_iff.mp h
  rw [List.eraseIdx_append_of_lt_length hl]
end

def Lift (K : Fg) (te : TE) (de : DE) : Prop := ∀ (F : SH) (H : Hp) (σ : L2.St) (fr : Fr) (S : SH) (L : Live), FrOk σ fr L → OkF K F H S L → ∀ (C : R → SH → Prop) (Q : VK), de fr S C →
  (∀ v r S' H', OkF K F H' S' ((v, r) :: L) → C r S' → Q v H') → te σ H Q
def LiftT (K : Fg) (tt : TT) (dt : DT) : Prop := ∀ (F : SH) (H : Hp) (σ : L2.St) (fr : Fr) (S : SH) (L : Live), FrOk σ fr L → OkF K F H S L → ∀ (C : Bool → SH → Prop) (Q : Bool → Hp → Prop), dt fr S C →
  (∀ b S' H', OkF K F H' S' L → C b S' → Q b H') → tt σ H Q
def LiftA (K : Fg) (ta : TA) (da : DA) : Prop := ∀ (F : SH) (H : Hp) (σ : L2.St) (fr : Fr) (S : SH) (L : Live), FrOk σ fr L → OkF K F H S L → ∀ (C : List R → SH → Prop) (Q : List V → Hp → Prop), da fr S C →
  (∀ vs rs S' H' L', OkF K F H' S' L' → (∀ e ∈ L, e ∈ L') → Lives L' vs rs → C rs S' → Q vs H') → ta σ H Q
def LiftO (K : Fg) (to : TO) (do_ : DO) : Prop := ∀ (F : SH) (H : Hp) (σ : L2.St) (fr : Fr) (S : SH) (L : Live), FrOk σ fr L → OkF K F H S L → ∀ (C : Option Int → SH → Prop) (Q : Option Int → Hp → Prop), do_ fr S C →
  (∀ o S' H', OkF K F H' S' L → C o S' → Q o H') → to σ H Q
structure EndsOk (K : Fg) (F : SH) (L : Live) (D : Ends) (D' : DEnds) : Prop where
  nx : ∀ σ fr S H L', FrOk σ fr L' → OkF K F H S L' → (∀ e ∈ L, e ∈ L') → D'.nx fr S → D.nx σ H
  rt : ∀ v r S H, OkF K F H S ((v, r) :: L) → D'.rt r S → D.rt v H
  bk : ∀ σ fr S H L', FrOk σ fr L' → OkF K F H S L' → (∀ e ∈ L, e ∈ L') → D'.bk fr S → D.bk σ H
  ct : ∀ σ fr S H L', FrOk σ fr L' → OkF K F H S L' → (∀ e ∈ L, e ∈ L') → D'.ct fr S → D.ct σ H
theorem tl_mem {α : Type} {a : α} {L : List α} : ∀ e ∈ L, e ∈ a :: L := fun _ h => List.mem_cons_of_mem _ h
theorem sub_cons {α : Type} {a : α} {L L' : List α} (h : ∀ e ∈ L, e ∈ L') : ∀ e ∈ a :: L, e ∈ a :: L' := fun e he => by
  rcases List.mem_cons.mp he with rfl | he
  · exact List.mem_cons_self
  · exact List.mem_cons_of_mem _ (h e he)
theorem EndsOk.mono {K : Fg} {F : SH} {L L' : Live} {D : Ends} {D' : DEnds} (e : EndsOk K F L D D') (h : ∀ e ∈ L, e ∈ L') : EndsOk K F L' D D' :=
  ⟨fun σ fr S H L2 f o s q => e.nx σ fr S H L2 f o (fun x hx => s x (h x hx)) q, fun v r S H o q => e.rt v r S H (o.sub (sub_cons h)) q,
   fun σ fr S H L2 f o s q => e.bk σ fr S H L2 f o (fun x hx => s x (h x hx)) q, fun σ fr S H L2 f o s q => e.ct σ fr S H L2 f o (fun x hx => s x (h x hx)) q⟩
def LiftS (K : Fg) (ts : TS) (ds : DS) : Prop := ∀ (F : SH) (H : Hp) (σ : L2.St) (fr : Fr) (S : SH) (L : Live), FrOk σ fr L → OkF K F H S L → ∀ (D : Ends) (D' : DEnds), EndsOk K F L D D' → ds D' fr S → ts D σ H
def LiftG (K : Fg) (g : TG) (dg : DG) : Prop := ∀ (F : SH) (H : Hp) (σ : L2.St) (fr : Fr) (S : SH) (L : Live) (v : V) (r : R), FrOk σ fr L → OkF K F H S L → (v, r) ∈ L → ∀ (C : Fr → SH → Prop) (Q : L2.St → Hp → Prop), dg r fr S C →
  (∀ σ' fr' S' H' L', FrOk σ' fr' L' → OkF K F H' S' L' → (∀ e ∈ L, e ∈ L') → C fr' S' → Q σ' H') → g v σ H Q
def LiftGs (K : Fg) (g : TGs) (dg : DGs) : Prop := ∀ (F : SH) (H : Hp) (σ : L2.St) (fr : Fr) (S : SH) (L : Live) (vs : List V) (rs : List R), FrOk σ fr L → OkF K F H S L → Lives L vs rs → ∀ (C : Fr → SH → Prop) (Q : L2.St → Hp → Prop), dg rs fr S C →
  (∀ σ' fr' S' H' L', FrOk σ' fr' L' → OkF K F H' S' L' → (∀ e ∈ L, e ∈ L') → C fr' S' → Q σ' H') → g vs σ H Q

structure PD (X : Cx) (e : Expr) (de : DE) : Prop where
  ex : ∃ te, PE X e te ∧ Lift X.K te de
structure PDT (X : Cx) (e : Expr) (dt : DT) : Prop where
  ex : ∃ tt, PT X e tt ∧ LiftT X.K tt dt
structure PDW (X : Cx) (e : Expr) (dt : DT) : Prop where
  ex : ∃ tt, PW X e tt ∧ LiftT X.K tt dt
structure PDA (X : Cx) (es : List Expr) (da : DA) : Prop where
  ex : ∃ ta, PA X es ta ∧ LiftA X.K ta da
structure PDO (X : Cx) (e : Option Expr) (d : DO) : Prop where
  ex : ∃ t, PO X e t ∧ LiftO X.K t d
structure PDS (X : Cx) (st : Stmt) (ds : DS) : Prop where
  ex : ∃ ts, PS X st ts ∧ LiftS X.K ts ds
structure PDSs (X : Cx) (st : List Stmt) (ds : DS) : Prop where
  ex : ∃ ts, PSs X st ts ∧ LiftS X.K ts ds
structure PDG (X : Cx) (e : Expr) (dg : DG) : Prop where
  ex : ∃ g, PG X e g ∧ LiftG X.K g dg
structure PDGs (X : Cx) (es : List Expr) (dg : DGs) : Prop where
  ex : ∃ g, PGs X es g ∧ LiftGs X.K g dg

end DL
set_option Elab.async false
set_option linter.all false
set_option maxRecDepth 100000
set_option maxHeartbeats 4000000
/-! DL, second part: the rules for expressions and tests. -/
namespace DL
open PySem PySem.Spec PyProof.Rows L2

abbrev CR0 := R → SH → Prop
theorem big_of {n : Nat} (h : n ≤ 100000) : n ≤ sizeLine := Nat.le_trans h (by decide)
theorem big_lt {n : Nat} (h : n < 100000) : n < sizeLine := Nat.lt_of_lt_of_le h (by decide)

section
variable {K : Fg}
/-! ### names, constants -/
def dVar (i : Nat) : DE := fun fr S C => ∃ r, fr[i]? = some (some r) ∧ C r S
def dC (r : R) : DE := fun _ S C => C r S
theorem lift_var (i : Nat) : Lift K (tVar i) (dVar i) := fun F H σ fr S L f o C Q ⟨r, e, h⟩ q => by
  obtain ⟨v, ev, m⟩ := f.at_ i r e
  exact ⟨v, ev, q v r S H (o.push (o.live _ m)) h⟩
theorem lift_c {v : V} {r : R} (h : ∀ A H, RepR K A H v r) : Lift K (tC v) (dC r) := fun F H σ fr S L f o C Q h' q => q v r S H (o.push (h _ _)) h'

/-! ### two operands -/
abbrev F2 := R → R → SH → CR0 → Prop
def OpD (K : Fg) (r : R2) (f : F2) : Prop := ∀ (F : SH) (x y : V) (a b : R) (H : Hp) (S : SH) (L : Live) (C : CR0) (Q : VK), OkF K F H S L → (x, a) ∈ L → (y, b) ∈ L → f a b S C →
  (∀ v c S' H', OkF K F H' S' ((v, c) :: L) → C c S' → Q v H') → r x y H Q
def dOp (f : F2) (da db : DE) : DE := fun fr S C => da fr S fun a S1 => db fr S1 fun b S2 => f a b S2 C
theorem lift_op {r : R2} {f : F2} {ta tb : TE} {da db : DE} (h : OpD K r f) (la : Lift K ta da) (lb : Lift K tb db) : Lift K (tOp r ta tb) (dOp f da db) := by
  intro F H σ fr S L fo o C Q hd q
  refine la F H σ fr S L fo o _ _ hd fun x a S1 H1 o1 h1 => ?_
  refine lb F H1 σ fr S1 _ (fo.mono tl_mem) o1 _ _ h1 fun y b S2 H2 o2 h2 => ?_
  refine h F x y a b H2 S2 _ C Q o2 (List.mem_cons_of_mem _ List.mem_cons_self) List.mem_cons_self h2 fun v c S3 H3 o3 h3 => ?_
  exact q v c S3 H3 (o3.sub (sub_cons fun e he => List.mem_cons_of_mem _ (List.mem_cons_of_mem _ he))) h3
/-- an answer that makes nothing new -/
theorem OpD.flat {r : R2} {f : F2} (h : ∀ (A : Addr → Prop) (x y : V) (a b : R) (H : Hp) (S : SH) (C : CR0) (Q : VK), RepR K A H x a → RepR K A H y b → f a b S C → (∀ v c, RepR K A H v c → C c S → Q v H) → r x y H Q) : OpD K r f :=
  fun F x y a b H S L C Q o hx hy hf q => h (Av (S ++ F)) x y a b H S C Q (o.live _ hx) (o.live _ hy) hf fun v c hv hc => q v c S H (o.push hv) hc

/-! ### ints -/
def fI (P : Int → Int → Prop) (g : Int → Int → PyData) : F2 := fun a b S C => match a, b with
  | .dat (.int i), .dat (.int j) => P i j ∧ C (.dat (g i j)) S
  | _, _ => False
def fI0 (g : Int → Int → PyData) : F2 := fun a b S C => match a, b with
  | .dat (.int i), .dat (.int j) => C (.dat (g i j)) S
  | _, _ => False
theorem rep_int_inv {A : Addr → Prop} {H : Hp} {v : V} {i : Int} (h : Rep K A H v (.int i)) : v = .int i := by cases h; rfl
theorem opd_I0 {g : Int → Int → V} {g' : Int → Int → PyData} (hg : ∀ i j A H, Rep K A H (g i j) (g' i j)) : OpD K (rI0 g) (fI0 g') := OpD.flat fun A x y a b H S C Q hx hy hf q => by
  unfold fI0 at hf
  split at hf
  · rename_i i j
    cases rep_int_inv hx; cases rep_int_inv hy
    exact ⟨i, j, rfl, rfl, q _ (.dat _) (hg i j A H) hf⟩
  · exact hf.elim
theorem opd_I {P P' : Int → Int → Prop} {g : Int → Int → V} {g' : Int → Int → PyData} (hp : ∀ i j, P' i j → P i j) (hg : ∀ i j A H, Rep K A H (g i j) (g' i j)) : OpD K (rI P g) (fI P' g') := OpD.flat fun A x y a b H S C Q hx hy hf q => by
  unfold fI at hf
  split at hf
  · rename_i i j
    cases rep_int_inv hx; cases rep_int_inv hy
    exact ⟨i, j, rfl, rfl, hp i j hf.1, q _ (.dat _) (hg i j A H) hf.2⟩
  · exact hf.elim

/-! ### + of ints, texts, lists, tuples -/
def fAdd : F2 := fun a b S C => match a, b with
  | .dat (.int i), .dat (.int j) => C (.dat (.int (i + j))) S
  | .dat (.str x), .dat (.str y) => x.length + y.length ≤ 100000 ∧ C (.dat (.str (x ++ y))) S
  | .dat (.list xs), .dat (.list ys) => xs.length + ys.length ≤ 100000 ∧ C (.dat (.list (xs ++ ys))) S
  | .dat (.tuple xs), .dat (.tuple ys) => xs.length + ys.length ≤ 100000 ∧ C (.dat (.tuple (xs ++ ys))) S
  | _, _ => False
def rStrAdd : R2 := fun x y H Q => ∃ i j, x = .str i ∧ y = .str j ∧ i.length + j.length ≤ sizeLine ∧ Q (.str (i ++ j)) H
def rAddAll (K : Fg) : R2 := fun x y H Q => (rI0 (fun i j => V.int (i + j))) x y H Q ∨ rStrAdd x y H Q ∨ rCat x y H Q ∨ rCatA K x y H Q
theorem op_addAll {X : Cx} : OpR X (binaryOp .Add) (rAddAll X.K) := op_add.or (op_add_str.or (op_cat.or op_catA))
theorem sqT_of {A : Addr → Prop} {H : Hp} {a : Addr} {xs : List V} (h : H a = some (.tup xs) ∨ KTup K a xs) : SqT K H a xs := by
  rcases h with h | h
  · exact SqT.of h
  · exact .inr h
theorem opd_add : OpD K (rAddAll K) fAdd := by
  intro F x y a b H S L C Q o hx hy hf q
  replace hx := o.live _ hx
  replace hy := o.live _ hy
  unfold fAdd at hf
  split at hf
  · cases rep_int_inv hx; cases rep_int_inv hy
    exact .inl ⟨_, _, rfl, rfl, q _ _ S H (o.pd (.int _)) hf⟩
  · cases hx; cases hy
    exact .inr (.inl ⟨_, _, rfl, rfl, big_of hf.1, q _ _ S H (o.pd (.str _)) hf.2⟩)
  · cases hx with | lst h1 n1 q1 => cases hy with | lst h2 n2 q2 =>
    exact .inr (.inr (.inl ⟨_, _, _, _, rfl, rfl, h1, h2, by rw [q1.length, q2.length]; exact big_of hf.1, fun p hp => q _ _ S _ (o.lst hp (q1.append q2)) hf.2⟩))
  · cases hx with | tup h1 q1 => cases hy with | tup h2 q2 =>
    refine .inr (.inr (.inr ⟨_, _, _, _, rfl, rfl, sqT_of (A := Av S) h1, sqT_of (A := Av S) h2, by rw [q1.length, q2.length]; exact big_of hf.1, fun z => ?_, fun _ z => ?_, fun _ _ p hp => q _ _ S _ (o.tup hp (q1.append q2)) hf.2⟩))
    · subst z
      cases q1
      exact q _ _ S H (o.pd (.tup h2 q2)) hf.2
    · subst z
      cases q2
      have e := hf.2
      rw [List.append_nil] at e
      exact q _ _ S H (o.pd (.tup h1 q1)) e
  · exact hf.elim

/-! ### * of ints, of lists -/
def fMul : F2 := fun a b S C => match a, b with
  | .dat (.int i), .dat (.int j) => CMulW i j ∧ C (.dat (.int (i * j))) S
  | .dat (.list xs), .dat (.int k) => k ≤ 1000 ∧ -1000 ≤ k ∧ xs.length ≤ 100 ∧ C (.dat (.list (List.replicate k.toNat xs).flatten)) S
  | _, _ => False
def fMulC : F2 := fun a b S C => match a, b with
  | .dat (.list xs), .dat (.int k) => k ≤ 1000 ∧ -1000 ≤ k ∧ xs.length ≤ 100 ∧ ∀ p, C (.val (.ref p)) (.lst p ((List.replicate k.toNat xs).flatten.map R.dat) :: S)
  | _, _ => False
def rMulAll : R2 := fun x y H Q => (rI CMulW fun i j => V.int (i * j)) x y H Q ∨ rRep x y H Q
theorem op_mulAll {X : Cx} : OpR X (binaryOp .Mult) rMulAll := op_mulW.or op_rep
theorem rep_size {n : Nat} {k : Int} (h : n ≤ 100) (hk : k ≤ 1000) : n * k.toNat ≤ sizeLine := by
  have h1 : k.toNat ≤ 1000 := by omega
  have h2 : n * k.toNat ≤ 100 * 1000 := Nat.mul_le_mul h h1
  exact Nat.le_trans h2 (by decide)
theorem opd_mul : OpD K rMulAll fMul := by
  intro F x y a b H S L C Q o hx hy hf q
  replace hx := o.live _ hx
  replace hy := o.live _ hy
  unfold fMul at hf
  split at hf
  · cases rep_int_inv hx; cases rep_int_inv hy
    exact .inl ⟨_, _, rfl, rfl, hf.1, q _ _ S H (o.pd (.int _)) hf.2⟩
  · cases rep_int_inv hy
    cases hx with | lst h1 n1 q1 =>
    exact .inr ⟨_, _, _, rfl, rfl, h1, by omega, by omega, by rw [q1.length]; exact rep_size hf.2.2.1 hf.1, fun p hp => q _ _ S _ (o.lst hp (q1.rep _)) hf.2.2.2⟩
  · exact hf.elim
theorem opd_mulC : OpD K rMulAll fMulC := by
  intro F x y a b H S L C Q o hx hy hf q
  replace hx := o.live _ hx
  replace hy := o.live _ hy
  unfold fMulC at hf
  split at hf
  · cases rep_int_inv hy
    cases hx with | lst h1 n1 q1 =>
    exact .inr ⟨_, _, _, rfl, rfl, h1, by omega, by omega, by rw [q1.length]; exact rep_size hf.2.2.1 hf.1, fun p hp => q _ _ (_ :: S) _ (Ok.push (r := .val (.ref p)) (o.lstC hp (all_reps (q1.rep _))) rfl) (hf.2.2.2 p)⟩
  · exact hf.elim
/-! ### equality of data -/
def scalD : PyData → PyData → Bool
  | .none, .none => true | .none, .int _ => true | .int _, .none => true | .none, .bool _ => true | .bool _, .none => true | .none, .str _ => true | .str _, .none => true
  | .int _, .int _ => true | .bool _, .bool _ => true | .str _, .str _ => true
  | .int _, .str _ => true | .str _, .int _ => true | .bool _, .str _ => true | .str _, .bool _ => true
  | _, _ => false
def eqOk (d e : PyData) : Bool := scalD d e || (SeqAt.shaped d && SeqAt.shaped e)
def fEq : F2 := fun a b S C => match a, b with
  | .dat d, .dat e => eqOk d e = true ∧ C (.dat (.bool (PyData.eqv d e))) S
  | _, _ => False
def fNe : F2 := fun a b S C => match a, b with
  | .dat d, .dat e => eqOk d e = true ∧ C (.dat (.bool (!PyData.eqv d e))) S
  | _, _ => False
theorem scal_eq {A : Addr → Prop} {H : Hp} {x y : V} {d e : PyData} (hx : Rep K A H x d) (hy : Rep K A H y e) (h : scalD d e = true) : scal x y = true ∧ decide (x = y) = PyData.eqv d e := by
  cases hx <;> cases hy <;> first
    | (refine ⟨rfl, ?_⟩; rfl)
    | (refine ⟨rfl, ?_⟩; simp [PyData.eqv, Bool.beq_eq_decide_eq]; done)
    | (refine ⟨rfl, ?_⟩; rw [dec_str]; simp [PyData.eqv]; done)
    | (refine ⟨rfl, ?_⟩; rw [dec_bl]; simp [PyData.eqv]; done)
    | (exfalso; revert h; simp [scalD]; done)
def rEqAll (K : Fg) : R2 := fun x y H Q => rEq x y H Q ∨ rEqD K x y H Q
def rNeAll (K : Fg) : R2 := fun x y H Q => rNe x y H Q ∨ rNeD K x y H Q
theorem op_eqAll {X : Cx} (hu : X.A.units + 64 < cLine) : OpR X (compareOp .Eq) (rEqAll X.K) := op_eq.or (op_eqD hu)
theorem op_neAll {X : Cx} (hu : X.A.units + 64 < cLine) : OpR X (compareOp .NotEq) (rNeAll X.K) := op_ne.or (op_neD hu)
theorem opd_eq : OpD K (rEqAll K) fEq := OpD.flat fun A x y a b H S C Q hx hy hf q => by
  unfold fEq at hf
  split at hf
  · rename_i d e
    obtain ⟨h1, h2⟩ := hf
    rcases Bool.or_eq_true_iff.mp h1 with h | h
    · obtain ⟨s, e1⟩ := scal_eq hx hy h
      exact .inl ⟨s, q _ (.dat _) (by rw [e1]; exact Rep.bl _) h2⟩
    · obtain ⟨s1, s2⟩ := Bool.and_eq_true_iff.mp h
      exact .inr ⟨d, e, hx.dp, hy.dp, s1, s2, q _ (.dat _) (Rep.bl _) h2⟩
  · exact hf.elim
theorem opd_ne : OpD K (rNeAll K) fNe := OpD.flat fun A x y a b H S C Q hx hy hf q => by
  unfold fNe at hf
  split at hf
  · rename_i d e
    obtain ⟨h1, h2⟩ := hf
    rcases Bool.or_eq_true_iff.mp h1 with h | h
    · obtain ⟨s, e1⟩ := scal_eq hx hy h
      exact .inl ⟨s, q _ (.dat _) (by rw [e1]; exact Rep.bl _) h2⟩
    · obtain ⟨s1, s2⟩ := Bool.and_eq_true_iff.mp h
      exact .inr ⟨d, e, hx.dp, hy.dp, s1, s2, q _ (.dat _) (Rep.bl _) h2⟩
  · exact hf.elim

/-! ### is None -/
def isNone : R → Bool
  | .dat .none => true
  | .dat _ => false
  | .val v => decide (v = .non)
  | .scr _ => false
  | .tp _ => false
  | .obj _ _ _ => false
  | .dic _ _ => false
def fIsN : F2 := fun a b S C => match b with
  | .dat .none => C (.dat (.bool (isNone a))) S
  | _ => False
def fNotN : F2 := fun a b S C => match b with
  | .dat .none => C (.dat (.bool (!isNone a))) S
  | _ => False
theorem isNone_of {A : Addr → Prop} {H : Hp} {x : V} {a : R} (h : RepR K A H x a) : decide (x = .non) = isNone a := by
  cases a with
  | dat d => cases h <;> rfl
  | val v => cases (show x = v from h); rfl
  | scr ns => obtain ⟨a, e, _⟩ := h; rw [e]; rfl
  | tp rs => obtain ⟨a, o, e, _⟩ := h; rw [e]; rfl
  | obj C ks rs => obtain ⟨a, dx, vs, e, _⟩ := h; rw [e]; rfl
  | dic ks rs => obtain ⟨a, vs, e, _⟩ := h; rw [e]; rfl
def rIsNn : R2 := fun x y H Q => y = .non ∧ Q (.bl (decide (x = .non))) H
def rNotNn : R2 := fun x y H Q => y = .non ∧ Q (.bl (!decide (x = .non))) H
theorem opd_isN : OpD K rIsNn fIsN := OpD.flat fun A x y a b H S C Q hx hy hf q => by
  unfold fIsN at hf
  split at hf
  · refine ⟨by cases hy; rfl, q _ (.dat _) ?_ hf⟩
    rw [isNone_of hx]; exact Rep.bl _
  · exact hf.elim
theorem opd_notN : OpD K rNotNn fNotN := OpD.flat fun A x y a b H S C Q hx hy hf q => by
  unfold fNotN at hf
  split at hf
  · refine ⟨by cases hy; rfl, q _ (.dat _) ?_ hf⟩
    rw [isNone_of hx]; exact Rep.bl _
  · exact hf.elim

/-! ### in, not in: flat data -/
def flatD : PyData → Bool
  | .none => true | .bool _ => true | .int _ => true | .str _ => true | _ => false
def inD (d : PyData) (ds : List PyData) : Bool := ds.any fun e => PyData.eqv e d
def fIn (neg : Bool) : F2 := fun a b S C => match a, b with
  | .dat d, .dat (.list ds) => flatD d = true ∧ ds.all flatD = true ∧ C (.dat (.bool (if neg then !inD d ds else inD d ds))) S
  | .dat d, .dat (.tuple ds) => flatD d = true ∧ ds.all flatD = true ∧ C (.dat (.bool (if neg then !inD d ds else inD d ds))) S
  | _, _ => False
theorem flat_of {A : Addr → Prop} {H : Hp} {x : V} {d : PyData} (h : Rep K A H x d) (f : flatD d = true) : flatV x = true := by
  cases h <;> first | rfl | (exfalso; revert f; simp [flatD]; done)
theorem flats_of {A : Addr → Prop} {H : Hp} : ∀ {xs : List V} {ds : List PyData}, RepAll K A H xs ds → ds.all flatD = true → xs.all flatV = true
  | _, _, .nil, _ => rfl
  | _, _, .cons h t, f => by
    rw [List.all_cons] at f ⊢
    obtain ⟨f1, f2⟩ := Bool.and_eq_true_iff.mp f
    rw [flat_of h f1, flats_of t f2]; rfl
theorem eqV_of {A : Addr → Prop} {H : Hp} {x y : V} {d e : PyData} (h : Rep K A H x d) (h' : Rep K A H y e) (f : flatD d = true) (f' : flatD e = true) : eqV x y = PyData.eqv d e := by
  cases h <;> cases h' <;> first | rfl | (exfalso; revert f; simp [flatD]; done) | (exfalso; revert f'; simp [flatD]; done) | (simp [eqV, PyData.eqv]; done)
theorem inV_of {A : Addr → Prop} {H : Hp} {x : V} {d : PyData} (h : Rep K A H x d) (f : flatD d = true) : ∀ {xs : List V} {ds : List PyData}, RepAll K A H xs ds → ds.all flatD = true → inV x xs = inD d ds
  | _, _, .nil, _ => rfl
  | _, _, .cons (v := v) (vs := vs) (d := e) (ds := ds) h' t, f' => by
    rw [List.all_cons] at f'
    obtain ⟨f1, f2⟩ := Bool.and_eq_true_iff.mp f'
    have ih := inV_of h f t f2
    unfold inV inD at ih ⊢
    rw [List.any_cons, List.any_cons, ih, eqV_of h' h f1 f]
theorem opd_in {neg : Bool} : OpD K (rIn K neg) (fIn neg) := OpD.flat fun A x y a b H S C Q hx hy hf q => by
  unfold fIn at hf
  split at hf
  · obtain ⟨f1, f2, h⟩ := hf
    cases hy with | lst h1 n1 q1 =>
    refine ⟨_, _, rfl, .inl (SqL.of h1), flat_of hx f1, flats_of q1 f2, q _ (.dat _) ?_ h⟩
    rw [inV_of hx f1 q1 f2]; exact Rep.bl _
  · obtain ⟨f1, f2, h⟩ := hf
    cases hy with | tup h1 q1 =>
    refine ⟨_, _, rfl, .inr (sqT_of (A := A) h1), flat_of hx f1, flats_of q1 f2, q _ (.dat _) ?_ h⟩
    rw [inV_of hx f1 q1 f2]; exact Rep.bl _
  · exact hf.elim

/-! ### subscripts -/
def fIx : F2 := fun a b S C => match a, b with
  | .dat (.list ds), .dat (.int i) => ∃ d, atI ds i = some d ∧ C (.dat d) S
  | .dat (.tuple ds), .dat (.int i) => ∃ d, atI ds i = some d ∧ C (.dat d) S
  | .dat (.str z), .dat (.int i) => z.length ≤ 100000 ∧ ∃ c, atI z.cps.toList i = some c ∧ C (.dat (.str ⟨#[c]⟩)) S
  | .scr ns, .dat (.int i) => ∃ z, atI ns i = some z ∧ C (.dat (.int z)) S
  | .tp rs, .dat (.int i) => ∃ r, atI rs i = some r ∧ C r S
  | .val (.ref p), .dat (.int i) => (∃ (j : Nat) (xs : List R) (r : R), S[j]? = some (.lst p xs) ∧ atI xs i = some r ∧ C r S) ∨
      ∃ (j : Nat) (kvs : List (Key × R)) (r : R), S[j]? = some (.dct p kvs) ∧ kvs.find? (fun kv => decide (kv.1 = Sum.inl i)) = some (Sum.inl i, r) ∧ C r S
  | .val (.ref p), .dat (.str x) => ∃ (j : Nat) (kvs : List (Key × R)) (r : R), S[j]? = some (.dct p kvs) ∧ kvs.find? (fun kv => decide (kv.1 = Sum.inr x)) = some (Sum.inr x, r) ∧ C r S
  | .dic ks rs, .dat (.str x) => ∃ r, (ks.zip rs).find? (fun kv => decide (kv.1 = Sum.inr x)) = some (Sum.inr x, r) ∧ C r S
  | _, _ => False
theorem atI_all {A : Addr → Prop} {H : Hp} {xs : List V} {ds : List PyData} {i : Int} {d : PyData} (h : RepAll K A H xs ds) (e : atI ds i = some d) : ∃ v, atI xs i = some v ∧ Rep K A H v d := by
  unfold atI at e ⊢
  rw [← h.length] at e
  cases e1 : ixN xs.length i with
  | none => rw [e1] at e; cases e
  | some j =>
    rw [e1] at e
    exact h.get' e
theorem atI_map {α β : Type} (f : α → β) {xs : List α} {i : Int} {x : α} (e : atI xs i = some x) : atI (xs.map f) i = some (f x) := by
  unfold atI at e ⊢
  rw [List.length_map]
  cases e1 : ixN xs.length i with
  | none => rw [e1] at e; cases e
  | some j =>
    rw [e1] at e
    show (xs.map f)[j]? = some (f x)
    rw [List.getElem?_map, show xs[j]? = some x from e]; rfl
theorem paired_get' {α β : Type} {P : α → β → Prop} : ∀ {l : List α} {m : List β} {i : Nat} {b : β}, Paired P l m → m[i]? = some b → ∃ a, l[i]? = some a ∧ P a b
  | _, _, _, _, .nil, e => by simp at e
  | _, _, 0, _, .cons r _, e => by simp at e; subst e; exact ⟨_, rfl, r⟩
  | _, _, i + 1, b, .cons _ t, e => by
    obtain ⟨u, h1, h2⟩ := paired_get' (i := i) (b := b) t (by simpa using e)
    exact ⟨u, by simpa using h1, h2⟩
theorem paired_len {α β : Type} {P : α → β → Prop} : ∀ {l : List α} {m : List β}, Paired P l m → l.length = m.length
  | _, _, .nil => rfl
  | _, _, .cons _ t => by rw [List.length_cons, List.length_cons, paired_len t]
theorem atI_rs {P : V → R → Prop} {xs : List V} {ds : List R} {i : Int} {d : R} (h : Paired P xs ds) (e : atI ds i = some d) : ∃ v, atI xs i = some v ∧ P v d := by
  unfold atI at e ⊢
  rw [← paired_len h] at e
  cases e1 : ixN xs.length i with
  | none => rw [e1] at e; cases e
  | some j =>
    rw [e1] at e
    exact paired_get' h e
theorem find_kv {P : V → R → Prop} {k : Key} {r : R} : ∀ {kws : List (Key × V)} {kvs : List (Key × R)}, Paired (fun (a : Key × V) (b : Key × R) => a.1 = b.1 ∧ P a.2 b.2) kws kvs → kvs.find? (fun kv => decide (kv.1 = k)) = some (k, r) → ∃ v, valV kws k = some v ∧ P v r
  | _, _, .nil, e => by simp at e
  | a :: as, b :: bs, .cons ⟨h1, h2⟩ t, e => by
    rw [List.find?_cons] at e
    by_cases hk : b.1 = k
    · rw [decide_eq_true hk] at e
      have e' : b = (k, r) := Option.some.inj e
      refine ⟨a.2, valV_pos (h1.trans hk), ?_⟩
      rw [e'] at h2; exact h2
    · rw [decide_eq_false hk] at e
      obtain ⟨v, e1, e2⟩ := find_kv t e
      exact ⟨v, by rw [valV_neg (fun z => hk (h1.symm.trans z))]; exact e1, e2⟩
def rDGet : R2 := fun x y H Q => ∃ a v, x = .ref a ∧ DGet H a y (some v) ∧ Q v H
theorem ix_dict {X : Cx} (hu : X.A.units + 1 < cLine) : IxR X rDGet := by
  intro value slice pins s σ H x y v u Q I rx ry h hs
  obtain ⟨a, w, rfl, g, q⟩ := h
  obtain rfl : v = Value.ref a := rx
  have hT := dict_typeIs I g
  unfold subscriptTail
  refine wpAny_bind ?_
  rw [getitemInPython_of_ne hT.not_modules]
  refine wpAny_bind (wpAny_specialOf hT PySem.F.slot_dict_getitem.lookup ?_)
  have fin : wpAny (model X.prog X.w) X.A (subscripted slice false (Value.ref a) u) (fun r s₃ => wpAny (model X.prog X.w) X.A (letTemporaryGo value (Value.ref a) r >>= fun _ => pure r) (EP X pins σ Q) X.xe s₃) X.xe s := by
    rw [hs]
    exact wpAny_operating (d_getItem hu I g ry fun w' s3 I3 rw' => wpAny_bind (wpAny_letTemporaryGo (wpAny_pure ⟨w, H, I3, rw', q⟩)))
  first
    | exact wpAny_pure (wpAny_bind fin)
    | exact wpAny_bind (wpAny_pure (wpAny_bind fin))
    | exact wpAny_bind fin
def rIxAll (K : Fg) : R2 := fun x y H Q => rIx K x y H Q ∨ rDGet x y H Q
theorem ix_all {X : Cx} (hu : X.A.units + 1 < cLine) : IxR X (rIxAll X.K) := ix_seq.or (ix_dict hu)
theorem zip_kv {P : V → R → Prop} : ∀ {ks : List Key} {vs : List V} {rs : List R}, Paired P vs rs → Paired (fun (a : Key × V) (b : Key × R) => a.1 = b.1 ∧ P a.2 b.2) (ks.zip vs) (ks.zip rs)
  | [], _, _, _ => .nil
  | _ :: _, _, _, .nil => .nil
  | _ :: _, _, _, .cons h t => .cons ⟨rfl, h⟩ (zip_kv t)
theorem opd_ix : OpD K (rIxAll K) fIx := by
  intro F x y a b H S L C Q o hx hy hf q
  replace hx := o.live _ hx
  replace hy := o.live _ hy
  unfold fIx at hf
  split at hf
  · obtain ⟨d, e, h⟩ := hf
    cases rep_int_inv hy
    cases hx with | lst h1 n1 q1 =>
    obtain ⟨v, e1, r1⟩ := atI_all q1 e
    exact .inl (.inl ⟨_, _, _, v, rfl, rfl, SqL.of h1, e1, q _ _ S H (o.pd r1) h⟩)
  · obtain ⟨d, e, h⟩ := hf
    cases rep_int_inv hy
    cases hx with | tup h1 q1 =>
    obtain ⟨v, e1, r1⟩ := atI_all q1 e
    exact .inl (.inr (.inl ⟨_, _, _, v, rfl, rfl, sqT_of (A := Av S) h1, e1, q _ _ S H (o.pd r1) h⟩))
  · obtain ⟨hl, c, e, h⟩ := hf
    cases rep_int_inv hy
    cases hx
    exact .inl (.inr (.inr ⟨_, _, c, rfl, rfl, big_of hl, e, q _ _ S H (o.pd (.str _)) h⟩))
  · rename_i ns i
    cases rep_int_inv hy
    obtain ⟨a, rfl, e⟩ := (show ∃ a, x = .ref a ∧ ScrAt K H a (ns.map V.int) from hx)
    obtain ⟨z, e1, h⟩ := hf
    exact .inl (.inl ⟨_, _, _, _, rfl, rfl, e.sq, atI_map V.int e1, q _ _ S H (o.pd (.int z)) h⟩)
  · rename_i rs i
    cases rep_int_inv hy
    obtain ⟨a, vs, rfl, h1, q1⟩ := (show ∃ a vs, x = .ref a ∧ (H a = some (.tup vs) ∨ KTup K a vs) ∧ RepRl K _ H vs rs from hx)
    obtain ⟨r, e1, h⟩ := hf
    obtain ⟨v, e2, r2⟩ := atI_rs q1.pair e1
    exact .inl (.inr (.inl ⟨_, _, _, v, rfl, rfl, sqT_of (A := Av S) h1, e2, q _ _ S H (o.push r2) h⟩))
  · rename_i p i
    cases rep_int_inv hy
    cases (show x = V.ref p from hx)
    rcases hf with ⟨j, xs, r, hj, e, h⟩ | ⟨j, kvs, r, hj, e, h⟩
    · obtain ⟨vs, e1, q1⟩ := o.cells _ (at_split (in_app hj))
      obtain ⟨v, e2, r2⟩ := atI_rs q1 e
      exact .inl (.inl ⟨_, _, _, v, rfl, rfl, SqL.of e1, e2, q _ _ S H (o.push r2) h⟩)
    · obtain ⟨vs, e1, q1⟩ := o.cells _ (at_split (in_app hj))
      obtain ⟨v, e2, r2⟩ := find_kv q1 e
      exact .inr ⟨_, v, rfl, by rw [← e2]; exact DGet.k (k := Sum.inl i) e1, q _ _ S H (o.push r2) h⟩
  · rename_i p z
    cases hy
    cases (show x = V.ref p from hx)
    obtain ⟨j, kvs, r, hj, e, h⟩ := hf
    obtain ⟨vs, e1, q1⟩ := o.cells _ (at_split (in_app hj))
    obtain ⟨v, e2, r2⟩ := find_kv q1 e
    exact .inr ⟨_, v, rfl, by rw [← e2]; exact DGet.k (k := Sum.inr z) e1, q _ _ S H (o.push r2) h⟩
  · rename_i ks rs z
    cases hy
    obtain ⟨a, vs, rfl, e1, _, el, q1⟩ := (show ∃ a vs, x = .ref a ∧ H a = some (.dK (ks.zip vs)) ∧ ¬ _ ∧ vs.length = ks.length ∧ RepRl K _ H vs rs from hx)
    obtain ⟨r, e, h⟩ := hf
    obtain ⟨v, e2, r2⟩ := find_kv (zip_kv q1.pair) e
    exact .inr ⟨_, v, rfl, by rw [← e2]; exact DGet.k (k := Sum.inr z) e1, q _ _ S H (o.push r2) h⟩
  · exact hf.elim

/-! ### slices -/
def cutD {α : Type} (xs : List α) (lo hi : Option Int) : List α := (xs.drop (HT.sIx xs.length 0 lo)).take (HT.sIx xs.length xs.length hi - HT.sIx xs.length 0 lo)
theorem cut_all {A : Addr → Prop} {H : Hp} {xs : List V} {ds : List PyData} (h : RepAll K A H xs ds) (lo hi : Option Int) : RepAll K A H (cutV xs lo hi) (cutD ds lo hi) := by
  unfold cutV cutD
  rw [← h.length]
  exact (h.drop _).take _
abbrev F1 := R → SH → CR0 → Prop
def fSl (lo hi : Option Int) : F1 := fun a S C => match a with
  | .dat (.list ds) => C (.dat (.list (cutD ds lo hi))) S
  | .dat (.tuple ds) => C (.dat (.tuple (cutD ds lo hi))) S
  | .dat (.str z) => z.length ≤ 100000 ∧ C (.dat (.str (cutS z lo hi))) S
  | _ => False
def dSl (f : Option Int → Option Int → F1) (da : DE) (dl dh : DO) : DE := fun fr S C => da fr S fun a S1 => dl fr S1 fun lo S2 => dh fr S2 fun hi S3 => f lo hi a S3 C
def SlD (K : Fg) (r : V → Option Int → Option Int → Hp → VK → Prop) (f : Option Int → Option Int → F1) : Prop := ∀ (F : SH) (x : V) (lo hi : Option Int) (a : R) (H : Hp) (S : SH) (L : Live) (C : CR0) (Q : VK), OkF K F H S L → (x, a) ∈ L → f lo hi a S C →
  (∀ v c S' H', OkF K F H' S' ((v, c) :: L) → C c S' → Q v H') → r x lo hi H Q
theorem lift_sl {r : V → Option Int → Option Int → Hp → VK → Prop} {f : Option Int → Option Int → F1} {ta : TE} {tl th : TO} {da : DE} {dl dh : DO} (h : SlD K r f) (la : Lift K ta da) (ll : LiftO K tl dl) (lh : LiftO K th dh) : Lift K (tSl r ta tl th) (dSl f da dl dh) := by
  intro F H σ fr S L fo o C Q hd q
  refine la F H σ fr S L fo o _ _ hd fun x a S1 H1 o1 h1 => ?_
  refine ll F H1 σ fr S1 _ (fo.mono tl_mem) o1 _ _ h1 fun lo S2 H2 o2 h2 => ?_
  refine lh F H2 σ fr S2 _ (fo.mono tl_mem) o2 _ _ h2 fun hi S3 H3 o3 h3 => ?_
  exact h F x lo hi a H3 S3 _ C Q o3 List.mem_cons_self h3 fun v c S4 H4 o4 h4 => q v c S4 H4 (o4.sub (sub_cons tl_mem)) h4
def rSlAll (K : Fg) : V → Option Int → Option Int → Hp → VK → Prop := fun x lo hi H Q => rSlL K x lo hi H Q ∨ rSlA K x lo hi H Q ∨ rSlS x lo hi H Q
theorem sl_all {X : Cx} : SlR X (rSlAll X.K) := sl_list.or (sl_tupA.or sl_str)
theorem cutD_whole {α : Type} {xs : List α} {lo hi : Option Int} (h : HT.sIx xs.length 0 lo = 0 ∧ HT.sIx xs.length xs.length hi = xs.length) : cutD xs lo hi = xs := by
  unfold cutD
  rw [h.1, h.2]
  simp
theorem sld_all : SlD K (rSlAll K) fSl := by
  intro F x lo hi a H S L C Q o hx hf q
  replace hx := o.live _ hx
  unfold fSl at hf
  split at hf
  · cases hx with | lst h1 n1 q1 =>
    exact .inl ⟨_, _, rfl, SqL.of h1, fun p hp => q _ _ S _ (o.lst hp (cut_all q1 lo hi)) hf⟩
  · cases hx with | tup h1 q1 =>
    refine .inr (.inl ⟨_, _, rfl, sqT_of (A := Av S) h1, fun w => ?_, fun _ p hp => q _ _ S _ (o.tup hp (cut_all q1 lo hi)) hf⟩)
    rw [q1.length] at w
    rw [cutD_whole w] at hf
    exact q _ _ S H (o.pd (.tup h1 q1)) hf
  · cases hx
    exact .inr (.inr ⟨_, rfl, big_of hf.1, q _ _ S H (o.pd (.str _)) hf.2⟩)
  · exact hf.elim
def dNoPart : DO := fun _ S C => C none S
def dPart (d : DE) : DO := fun fr S C => d fr S fun a S1 => match a with
  | .dat (.int i) => C (some i) S1
  | _ => False
theorem lift_noPart : LiftO K tNoPart dNoPart := fun F H σ fr S L fo o C Q hd q => q none S H o hd
theorem lift_part {ta : TE} {da : DE} (la : Lift K ta da) : LiftO K (tPart ta) (dPart da) := by
  intro F H σ fr S L fo o C Q hd q
  refine la F H σ fr S L fo o _ _ hd fun x a S1 H1 o1 h1 => ?_
  split at h1
  · rename_i i
    cases rep_int_inv (o1.dat List.mem_cons_self)
    exact ⟨i, rfl, q _ S1 H1 (o1.sub tl_mem) h1⟩
  · exact h1.elim

/-! ### calls of built-ins by values -/
abbrev FA := List R → SH → CR0 → Prop
def CallD (K : Fg) (r : List V → Hp → VK → Prop) (f : FA) : Prop := ∀ (F : SH) (vs : List V) (rs : List R) (H : Hp) (S : SH) (L : Live) (C : CR0) (Q : VK), OkF K F H S L → Lives L vs rs → f rs S C →
  (∀ v c S' H', OkF K F H' S' ((v, c) :: L) → C c S' → Q v H') → r vs H Q
def dCB (f : FA) (da : DA) : DE := fun fr S C => da fr S fun rs S1 => f rs S1 C
theorem lift_cb {r : List V → Hp → VK → Prop} {f : FA} {ta : TA} {da : DA} (h : CallD K r f) (la : LiftA K ta da) : Lift K (tCB r ta) (dCB f da) := by
  intro F H σ fr S L fo o C Q hd q
  refine la F H σ fr S L fo o _ _ hd fun vs rs S1 H1 L1 o1 hs lv h1 => ?_
  exact h F vs rs H1 S1 L1 C Q o1 lv h1 fun v c S2 H2 o2 h2 => q v c S2 H2 (o2.sub (sub_cons hs)) h2
def dNil : DA := fun _ S C => C [] S
def dCons (d : DE) (da : DA) : DA := fun fr S C => d fr S fun a S1 => da fr S1 fun rs S2 => C (a :: rs) S2
theorem lift_nil : LiftA K tNil dNil := fun F H σ fr S L fo o C Q hd q => q [] [] S H L o (fun _ h => h) .nil hd
theorem lift_cons {te : TE} {de : DE} {ta : TA} {da : DA} (l : Lift K te de) (la : LiftA K ta da) : LiftA K (tCons te ta) (dCons de da) := by
  intro F H σ fr S L fo o C Q hd q
  refine l F H σ fr S L fo o _ _ hd fun x a S1 H1 o1 h1 => ?_
  refine la F H1 σ fr S1 _ (fo.mono tl_mem) o1 _ _ h1 fun vs rs S2 H2 L2 o2 hs lv h2 => ?_
  exact q (x :: vs) (a :: rs) S2 H2 L2 o2 (fun e he => hs e (List.mem_cons_of_mem _ he)) (.cons (hs _ List.mem_cons_self) lv) h2
/-! ### displays -/
def dTup (da : DA) : DE := fun fr S C => da fr S fun rs S1 => rs.length ≤ 100000 ∧ ∃ ds, dats rs = some ds ∧ C (.dat (.tuple ds)) S1
def dLst (da : DA) : DE := fun fr S C => da fr S fun rs S1 => rs.length ≤ 100000 ∧ ∃ ds, dats rs = some ds ∧ C (.dat (.list ds)) S1
def dLstC (da : DA) : DE := fun fr S C => da fr S fun rs S1 => rs.length ≤ 100000 ∧ ∀ p, C (.val (.ref p)) (.lst p rs :: S1)
def dTp (da : DA) : DE := fun fr S C => da fr S fun rs S1 => rs.length ≤ 100000 ∧ C (.tp rs) S1
theorem lift_tp {ta : TA} {da : DA} (la : LiftA K ta da) : Lift K (tTup ta) (dTp da) := by
  intro F H σ fr S L fo o C Q hd q
  refine la F H σ fr S L fo o _ _ hd fun vs rs S1 H1 L1 o1 hs lv h1 => ?_
  obtain ⟨hl, h⟩ := h1
  exact ⟨by rw [paired_len lv]; exact big_of hl, fun p hp => q _ _ S1 _ ((Ok.push (r := .tp rs) (o1.new hp) ⟨p, vs, rfl, .inl upd_same, RepRl.of ((o1.reps lv).stp (stp_new hp))⟩).sub (sub_cons hs)) h⟩
theorem lift_tup {ta : TA} {da : DA} (la : LiftA K ta da) : Lift K (tTup ta) (dTup da) := by
  intro F H σ fr S L fo o C Q hd q
  refine la F H σ fr S L fo o _ _ hd fun vs rs S1 H1 L1 o1 hs lv h1 => ?_
  obtain ⟨hl, ds, e, h⟩ := h1
  exact ⟨by rw [paired_len lv]; exact big_of hl, fun p hp => q _ _ S1 _ ((o1.tup hp (o1.all lv e)).sub (sub_cons hs)) h⟩
theorem lift_lst {ta : TA} {da : DA} (la : LiftA K ta da) : Lift K (tLst ta) (dLst da) := by
  intro F H σ fr S L fo o C Q hd q
  refine la F H σ fr S L fo o _ _ hd fun vs rs S1 H1 L1 o1 hs lv h1 => ?_
  obtain ⟨hl, ds, e, h⟩ := h1
  exact ⟨by rw [paired_len lv]; exact big_of hl, fun p hp => q _ _ S1 _ ((o1.lst hp (o1.all lv e)).sub (sub_cons hs)) h⟩
theorem lift_lstC {ta : TA} {da : DA} (la : LiftA K ta da) : Lift K (tLst ta) (dLstC da) := by
  intro F H σ fr S L fo o C Q hd q
  refine la F H σ fr S L fo o _ _ hd fun vs rs S1 H1 L1 o1 hs lv h1 => ?_
  obtain ⟨hl, h⟩ := h1
  refine ⟨by rw [paired_len lv]; exact big_of hl, fun p hp => q _ _ (.lst p rs :: S1) _ (((Ok.push (r := .val (.ref p)) (o1.lstC hp (o1.reps lv)) rfl)).sub (sub_cons hs)) (h p)⟩
/-! ### tests -/
def dTest (d : DE) : DT := fun fr S C => d fr S fun a S1 => match a with
  | .dat (.bool k) => C k S1
  | _ => False
theorem lift_test {t : TE} {d : DE} (l : Lift K t d) : LiftT K (tTest t) (dTest d) := by
  intro F H σ fr S L fo o C Q hd q
  refine l F H σ fr S L fo o _ _ hd fun x a S1 H1 o1 h1 => ?_
  split at h1
  · rename_i k
    have e : x = .bl k := by cases (o1.dat List.mem_cons_self); rfl
    exact ⟨k, e, q k S1 H1 (o1.sub tl_mem) h1⟩
  · exact h1.elim
theorem lift_testB {t : TE} {d : DE} (l : Lift K t d) : LiftT K (tB t) (dTest d) := lift_test l
def dAnd (t u : DT) : DT := fun fr S C => t fr S fun c S1 => if c = true then u fr S1 C else C false S1
def dOr (t u : DT) : DT := fun fr S C => t fr S fun c S1 => if c = true then C true S1 else u fr S1 C
def dNot (t : DT) : DT := fun fr S C => t fr S fun c S1 => C (!c) S1
theorem lift_and {t u : TT} {dt du : DT} (l : LiftT K t dt) (l2 : LiftT K u du) : LiftT K (tAnd t u) (dAnd dt du) := by
  intro F H σ fr S L fo o C Q hd q
  refine l F H σ fr S L fo o _ _ hd fun c S1 H1 o1 h1 => ?_
  cases c with
  | true => exact l2 F H1 σ fr S1 L fo o1 C Q h1 q
  | false => exact q false S1 H1 o1 h1
theorem lift_or {t u : TT} {dt du : DT} (l : LiftT K t dt) (l2 : LiftT K u du) : LiftT K (tOr t u) (dOr dt du) := by
  intro F H σ fr S L fo o C Q hd q
  refine l F H σ fr S L fo o _ _ hd fun c S1 H1 o1 h1 => ?_
  cases c with
  | true => exact q true S1 H1 o1 h1
  | false => exact l2 F H1 σ fr S1 L fo o1 C Q h1 q
theorem lift_not {t : TT} {dt : DT} (l : LiftT K t dt) : LiftT K (tNot t) (dNot dt) := by
  intro F H σ fr S L fo o C Q hd q
  exact l F H σ fr S L fo o _ _ hd fun c S1 H1 o1 h1 => q (!c) S1 H1 o1 h1
/-- .. as values -/
def dAndV (a b : DE) : DE := fun fr S C => a fr S fun x S1 => match x with
  | .dat (.bool c) => if c = true then b fr S1 C else C (.dat (.bool false)) S1
  | _ => False
def dOrV (a b : DE) : DE := fun fr S C => a fr S fun x S1 => match x with
  | .dat (.bool c) => if c = true then C (.dat (.bool true)) S1 else b fr S1 C
  | _ => False
def dNotV (a : DE) : DE := fun fr S C => a fr S fun x S1 => match x with
  | .dat (.bool c) => C (.dat (.bool (!c))) S1
  | _ => False
theorem rep_bool_inv {A : Addr → Prop} {H : Hp} {v : V} {i : Bool} (h : Rep K A H v (.bool i)) : v = .bl i := by cases h; rfl
theorem lift_andV {ta tb : TE} {da db : DE} (la : Lift K ta da) (lb : Lift K tb db) : Lift K (tAndV ta tb) (dAndV da db) := by
  intro F H σ fr S L fo o C Q hd q
  refine la F H σ fr S L fo o _ _ hd fun x a S1 H1 o1 h1 => ?_
  split at h1
  · rename_i c
    refine ⟨c, rep_bool_inv (o1.dat List.mem_cons_self), ?_⟩
    cases c with
    | true => exact lb F H1 σ fr S1 L fo (o1.sub tl_mem) C Q h1 q
    | false => exact q _ _ S1 H1 ((o1.sub tl_mem).pd (.bl _)) h1
  · exact h1.elim
theorem lift_orV {ta tb : TE} {da db : DE} (la : Lift K ta da) (lb : Lift K tb db) : Lift K (tOrV ta tb) (dOrV da db) := by
  intro F H σ fr S L fo o C Q hd q
  refine la F H σ fr S L fo o _ _ hd fun x a S1 H1 o1 h1 => ?_
  split at h1
  · rename_i c
    refine ⟨c, rep_bool_inv (o1.dat List.mem_cons_self), ?_⟩
    cases c with
    | false => exact lb F H1 σ fr S1 L fo (o1.sub tl_mem) C Q h1 q
    | true => exact q _ _ S1 H1 ((o1.sub tl_mem).pd (.bl _)) h1
  · exact h1.elim
theorem lift_notV {ta : TE} {da : DE} (la : Lift K ta da) : Lift K (tNotV ta) (dNotV da) := by
  intro F H σ fr S L fo o C Q hd q
  refine la F H σ fr S L fo o _ _ hd fun x a S1 H1 o1 h1 => ?_
  split at h1
  · rename_i c
    exact ⟨c, rep_bool_inv (o1.dat List.mem_cons_self), q _ _ S1 H1 ((o1.sub tl_mem).pd (.bl _)) h1⟩
  · exact h1.elim
def dIf (t : DT) (a b : DE) : DE := fun fr S C => t fr S fun c S1 => if c = true then a fr S1 C else b fr S1 C
theorem lift_if {t : TT} {dt : DT} {ta tb : TE} {da db : DE} (l : LiftT K t dt) (la : Lift K ta da) (lb : Lift K tb db) : Lift K (tIf t ta tb) (dIf dt da db) := by
  intro F H σ fr S L fo o C Q hd q
  refine l F H σ fr S L fo o _ _ hd fun c S1 H1 o1 h1 => ?_
  cases c with
  | true => exact la F H1 σ fr S1 L fo o1 C Q h1 q
  | false => exact lb F H1 σ fr S1 L fo o1 C Q h1 q
/-- a < b < c -/
def dChain (f g : F2) (da db dc : DE) : DE := fun fr S C => da fr S fun a S1 => db fr S1 fun b S2 => f a b S2 fun z S3 => match z with
  | .dat (.bool k) => if k = true then dc fr S3 fun c S4 => g b c S4 C else C (.dat (.bool false)) S3
  | _ => False
theorem lift_chain {r r' : R2} {f g : F2} {ta tb tc : TE} {da db dc : DE} (h : OpD K r f) (h' : OpD K r' g) (la : Lift K ta da) (lb : Lift K tb db) (lc : Lift K tc dc) : Lift K (tChain r r' ta tb tc) (dChain f g da db dc) := by
  intro F H σ fr S L fo o C Q hd q
  refine la F H σ fr S L fo o _ _ hd fun x a S1 H1 o1 h1 => ?_
  refine lb F H1 σ fr S1 _ (fo.mono tl_mem) o1 _ _ h1 fun y b S2 H2 o2 h2 => ?_
  refine h F x y a b H2 S2 _ _ _ o2 (List.mem_cons_of_mem _ List.mem_cons_self) List.mem_cons_self h2 fun z c S3 H3 o3 h3 => ?_
  have o3' := o3.sub tl_mem
  split at h3
  · rename_i k
    refine ⟨k, rep_bool_inv (o3.dat List.mem_cons_self), ?_⟩
    cases k with
    | false => exact q _ _ S3 H3 ((o3'.pd (.bl false)).sub (sub_cons fun e he => List.mem_cons_of_mem _ (List.mem_cons_of_mem _ he))) h3
    | true =>
      refine lc F H3 σ fr S3 _ (fo.mono fun e he => List.mem_cons_of_mem _ (List.mem_cons_of_mem _ he)) o3' _ _ h3 fun w d S4 H4 o4 h4 => ?_
      exact h' F y w b d H4 S4 _ C Q o4 (List.mem_cons_of_mem _ List.mem_cons_self) List.mem_cons_self h4 fun v e S5 H5 o5 h5 =>
        q v e S5 H5 (o5.sub (sub_cons fun e he => List.mem_cons_of_mem _ (List.mem_cons_of_mem _ (List.mem_cons_of_mem _ he)))) h5
  · exact h3.elim
end

/-! ### the rules -/
section
variable {X : Cx} {a b c e f : Expr} {da db dc de df : DE} {dA : DA} {dt du : DT} {dl dh : DO} {pos : Pos} {es : List Expr}
theorem dv (i : Nat) {x : Str} {pos : Pos} (hN : X.N[i]? = some x := by rfl) (hv : Vis X.env.scope x := by first | exact Or.inl rfl | exact Or.inr (Or.inl rfl) | exact Or.inr (Or.inr rfl)) (hd : (x == ("__debug__" : Str)) = false := by decide)
    (hcd : (x == ("__classdict__" : Str)) = false := by decide) : PD X (.Name x pos) (dVar i) := ⟨_, pe_var hN hv hd hcd, lift_var i⟩
theorem d_int {i : Int} {j : Nat} : PD X (.Constant (.int i) j pos) (dC (.dat (.int i))) := ⟨_, pe_int, lift_c fun _ _ => .int i⟩
theorem d_bl {i : Bool} {j : Nat} : PD X (.Constant (.bool i) j pos) (dC (.dat (.bool i))) := ⟨_, pe_bl, lift_c fun _ _ => .bl i⟩
theorem d_non {j : Nat} : PD X (.Constant .none j pos) (dC (.dat .none)) := ⟨_, pe_non, lift_c fun _ _ => .non⟩
theorem d_str {i : Str} {j : Nat} : PD X (.Constant (.str i) j pos) (dC (.dat (.str i))) := ⟨_, pe_str, lift_c fun _ _ => .str i⟩
/-- a module's constant -/
theorem d_globI {x : Str} {i : Int} {t : Tok} (hg : Gl X x) (hm : X.mg x = some (.int i t)) (hd : (x == ("__debug__" : Str)) = false := by decide) : PD X (.Name x pos) (dC (.dat (.int i))) := ⟨_, pe_glob (v := .int i) hg hm ⟨_, rfl⟩ hd, lift_c fun _ _ => .int i⟩
theorem d_globS {x : Str} {i : Str} {t : Tok} (hg : Gl X x) (hm : X.mg x = some (.str i t)) (hd : (x == ("__debug__" : Str)) = false := by decide) : PD X (.Name x pos) (dC (.dat (.str i))) := ⟨_, pe_glob (v := .str i) hg hm ⟨_, rfl⟩ hd, lift_c fun _ _ => .str i⟩
theorem d_globV {x : Str} {v : V} {u : Value} (hg : Gl X x) (hm : X.mg x = some u) (r : RelV v u) (hd : (x == ("__debug__" : Str)) = false := by decide) : PD X (.Name x pos) (dC (.val v)) := ⟨_, pe_glob hg hm r hd, lift_c fun _ _ => rfl⟩
theorem d_bltn {x : Str} {v : V} {u : Value} (hg : Gl X x) (hm : X.mg x = none) (hv : bootBuiltins x = some u) (r : RelV v u) (hn : x ≠ "__name__" := by decide) (hd : (x == ("__debug__" : Str)) = false := by decide) : PD X (.Name x pos) (dC (.val v)) := ⟨_, pe_bltn hg hm hv r hn hd, lift_c fun _ _ => rfl⟩
theorem d_opG {op : Operator} {r : R2} {f : F2} (ho : OpR X (binaryOp op) r) (hd : OpD X.K r f) (ha : PD X a da) (hb : PD X b db) : PD X (.BinOp a op b pos) (dOp f da db) := by
  obtain ⟨_, pa, la⟩ := ha.ex
  obtain ⟨_, pb, lb⟩ := hb.ex
  exact ⟨_, pe_op ho pa pb, lift_op hd la lb⟩
theorem d_add (ha : PD X a da) (hb : PD X b db) : PD X (.BinOp a .Add b pos) (dOp fAdd da db) := d_opG op_addAll opd_add ha hb
theorem d_sub (ha : PD X a da) (hb : PD X b db) : PD X (.BinOp a .Sub b pos) (dOp (fI0 fun i j => .int (i - j)) da db) := d_opG op_sub (opd_I0 fun _ _ _ _ => .int _) ha hb
theorem d_mul (ha : PD X a da) (hb : PD X b db) : PD X (.BinOp a .Mult b pos) (dOp fMul da db) := d_opG op_mulAll opd_mul ha hb
theorem d_mulC (ha : PD X a da) (hb : PD X b db) : PD X (.BinOp a .Mult b pos) (dOp fMulC da db) := d_opG op_mulAll opd_mulC ha hb
theorem d_mod (ha : PD X a da) (hb : PD X b db) : PD X (.BinOp a .Mod b pos) (dOp (fI (fun _ j => 0 < j) fun i j => .int (i % j)) da db) := d_opG op_mod (opd_I (fun _ _ h => h) fun _ _ _ _ => .int _) ha hb
theorem d_fdiv (ha : PD X a da) (hb : PD X b db) : PD X (.BinOp a .FloorDiv b pos) (dOp (fI CDivW fun i j => .int (i / j)) da db) := d_opG op_fdivW (opd_I (fun _ _ h => h) fun _ _ _ _ => .int _) ha hb
theorem d_pow (ha : PD X a da) (hb : PD X b db) : PD X (.BinOp a .Pow b pos) (dOp (fI CPow fun i j => .int (i ^ j.toNat)) da db) := d_opG op_pow (opd_I (fun _ _ h => h) fun _ _ _ _ => .int _) ha hb
def fNeg : F1 := fun a S C => match a with
  | .dat (.int i) => C (.dat (.int (-i))) S
  | _ => False
def dUn (f : F1) (da : DE) : DE := fun fr S C => da fr S fun a S1 => f a S1 C
theorem d_neg (ha : PD X a da) : PD X (.UnaryOp .USub a pos) (dUn fNeg da) := by
  obtain ⟨_, pa, la⟩ := ha.ex
  refine ⟨_, pe_un un_neg pa, ?_⟩
  intro F H σ fr S L fo o C Q hd q
  refine la F H σ fr S L fo o _ _ hd fun x a S1 H1 o1 h1 => ?_
  unfold fNeg at h1
  split at h1
  · cases rep_int_inv (o1.dat List.mem_cons_self)
    exact ⟨_, rfl, q _ _ S1 H1 ((o1.sub tl_mem).pd (.int _)) h1⟩
  · exact h1.elim
/-! comparisons -/
theorem d_cmpG {op : CmpOp} {r : R2} {f : F2} (ho : OpR X (compareOp op) r) (hd : OpD X.K r f) (ha : PD X a da) (hb : PD X b db) (hm : behindInMarks op b = false) : PD X (.Compare a [op] [b] pos) (dOp f da db) := by
  obtain ⟨_, pa, la⟩ := ha.ex
  obtain ⟨_, pb, lb⟩ := hb.ex
  exact ⟨_, pe_cmpR ho pa pb hm, lift_op hd la lb⟩
theorem t_cmpG {op : CmpOp} {r : R2} {f : F2} (ho : OpR X (compareOp op) r) (hd : OpD X.K r f) (ha : PD X a da) (hb : PD X b db) (hm : behindInMarks op b = false) : PDT X (.Compare a [op] [b] pos) (dTest (dOp f da db)) := by
  obtain ⟨_, pa, la⟩ := ha.ex
  obtain ⟨_, pb, lb⟩ := hb.ex
  exact ⟨_, pt_cmpR ho pa pb hm, lift_test (lift_op hd la lb)⟩
abbrev fLt : F2 := fI0 fun i j => .bool (decide (i < j))
abbrev fLe : F2 := fI0 fun i j => .bool (decide (i ≤ j))
abbrev fGt : F2 := fI0 fun i j => .bool (decide (j < i))
abbrev fGe : F2 := fI0 fun i j => .bool (decide (j ≤ i))
theorem opd_lt {K : Fg} : OpD K (rI0 fun i j => .bl (decide (i < j))) fLt := opd_I0 fun _ _ _ _ => .bl _
theorem opd_le {K : Fg} : OpD K (rI0 fun i j => .bl (decide (i ≤ j))) fLe := opd_I0 fun _ _ _ _ => .bl _
theorem opd_gt {K : Fg} : OpD K (rI0 fun i j => .bl (decide (j < i))) fGt := opd_I0 fun _ _ _ _ => .bl _
theorem opd_ge {K : Fg} : OpD K (rI0 fun i j => .bl (decide (j ≤ i))) fGe := opd_I0 fun _ _ _ _ => .bl _
theorem d_lt (ha : PD X a da) (hb : PD X b db) : PD X (.Compare a [.Lt] [b] pos) (dOp fLt da db) := d_cmpG op_lt opd_lt ha hb (nomark _)
theorem d_le (ha : PD X a da) (hb : PD X b db) : PD X (.Compare a [.LtE] [b] pos) (dOp fLe da db) := d_cmpG op_le opd_le ha hb (nomark _)
theorem d_gt (ha : PD X a da) (hb : PD X b db) : PD X (.Compare a [.Gt] [b] pos) (dOp fGt da db) := d_cmpG op_gt opd_gt ha hb (nomark _)
theorem d_ge (ha : PD X a da) (hb : PD X b db) : PD X (.Compare a [.GtE] [b] pos) (dOp fGe da db) := d_cmpG op_ge opd_ge ha hb (nomark _)
theorem d_eq (hu : X.A.units + 64 < cLine) (ha : PD X a da) (hb : PD X b db) : PD X (.Compare a [.Eq] [b] pos) (dOp fEq da db) := d_cmpG (op_eqAll hu) opd_eq ha hb (nomark _)
theorem d_ne (hu : X.A.units + 64 < cLine) (ha : PD X a da) (hb : PD X b db) : PD X (.Compare a [.NotEq] [b] pos) (dOp fNe da db) := d_cmpG (op_neAll hu) opd_ne ha hb (nomark _)
theorem d_isN (ha : PD X a da) (hb : PD X b db) : PD X (.Compare a [.Is] [b] pos) (dOp fIsN da db) := d_cmpG op_isN opd_isN ha hb (nomark _)
theorem d_notN (ha : PD X a da) (hb : PD X b db) : PD X (.Compare a [.IsNot] [b] pos) (dOp fNotN da db) := d_cmpG op_notN opd_notN ha hb (nomark _)
theorem d_in (ha : PD X a da) (hb : PD X b db) (hm : behindInMarks .In b = false := by rfl) : PD X (.Compare a [.In] [b] pos) (dOp (fIn false) da db) := d_cmpG op_in_seq opd_in ha hb hm
theorem d_notIn (ha : PD X a da) (hb : PD X b db) (hm : behindInMarks .NotIn b = false := by rfl) : PD X (.Compare a [.NotIn] [b] pos) (dOp (fIn true) da db) := d_cmpG op_notIn_seq opd_in ha hb hm
theorem t_lt (ha : PD X a da) (hb : PD X b db) : PDT X (.Compare a [.Lt] [b] pos) (dTest (dOp fLt da db)) := t_cmpG op_lt opd_lt ha hb (nomark _)
theorem t_le (ha : PD X a da) (hb : PD X b db) : PDT X (.Compare a [.LtE] [b] pos) (dTest (dOp fLe da db)) := t_cmpG op_le opd_le ha hb (nomark _)
theorem t_gt (ha : PD X a da) (hb : PD X b db) : PDT X (.Compare a [.Gt] [b] pos) (dTest (dOp fGt da db)) := t_cmpG op_gt opd_gt ha hb (nomark _)
theorem t_ge (ha : PD X a da) (hb : PD X b db) : PDT X (.Compare a [.GtE] [b] pos) (dTest (dOp fGe da db)) := t_cmpG op_ge opd_ge ha hb (nomark _)
theorem t_eq (hu : X.A.units + 64 < cLine) (ha : PD X a da) (hb : PD X b db) : PDT X (.Compare a [.Eq] [b] pos) (dTest (dOp fEq da db)) := t_cmpG (op_eqAll hu) opd_eq ha hb (nomark _)
theorem t_ne (hu : X.A.units + 64 < cLine) (ha : PD X a da) (hb : PD X b db) : PDT X (.Compare a [.NotEq] [b] pos) (dTest (dOp fNe da db)) := t_cmpG (op_neAll hu) opd_ne ha hb (nomark _)
theorem t_isN (ha : PD X a da) (hb : PD X b db) : PDT X (.Compare a [.Is] [b] pos) (dTest (dOp fIsN da db)) := t_cmpG op_isN opd_isN ha hb (nomark _)
theorem t_notN (ha : PD X a da) (hb : PD X b db) : PDT X (.Compare a [.IsNot] [b] pos) (dTest (dOp fNotN da db)) := t_cmpG op_notN opd_notN ha hb (nomark _)
theorem t_in (ha : PD X a da) (hb : PD X b db) (hm : behindInMarks .In b = false := by rfl) : PDT X (.Compare a [.In] [b] pos) (dTest (dOp (fIn false) da db)) := t_cmpG op_in_seq opd_in ha hb hm
theorem t_notIn (ha : PD X a da) (hb : PD X b db) (hm : behindInMarks .NotIn b = false := by rfl) : PDT X (.Compare a [.NotIn] [b] pos) (dTest (dOp (fIn true) da db)) := t_cmpG op_notIn_seq opd_in ha hb hm
theorem d_leLe (ha : PD X a da) (hb : PD X b db) (hc : PD X c dc) (hm : lastMarks [.LtE, .LtE] [b, c] = false := by with_unfolding_all rfl) : PD X (.Compare a [.LtE, .LtE] [b, c] pos) (dChain fLe fLe da db dc) := by
  obtain ⟨_, pa, la⟩ := ha.ex
  obtain ⟨_, pb, lb⟩ := hb.ex
  obtain ⟨_, pc, lc⟩ := hc.ex
  exact ⟨_, pe_chain op_le op_le pa pb pc hm, lift_chain opd_le opd_le la lb lc⟩
theorem d_leLt (ha : PD X a da) (hb : PD X b db) (hc : PD X c dc) (hm : lastMarks [.LtE, .Lt] [b, c] = false := by with_unfolding_all rfl) : PD X (.Compare a [.LtE, .Lt] [b, c] pos) (dChain fLe fLt da db dc) := by
  obtain ⟨_, pa, la⟩ := ha.ex
  obtain ⟨_, pb, lb⟩ := hb.ex
  obtain ⟨_, pc, lc⟩ := hc.ex
  exact ⟨_, pe_chain op_le op_lt pa pb pc hm, lift_chain opd_le opd_lt la lb lc⟩
theorem t_leLe (ha : PD X a da) (hb : PD X b db) (hc : PD X c dc) (hm : lastMarks [.LtE, .LtE] [b, c] = false := by with_unfolding_all rfl) : PDT X (.Compare a [.LtE, .LtE] [b, c] pos) (dTest (dChain fLe fLe da db dc)) := by
  obtain ⟨_, pa, la⟩ := ha.ex
  obtain ⟨_, pb, lb⟩ := hb.ex
  obtain ⟨_, pc, lc⟩ := hc.ex
  exact ⟨_, pt_chain op_le op_le pa pb pc hm, lift_test (lift_chain opd_le opd_le la lb lc)⟩
theorem t_leLt (ha : PD X a da) (hb : PD X b db) (hc : PD X c dc) (hm : lastMarks [.LtE, .Lt] [b, c] = false := by with_unfolding_all rfl) : PDT X (.Compare a [.LtE, .Lt] [b, c] pos) (dTest (dChain fLe fLt da db dc)) := by
  obtain ⟨_, pa, la⟩ := ha.ex
  obtain ⟨_, pb, lb⟩ := hb.ex
  obtain ⟨_, pc, lc⟩ := hc.ex
  exact ⟨_, pt_chain op_le op_lt pa pb pc hm, lift_test (lift_chain opd_le opd_lt la lb lc)⟩
theorem t_ltLe (ha : PD X a da) (hb : PD X b db) (hc : PD X c dc) (hm : lastMarks [.Lt, .LtE] [b, c] = false := by with_unfolding_all rfl) : PDT X (.Compare a [.Lt, .LtE] [b, c] pos) (dTest (dChain fLt fLe da db dc)) := by
  obtain ⟨_, pa, la⟩ := ha.ex
  obtain ⟨_, pb, lb⟩ := hb.ex
  obtain ⟨_, pc, lc⟩ := hc.ex
  exact ⟨_, pt_chain op_lt op_le pa pb pc hm, lift_test (lift_chain opd_lt opd_le la lb lc)⟩
/-! tests -/
theorem t_val (h : PD X e de) (he : ∀ whole, isTrue e X.env whole = (do let v ← whole; standAt e.pos; holding [v] (truthy v)) := by intro _; rfl) : PDT X e (dTest de) := by
  obtain ⟨_, p, l⟩ := h.ex
  exact ⟨_, pt_val p he, lift_testB l⟩
theorem PDW.pt (h : PDW X e dt) : PDT X e dt := by
  obtain ⟨_, p, l⟩ := h.ex
  exact ⟨_, p.pt, l⟩
theorem w_and1 (ha : PDT X a dt) : PDW X (.BoolOp .And [a] pos) dt := by
  obtain ⟨_, p, l⟩ := ha.ex
  exact ⟨_, pw_and1 p, l⟩
theorem w_or1 (ha : PDT X a dt) : PDW X (.BoolOp .Or [a] pos) dt := by
  obtain ⟨_, p, l⟩ := ha.ex
  exact ⟨_, pw_or1 p, l⟩
theorem w_and {rest : List Expr} (ha : PDT X a dt) (hb : PDW X (.BoolOp .And (b :: rest) pos) du) : PDW X (.BoolOp .And (a :: b :: rest) pos) (dAnd dt du) := by
  obtain ⟨_, p, l⟩ := ha.ex
  obtain ⟨_, p2, l2⟩ := hb.ex
  exact ⟨_, pw_and p p2, lift_and l l2⟩
theorem w_or {rest : List Expr} (ha : PDT X a dt) (hb : PDW X (.BoolOp .Or (b :: rest) pos) du) : PDW X (.BoolOp .Or (a :: b :: rest) pos) (dOr dt du) := by
  obtain ⟨_, p, l⟩ := ha.ex
  obtain ⟨_, p2, l2⟩ := hb.ex
  exact ⟨_, pw_or p p2, lift_or l l2⟩
theorem t_not (ha : PDT X a dt) : PDT X (.UnaryOp .Not a pos) (dNot dt) := by
  obtain ⟨_, p, l⟩ := ha.ex
  exact ⟨_, pt_not p, lift_not l⟩
theorem d_one {op : BoolOp} (ha : PD X a da) : PD X (.BoolOp op [a] pos) da := by
  obtain ⟨_, p, l⟩ := ha.ex
  exact ⟨_, pe_one p, l⟩
theorem d_and {rest : List Expr} (ha : PD X a da) (hb : PD X (.BoolOp .And (b :: rest) pos) db) : PD X (.BoolOp .And (a :: b :: rest) pos) (dAndV da db) := by
  obtain ⟨_, p, l⟩ := ha.ex
  obtain ⟨_, p2, l2⟩ := hb.ex
  exact ⟨_, pe_and p p2, lift_andV l l2⟩
theorem d_or {rest : List Expr} (ha : PD X a da) (hb : PD X (.BoolOp .Or (b :: rest) pos) db) : PD X (.BoolOp .Or (a :: b :: rest) pos) (dOrV da db) := by
  obtain ⟨_, p, l⟩ := ha.ex
  obtain ⟨_, p2, l2⟩ := hb.ex
  exact ⟨_, pe_or p p2, lift_orV l l2⟩
theorem d_not (ha : PD X a da) : PD X (.UnaryOp .Not a pos) (dNotV da) := by
  obtain ⟨_, p, l⟩ := ha.ex
  exact ⟨_, pe_not p, lift_notV l⟩
theorem d_if (hc : PDT X c dt) (ha : PD X a da) (hb : PD X b db) : PD X (.IfExp c a b pos) (dIf dt da db) := by
  obtain ⟨_, p, l⟩ := hc.ex
  obtain ⟨_, pa, la⟩ := ha.ex
  obtain ⟨_, pb, lb⟩ := hb.ex
  exact ⟨_, pe_ifExp p pa pb, lift_if l la lb⟩
/-! subscripts, slices, displays -/
theorem d_ix (hu : X.A.units + 1 < cLine) (ha : PD X a da) (hb : PD X b db) (hs : PlainIx b := by exact fun _ _ => rfl) : PD X (.Subscript a b pos) (dOp fIx da db) := by
  obtain ⟨_, pa, la⟩ := ha.ex
  obtain ⟨_, pb, lb⟩ := hb.ex
  exact ⟨_, pe_ix (ix_all hu) pa pb hs, lift_op opd_ix la lb⟩
theorem o_none : PDO X none dNoPart := ⟨_, po_none, lift_noPart⟩
theorem o_some (h : PD X e de) : PDO X (some e) (dPart de) := by
  obtain ⟨_, p, l⟩ := h.ex
  exact ⟨_, po_some p, lift_part l⟩
theorem d_slice {lo hi : Option Expr} {p2 : Pos} (ha : PD X a da) (hl : PDO X lo dl) (hh : PDO X hi dh) : PD X (.Subscript a (.Slice lo hi none p2) pos) (dSl fSl da dl dh) := by
  obtain ⟨_, p, l⟩ := ha.ex
  obtain ⟨_, p2, l2⟩ := hl.ex
  obtain ⟨_, p3, l3⟩ := hh.ex
  exact ⟨_, pe_slice sl_all p p2 p3, lift_sl sld_all l l2 l3⟩
theorem a_nil : PDA X [] dNil := ⟨_, pa_nil, lift_nil⟩
theorem a_cons (h : PD X e de) (hr : PDA X es dA) (hs : starEach (e :: es) X.env = (false, eval e X.env) :: starEach es X.env := by rfl) : PDA X (e :: es) (dCons de dA) := by
  obtain ⟨_, p, l⟩ := h.ex
  obtain ⟨_, p2, l2⟩ := hr.ex
  exact ⟨_, pa_cons p p2 hs, lift_cons l l2⟩
theorem d_tup {x1} (h : PDA X es dA) : PD X (.Tuple es x1 pos) (dTup dA) := by
  obtain ⟨_, p, l⟩ := h.ex
  exact ⟨_, pe_tup p, lift_tup l⟩
theorem d_tp {x1} (h : PDA X es dA) : PD X (.Tuple es x1 pos) (dTp dA) := by
  obtain ⟨_, p, l⟩ := h.ex
  exact ⟨_, pe_tup p, lift_tp l⟩
theorem d_lst (h : PDA X es dA) : PD X (.List es pos) (dLst dA) := by
  obtain ⟨_, p, l⟩ := h.ex
  exact ⟨_, pe_lst p, lift_lst l⟩
theorem d_lstC (h : PDA X es dA) : PD X (.List es pos) (dLstC dA) := by
  obtain ⟨_, p, l⟩ := h.ex
  exact ⟨_, pe_lst p, lift_lstC l⟩
theorem d_callB {id : String} {x : Str} {p : Pos} {r : List V → Hp → VK → Prop} {f : FA} (hc : CallR X (.builtin id) r) (hd : CallD X.K r f) (hg : Gl X x) (hm : X.mg x = none) (hv : bootBuiltins x = some (.builtin id)) (ha : PDA X (e :: es) dA) (hn : x ≠ "__name__" := by decide) (hdb : (x == ("__debug__" : Str)) = false := by decide)
    (he : starEach (e :: es) X.env = (false, eval e X.env) :: starEach es X.env := by rfl) (hpl : (backTo pos (starEach es X.env)).any (·.1) = false := by rfl) :
    PD X (.Call (.Name x p) (e :: es) [] pos) (dCB f dA) := by
  obtain ⟨_, pa, la⟩ := ha.ex
  exact ⟨_, pe_callB hc hg hm hv pa hn hdb he hpl, lift_cb hd la⟩
theorem d_callTy {T : String} {x : Str} {p : Pos} {r : List V → Hp → VK → Prop} {f : FA} (hc : CallR X (.type T) r) (hd : CallD X.K r f) (hg : Gl X x) (hm : X.mg x = none) (hv : bootBuiltins x = some (.type T)) (ha : PDA X (e :: es) dA) (hn : x ≠ "__name__" := by decide) (hdb : (x == ("__debug__" : Str)) = false := by decide)
    (he : starEach (e :: es) X.env = (false, eval e X.env) :: starEach es X.env := by rfl) (hpl : (backTo pos (starEach es X.env)).any (·.1) = false := by rfl) :
    PD X (.Call (.Name x p) (e :: es) [] pos) (dCB f dA) := by
  obtain ⟨_, pa, la⟩ := ha.ex
  exact ⟨_, pe_callTy hc hg hm hv pa hn hdb he hpl, lift_cb hd la⟩
end
end DL
set_option Elab.async false
set_option linter.all false
set_option maxRecDepth 100000
set_option maxHeartbeats 4000000
/-! DL, third part: statements, loops, comprehensions, calls of defs. -/
namespace DL
open PySem PySem.Spec PyProof.Rows L2

section
variable {K : Fg}
/-! ### canonical readings -/
def toTE (K : Fg) (de : DE) : TE := fun σ H Q => ∃ (F : SH) (fr : Fr) (S : SH) (L : Live) (C : CR0), FrOk σ fr L ∧ OkF K F H S L ∧ de fr S C ∧ ∀ v r S' H', OkF K F H' S' ((v, r) :: L) → C r S' → Q v H'
theorem lift_to (de : DE) : Lift K (toTE K de) de := fun F H σ fr S L f o C Q hd q => ⟨F, fr, S, L, C, f, o, hd, q⟩
def toTT (K : Fg) (dt : DT) : TT := fun σ H Q => ∃ (F : SH) (fr : Fr) (S : SH) (L : Live) (C : Bool → SH → Prop), FrOk σ fr L ∧ OkF K F H S L ∧ dt fr S C ∧ ∀ b S' H', OkF K F H' S' L → C b S' → Q b H'
theorem liftT_to (dt : DT) : LiftT K (toTT K dt) dt := fun F H σ fr S L f o C Q hd q => ⟨F, fr, S, L, C, f, o, hd, q⟩
theorem PD.pe {X : Cx} {e : Expr} {de : DE} (h : PD X e de) : PE X e (toTE X.K de) := by
  obtain ⟨te, p, l⟩ := h.ex
  exact ⟨fun pins s σ H Q I ⟨F, fr, S, L, C, f, o, hd, q⟩ => p.run pins s σ H Q I (l F H σ fr S L f o C Q hd q)⟩
theorem PDT.pt {X : Cx} {e : Expr} {dt : DT} (h : PDT X e dt) : PT X e (toTT X.K dt) := by
  obtain ⟨te, p, l⟩ := h.ex
  exact ⟨fun pins s σ H Q I ⟨F, fr, S, L, C, f, o, hd, q⟩ => p.run pins s σ H Q I (l F H σ fr S L f o C Q hd q)⟩

/-! ### blocks and simple statements -/
def sNext : DS := fun D fr S => D.nx fr S
def sSeq (t u : DS) : DS := fun D fr S => t { D with nx := u D } fr S
def sBreak : DS := fun D fr S => D.bk fr S
def sCont : DS := fun D fr S => D.ct fr S
def sDrop (d : DE) : DS := fun D fr S => d fr S fun _ S1 => D.nx fr S1
def sRet (d : DE) : DS := fun D fr S => d fr S D.rt
def sRetN : DS := fun D _ S => D.rt (.dat .none) S
def sIf (t : DT) (a b : DS) : DS := fun D fr S => t fr S fun c S1 => if c = true then a D fr S1 else b D fr S1
def sNever : DS := fun _ _ _ => False
theorem lift_next : LiftS K tNext sNext := fun F H σ fr S L f o D D' e h => e.nx σ fr S H L f o (fun _ z => z) h
theorem lift_brk : LiftS K tBreak sBreak := fun F H σ fr S L f o D D' e h => e.bk σ fr S H L f o (fun _ z => z) h
theorem lift_cnt : LiftS K tCont sCont := fun F H σ fr S L f o D D' e h => e.ct σ fr S H L f o (fun _ z => z) h
theorem lift_never : LiftS K tNever sNever := fun F H σ fr S L f o D D' e h => h.elim
theorem lift_seq {t u : TS} {dt du : DS} (l : LiftS K t dt) (l2 : LiftS K u du) : LiftS K (tSeq t u) (sSeq dt du) := fun F H σ fr S L f o D D' e h =>
  l F H σ fr S L f o { D with nx := u D } { D' with nx := du D' } ⟨fun σ' fr' S' H' L' f' o' s' h' => l2 F H' σ' fr' S' L' f' o' D D' (e.mono s') h', e.rt, e.bk, e.ct⟩ h
theorem lift_drop {t : TE} {d : DE} (l : Lift K t d) : LiftS K (tDrop t) (sDrop d) := fun F H σ fr S L f o D D' e h =>
  l F H σ fr S L f o _ _ h fun v r S' H' o' h' => e.nx σ fr S' H' L f (o'.sub tl_mem) (fun _ z => z) h'
theorem lift_ret {t : TE} {d : DE} (l : Lift K t d) : LiftS K (tRet t) (sRet d) := fun F H σ fr S L f o D D' e h =>
  l F H σ fr S L f o _ _ h fun v r S' H' o' h' => e.rt v r S' H' o' h'
theorem lift_retN : LiftS K tRetN sRetN := fun F H σ fr S L f o D D' e h => e.rt _ _ S H (o.pd .non) h
theorem lift_ifS {t : TT} {dt : DT} {a b : TS} {da db : DS} (l : LiftT K t dt) (la : LiftS K a da) (lb : LiftS K b db) : LiftS K (tIfS t a b) (sIf dt da db) := fun F H σ fr S L f o D D' e h => by
  refine l F H σ fr S L f o _ _ h fun c S' H' o' h' => ?_
  cases c with
  | true => exact la F H' σ fr S' L f o' D D' e h'
  | false => exact lb F H' σ fr S' L f o' D D' e h'
/-! ### targets -/
def gnm (i : Nat) : DG := fun r fr S C => C (fr.set i (some r)) S
theorem lift_name (i : Nat) : LiftG K (gName i) (gnm i) := fun F H σ fr S L v r f o m C Q h q => q _ _ S H L (f.set m i) o (fun _ z => z) h
def gNl : DGs := fun rs fr S C => rs = [] ∧ C fr S
def gCn (t : DG) (u : DGs) : DGs := fun rs fr S C => match rs with
  | r :: rs => t r fr S fun fr' S' => u rs fr' S' C
  | [] => False
theorem lift_gnil : LiftGs K gNil gNl := fun F H σ fr S L vs rs f o m C Q h q => by
  obtain ⟨rfl, h⟩ := h
  cases m
  exact ⟨rfl, q σ fr S H L f o (fun _ z => z) h⟩
theorem lift_gcons {t : TG} {u : TGs} {dt : DG} {du : DGs} (l : LiftG K t dt) (l2 : LiftGs K u du) : LiftGs K (gCons t u) (gCn dt du) := fun F H σ fr S L vs rs f o m C Q h q => by
  cases m with
  | nil => exact h.elim
  | cons m1 m2 =>
    refine ⟨_, _, rfl, ?_⟩
    refine l F H σ fr S L _ _ f o m1 _ _ h fun σ1 fr1 S1 H1 L1 f1 o1 s1 h1 => ?_
    exact l2 F H1 σ1 fr1 S1 L1 _ _ f1 o1 (Lives.mono s1 m2) _ _ h1 fun σ2 fr2 S2 H2 L2 f2 o2 s2 h2 => q σ2 fr2 S2 H2 L2 f2 o2 (fun z hz => s2 z (s1 z hz)) h2
def gTp (n : Nat) (t : DGs) : DG := fun r fr S C => match r with
  | .dat (.tuple ds) => ds.length = n ∧ t (ds.map R.dat) fr S C
  | .tp rs => rs.length = n ∧ t rs fr S C
  | _ => False
theorem push_all {H : Hp} {S : SH} {L : Live} (o : Ok K H S L) : ∀ {vs : List V} {ds : List PyData}, RepAll K (Av S) H vs ds → ∃ L', Ok K H S L' ∧ (∀ e ∈ L, e ∈ L') ∧ Lives L' vs (ds.map R.dat)
  | _, _, .nil => ⟨L, o, fun _ z => z, .nil⟩
  | _, _, .cons h t => by
    obtain ⟨L', o', s', lv⟩ := push_all o t
    exact ⟨_, o'.pd h, fun e he => List.mem_cons_of_mem _ (s' e he), .cons List.mem_cons_self (Lives.mono tl_mem lv)⟩
theorem push_rs {H : Hp} {S : SH} {L : Live} (o : Ok K H S L) : ∀ {vs : List V} {rs : List R}, RepRs K (Av S) H vs rs → ∃ L', Ok K H S L' ∧ (∀ e ∈ L, e ∈ L') ∧ Lives L' vs rs
  | _, _, .nil => ⟨L, o, fun _ z => z, .nil⟩
  | _, _, .cons h t => by
    obtain ⟨L', o', s', lv⟩ := push_rs o t
    exact ⟨_, o'.push h, fun e he => List.mem_cons_of_mem _ (s' e he), .cons List.mem_cons_self (Lives.mono tl_mem lv)⟩
theorem lift_gtup {n : Nat} {t : TGs} {dt : DGs} (l : LiftGs K t dt) : LiftG K (gTup K n t) (gTp n dt) := fun F H σ fr S L v r f o m C Q h q => by
  unfold gTp at h
  split at h
  · obtain ⟨hn, h⟩ := h
    have hr := o.dat m
    cases hr with | tup h1 q1 =>
    obtain ⟨L', o', s', lv⟩ := push_all o q1
    refine ⟨_, _, rfl, sqT_of (A := Av S) h1, q1.length.trans hn, ?_⟩
    exact l F H σ fr S L' _ _ (f.mono s') o' lv _ _ h fun σ1 fr1 S1 H1 L1 f1 o1 s1 h1 => q σ1 fr1 S1 H1 L1 f1 o1 (fun e he => s1 e (s' e he)) h1
  · rename_i rs
    obtain ⟨hn, h⟩ := h
    obtain ⟨a, vs, rfl, h1, q1⟩ := (show ∃ a vs, v = .ref a ∧ (H a = some (.tup vs) ∨ KTup K a vs) ∧ RepRl K _ H vs rs from o.live _ m)
    obtain ⟨L', o', s', lv⟩ := push_rs o q1.pair
    refine ⟨_, _, rfl, sqT_of (A := Av S) h1, (paired_len lv).trans hn, ?_⟩
    exact l F H σ fr S L' _ _ (f.mono s') o' lv _ _ h fun σ1 fr1 S1 H1 L1 f1 o1 s1 h1 => q σ1 fr1 S1 H1 L1 f1 o1 (fun e he => s1 e (s' e he)) h1
  · exact h.elim
def sAsg (d : DE) (g : DG) : DS := fun D fr S => d fr S fun r S1 => g r fr S1 D.nx
theorem lift_asg {t : TE} {d : DE} {g : TG} {dg : DG} (l : Lift K t d) (lg : LiftG K g dg) : LiftS K (tAsg t g) (sAsg d dg) := fun F H σ fr S L f o D D' e h => by
  refine l F H σ fr S L f o _ _ h fun v r S1 H1 o1 h1 => ?_
  exact lg F H1 σ fr S1 _ v r (f.mono tl_mem) o1 List.mem_cons_self _ _ h1 fun σ2 fr2 S2 H2 L2 f2 o2 s2 h2 => e.nx σ2 fr2 S2 H2 L2 f2 o2 (fun z hz => s2 z (List.mem_cons_of_mem _ hz)) h2
/-- a, b = x, y -/
def sPar (i j : Nat) (da : DA) : DS := fun D fr S => da fr S fun rs S1 => match rs with
  | [r, q] => D.nx ((fr.set i (some r)).set j (some q)) S1
  | _ => False
theorem lift_par {i j : Nat} {ta : TA} {da : DA} (l : LiftA K ta da) : LiftS K (tPar i j ta) (sPar i j da) := fun F H σ fr S L f o D D' e h => by
  refine l F H σ fr S L f o _ _ h fun vs rs S1 H1 L1 o1 s1 lv h1 => ?_
  split at h1
  · cases lv with | cons m1 t => cases t with | cons m2 t2 =>
    cases t2
    exact ⟨_, _, rfl, e.nx _ _ S1 H1 L1 (((f.mono s1).set m1 i).set m2 j) o1 s1 h1⟩
  · exact h1.elim
/-! ### o[i] = e -/
def gSb (dO di : DE) (f : R → R → R → SH → (SH → Prop) → Prop) : DG := fun r fr S C => dO fr S fun a S1 => di fr S1 fun b S2 => f a b r S2 fun S3 => C fr S3
/-- kvs with k bound to r -/
def putR (kvs : List (Key × R)) (k : Key) (r : R) : List (Key × R) := if kvs.any (fun kv => decide (kv.1 = k)) then kvs.map (fun kv => if kv.1 = k then (kv.1, r) else kv) else kvs ++ [(k, r)]
def fSet : R → R → R → SH → (SH → Prop) → Prop := fun a b r S C => match a, b with
  | .val (.ref p), .dat (.int i) => (∃ (j : Nat) (xs : List R) (m : Nat), S[j]? = some (.lst p xs) ∧ ixN xs.length i = some m ∧ C (S.set j (.lst p (xs.set m r)))) ∨
      ∃ (j : Nat) (kvs : List (Key × R)), S[j]? = some (.dct p kvs) ∧ kvs.length < 100000 ∧ C (S.set j (.dct p (putR kvs (Sum.inl i) r)))
  | .val (.ref p), .dat (.str x) => ∃ (j : Nat) (kvs : List (Key × R)), S[j]? = some (.dct p kvs) ∧ kvs.length < 100000 ∧ C (S.set j (.dct p (putR kvs (Sum.inr x) r)))
  | _, _ => False
def rSetAll : TSet := fun o i v H Q => rSetL o i v H Q ∨ ∃ a H', o = .ref a ∧ DPut H a i v H' ∧ Q H'
theorem paired_set {α β : Type} {P : α → β → Prop} {x : α} {y : β} (r : P x y) : ∀ {xs : List α} {us : List β} (i : Nat), Paired P xs us → Paired P (xs.set i x) (us.set i y)
  | _, _, _, .nil => .nil
  | _, _, 0, .cons _ t => .cons r t
  | _, _, i + 1, .cons q t => .cons q (paired_set r i t)
theorem paired_app {α β : Type} {P : α → β → Prop} : ∀ {xs ys : List α} {us ws : List β}, Paired P xs us → Paired P ys ws → Paired P (xs ++ ys) (us ++ ws)
  | _, _, _, _, .nil, s => s
  | _, _, _, _, .cons r t, s => .cons r (paired_app t s)
theorem any_kv {P : V → R → Prop} (k : Key) : ∀ {kws : List (Key × V)} {kvs : List (Key × R)}, Paired (fun (a : Key × V) (b : Key × R) => a.1 = b.1 ∧ P a.2 b.2) kws kvs → (kws.any fun kv => decide (kv.1 = k)) = kvs.any fun kv => decide (kv.1 = k)
  | _, _, .nil => rfl
  | a :: as, b :: bs, .cons ⟨h1, h2⟩ t => by rw [List.any_cons, List.any_cons, any_kv k t, h1]
theorem map_kv {P : V → R → Prop} {v : V} {r : R} (k : Key) (h : P v r) : ∀ {kws : List (Key × V)} {kvs : List (Key × R)}, Paired (fun (a : Key × V) (b : Key × R) => a.1 = b.1 ∧ P a.2 b.2) kws kvs →
    Paired (fun (a : Key × V) (b : Key × R) => a.1 = b.1 ∧ P a.2 b.2) (kws.map fun kv => if kv.1 = k then (kv.1, v) else kv) (kvs.map fun kv => if kv.1 = k then (kv.1, r) else kv)
  | _, _, .nil => .nil
  | a :: as, b :: bs, .cons ⟨h1, h2⟩ t => by
    rw [List.map_cons, List.map_cons]
    refine .cons ?_ (map_kv k h t)
    by_cases hk : b.1 = k
    · rw [if_pos hk, if_pos (h1.trans hk)]; exact ⟨h1, h⟩
    · rw [if_neg hk, if_neg (fun z => hk (h1.symm.trans z))]; exact ⟨h1, h2⟩
theorem put_kv {P : V → R → Prop} {v : V} {r : R} (k : Key) (h : P v r) {kws : List (Key × V)} {kvs : List (Key × R)} (q : Paired (fun (a : Key × V) (b : Key × R) => a.1 = b.1 ∧ P a.2 b.2) kws kvs) :
    Paired (fun (a : Key × V) (b : Key × R) => a.1 = b.1 ∧ P a.2 b.2) (putK kws k v) (putR kvs k r) := by
  unfold putK putR
  rw [any_kv k q]
  split
  · exact map_kv k h q
  · exact paired_app q (.cons ⟨rfl, h⟩ .nil)
theorem lift_gsub {to ti : TE} {dO di : DE} (lo : Lift K to dO) (li : Lift K ti di) : LiftG K (gSub to ti rSetAll) (gSb dO di fSet) := fun F H σ fr S L v r f o m C Q h q => by
  refine lo F H σ fr S L f o _ _ h fun a ra S1 H1 o1 h1 => ?_
  refine li F H1 σ fr S1 _ (f.mono tl_mem) o1 _ _ h1 fun b rb S2 H2 o2 h2 => ?_
  have ha := o2.live (a, ra) (List.mem_cons_of_mem _ List.mem_cons_self)
  have hb := o2.live (b, rb) List.mem_cons_self
  have hv := o2.live (v, r) (List.mem_cons_of_mem _ (List.mem_cons_of_mem _ m))
  have sb : ∀ e ∈ L, e ∈ (b, rb) :: (a, ra) :: L := fun e he => List.mem_cons_of_mem _ (List.mem_cons_of_mem _ he)
  unfold fSet at h2
  split at h2
  · rename_i p i
    cases (show a = V.ref p from ha)
    cases rep_int_inv hb
    rcases h2 with ⟨j, xs, mm, hj, em, h2⟩ | ⟨j, kvs, hj, hl, h2⟩
    · obtain ⟨vs, e1, q1⟩ := o2.cells _ (at_split (in_app hj))
      refine .inl ⟨p, vs, i, mm, rfl, rfl, e1, by rw [paired_len q1]; exact em, ?_⟩
      have o3 := o2.putL (in_app hj) (paired_set (P := RepR K (Av (S2 ++ F)) H2) hv mm q1)
      rw [set_app hj] at o3
      exact q _ _ _ _ _ (f.mono sb) o3 sb h2
    · obtain ⟨vs, e1, q1⟩ := o2.cells _ (at_split (in_app hj))
      refine .inr ⟨p, _, rfl, DPut.k (k := Sum.inl i) e1 (by rw [paired_len q1]; exact big_lt hl), ?_⟩
      have o3 := o2.put (u := .dK (putK vs (Sum.inl i) v)) (c' := .dct p (putR kvs (Sum.inl i) r)) (in_app hj) rfl rfl e1 True.intro ⟨_, upd_same, Paired.mapP (put_kv (P := RepR K (Av (S2 ++ F)) H2) (Sum.inl i) hv q1) fun _ _ z => ⟨z.1, z.2.stp (stp_upd e1 (pt_at (in_app hj)) True.intro)⟩⟩
      rw [set_app hj] at o3
      exact q _ _ _ _ _ (f.mono sb) o3 sb h2
  · rename_i p x
    cases (show a = V.ref p from ha)
    cases hb
    obtain ⟨j, kvs, hj, hl, h2⟩ := h2
    obtain ⟨vs, e1, q1⟩ := o2.cells _ (at_split (in_app hj))
    refine .inr ⟨p, _, rfl, DPut.k (k := Sum.inr x) e1 (by rw [paired_len q1]; exact big_lt hl), ?_⟩
    have o3 := o2.put (u := .dK (putK vs (Sum.inr x) v)) (c' := .dct p (putR kvs (Sum.inr x) r)) (in_app hj) rfl rfl e1 True.intro ⟨_, upd_same, Paired.mapP (put_kv (P := RepR K (Av (S2 ++ F)) H2) (Sum.inr x) hv q1) fun _ _ z => ⟨z.1, z.2.stp (stp_upd e1 (pt_at (in_app hj)) True.intro)⟩⟩
    rw [set_app hj] at o3
    exact q _ _ _ _ _ (f.mono sb) o3 sb h2
  · exact h2.elim
/-! ### what is walked -/
def ItOk (K : Fg) (J : It) (items : List R) (L : Live) : Prop := ∀ (H : Hp) (T : SH) (L' : Live), Ok K H T L' → (∀ e ∈ L, e ∈ L') → ∀ i : Nat, (∀ r, items[i]? = some r → J.go i H ∧ ∀ x H', J.yld i H x H' → Ok K H' T ((x, r) :: L')) ∧ (items.length = i → J.stop i H)
abbrev DI := Fr → SH → (List R → SH → Prop) → Prop
def LiftI (K : Fg) (wi : TI) (di : DI) : Prop := ∀ (F : SH) (H : Hp) (σ : L2.St) (fr : Fr) (S : SH) (L : Live), FrOk σ fr L → OkF K F H S L → ∀ (C : List R → SH → Prop) (Rr : It → Hp → Prop), di fr S C →
  (∀ J items S' H' L', OkF K F H' S' L' → (∀ e ∈ L, e ∈ L') → ItOk K J items L' → C items S' → Rr J H') → wi σ H Rr
structure PDI (X : Cx) (tg iter : Expr) (di : DI) : Prop where
  ex : ∃ wi, PI X tg iter wi ∧ LiftI X.K wi di
def iSrc (d : DE) : DI := fun fr S C => d fr S fun a S1 => match a with
  | .dat (.list ds) => C (ds.map R.dat) S1
  | .dat (.tuple ds) => C (ds.map R.dat) S1
  | .dat (.str z) => C (z.cps.toList.map fun c => R.dat (.str ⟨#[c]⟩)) S1
  | .scr ns => C (ns.map fun n => R.dat (.int n)) S1
  | _ => False
theorem it_list {a : Addr} {ds : List PyData} {L : Live} (m : (V.ref a, R.dat (.list ds)) ∈ L) : ItOk K (Itl K a) (ds.map R.dat) L := fun H T L' o s i => by
  have hr := o.dat (s _ m)
  cases hr with | @lst _ xs _ h1 n1 q1 =>
  refine ⟨fun r e => ?_, fun hl => ⟨xs, SqL.of h1, by rw [q1.length]; simpa using Nat.le_of_eq hl⟩⟩
  rw [List.getElem?_map] at e
  cases e1 : ds[i]? with
  | none => rw [e1] at e; cases e
  | some d =>
    rw [e1] at e
    cases e
    obtain ⟨v, ev, rv⟩ := q1.get' e1
    refine ⟨⟨xs, v, SqL.of h1, ev⟩, fun x H' y => ?_⟩
    obtain ⟨rfl, y⟩ := y
    have := y xs (SqL.of h1)
    rw [ev] at this
    cases this
    exact o.pd rv
theorem it_tup {a : Addr} {ds : List PyData} {L : Live} (m : (V.ref a, R.dat (.tuple ds)) ∈ L) : ItOk K (Itt K a) (ds.map R.dat) L := fun H T L' o s i => by
  have hr := o.dat (s _ m)
  cases hr with | @tup _ xs _ h1 q1 =>
  have hq : SqT K H a xs := sqT_of (A := Av T) h1
  refine ⟨fun r e => ?_, fun hl => ⟨xs, hq, by rw [q1.length]; simpa using Nat.le_of_eq hl⟩⟩
  rw [List.getElem?_map] at e
  cases e1 : ds[i]? with
  | none => rw [e1] at e; cases e
  | some d =>
    rw [e1] at e
    cases e
    obtain ⟨v, ev, rv⟩ := q1.get' e1
    refine ⟨⟨xs, v, hq, ev⟩, fun x H' y => ?_⟩
    obtain ⟨rfl, y⟩ := y
    have := y xs hq
    rw [ev] at this
    cases this
    exact o.pd rv
theorem it_scr {a : Addr} {ns : List Int} {L : Live} (m : (V.ref a, R.scr ns) ∈ L) : ItOk K (Itl K a) (ns.map fun n => R.dat (.int n)) L := fun H T L' o s i => by
  obtain ⟨a', ea, h1⟩ := (show ∃ a', V.ref a = .ref a' ∧ ScrAt K H a' (ns.map V.int) from o.live _ (s _ m))
  cases ea
  have hq : SqL K H a (ns.map V.int) := h1.sq
  refine ⟨fun r e => ?_, fun hl => ⟨_, hq, by simpa using Nat.le_of_eq hl⟩⟩
  rw [List.getElem?_map] at e
  cases e1 : ns[i]? with
  | none => rw [e1] at e; cases e
  | some d =>
    rw [e1] at e
    cases e
    have ev : (ns.map V.int)[i]? = some (.int d) := by rw [List.getElem?_map, e1]; rfl
    refine ⟨⟨_, _, hq, ev⟩, fun x H' y => ?_⟩
    obtain ⟨rfl, y⟩ := y
    have := y _ hq
    rw [ev] at this
    cases this
    exact o.pd (.int d)
theorem it_str {z : Str} {L : Live} : ItOk K (Its z) (z.cps.toList.map fun c => R.dat (.str ⟨#[c]⟩)) L := fun H T L' o s i => by
  refine ⟨fun r e => ?_, fun hl => show z.cps.size ≤ i by simpa using Nat.le_of_eq hl⟩
  rw [List.getElem?_map] at e
  cases e1 : z.cps.toList[i]? with
  | none => rw [e1] at e; cases e
  | some d =>
    rw [e1] at e
    cases e
    have h1 : z.cps[i]? = some d := by simpa using e1
    obtain ⟨hl, _⟩ := Array.getElem?_eq_some_iff.mp h1
    refine ⟨hl, fun x H' y => ?_⟩
    obtain ⟨rfl, c, ec, rfl⟩ := y
    rw [h1] at ec
    cases ec
    exact o.pd (.str _)
def iAny (K : Fg) (tl : TE) : TI := fun σ H R => tl σ H fun x H1 => (∃ a, x = .ref a ∧ (∃ xs, SqL K H1 a xs) ∧ R (Itl K a) H1) ∨ (∃ a, x = .ref a ∧ (∃ xs, SqT K H1 a xs) ∧ R (Itt K a) H1) ∨ ∃ z, x = .str z ∧ R (Its z) H1
theorem pi_any {X : Cx} {tg l : Expr} {tl : TE} (hl : PE X l tl) : PI X tg l (iAny X.K tl) := by
  refine ⟨fun pins s σ H R I h => ?_⟩
  refine thn (hl.run pins s σ H _ I h) fun v s1 ⟨x, H1, I1, r1, q1⟩ => ?_
  rcases q1 with ⟨a, e, ⟨xs, hq⟩, q⟩ | ⟨a, e, ⟨xs, hq⟩, q⟩ | ⟨z, e, q⟩
  · subst e
    cases r1
    obtain ⟨its, rv, p, hz⟩ := I1.list hq
    refine wpAny_pyIter_list p.isList ?_
    refine ⟨s1.heap.objs.size, [s1.heap.objs.size], _, _, H1, rfl, I1.kept (t' := s1.toks) fun b o e => Heap.get?_push_of_some _ e, turn_list a _, ⟨_, Heap.get?_push_size _ rfl, rfl, rfl⟩, fun b hb => ?_, q⟩
    have e : b = s1.heap.objs.size := by simpa using hb
    subst e
    exact I1.fpOk (Nat.le_refl _) (I1.hok.fresh (Nat.le_refl _))
  · subst e
    cases r1
    obtain ⟨its, rv, p, hz⟩ := I1.tuple hq
    refine wpAny_pyIter_tuple (show s1.heap.IsTuple a its.toArray from p) ?_
    refine ⟨s1.heap.objs.size, [s1.heap.objs.size], _, _, H1, rfl, I1.kept (t' := s1.toks) fun b o e => Heap.get?_push_of_some _ e, turn_tuple a _, ⟨_, Heap.get?_push_size _ rfl, rfl, rfl⟩, fun b hb => ?_, q⟩
    have e : b = s1.heap.objs.size := by simpa using hb
    subst e
    exact I1.fpOk (Nat.le_refl _) (I1.hok.fresh (Nat.le_refl _))
  · subst e
    obtain ⟨t, rfl⟩ := r1
    cases ha : z.cps.all (· < 128)
    · exact wpAny_pyIter_wide ha (pi_one (tk := s1.toks) I1 _ (turn_str _ z t "str_iterator" (.inr rfl)) ⟨_, Heap.get?_push_size _ rfl, rfl, rfl⟩ q)
    · exact wpAny_pyIter_ascii ha (pi_one (tk := s1.toks) I1 _ (turn_str _ z t "str_ascii_iterator" (.inl rfl)) ⟨_, Heap.get?_push_size _ rfl, rfl, rfl⟩ q)
theorem lift_src {t : TE} {d : DE} (l : Lift K t d) : LiftI K (iAny K t) (iSrc d) := fun F H σ fr S L f o C Rr h q => by
  refine l F H σ fr S L f o _ _ h fun x r S1 H1 o1 h1 => ?_
  have hr := o1.live _ List.mem_cons_self
  split at h1
  · cases hr with | lst e1 n1 q1 =>
    exact .inl ⟨_, rfl, ⟨_, SqL.of e1⟩, q _ _ S1 H1 _ o1 tl_mem (it_list List.mem_cons_self) h1⟩
  · cases hr with | tup e1 q1 =>
    exact .inr (.inl ⟨_, rfl, ⟨_, sqT_of (A := Av S1) e1⟩, q _ _ S1 H1 _ o1 tl_mem (it_tup List.mem_cons_self) h1⟩)
  · cases hr
    exact .inr (.inr ⟨_, rfl, q _ _ S1 H1 _ o1 tl_mem it_str h1⟩)
  · obtain ⟨a, rfl, e1⟩ := hr
    exact .inl ⟨_, rfl, ⟨_, e1.sq⟩, q _ _ S1 H1 _ o1 tl_mem (it_scr List.mem_cons_self) h1⟩
  · exact h1.elim
def rng (lo : Int) (n : Nat) : List R := (List.range n).map fun (i : Nat) => R.dat (.int (lo + (i : Int)))
theorem it_rng {lo : Int} {n : Nat} {L : Live} : ItOk K (Itr lo n) (rng lo n) L := fun H T L' o s i => by
  unfold rng
  refine ⟨fun r e => ?_, fun hl => show n ≤ i by simpa using Nat.le_of_eq hl⟩
  rw [List.getElem?_map] at e
  by_cases hi : i < n
  · rw [List.getElem?_range hi] at e
    cases e
    refine ⟨hi, fun x H' y => ?_⟩
    obtain ⟨rfl, rfl⟩ := y
    exact o.pd (.int _)
  · rw [List.getElem?_eq_none (by simpa using hi)] at e
    cases e
def iR1 (da : DA) : DI := fun fr S C => da fr S fun rs S1 => match rs with
  | [.dat (.int j)] => (-(2 ^ 62) ≤ j ∧ j < 2 ^ 62) ∧ C (rng 0 j.toNat) S1
  | _ => False
def iR2 (da : DA) : DI := fun fr S C => da fr S fun rs S1 => match rs with
  | [.dat (.int i), .dat (.int j)] => (-(2 ^ 62) ≤ i ∧ i < 2 ^ 62 ∧ -(2 ^ 62) ≤ j ∧ j < 2 ^ 62) ∧ C (rng i (j - i).toNat) S1
  | _ => False
/-- downwards by ones -/
def rngD (hi : Int) (n : Nat) : List R := (List.range n).map fun (i : Nat) => R.dat (.int (hi - (i : Int)))
def iR3 (da : DA) : DI := fun fr S C => da fr S fun rs S1 => match rs with
  | [.dat (.int i), .dat (.int j), .dat (.int k)] => (-(2 ^ 62) ≤ i ∧ i < 2 ^ 62 ∧ -(2 ^ 62) ≤ j ∧ j < 2 ^ 62) ∧ k = -1 ∧ C (rngD i (i - j).toNat) S1
  | _ => False
theorem lift_R1 {ta : TA} {da : DA} (l : LiftA K ta da) : LiftI K (iRng1 ta) (iR1 da) := fun F H σ fr S L f o C Rr h q => by
  refine l F H σ fr S L f o _ _ h fun vs rs S1 H1 L1 o1 s1 lv h1 => ?_
  split at h1
  · cases lv with | cons m t =>
    cases t
    cases rep_int_inv (o1.dat m)
    exact ⟨_, rfl, h1.1.1, h1.1.2, q _ _ S1 H1 L1 o1 s1 it_rng h1.2⟩
  · exact h1.elim
theorem lift_R2 {ta : TA} {da : DA} (l : LiftA K ta da) : LiftI K (iRng2 ta) (iR2 da) := fun F H σ fr S L f o C Rr h q => by
  refine l F H σ fr S L f o _ _ h fun vs rs S1 H1 L1 o1 s1 lv h1 => ?_
  split at h1
  · cases lv with | cons m t => cases t with | cons m2 t =>
    cases t
    cases rep_int_inv (o1.dat m)
    cases rep_int_inv (o1.dat m2)
    exact ⟨_, _, rfl, h1.1, q _ _ S1 H1 L1 o1 s1 it_rng h1.2⟩
  · exact h1.elim
theorem it_rngD {hi : Int} {n : Nat} {L : Live} : ItOk K (Itc hi (-1) n) (rngD hi n) L := fun H T L' o s i => by
  unfold rngD
  refine ⟨fun r e => ?_, fun hl => show n ≤ i by simpa using Nat.le_of_eq hl⟩
  rw [List.getElem?_map] at e
  by_cases hlt : i < n
  · rw [List.getElem?_range hlt] at e
    cases e
    refine ⟨hlt, fun x H' y => ?_⟩
    obtain ⟨rfl, rfl⟩ := y
    have e : hi + ((i : Nat) : Int) * -1 = hi - (i : Int) := by omega
    rw [e]
    exact o.pd (.int _)
  · rw [List.getElem?_eq_none (by simpa using hlt)] at e
    cases e
theorem lift_R3 {ta : TA} {da : DA} (l : LiftA K ta da) : LiftI K (iRng3 ta) (iR3 da) := fun F H σ fr S L f o C Rr h q => by
  refine l F H σ fr S L f o _ _ h fun vs rs S1 H1 L1 o1 s1 lv h1 => ?_
  split at h1
  · cases lv with | cons m t => cases t with | cons m2 t => cases t with | cons m3 t =>
    cases t
    cases rep_int_inv (o1.dat m)
    cases rep_int_inv (o1.dat m2)
    cases rep_int_inv (o1.dat m3)
    obtain ⟨⟨a1, a2, a3, a4⟩, rfl, h1⟩ := h1
    exact ⟨_, _, _, _, rfl, RgC.neg a1 a2 a3 a4, q _ _ S1 H1 L1 o1 s1 it_rngD h1⟩
  · exact h1.elim
/-- enumerate(list) -/
def enumD (ds : List PyData) : List R := (List.range ds.length).map fun (i : Nat) => R.dat (.tuple [.int (i : Int), ds.getD i .none])
def iEn (da : DA) : DI := fun fr S C => da fr S fun rs S1 => match rs with
  | [.dat (.list ds)] => C (enumD ds) S1
  | _ => False
theorem it_enum {a : Addr} {ds : List PyData} {L : Live} (m : (V.ref a, R.dat (.list ds)) ∈ L) : ItOk K (Ite K a) (enumD ds) L := fun H T L' o s i => by
  have hr := o.dat (s _ m)
  cases hr with | @lst _ xs _ h1 n1 q1 =>
  unfold enumD
  refine ⟨fun r e => ?_, fun hl => ⟨xs, SqL.of h1, by rw [q1.length]; simpa using Nat.le_of_eq hl⟩⟩
  rw [List.getElem?_map] at e
  by_cases hi : i < ds.length
  · rw [List.getElem?_range hi] at e
    cases e
    have e1 : ds[i]? = some ds[i] := List.getElem?_eq_getElem hi
    obtain ⟨v, ev, rv⟩ := q1.get' e1
    refine ⟨⟨xs, v, SqL.of h1, ev⟩, fun x H' y => ?_⟩
    obtain ⟨T', x', rfl, hT, rfl, y⟩ := y
    have := y xs (SqL.of h1)
    rw [ev] at this
    cases this
    have e2 : ds.getD i .none = ds[i] := by rw [List.getD_eq_getElem?_getD, e1]; rfl
    show Ok K _ T ((V.ref T', R.dat (.tuple [.int ((i : Nat) : Int), ds.getD i .none])) :: L')
    rw [e2]
    exact o.tup hT (.cons (.int _) (.cons rv .nil))
  · rw [List.getElem?_eq_none (by simpa using hi)] at e
    cases e
theorem lift_enum {ta : TA} {da : DA} (l : LiftA K ta da) : LiftI K (iEnum K ta) (iEn da) := fun F H σ fr S L f o C Rr h q => by
  refine l F H σ fr S L f o _ _ h fun vs rs S1 H1 L1 o1 s1 lv h1 => ?_
  split at h1
  · cases lv with | cons m t =>
    cases t
    have hr := o1.dat m
    cases hr with | lst e1 n1 q1 =>
    exact ⟨_, _, rfl, SqL.of e1, q _ _ S1 H1 L1 o1 s1 (it_enum m) h1⟩
  · exact h1.elim
/-! ### for -/
def sFor (di : DI) (dg : DG) (db : DS) : DS := fun D fr S => di fr S fun items S1 => ∃ I : Nat → Fr → SH → Prop, I 0 fr S1 ∧
  (∀ i r fr S, items[i]? = some r → I i fr S → dg r fr S fun fr2 S2 => db { D with nx := I (i + 1), ct := I (i + 1), bk := D.nx } fr2 S2) ∧ ∀ fr S, I items.length fr S → D.nx fr S
theorem lift_for {wi : TI} {di : DI} {g : TG} {dg : DG} {tb : TS} {db : DS} (li : LiftI K wi di) (lg : LiftG K g dg) (lb : LiftS K tb db) : LiftS K (tFor wi g tb) (sFor di dg db) := fun F H σ fr S L f o D D' e h => by
  refine li F H σ fr S L f o _ _ h fun J items S1 H1 L1 o1 s1 it h1 => ?_
  obtain ⟨I, i0, st, dn⟩ := h1
  refine ⟨fun i m σ H => m = items.length - i ∧ i ≤ items.length ∧ ∃ fr S L', FrOk σ fr L' ∧ OkF K F H S L' ∧ (∀ e ∈ L1, e ∈ L') ∧ I i fr S, ⟨items.length, by simp, Nat.zero_le _, fr, S1, L1, f.mono s1, o1, fun _ z => z, i0⟩, ?_⟩
  rintro i m σ2 H2 ⟨rfl, hi, fr2, S2, L2, f2, o2, s2, i2⟩
  obtain ⟨go, sp⟩ := it H2 (S2 ++ F) L2 o2 s2 i
  by_cases hlt : i < items.length
  · obtain ⟨hg, hy⟩ := go _ (List.getElem?_eq_getElem hlt)
    refine .inr ⟨hg, fun σ H => ∃ fr S L', FrOk σ fr L' ∧ OkF K F H S L' ∧ (∀ e ∈ L1, e ∈ L') ∧ I (i + 1) fr S, fun σ' H' n => ⟨items.length - (i + 1), by omega, rfl, hlt, n⟩, fun x H3 y => ?_⟩
    have o3 : OkF K F H3 S2 ((x, items[i]) :: L2) := hy x H3 y
    refine lg F H3 σ2 fr2 S2 _ x _ (f2.mono tl_mem) o3 List.mem_cons_self _ _ (st i _ fr2 S2 (List.getElem?_eq_getElem hlt) i2) fun σ4 fr4 S4 H4 L4 f4 o4 s4 h4 => ?_
    have s14 : ∀ e ∈ L1, e ∈ L4 := fun z hz => s4 z (List.mem_cons_of_mem _ (s2 z hz))
    have sL4 : ∀ e ∈ L, e ∈ L4 := fun z hz => s14 z (s1 z hz)
    refine lb F H4 σ4 fr4 S4 L4 f4 o4 _ { D' with nx := I (i + 1), ct := I (i + 1), bk := D'.nx } ⟨fun σ5 fr5 S5 H5 L5 f5 o5 s5 h5 => ⟨fr5, S5, L5, f5, o5, fun z hz => s5 z (s14 z hz), h5⟩, (e.mono sL4).rt, fun σ5 fr5 S5 H5 L5 f5 o5 s5 h5 => e.nx σ5 fr5 S5 H5 L5 f5 o5 (fun z hz => s5 z (sL4 z hz)) h5,
      fun σ5 fr5 S5 H5 L5 f5 o5 s5 h5 => ⟨fr5, S5, L5, f5, o5, fun z hz => s5 z (s14 z hz), h5⟩⟩ h4
  · have ei : i = items.length := by omega
    subst ei
    exact .inl ⟨sp rfl, e.nx σ2 fr2 S2 H2 L2 f2 o2 (fun z hz => s2 z (s1 z hz)) (dn fr2 S2 i2)⟩
/-! ### while -/
def sWhile (t : DT) (db : DS) : DS := fun D fr S => ∃ W : Nat → Fr → SH → Prop, (∃ m, W m fr S) ∧ ∀ m fr S, W m fr S → t fr S fun b S1 => if b = true then db { D with nx := fun fr S => ∃ m', m' < m ∧ W m' fr S, ct := fun fr S => ∃ m', m' < m ∧ W m' fr S, bk := D.nx } fr S1 else D.nx fr S1
theorem lift_while {t : TT} {dt : DT} {tb : TS} {db : DS} (lt : LiftT K t dt) (lb : LiftS K tb db) : LiftS K (tWhile t tb) (sWhile dt db) := fun F H σ fr S L f o D D' e h => by
  obtain ⟨W, ⟨m0, w0⟩, st⟩ := h
  refine ⟨fun m σ H => ∃ fr S L', FrOk σ fr L' ∧ OkF K F H S L' ∧ (∀ e ∈ L, e ∈ L') ∧ W m fr S, ⟨m0, fr, S, L, f, o, fun _ z => z, w0⟩, ?_⟩
  rintro m σ2 H2 ⟨fr2, S2, L2, f2, o2, s2, w2⟩
  refine lt F H2 σ2 fr2 S2 L2 f2 o2 _ _ (st m fr2 S2 w2) fun b S3 H3 o3 h3 => ?_
  cases b with
  | false => exact e.nx σ2 fr2 S3 H3 L2 f2 o3 s2 h3
  | true =>
    refine ⟨fun σ H => ∃ m', m' < m ∧ ∃ fr S L', FrOk σ fr L' ∧ OkF K F H S L' ∧ (∀ e ∈ L, e ∈ L') ∧ W m' fr S, fun σ' H' n => n, ?_⟩
    have nx : ∀ σ5 fr5 S5 H5 L5, FrOk σ5 fr5 L5 → OkF K F H5 S5 L5 → (∀ e ∈ L2, e ∈ L5) → (∃ m', m' < m ∧ W m' fr5 S5) → ∃ m', m' < m ∧ ∃ fr S L', FrOk σ5 fr L' ∧ OkF K F H5 S L' ∧ (∀ e ∈ L, e ∈ L') ∧ W m' fr S :=
      fun σ5 fr5 S5 H5 L5 f5 o5 s5 ⟨m', hm, h5⟩ => ⟨m', hm, fr5, S5, L5, f5, o5, fun z hz => s5 z (s2 z hz), h5⟩
    exact lb F H3 σ2 fr2 S3 L2 f2 o3 _ { D' with nx := fun fr S => ∃ m', m' < m ∧ W m' fr S, ct := fun fr S => ∃ m', m' < m ∧ W m' fr S, bk := D'.nx } ⟨nx, (e.mono s2).rt, fun σ5 fr5 S5 H5 L5 f5 o5 s5 h5 => e.nx σ5 fr5 S5 H5 L5 f5 o5 (fun z hz => s5 z (s2 z hz)) h5, nx⟩ h3
/-! ### comprehensions, one name -/
def dLcG (E : List R → SH → CR0 → Prop) (di : DI) (i : Nat) (dt : DT) (de : DE) : DE := fun fr S C => di fr S fun items S1 => ∃ I : Nat → List R → SH → Prop, I 0 [] S1 ∧
  (∀ k r acc S, items[k]? = some r → I k acc S → dt (fr.set i (some r)) S fun b S2 => if b = true then de (fr.set i (some r)) S2 fun y S3 => acc.length < 100000 ∧ I (k + 1) (acc ++ [y]) S3 else I (k + 1) acc S2) ∧
  ∀ acc S, I items.length acc S → E acc S C
def eDat : List R → SH → CR0 → Prop := fun acc S C => ∃ ds, dats acc = some ds ∧ C (.dat (.list ds)) S
def eCel : List R → SH → CR0 → Prop := fun acc S C => ∀ p, C (.val (.ref p)) (.lst p acc :: S)
abbrev dLc := dLcG eDat
abbrev dLcC := dLcG eCel
def EndD (K : Fg) (E : List R → SH → CR0 → Prop) : Prop := ∀ (F : SH) (H : Hp) (S : SH) (L : Live) (p : Addr) (acc : List R) (C : CR0), OkF K (.lst p acc :: F) H S L → E acc S C → ∃ r S', OkF K F H S' ((.ref p, r) :: L) ∧ C r S'
theorem mid_get {α : Type} {c : α} : ∀ (S F : List α), (S ++ c :: F)[S.length]? = some c := fun S F => by simp
theorem end_dat : EndD K eDat := fun F H S L p acc C o ⟨ds, e, h⟩ => by
  refine ⟨_, S, ?_, h⟩
  have o2 := o.frz (mid_get S F) e
  have e2 : (S ++ Cell.lst p acc :: F).eraseIdx S.length = S ++ F := by rw [List.eraseIdx_append_of_length_le (Nat.le_refl _)]; simp
  rw [e2] at o2
  exact o2
theorem end_cel : EndD K eCel := fun F H S L p acc C o h => ⟨.val (.ref p), .lst p acc :: S, Ok.push (o.perm List.perm_middle) rfl, h p⟩
theorem lift_lc {E : List R → SH → CR0 → Prop} (hE : EndD K E) {wi : TI} {di : DI} {tt : TT} {dt : DT} {te : TE} {de : DE} {i : Nat} (li : LiftI K wi di) (lt : LiftT K tt dt) (le : Lift K te de) : Lift K (tLc wi (gName i) tt te [i]) (dLcG E di i dt de) := fun F H σ fr S L f o C Q h q => by
  refine li F H σ fr S L f o _ _ h fun J items S1 H1 L1 o1 s1 it h1 D hD => ?_
  obtain ⟨I, i0, st, dn⟩ := h1
  have o0 : OkF K (.lst D [] :: F) (upd H1 D (.lst [])) S1 L1 := (o1.lstC hD .nil).perm List.perm_middle.symm
  refine ⟨fun k m H => m = items.length - k ∧ k ≤ items.length ∧ ∃ S acc L', OkF K (.lst D acc :: F) H S L' ∧ (∀ e ∈ L1, e ∈ L') ∧ I k acc S, ⟨items.length, by simp, Nat.zero_le _, S1, [], L1, o0, fun _ z => z, i0⟩, ?_⟩
  rintro k m H2 ⟨rfl, hk, S2, acc, L2, o2, s2, i2⟩
  obtain ⟨go, sp⟩ := it H2 _ L2 o2 s2 k
  have s02 : ∀ e ∈ L, e ∈ L2 := fun z hz => s2 z (s1 z hz)
  by_cases hlt : k < items.length
  · obtain ⟨hg, hy⟩ := go _ (List.getElem?_eq_getElem hlt)
    refine .inr ⟨hg, fun H => ∃ S acc L', OkF K (.lst D acc :: F) H S L' ∧ (∀ e ∈ L1, e ∈ L') ∧ I (k + 1) acc S, fun H' n => ⟨items.length - (k + 1), by omega, rfl, hlt, n⟩, fun x H3 y => ?_⟩
    have o3 : OkF K (.lst D acc :: F) H3 S2 ((x, items[k]) :: L2) := hy x H3 y
    show wipe ((wipe σ [i]).set i (some x)) [i] = wipe σ [i] ∧ _
    refine ⟨by simp [wipe], ?_⟩
    have f3 : FrOk ((wipe σ [i]).set i (some x)) (fr.set i (some items[k])) ((x, items[k]) :: L2) := by
      have e1 : (wipe σ [i]).set i (some x) = σ.set i (some x) := by simp [wipe]
      rw [e1]
      exact (f.mono fun z hz => List.mem_cons_of_mem _ (s02 z hz)).set List.mem_cons_self i
    refine lt _ H3 _ _ S2 _ f3 o3 _ _ (st k _ acc S2 (List.getElem?_eq_getElem hlt) i2) fun b S4 H4 o4 h4 => ?_
    cases b with
    | false => exact ⟨S4, acc, _, o4, fun z hz => List.mem_cons_of_mem _ (s2 z hz), h4⟩
    | true =>
      refine le _ H4 _ _ S4 _ f3 o4 _ _ h4 fun v r S5 H5 o5 h5 => ?_
      obtain ⟨vs, e5, q5⟩ := o5.cells _ (at_split (mid_get S5 F))
      refine ⟨vs, e5, by rw [paired_len q5]; exact big_lt h5.1, S5, acc ++ [r], (v, r) :: (x, items[k]) :: L2, ?_, fun z hz => List.mem_cons_of_mem _ (List.mem_cons_of_mem _ (s2 z hz)), h5.2⟩
      have o6 := o5.putL (mid_get S5 F) (paired_app q5 (.cons (o5.live (v, r) List.mem_cons_self) .nil))
      rw [List.set_append_right _ _ (Nat.le_refl _)] at o6
      simpa using o6
  · have ek : k = items.length := by omega
    subst ek
    obtain ⟨r, S', o', h'⟩ := hE F H2 S2 L2 D acc C o2 (dn acc S2 i2)
    exact .inl ⟨sp rfl, q _ r S' H2 (o'.sub (sub_cons s02)) h'⟩
/-! ### defs -/
abbrev SpD := List R → SH → CR0 → Prop
def toSp (K : Fg) (n : Nat) (sp : SpD) : Sp := fun vs H Q _ => vs.length = n ∧ ∃ (F S : SH) (L : Live) (rs : List R) (C : CR0), OkF K F H S L ∧ Lives L vs rs ∧ sp rs S C ∧ ∀ v r S' H', OkF K F H' S' ((v, r) :: L) → C r S' → Q v H'
def dCall (n : Nat) (sp : SpD) (da : DA) : DE := fun fr S C => da fr S fun rs S1 => rs.length = n ∧ sp rs S1 C
theorem lift_call {n : Nat} {sp : SpD} {E : XK} {ta : TA} {da : DA} (l : LiftA K ta da) : Lift K (tCall (toSp K n sp) [] E ta) (dCall n sp da) := fun F H σ fr S L f o C Q h q => by
  refine l F H σ fr S L f o _ _ h fun vs rs S1 H1 L1 o1 s1 lv h1 => ?_
  refine ⟨by rw [List.append_nil, paired_len lv]; exact h1.1, F, S1, L1, rs, C, o1, by rw [List.append_nil]; exact lv, h1.2, fun v r S' H' o' h' => q v r S' H' (o'.sub (sub_cons s1)) h'⟩
def startF (N : List Str) (rs : List R) : Fr := rs.map some ++ List.replicate (N.length - rs.length) none
theorem fr_start {N : List Str} {vs : List V} {rs : List R} {L : Live} (lv : Lives L vs rs) : FrOk (L2.start N vs) (startF N rs) L := by
  have hl := paired_len lv
  refine ⟨by unfold L2.start startF; simp [hl], fun i r e => ?_⟩
  unfold startF at e
  rw [List.getElem?_append] at e
  split at e
  · rename_i hi
    rw [List.getElem?_map] at e
    cases e1 : rs[i]? with
    | none => rw [e1] at e; cases e
    | some q =>
      rw [e1] at e
      cases e
      obtain ⟨v, ev, m⟩ := paired_get' lv e1
      refine ⟨v, ?_, m⟩
      unfold L2.start
      rw [List.getElem?_append_left (by
        rw [List.length_map] at hi ⊢
        omega), List.getElem?_map, ev]
      rfl
  · rw [List.getElem?_replicate] at e
    split at e <;> cases e
theorem okD {P : Program} {w : World} {mg : Str → Option Value} {base : Heap} {x qual : Str} {st : Stmt} {f : Addr} {fd : FuncData} {N ps : List Str} {k n : Nat} {sp : SpD} (Fn : Fun K x qual st f fd) (Sc : FnScope N ps (defScope st)) (hn : ps.length = n)
    (hbody : ∀ (cdv : Value) (A : Around) (outer : List Env) (s : Shared) (H : Hp) (E : XK), Room k (A.deeper (envOfC qual (defScope st) s.heap.objs.size f cdv)) →
      ∃ ds, PDSs (cxOf CX0 P w K mg base N qual (defScope st) f cdv A outer s H E).nox (defBody st) ds ∧ ∀ rs S C, rs.length = n → sp rs S C → ds { nx := fun _ S => C (.dat .none) S, rt := C } (startF N rs) S) : FnOk P w K mg base CX0 (k + 1) f fd ps (toSp K n sp) := by
  refine Fn.ok Sc (fun vs H Q E h => h.1.trans hn.symm) fun cdv A outer s H vs Q E hr h => ?_
  obtain ⟨ds, hp, hd⟩ := hbody cdv A outer s H E hr
  obtain ⟨ts, p, l⟩ := hp.ex
  obtain ⟨hl, F, S, L, rs, C, o, lv, hs, q⟩ := h
  refine ⟨ts, p, ?_⟩
  refine l F H (L2.start N vs) (startF N rs) S L (fr_start lv) o _ { nx := fun _ S => C (.dat .none) S, rt := C } ⟨fun σ' fr' S' H' L' f' o' s' h' => ?_, fun v r S' H' o' h' => q v r S' H' o' h', fun _ _ _ _ _ _ _ _ h => h.elim, fun _ _ _ _ _ _ _ _ h => h.elim⟩ (hd rs S C ((paired_len lv).symm.trans hl) hs)
  exact q .non (.dat .none) S' H' ((o'.sub s').pd .non) h'
end

/-! ### the rules -/
section
variable {X : Cx} {a b c e tg iter : Expr} {da db dc de : DE} {dA : DA} {dt du : DT} {di : DI} {dg : DG} {dgs : DGs} {ds d2 : DS} {pos : Pos} {es : List Expr} {st : Stmt} {sts st2 : List Stmt}
theorem ss_nil : PDSs X [] sNext := ⟨_, pss_nil, lift_next⟩
theorem ss_cons (h1 : PDS X st ds) (h2 : PDSs X sts d2) : PDSs X (st :: sts) (sSeq ds d2) := by
  obtain ⟨_, p, l⟩ := h1.ex
  obtain ⟨_, p2, l2⟩ := h2.ex
  exact ⟨_, pss_cons p p2, lift_seq l l2⟩
theorem ss_one (h1 : PDS X st ds) : PDSs X [st] ds := by
  obtain ⟨_, p, l⟩ := h1.ex
  exact ⟨_, pss_one p, l⟩
theorem s_pass : PDS X (.Pass pos) sNext := ⟨_, ps_pass, lift_next⟩
theorem s_break : PDS X (.Break pos) sBreak := ⟨_, ps_break, lift_brk⟩
theorem s_continue : PDS X (.Continue pos) sCont := ⟨_, ps_continue, lift_cnt⟩
theorem s_never : PDS X st sNever := ⟨_, ps_never, lift_never⟩
theorem s_expr (he : PD X e de) (hs : swapsWith e none pos.line X.env = pure false := by rfl) : PDS X (.Expr e pos) (sDrop de) := by
  obtain ⟨_, p, l⟩ := he.ex
  exact ⟨_, ps_expr p hs, lift_drop l⟩
theorem s_ret (he : PD X e de) : PDS X (.Return (some e) pos) (sRet de) := by
  obtain ⟨_, p, l⟩ := he.ex
  exact ⟨_, ps_ret p, lift_ret l⟩
theorem s_retN : PDS X (.Return none pos) sRetN := ⟨_, ps_retN, lift_retN⟩
theorem s_if (hc : PDT X c dt) (ha : PDSs X sts ds) (hb : PDSs X st2 d2) : PDS X (.If c sts st2 pos) (sIf dt ds d2) := by
  obtain ⟨_, p, l⟩ := hc.ex
  obtain ⟨_, p1, l1⟩ := ha.ex
  obtain ⟨_, p2, l2⟩ := hb.ex
  exact ⟨_, ps_if p p1 p2, lift_ifS l l1 l2⟩
theorem g_name {i : Nat} {x : Str} (hN : X.N.Nodup) (hi : X.N[i]? = some x := by rfl) (hx : Loc X.env.scope x := by first | exact Or.inl rfl | exact Or.inr rfl) (hf : X.fn x = true ∨ X.env.scope.names.lookup x = some .local := by first | exact .inl rfl | exact .inr rfl) : PDG X (.Name x pos) (gnm i) := ⟨_, pg_name hN hi hx hf, lift_name i⟩
theorem gs_nil : PDGs X [] gNl := ⟨_, pgs_nil, lift_gnil⟩
theorem gs_cons (h1 : PDG X e dg) (h2 : PDGs X es dgs) (hs : (assignEach (e :: es) X.env).map (·.2) = assign e X.env :: (assignEach es X.env).map (·.2) := by rfl) : PDGs X (e :: es) (gCn dg dgs) := by
  obtain ⟨_, p, l⟩ := h1.ex
  obtain ⟨_, p2, l2⟩ := h2.ex
  exact ⟨_, pgs_cons p p2 hs, lift_gcons l l2⟩
theorem g_tup {k n : Nat} (h : PDGs X es dgs) (hc : X.calm = true := by rfl) (hn : (assignEach es X.env).length = n := by rfl) (hst : (assignEach es X.env).findIdx? (·.1) = none := by rfl) : PDG X (.Tuple es k pos) (gTp n dgs) := by
  obtain ⟨_, p, l⟩ := h.ex
  exact ⟨_, pg_tup hc p hn hst, lift_gtup l⟩
theorem set_all (hu : X.A.units + 1 < cLine) : PSet X rSetAll := by
  intro pins s σ H o i v ov iv vv Q I ro ri rv h
  rcases h with h | ⟨a, H', rfl, g, q⟩
  · exact set_list pins s σ H o i v ov iv vv Q I ro ri rv h
  · obtain rfl : ov = Value.ref a := ro
    exact d_setItem hu I g ri rv fun s' I' => ⟨H', I', q⟩
theorem g_sub {o i : Expr} {dO di : DE} (hu : X.A.units + 1 < cLine) (ho : PD X o dO) (hi : PD X i di)
    (ha : ∀ v, assign (.Subscript o i pos) X.env v = (do
      let ov ← holding [v] (eval o X.env)
      let iv ← holding [v, ov] (eval i X.env)
      standAt pos
      holding [v, ov, iv] (setItem ov iv v)
      release [v, ov, iv] []) := by intro _; rfl) : PDG X (.Subscript o i pos) (gSb dO di fSet) := by
  obtain ⟨_, p, l⟩ := ho.ex
  obtain ⟨_, p2, l2⟩ := hi.ex
  exact ⟨_, pg_sub p p2 (set_all hu) ha, lift_gsub l l2⟩
theorem s_asg (he : PD X e de) (hg : PDG X tg dg) (hs : swapsWithSole [tg] e pos.line X.env = pure false := by rfl) (hw : swappedStores [tg] e X.env = pure none := by rfl) (h1 : (assignEach [tg] X.env).map (·.2) = [assign tg X.env] := by rfl) : PDS X (.Assign [tg] e pos) (sAsg de dg) := by
  obtain ⟨_, p, l⟩ := he.ex
  obtain ⟨_, p2, l2⟩ := hg.ex
  exact ⟨_, ps_asg p p2 hs hw h1, lift_asg l l2⟩
theorem s_set {i : Nat} {x : Str} {pos' : Pos} (hN : X.N.Nodup) (he : PD X e de) (hi : X.N[i]? = some x := by rfl) (hx : Loc X.env.scope x := by first | exact Or.inl rfl | exact Or.inr rfl) (hs : swapsWith e (some (.Name x pos')) pos.line X.env = pure false := by rfl) (hf : X.fn x = true ∨ X.env.scope.names.lookup x = some .local := by first | exact .inl rfl | exact .inr rfl) :
    PDS X (.Assign [.Name x pos'] e pos) (sAsg de (gnm i)) := by
  obtain ⟨_, p, l⟩ := he.ex
  exact ⟨_, ps_set hN hi hx p hs hf, lift_asg l (lift_name i)⟩
theorem s_par {i j : Nat} {x y : Str} {px py pt : Pos} {kt k2 pt2} (hN : X.N.Nodup) (ha : PDA X [a, b] dA) (hc : X.calm = true := by rfl) (hi : X.N[i]? = some x := by rfl) (hj : X.N[j]? = some y := by rfl) (hij : i ≠ j := by decide)
    (hx : X.env.scope.names.lookup x = some .local := by rfl) (hy : X.env.scope.names.lookup y = some .local := by rfl)
    (hw : swappedStores [.Tuple [.Name x px, .Name y py] kt pt] (.Tuple [a, b] k2 pt2) X.env = pure (some [x, y]) := by rfl)
    (hs : swapsWithSole [.Tuple [.Name x px, .Name y py] kt pt] (.Tuple [a, b] k2 pt2) pos.line X.env = pure false := by rfl) :
    PDS X (.Assign [.Tuple [.Name x px, .Name y py] kt pt] (.Tuple [a, b] k2 pt2) pos) (sPar i j dA) := by
  obtain ⟨_, p, l⟩ := ha.ex
  exact ⟨_, ps_par hc hN hi hj hij hx hy p hw hs, lift_par l⟩
theorem i_src (he : PD X e de) : PDI X tg e (iSrc de) := by
  obtain ⟨_, p, l⟩ := he.ex
  exact ⟨_, pi_any p, lift_src l⟩
theorem i_r1 {p : Pos} (hg : Gl X "range") (hm : X.mg "range" = none) (ha : PDA X [a] dA) (hs : starEach [a] X.env = [(false, eval a X.env)] := by rfl) : PDI X tg (.Call (.Name "range" p) [a] [] pos) (iR1 dA) := by
  obtain ⟨_, p, l⟩ := ha.ex
  exact ⟨_, pi_range1 hg hm p hs, lift_R1 l⟩
theorem i_r2 {p : Pos} (hg : Gl X "range") (hm : X.mg "range" = none) (ha : PDA X [a, b] dA) (hs : starEach [a, b] X.env = [(false, eval a X.env), (false, eval b X.env)] := by rfl) (hs2 : starEach [b] X.env = [(false, eval b X.env)] := by rfl) : PDI X tg (.Call (.Name "range" p) [a, b] [] pos) (iR2 dA) := by
  obtain ⟨_, p, l⟩ := ha.ex
  exact ⟨_, pi_range2 hg hm p hs hs2, lift_R2 l⟩
theorem i_enum {p tpos : Pos} {elts : List Expr} {kk : Nat} (hg : Gl X "enumerate") (hm : X.mg "enumerate" = none) (ha : PDA X [e] dA) (hs : starEach [e] X.env = [(false, eval e X.env)] := by rfl) :
    PDI X (.Tuple elts kk tpos) (.Call (.Name "enumerate" p) [e] [] pos) (iEn dA) := by
  obtain ⟨_, p, l⟩ := ha.ex
  exact ⟨_, pi_enum hg hm p hs, lift_enum l⟩
theorem s_for (hi : PDI X tg iter di) (hg : PDG X tg dg) (hb : PDSs X sts ds) (hp : PassesOwn (model X.prog X.w) X.A X.env X.xe := by exact PassesOwn.never) (hc : X.calm = true := by rfl)
    (hs : ∀ x, foldedSetIterable iter X.env x = pure x := by intro _; rfl) : PDS X (.For tg iter sts [] pos) (sFor di dg ds) := by
  obtain ⟨_, p, l⟩ := hi.ex
  obtain ⟨_, p2, l2⟩ := hg.ex
  obtain ⟨_, p3, l3⟩ := hb.ex
  exact ⟨_, ps_for hp hc p p2 p3 hs, lift_for l l2 l3⟩
theorem s_while (hc : PDT X c dt) (hb : PDSs X sts ds) (hp : PassesOwn (model X.prog X.w) X.A X.env X.xe := by exact PassesOwn.never) : PDS X (.While c sts [] pos) (sWhile dt ds) := by
  obtain ⟨_, p, l⟩ := hc.ex
  obtain ⟨_, p2, l2⟩ := hb.ex
  exact ⟨_, ps_while hp p p2, lift_while l l2⟩
theorem i_r3 {p : Pos} (hg : Gl X "range") (hm : X.mg "range" = none) (ha : PDA X [a, b, c] dA) (hs : starEach [a, b, c] X.env = (false, eval a X.env) :: starEach [b, c] X.env := by rfl) (hpl : (backTo pos (starEach [b, c] X.env)).any (·.1) = false := by rfl) : PDI X tg (.Call (.Name "range" p) [a, b, c] [] pos) (iR3 dA) := by
  obtain ⟨_, p, l⟩ := ha.ex
  exact ⟨_, pi_range3 hg hm p hs hpl, lift_R3 l⟩
theorem d_call {P : SpD} {k n : Nat} {f : Addr} {fd : FuncData} {ps : List Str} {x : Str} {p : Pos} (F : FnOk X.prog X.w X.K X.mg X.base CX0 k f fd ps (toSp X.K n P)) (hr : Room k X.A) (hg : Gl X x) (hm : X.mg x = some (.ref f)) (hk : PySem.W.keepIn X.K (.ref f) = true) (hb : Binds X.K fd ps [])
    (ha : PDA X (e :: es) dA) (hdb : (x == ("__debug__" : Str)) = false := by decide) (he : starEach (e :: es) X.env = (false, eval e X.env) :: starEach es X.env := by rfl) (hpl : (backTo pos (starEach es X.env)).any (·.1) = false := by rfl) :
    PD X (.Call (.Name x p) (e :: es) [] pos) (dCall n P dA) := by
  obtain ⟨_, pa, la⟩ := ha.ex
  exact ⟨_, pe_call F hr hg hm hk hb .nil pass0 pa hdb he hpl, lift_call la⟩
structure PDTs (X : Cx) (ifs : List Expr) (dt : DT) : Prop where
  run : PTs X ifs (toTT X.K dt)
def dYes : DT := fun _ S C => C true S
theorem ts_nil : PDTs X [] dYes := ⟨⟨fun pins s σ H Q I ⟨F, fr, S, L, C, f, o, hd, q⟩ => (pts_nil (X := X)).run pins s σ H Q I (q true S H o hd)⟩⟩
theorem ts_one (h : PDT X c dt) : PDTs X [c] dt := ⟨pts_one h.pt⟩
theorem lc_core' {E : List R → SH → CR0 → Prop} (hE : ∀ K, EndD K E) {elt : Expr} {x : Str} {p : Pos} {ifs : List Expr} {scope : Scope} {i : Nat} (hN : X.N.Nodup) (hi : PDI X (.Name x p) iter di) (ok : BlkOk X.N X.env.scope scope [(x, i)])
    (hg : ∀ (s : Shared) (H : Hp) (C : Addr) (cl : List (Str × Addr)) (fp : List Addr), PG (X.blk s H scope (compEnvC scope cl C X.env) fp) (.Name x p) (gName i))
    (ht : ∀ (s : Shared) (H : Hp) (C : Addr) (cl : List (Str × Addr)) (fp : List Addr), PDTs (X.blk s H scope (compEnvC scope cl C X.env) fp) ifs dt)
    (he : ∀ (s : Shared) (H : Hp) (C : Addr) (cl : List (Str × Addr)) (fp : List Addr), PD (X.blk s H scope (compEnvC scope cl C X.env) fp) elt de)
    (hc : X.calm = true) (hs : ∀ x, foldedSetIterable iter X.env x = pure x) :
    PD X (.ListComp elt [⟨.Name x p, iter, ifs, 0⟩] scope pos) (dLcG E di i dt de) := by
  obtain ⟨_, pi, li⟩ := hi.ex
  exact ⟨_, pe_lc (own := [(x, i)]) (te := toTE X.K de) (tt := toTT X.K dt) hc hN pi ok hg (fun s H C cl fp => (ht s H C cl fp).run) (fun s H C cl fp => (he s H C cl fp).pe) hs, lift_lc (hE X.K) li (liftT_to dt) (lift_to de)⟩
theorem d_lc {elt : Expr} {x : Str} {p : Pos} {ifs : List Expr} {scope : Scope} {i : Nat} (hN : X.N.Nodup) (hi : PDI X (.Name x p) iter di) (ok : BlkOk X.N X.env.scope scope [(x, i)])
    (hg : ∀ (s : Shared) (H : Hp) (C : Addr) (cl : List (Str × Addr)) (fp : List Addr), PG (X.blk s H scope (compEnvC scope cl C X.env) fp) (.Name x p) (gName i))
    (ht : ∀ (s : Shared) (H : Hp) (C : Addr) (cl : List (Str × Addr)) (fp : List Addr), PDTs (X.blk s H scope (compEnvC scope cl C X.env) fp) ifs dt)
    (he : ∀ (s : Shared) (H : Hp) (C : Addr) (cl : List (Str × Addr)) (fp : List Addr), PD (X.blk s H scope (compEnvC scope cl C X.env) fp) elt de)
    (hc : X.calm = true := by rfl) (hs : ∀ x, foldedSetIterable iter X.env x = pure x := by intro _; rfl) :
    PD X (.ListComp elt [⟨.Name x p, iter, ifs, 0⟩] scope pos) (dLc di i dt de) := lc_core' (fun _ => end_dat) hN hi ok hg ht he hc hs
theorem d_lcC {elt : Expr} {x : Str} {p : Pos} {ifs : List Expr} {scope : Scope} {i : Nat} (hN : X.N.Nodup) (hi : PDI X (.Name x p) iter di) (ok : BlkOk X.N X.env.scope scope [(x, i)])
    (hg : ∀ (s : Shared) (H : Hp) (C : Addr) (cl : List (Str × Addr)) (fp : List Addr), PG (X.blk s H scope (compEnvC scope cl C X.env) fp) (.Name x p) (gName i))
    (ht : ∀ (s : Shared) (H : Hp) (C : Addr) (cl : List (Str × Addr)) (fp : List Addr), PDTs (X.blk s H scope (compEnvC scope cl C X.env) fp) ifs dt)
    (he : ∀ (s : Shared) (H : Hp) (C : Addr) (cl : List (Str × Addr)) (fp : List Addr), PD (X.blk s H scope (compEnvC scope cl C X.env) fp) elt de)
    (hc : X.calm = true := by rfl) (hs : ∀ x, foldedSetIterable iter X.env x = pure x := by intro _; rfl) :
    PD X (.ListComp elt [⟨.Name x p, iter, ifs, 0⟩] scope pos) (dLcC di i dt de) := lc_core' (fun _ => end_cel) hN hi ok hg ht he hc hs
/-- y = [..], y a local -/
theorem lcS_core {E : List R → SH → CR0 → Prop} (hE : ∀ K, EndD K E) {elt : Expr} {x y : Str} {p py spos : Pos} {ifs : List Expr} {scope : Scope} {i j : Nat} (hN : X.N.Nodup) (hi : PDI X (.Name x p) iter di) (ok : BlkOk X.N X.env.scope scope [(x, i)])
    (hg : ∀ (s : Shared) (H : Hp) (C : Addr) (cl : List (Str × Addr)) (fp : List Addr), PG (X.blk s H scope (compEnvC scope cl C X.env) fp) (.Name x p) (gName i))
    (ht : ∀ (s : Shared) (H : Hp) (C : Addr) (cl : List (Str × Addr)) (fp : List Addr), PDTs (X.blk s H scope (compEnvC scope cl C X.env) fp) ifs dt)
    (he : ∀ (s : Shared) (H : Hp) (C : Addr) (cl : List (Str × Addr)) (fp : List Addr), PD (X.blk s H scope (compEnvC scope cl C X.env) fp) elt de)
    (hc : X.calm = true) (hy : X.N[j]? = some y) (hyl : X.env.scope.names.lookup y = some .local)
    (hsw : swapsWith (.ListComp elt [⟨.Name x p, iter, ifs, 0⟩] scope pos) (some (.Name y py)) spos.line X.env = pure true) (hs : ∀ x, foldedSetIterable iter X.env x = pure x) :
    PDS X (.Assign [.Name y py] (.ListComp elt [⟨.Name x p, iter, ifs, 0⟩] scope pos) spos) (sAsg (dLcG E di i dt de) (gnm j)) := by
  obtain ⟨_, pi, li⟩ := hi.ex
  exact ⟨_, ps_setLc (own := [(x, i)]) (te := toTE X.K de) (tt := toTT X.K dt) hc hN hy hyl hsw pi ok hg (fun s H C cl fp => (ht s H C cl fp).run) (fun s H C cl fp => (he s H C cl fp).pe) hs, lift_asg (lift_lc (hE X.K) li (liftT_to dt) (lift_to de)) (lift_name j)⟩
theorem s_lc {elt : Expr} {x y : Str} {p py spos : Pos} {ifs : List Expr} {scope : Scope} {i j : Nat} (hN : X.N.Nodup) (hi : PDI X (.Name x p) iter di) (ok : BlkOk X.N X.env.scope scope [(x, i)])
    (hg : ∀ (s : Shared) (H : Hp) (C : Addr) (cl : List (Str × Addr)) (fp : List Addr), PG (X.blk s H scope (compEnvC scope cl C X.env) fp) (.Name x p) (gName i))
    (ht : ∀ (s : Shared) (H : Hp) (C : Addr) (cl : List (Str × Addr)) (fp : List Addr), PDTs (X.blk s H scope (compEnvC scope cl C X.env) fp) ifs dt)
    (he : ∀ (s : Shared) (H : Hp) (C : Addr) (cl : List (Str × Addr)) (fp : List Addr), PD (X.blk s H scope (compEnvC scope cl C X.env) fp) elt de)
    (hc : X.calm = true := by rfl) (hy : X.N[j]? = some y := by rfl) (hyl : X.env.scope.names.lookup y = some .local := by rfl)
    (hsw : swapsWith (.ListComp elt [⟨.Name x p, iter, ifs, 0⟩] scope pos) (some (.Name y py)) spos.line X.env = pure true := by exact sw_true rfl rfl rfl (by decide +kernel)) (hs : ∀ x, foldedSetIterable iter X.env x = pure x := by intro _; rfl) :
    PDS X (.Assign [.Name y py] (.ListComp elt [⟨.Name x p, iter, ifs, 0⟩] scope pos) spos) (sAsg (dLc di i dt de) (gnm j)) := lcS_core (fun _ => end_dat) hN hi ok hg ht he hc hy hyl hsw hs
theorem s_lcC {elt : Expr} {x y : Str} {p py spos : Pos} {ifs : List Expr} {scope : Scope} {i j : Nat} (hN : X.N.Nodup) (hi : PDI X (.Name x p) iter di) (ok : BlkOk X.N X.env.scope scope [(x, i)])
    (hg : ∀ (s : Shared) (H : Hp) (C : Addr) (cl : List (Str × Addr)) (fp : List Addr), PG (X.blk s H scope (compEnvC scope cl C X.env) fp) (.Name x p) (gName i))
    (ht : ∀ (s : Shared) (H : Hp) (C : Addr) (cl : List (Str × Addr)) (fp : List Addr), PDTs (X.blk s H scope (compEnvC scope cl C X.env) fp) ifs dt)
    (he : ∀ (s : Shared) (H : Hp) (C : Addr) (cl : List (Str × Addr)) (fp : List Addr), PD (X.blk s H scope (compEnvC scope cl C X.env) fp) elt de)
    (hc : X.calm = true := by rfl) (hy : X.N[j]? = some y := by rfl) (hyl : X.env.scope.names.lookup y = some .local := by rfl)
    (hsw : swapsWith (.ListComp elt [⟨.Name x p, iter, ifs, 0⟩] scope pos) (some (.Name y py)) spos.line X.env = pure true := by exact sw_true rfl rfl rfl (by decide +kernel)) (hs : ∀ x, foldedSetIterable iter X.env x = pure x := by intro _; rfl) :
    PDS X (.Assign [.Name y py] (.ListComp elt [⟨.Name x p, iter, ifs, 0⟩] scope pos) spos) (sAsg (dLcC di i dt de) (gnm j)) := lcS_core (fun _ => end_cel) hN hi ok hg ht he hc hy hyl hsw hs
end
end DL
set_option Elab.async false
set_option linter.all false
set_option maxRecDepth 100000
set_option maxHeartbeats 4000000
/-! DL, fourth part: built-in functions and methods. -/
namespace DL
open PySem PySem.Spec PyProof.Rows L2

section
variable {K : Fg}
def intsOf : List PyData → Option (List Int)
  | [] => some []
  | .int i :: r => (intsOf r).map fun ns => i :: ns
  | _ :: _ => none
theorem intsOf_map : ∀ ns : List Int, intsOf (ns.map PyData.int) = some ns
  | [] => rfl
  | n :: ns => by show (intsOf (ns.map PyData.int)).map _ = _; rw [intsOf_map ns]; rfl
theorem of_intsOf : ∀ {ds : List PyData} {ns : List Int}, intsOf ds = some ns → ds = ns.map PyData.int
  | [], _, h => by cases h; rfl
  | .int d :: r, ds, h => by
    cases e : intsOf r with
    | none => simp [intsOf, e] at h
    | some es =>
      have h' : some (d :: es) = some ds := by simpa [intsOf, e] using h
      cases h'
      rw [List.map_cons, of_intsOf e]
  | .none :: _, _, h => by simp [intsOf] at h
  | .bool _ :: _, _, h => by simp [intsOf] at h
  | .str _ :: _, _, h => by simp [intsOf] at h
  | .list _ :: _, _, h => by simp [intsOf] at h
  | .tuple _ :: _, _, h => by simp [intsOf] at h
  | .dict _ :: _, _, h => by simp [intsOf] at h
/-! len -/
def fLen : FA := fun rs S C => match rs with
  | [.dat (.list ds)] => C (.dat (.int ds.length)) S
  | [.dat (.tuple ds)] => C (.dat (.int ds.length)) S
  | [.dat (.str z)] => z.length ≤ 100000 ∧ C (.dat (.int z.length)) S
  | [.scr ns] => C (.dat (.int ns.length)) S
  | [.tp rs] => C (.dat (.int rs.length)) S
  | [.val (.ref p)] => ∃ (j : Nat) (xs : List R), S[j]? = some (.lst p xs) ∧ C (.dat (.int xs.length)) S
  | _ => False
theorem cd_len : CallD K (fun xs H Q => ∃ x n, xs = [x] ∧ LenV K x H n ∧ Q (.int n) H) fLen := by
  intro F vs rs H S L C Q o lv hf q
  unfold fLen at hf
  split at hf
  · cases lv with | cons m t =>
    cases t
    have hr := o.dat m
    cases hr with | lst h1 n1 q1 =>
    exact ⟨_, _, rfl, .inl ⟨_, SqL.of h1, q1.length.symm⟩, q _ _ S H (o.pd (.int _)) hf⟩
  · cases lv with | cons m t =>
    cases t
    have hr := o.dat m
    cases hr with | tup h1 q1 =>
    exact ⟨_, _, rfl, .inr ⟨_, sqT_of (A := Av S) h1, q1.length.symm⟩, q _ _ S H (o.pd (.int _)) hf⟩
  · cases lv with | cons m t =>
    cases t
    have hr := o.dat m
    cases hr
    exact ⟨_, _, rfl, ⟨big_of hf.1, rfl⟩, q _ _ S H (o.pd (.int _)) hf.2⟩
  · rename_i ns
    cases lv with | cons m t =>
    cases t
    obtain ⟨a, rfl, h1⟩ := o.live _ m
    exact ⟨_, ns.length, rfl, .inl ⟨_, h1.sq, by simp⟩, q _ _ S H (o.pd (.int _)) hf⟩
  · rename_i rs
    cases lv with | cons m t =>
    cases t
    obtain ⟨a, us, rfl, h1, q1⟩ := o.live _ m
    exact ⟨_, _, rfl, .inr ⟨_, sqT_of (A := Av S) h1, (paired_len q1.pair).symm⟩, q _ _ S H (o.pd (.int _)) hf⟩
  · rename_i p
    cases lv with | cons m t =>
    cases t
    cases o.val m
    obtain ⟨j, xs, hj, h⟩ := hf
    obtain ⟨us, e1, q1⟩ := o.cells _ (at_split (in_app hj))
    exact ⟨_, _, rfl, .inl ⟨_, SqL.of e1, (paired_len q1).symm⟩, q _ _ S H (o.pd (.int _)) h⟩
  · exact hf.elim
/-! int(x) -/
def fInt : FA := fun rs S C => match rs with
  | [.dat (.int i)] => C (.dat (.int i)) S
  | [.dat (.bool b)] => C (.dat (.int (if b then 1 else 0))) S
  | [.dat (.str z)] => ∃ n, PySem.intText? z = some n ∧ z.length ≤ 640 ∧ C (.dat (.int n)) S
  | _ => False
def rInt : List V → Hp → VK → Prop := fun xs H Q => ((∃ i, xs = [.int i] ∧ Q (.int i) H) ∨ ∃ k, xs = [.bl k] ∧ Q (.int (if k then 1 else 0)) H) ∨ ∃ (a : Str) (n : Int), xs = [.str a] ∧ PySem.intText? a = some n ∧ a.length ≤ 640 ∧ Q (.int n) H
theorem cr_int {X : Cx} : CallR X (.type "int") rInt := call_int1.or call_int_str
theorem cd_int : CallD K rInt fInt := by
  intro F vs rs H S L C Q o lv hf q
  unfold fInt at hf
  split at hf
  · cases lv with | cons m t =>
    cases t
    cases rep_int_inv (o.dat m)
    exact .inl (.inl ⟨_, rfl, q _ _ S H (o.pd (.int _)) hf⟩)
  · cases lv with | cons m t =>
    cases t
    cases rep_bool_inv (o.dat m)
    exact .inl (.inr ⟨_, rfl, q _ _ S H (o.pd (.int _)) hf⟩)
  · cases lv with | cons m t =>
    cases t
    have hr := o.dat m
    cases hr
    obtain ⟨n, h1, h2, h3⟩ := hf
    exact .inr ⟨_, n, rfl, h1, h2, q _ _ S H (o.pd (.int _)) h3⟩
  · exact hf.elim
/-! str(n) -/
def fStr : FA := fun rs S C => match rs with
  | [.dat (.int i)] => i.natAbs.log2 < 1920 ∧ C (.dat (.str (toString i))) S
  | _ => False
theorem cd_str : CallD K (fun xs H Q => ∃ i, xs = [.int i] ∧ i.natAbs.log2 < 1920 ∧ Q (.str (toString i)) H) fStr := by
  intro F vs rs H S L C Q o lv hf q
  unfold fStr at hf
  split at hf
  · cases lv with | cons m t =>
    cases t
    cases rep_int_inv (o.dat m)
    exact ⟨_, rfl, hf.1, q _ _ S H (o.pd (.str _)) hf.2⟩
  · exact hf.elim
/-! sum, max, min, sorted of a list of ints -/
def fSum : FA := fun rs S C => match rs with
  | [.dat (.list ds)] => ∃ ns, intsOf ds = some ns ∧ C (.dat (.int ns.sum)) S
  | _ => False
theorem cd_sum : CallD K (rSum K) fSum := by
  intro F vs rs H S L C Q o lv hf q
  unfold fSum at hf
  split at hf
  · cases lv with | cons m t =>
    cases t
    obtain ⟨ns, e, h⟩ := hf
    have e' := of_intsOf e
    subst e'
    have hr := o.dat m
    cases hr with | lst h1 n1 q1 =>
    rw [q1.ints_inv] at h1
    exact ⟨_, ns, rfl, SqL.of h1, q _ _ S H (o.pd (.int _)) h⟩
  · exact hf.elim
def fMax : FA := fun rs S C => match rs with
  | [.dat (.list ds)] => ∃ ns, intsOf ds = some ns ∧ ns ≠ [] ∧ ∀ m, m ∈ ns → (∀ y ∈ ns, y ≤ m) → C (.dat (.int m)) S
  | [.dat (.int i), .dat (.int j)] => C (.dat (.int (if j > i then j else i))) S
  | _ => False
def fMin : FA := fun rs S C => match rs with
  | [.dat (.list ds)] => ∃ ns, intsOf ds = some ns ∧ ns ≠ [] ∧ ∀ m, m ∈ ns → (∀ y ∈ ns, m ≤ y) → C (.dat (.int m)) S
  | [.dat (.int i), .dat (.int j)] => C (.dat (.int (if j < i then j else i))) S
  | _ => False
def rMaxAll (K : Fg) : List V → Hp → VK → Prop := fun xs H Q => rMax K xs H Q ∨ ∃ i j, xs = [.int i, .int j] ∧ Q (.int (if j > i then j else i)) H
def rMinAll (K : Fg) : List V → Hp → VK → Prop := fun xs H Q => rMin K xs H Q ∨ ∃ i j, xs = [.int i, .int j] ∧ Q (.int (if j < i then j else i)) H
theorem cr_maxA {X : Cx} (hc : X.calm = true) : CallR X (.builtin "max") (rMaxAll X.K) := (cr_max hc).or (call_max2 hc)
theorem cr_minA {X : Cx} (hc : X.calm = true) : CallR X (.builtin "min") (rMinAll X.K) := (cr_min hc).or (call_min2 hc)
theorem cd_max : CallD K (rMaxAll K) fMax := by
  intro F vs rs H S L C Q o lv hf q
  unfold fMax at hf
  split at hf
  · cases lv with | cons m t =>
    cases t
    obtain ⟨ns, e, hne, h⟩ := hf
    have e' := of_intsOf e
    subst e'
    have hr := o.dat m
    cases hr with | lst h1 n1 q1 =>
    rw [q1.ints_inv] at h1
    exact .inl ⟨_, ns, rfl, SqL.of h1, List.length_pos_iff.mpr hne, fun m hm hy => q _ _ S H (o.pd (.int _)) (h m hm hy)⟩
  · cases lv with | cons m t => cases t with | cons m2 t =>
    cases t
    cases rep_int_inv (o.dat m)
    cases rep_int_inv (o.dat m2)
    exact .inr ⟨_, _, rfl, q _ _ S H (o.pd (.int _)) hf⟩
  · exact hf.elim
theorem cd_min : CallD K (rMinAll K) fMin := by
  intro F vs rs H S L C Q o lv hf q
  unfold fMin at hf
  split at hf
  · cases lv with | cons m t =>
    cases t
    obtain ⟨ns, e, hne, h⟩ := hf
    have e' := of_intsOf e
    subst e'
    have hr := o.dat m
    cases hr with | lst h1 n1 q1 =>
    rw [q1.ints_inv] at h1
    exact .inl ⟨_, ns, rfl, SqL.of h1, List.length_pos_iff.mpr hne, fun m hm hy => q _ _ S H (o.pd (.int _)) (h m hm hy)⟩
  · cases lv with | cons m t => cases t with | cons m2 t =>
    cases t
    cases rep_int_inv (o.dat m)
    cases rep_int_inv (o.dat m2)
    exact .inr ⟨_, _, rfl, q _ _ S H (o.pd (.int _)) hf⟩
  · exact hf.elim
def fSorted : FA := fun rs S C => match rs with
  | [.dat (.list ds)] => ∃ ns, intsOf ds = some ns ∧ ∀ ns' : List Int, ns'.Perm ns → ns'.Pairwise (· ≤ ·) → C (.dat (.list (ns'.map PyData.int))) S
  | _ => False
theorem cd_sorted : CallD K (rSortedI K) fSorted := by
  intro F vs rs H S L C Q o lv hf q
  unfold fSorted at hf
  split at hf
  · cases lv with | cons m t =>
    cases t
    obtain ⟨ns, e, h⟩ := hf
    have e' := of_intsOf e
    subst e'
    have hr := o.dat m
    cases hr with | lst h1 n1 q1 =>
    rw [q1.ints_inv] at h1
    exact ⟨_, ns, rfl, SqL.of h1, fun ns' p hp hs hn => q _ _ S _ (o.lst hn (RepAll.ints ns')) (h ns' hp hs)⟩
  · exact hf.elim
/-! list(x), tuple(x) -/
def fList : FA := fun rs S C => match rs with
  | [.dat (.list ds)] => C (.dat (.list ds)) S
  | [.dat (.tuple ds)] => C (.dat (.list ds)) S
  | [.val (.ref p)] => ∃ (j : Nat) (xs : List R) (ds : List PyData), S[j]? = some (.lst p xs) ∧ dats xs = some ds ∧ C (.dat (.list ds)) S
  | _ => False
def fListC : FA := fun rs S C => match rs with
  | [.dat (.list ds)] => ∀ p, C (.val (.ref p)) (.lst p (ds.map R.dat) :: S)
  | [.dat (.tuple ds)] => ∀ p, C (.val (.ref p)) (.lst p (ds.map R.dat) :: S)
  | [.val (.ref q)] => ∃ (j : Nat) (xs : List R), S[j]? = some (.lst q xs) ∧ ∀ p, C (.val (.ref p)) (.lst p xs :: S)
  | _ => False
abbrev rListOf (K : Fg) : List V → Hp → VK → Prop := fun xs H Q => ∃ p ys, xs = [.ref p] ∧ (SqL K H p ys ∨ SqT K H p ys) ∧ ∀ l, H l = none → Q (.ref l) (upd H l (.lst ys))
theorem cd_list : CallD K (rListOf K) fList := by
  intro F vs rs H S L C Q o lv hf q
  unfold fList at hf
  split at hf
  · cases lv with | cons m t =>
    cases t
    have hr := o.dat m
    cases hr with | lst h1 n1 q1 =>
    exact ⟨_, _, rfl, .inl (SqL.of h1), fun l hl => q _ _ S _ (o.lst hl q1) hf⟩
  · cases lv with | cons m t =>
    cases t
    have hr := o.dat m
    cases hr with | tup h1 q1 =>
    exact ⟨_, _, rfl, .inr (sqT_of (A := Av S) h1), fun l hl => q _ _ S _ (o.lst hl q1) hf⟩
  · cases lv with | cons m t =>
    cases t
    cases o.val m
    obtain ⟨j, xs, ds, hj, e, h⟩ := hf
    obtain ⟨us, e1, q1⟩ := o.cells _ (at_split (in_app hj))
    exact ⟨_, _, rfl, .inl (SqL.of e1), fun l hl => q _ _ S _ (o.lst hl (reps_all q1 e)) h⟩
  · exact hf.elim
theorem cd_listC : CallD K (rListOf K) fListC := by
  intro F vs rs H S L C Q o lv hf q
  unfold fListC at hf
  split at hf
  · cases lv with | cons m t =>
    cases t
    have hr := o.dat m
    cases hr with | lst h1 n1 q1 =>
    exact ⟨_, _, rfl, .inl (SqL.of h1), fun l hl => q _ _ (_ :: S) _ (Ok.push (r := .val (.ref l)) (o.lstC hl (all_reps q1)) rfl) (hf l)⟩
  · cases lv with | cons m t =>
    cases t
    have hr := o.dat m
    cases hr with | tup h1 q1 =>
    exact ⟨_, _, rfl, .inr (sqT_of (A := Av S) h1), fun l hl => q _ _ (_ :: S) _ (Ok.push (r := .val (.ref l)) (o.lstC hl (all_reps q1)) rfl) (hf l)⟩
  · cases lv with | cons m t =>
    cases t
    cases o.val m
    obtain ⟨j, xs, hj, h⟩ := hf
    obtain ⟨us, e1, q1⟩ := o.cells _ (at_split (in_app hj))
    exact ⟨_, _, rfl, .inl (SqL.of e1), fun l hl => q _ _ (_ :: S) _ (Ok.push (r := .val (.ref l)) (o.lstC hl q1) rfl) (h l)⟩
  · exact hf.elim
def fTuple : FA := fun rs S C => match rs with
  | [.dat (.list ds)] => C (.dat (.tuple ds)) S
  | [.dat (.tuple ds)] => C (.dat (.tuple ds)) S
  | [.val (.ref p)] => ∃ (j : Nat) (xs : List R) (ds : List PyData), S[j]? = some (.lst p xs) ∧ dats xs = some ds ∧ C (.dat (.tuple ds)) S
  | _ => False
abbrev rTupleOf (K : Fg) : List V → Hp → VK → Prop := fun xs H Q => ∃ p ys, xs = [.ref p] ∧ ((SqL K H p ys ∧ ∀ l, H l = none → Q (.ref l) (upd H l (.tup ys))) ∨ (SqT K H p ys ∧ Q (.ref p) H))
theorem cd_tuple : CallD K (rTupleOf K) fTuple := by
  intro F vs rs H S L C Q o lv hf q
  unfold fTuple at hf
  split at hf
  · cases lv with | cons m t =>
    cases t
    have hr := o.dat m
    cases hr with | lst h1 n1 q1 =>
    exact ⟨_, _, rfl, .inl ⟨SqL.of h1, fun l hl => q _ _ S _ (o.tup hl q1) hf⟩⟩
  · cases lv with | cons m t =>
    cases t
    have hr := o.dat m
    cases hr with | tup h1 q1 =>
    exact ⟨_, _, rfl, .inr ⟨sqT_of (A := Av S) h1, q _ _ S H (o.pd (.tup h1 q1)) hf⟩⟩
  · cases lv with | cons m t =>
    cases t
    cases o.val m
    obtain ⟨j, xs, ds, hj, e, h⟩ := hf
    obtain ⟨us, e1, q1⟩ := o.cells _ (at_split (in_app hj))
    exact ⟨_, _, rfl, .inl ⟨SqL.of e1, fun l hl => q _ _ S _ (o.tup hl (reps_all q1 e)) h⟩⟩
  · exact hf.elim
/-! isinstance -/
inductive Kd where
  | non | bl | int | str | lst | tup
def Kd.nm : Kd → String
  | .non => "NoneType" | .bl => "bool" | .int => "int" | .str => "str" | .lst => "list" | .tup => "tuple"
def kdOf : PyData → Option Kd
  | .none => some .non
  | .bool _ => some .bl
  | .int _ => some .int
  | .str _ => some .str
  | .list _ => some .lst
  | .tuple _ => some .tup
  | .dict _ => none
/-- what kind a live value has: its cell, where it is one -/
def kdR (S : SH) : R → Kd → Prop
  | .dat d, k => kdOf d = some k
  | .tp _, k => k = .tup
  | .val (.ref p), k => k = .lst ∧ ∃ (j : Nat) (xs : List R), S[j]? = some (.lst p xs)
  | _, _ => False
theorem kd_ty {F : SH} {H : Hp} {S : SH} {L : Live} {v : V} {r : R} {k : Kd} (o : OkF K F H S L) (m : (v, r) ∈ L) (h : kdR S r k) : TyX K H v (.type k.nm) := by
  have hr := o.live _ m
  cases r with
  | dat d =>
    have h : kdOf d = some k := h
    cases hr with
    | non => cases h; exact .base .non
    | bl b => cases h; exact .base (.bl b)
    | int i => cases h; exact .base (.int i)
    | str x => cases h; exact .base (.str x)
    | lst e n q => cases h; exact .base (.lst e)
    | tup e q =>
      cases h
      rcases e with e | ⟨ob, its, n, e, c, _⟩
      · exact .base (.tup e)
      · exact .kTuple e c
  | val w =>
    cases w with
    | ref p =>
      obtain ⟨rfl, j, xs, hj⟩ := h
      cases (show v = V.ref p from hr)
      obtain ⟨us, e1, _⟩ := o.cells _ (at_split (in_app hj))
      exact .base (.lst e1)
    | _ => exact h.elim
  | scr ns => exact h.elim
  | tp rs =>
    cases (show k = .tup from h)
    obtain ⟨a, vs, rfl, e, _⟩ := hr
    rcases e with e | ⟨ob, its, n, e, c, _⟩
    · exact .base (.tup e)
    · exact .kTuple e c
  | obj C ks rs => exact h.elim
  | dic ks rs => exact h.elim
/-- isinstance(x, T): by the kind -/
def fIsi (T : String) (g : Kd → Bool) : FA := fun rs S C => match rs with
  | [r, .val (.ty U)] => U = T ∧ ∃ k, kdR S r k ∧ C (.dat (.bool (g k))) S
  | _ => False
theorem cd_isi {T : String} {g : Kd → Bool} (hT : ∀ k : Kd, kitB k.nm T = some (g k)) : CallD K (rIsi K) (fIsi T g) := by
  intro F vs rs H S L C Q o lv hf q
  unfold fIsi at hf
  split at hf
  · cases lv with | cons m t => cases t with | cons m2 t =>
    cases t
    obtain ⟨rfl, k, hk, h⟩ := hf
    cases o.val m2
    exact ⟨_, _, _, _, _, rfl, .ty _, kd_ty o m hk, kit_ty (hT k), q _ _ S H (o.pd (.bl _)) h⟩
  · exact hf.elim
def gInt : Kd → Bool | .int => true | .bl => true | _ => false
def gBool : Kd → Bool | .bl => true | _ => false
def gStr : Kd → Bool | .str => true | _ => false
def gList : Kd → Bool | .lst => true | _ => false
def gTuple : Kd → Bool | .tup => true | _ => false
theorem kit_int : ∀ k : Kd, kitB k.nm "int" = some (gInt k) := fun k => by cases k <;> decide +kernel
theorem kit_bool : ∀ k : Kd, kitB k.nm "bool" = some (gBool k) := fun k => by cases k <;> decide +kernel
theorem kit_str : ∀ k : Kd, kitB k.nm "str" = some (gStr k) := fun k => by cases k <;> decide +kernel
theorem kit_list : ∀ k : Kd, kitB k.nm "list" = some (gList k) := fun k => by cases k <;> decide +kernel
theorem kit_tuple : ∀ k : Kd, kitB k.nm "tuple" = some (gTuple k) := fun k => by cases k <;> decide +kernel
/-! xs.append(e) -/
def dApp (da de : DE) : DE := fun fr S C => da fr S fun a S1 => match a with
  | .val (.ref p) => (∃ (j : Nat) (xs : List R), S1[j]? = some (.lst p xs)) ∧ de fr S1 fun r S2 => ∃ (j : Nat) (xs : List R), S2[j]? = some (.lst p xs) ∧ xs.length < 100000 ∧ C (.dat .none) (S2.set j (.lst p (xs ++ [r])))
  | _ => False
theorem lift_app {to te : TE} {da de : DE} (la : Lift K to da) (le : Lift K te de) : Lift K (tBM K "list" rAppend to (tCons te tNil)) (dApp da de) := by
  intro F H σ fr S L fo o C Q hd q
  refine la F H σ fr S L fo o _ _ hd fun x a S1 H1 o1 h1 => ?_
  split at h1
  · rename_i p
    obtain ⟨⟨j, xs, hj⟩, h1⟩ := h1
    cases o1.val List.mem_cons_self
    obtain ⟨us, e1, _⟩ := o1.cells _ (at_split (in_app hj))
    refine ⟨.inl ⟨rfl, _, SqL.of e1⟩, ?_⟩
    refine le F H1 σ fr S1 _ (fo.mono tl_mem) o1 _ _ h1 fun v r S2 H2 o2 h2 => ?_
    obtain ⟨j2, ys, hj2, hl, h2⟩ := h2
    obtain ⟨ws, e2, q2⟩ := o2.cells _ (at_split (in_app hj2))
    refine ⟨p, ws, v, rfl, rfl, e2, by rw [paired_len q2]; exact big_lt hl, ?_⟩
    have o3 := o2.putL (in_app hj2) (paired_app q2 (.cons (o2.live (v, r) List.mem_cons_self) .nil))
    rw [set_app hj2] at o3
    exact q _ _ _ _ ((o3.sub fun e he => List.mem_cons_of_mem _ (List.mem_cons_of_mem _ he)).pd .non) h2
  · exact h1.elim
/-! {} -/
def dNewD : DE := fun _ S C => ∀ p, C (.val (.ref p)) (.dct p [] :: S)
theorem lift_newD : Lift K tDNewK dNewD := fun F H σ fr S L fo o C Q hd q p hp => q _ _ (.dct p [] :: S) _ (Ok.push (r := .val (.ref p)) (o.cell (c := .dct p []) rfl hp ⟨[], upd_same, .nil⟩) rfl) (hd p)
end
section
variable {X : Cx} {a b c e : Expr} {da db dc de : DE} {dA : DA} {pos p : Pos} {es : List Expr}
theorem d_len (hg : Gl X "len") (hm : X.mg "len" = none) (ha : PDA X [e] dA) (he : starEach [e] X.env = [(false, eval e X.env)] := by rfl) : PD X (.Call (.Name "len" p) [e] [] pos) (dCB fLen dA) := d_callB call_len cd_len hg hm PySem.boot_len ha (by decide) (by decide) he (by rfl)
theorem d_intF (hg : Gl X "int") (hm : X.mg "int" = none) (ha : PDA X [e] dA) (he : starEach [e] X.env = [(false, eval e X.env)] := by rfl) : PD X (.Call (.Name "int" p) [e] [] pos) (dCB fInt dA) := d_callTy cr_int cd_int hg hm (by decide +kernel) ha (by decide) (by decide) he (by rfl)
theorem d_strF (hg : Gl X "str") (hm : X.mg "str" = none) (ha : PDA X [e] dA) (he : starEach [e] X.env = [(false, eval e X.env)] := by rfl) : PD X (.Call (.Name "str" p) [e] [] pos) (dCB fStr dA) := d_callTy call_str_int cd_str hg hm (by decide +kernel) ha (by decide) (by decide) he (by rfl)
theorem d_sum (hg : Gl X "sum") (hm : X.mg "sum" = none) (ha : PDA X [e] dA) (hc : X.calm = true := by rfl) (he : starEach [e] X.env = [(false, eval e X.env)] := by rfl) : PD X (.Call (.Name "sum" p) [e] [] pos) (dCB fSum dA) := d_callB (cr_sum hc) cd_sum hg hm (by decide +kernel) ha (by decide) (by decide) he (by rfl)
theorem d_max1 (hg : Gl X "max") (hm : X.mg "max" = none) (ha : PDA X [e] dA) (hc : X.calm = true := by rfl) (he : starEach [e] X.env = [(false, eval e X.env)] := by rfl) : PD X (.Call (.Name "max" p) [e] [] pos) (dCB fMax dA) := d_callB (cr_maxA hc) cd_max hg hm (by decide +kernel) ha (by decide) (by decide) he (by rfl)
theorem d_max2 (hg : Gl X "max") (hm : X.mg "max" = none) (ha : PDA X [a, b] dA) (hc : X.calm = true := by rfl) (he : starEach [a, b] X.env = (false, eval a X.env) :: starEach [b] X.env := by rfl) (hpl : (backTo pos (starEach [b] X.env)).any (·.1) = false := by rfl) : PD X (.Call (.Name "max" p) [a, b] [] pos) (dCB fMax dA) := d_callB (cr_maxA hc) cd_max hg hm (by decide +kernel) ha (by decide) (by decide) he hpl
theorem d_min1 (hg : Gl X "min") (hm : X.mg "min" = none) (ha : PDA X [e] dA) (hc : X.calm = true := by rfl) (he : starEach [e] X.env = [(false, eval e X.env)] := by rfl) : PD X (.Call (.Name "min" p) [e] [] pos) (dCB fMin dA) := d_callB (cr_minA hc) cd_min hg hm (by decide +kernel) ha (by decide) (by decide) he (by rfl)
theorem d_min2 (hg : Gl X "min") (hm : X.mg "min" = none) (ha : PDA X [a, b] dA) (hc : X.calm = true := by rfl) (he : starEach [a, b] X.env = (false, eval a X.env) :: starEach [b] X.env := by rfl) (hpl : (backTo pos (starEach [b] X.env)).any (·.1) = false := by rfl) : PD X (.Call (.Name "min" p) [a, b] [] pos) (dCB fMin dA) := d_callB (cr_minA hc) cd_min hg hm (by decide +kernel) ha (by decide) (by decide) he hpl
theorem d_sorted (hg : Gl X "sorted") (hm : X.mg "sorted" = none) (ha : PDA X [e] dA) (he : starEach [e] X.env = [(false, eval e X.env)] := by rfl) : PD X (.Call (.Name "sorted" p) [e] [] pos) (dCB fSorted dA) := d_callB cr_sortedI cd_sorted hg hm (by decide +kernel) ha (by decide) (by decide) he (by rfl)
theorem d_list (hg : Gl X "list") (hm : X.mg "list" = none) (ha : PDA X [e] dA) (he : starEach [e] X.env = [(false, eval e X.env)] := by rfl) : PD X (.Call (.Name "list" p) [e] [] pos) (dCB fList dA) := d_callTy call_list_of cd_list hg hm (by decide +kernel) ha (by decide) (by decide) he (by rfl)
theorem d_listC (hg : Gl X "list") (hm : X.mg "list" = none) (ha : PDA X [e] dA) (he : starEach [e] X.env = [(false, eval e X.env)] := by rfl) : PD X (.Call (.Name "list" p) [e] [] pos) (dCB fListC dA) := d_callTy call_list_of cd_listC hg hm (by decide +kernel) ha (by decide) (by decide) he (by rfl)
theorem d_tuple (hg : Gl X "tuple") (hm : X.mg "tuple" = none) (ha : PDA X [e] dA) (he : starEach [e] X.env = [(false, eval e X.env)] := by rfl) : PD X (.Call (.Name "tuple" p) [e] [] pos) (dCB fTuple dA) := d_callTy call_tuple_of cd_tuple hg hm (by decide +kernel) ha (by decide) (by decide) he (by rfl)
theorem d_isi {T : String} {g : Kd → Bool} (hT : ∀ k : Kd, kitB k.nm T = some (g k)) (hg : Gl X "isinstance") (hm : X.mg "isinstance" = none) (ha : PDA X [a, b] dA) (he : starEach [a, b] X.env = (false, eval a X.env) :: starEach [b] X.env := by rfl) (hpl : (backTo pos (starEach [b] X.env)).any (·.1) = false := by rfl) :
    PD X (.Call (.Name "isinstance" p) [a, b] [] pos) (dCB (fIsi T g) dA) := d_callB call_isi (cd_isi hT) hg hm (by decide +kernel) ha (by decide) (by decide) he hpl
theorem d_app {apos : Pos} (ha : PD X a da) (he : PD X e de) (hp : PE X (.Call (.Attribute a "append" apos) [e] [] pos) (tBM X.K "list" rAppend (toTE X.K da) (tCons (toTE X.K de) tNil))) : PD X (.Call (.Attribute a "append" apos) [e] [] pos) (dApp da de) := ⟨_, hp, lift_app (lift_to da) (lift_to de)⟩
theorem d_newD : PD X (.Dict [] [] pos) dNewD := ⟨_, pe_dnewK, lift_newD⟩
end
end DL
set_option Elab.async false
set_option linter.all false
set_option maxRecDepth 100000
set_option maxHeartbeats 4000000
/-! DL, fifth part: defs of the text as they are called; the built-in names. -/
namespace DL
open PySem PySem.Spec PyProof.Rows L2

structure Blt (mg : Str → Option Value) : Prop where
  len : mg "len" = none
  range : mg "range" = none
  int : mg "int" = none
  sum : mg "sum" = none
  max : mg "max" = none
  min : mg "min" = none
  sorted : mg "sorted" = none
  list : mg "list" = none
  tuple : mg "tuple" = none
  isinstance : mg "isinstance" = none
  enumerate : mg "enumerate" = none
  str : mg "str" = none
  bool : mg "bool" = none
  zip : mg "zip" = none
  set : mg "set" = none
  dict : mg "dict" = none

/-- a def of the top as it stands -/
structure FunAt (K : Fg) (mg : Str → Option Value) (x : Str) (st : Stmt) (ps : List Str) : Prop where
  ex : ∃ f fd, Fun K x x st f fd ∧ mg x = some (.ref f) ∧ Binds K fd ps []
/-- a def of the top and its promise -/
structure Def (P : Program) (w : World) (K : Fg) (mg : Str → Option Value) (base : Heap) (x : Str) (k n : Nat) (sp : SpD) : Prop where
  ex : ∃ f fd ps, FnOk P w K mg base CX0 k f fd ps (toSp K n sp) ∧ mg x = some (.ref f) ∧ PySem.W.keepIn K (.ref f) = true ∧ Binds K fd ps []
theorem Def.mono {P : Program} {w : World} {K : Fg} {mg : Str → Option Value} {base : Heap} {x : Str} {j k n : Nat} {sp : SpD} (d : Def P w K mg base x j n sp) (h : j ≤ k) : Def P w K mg base x k n sp := by
  obtain ⟨f, fd, ps, a, b⟩ := d.ex
  exact ⟨f, fd, ps, a.mono h, b⟩
/-- a weaker promise -/
theorem Def.imp {P : Program} {w : World} {K : Fg} {mg : Str → Option Value} {base : Heap} {x : Str} {k n : Nat} {sp sp' : SpD} (d : Def P w K mg base x k n sp) (h : ∀ rs S C, rs.length = n → sp' rs S C → sp rs S C) : Def P w K mg base x k n sp' := by
  obtain ⟨f, fd, ps, a, b⟩ := d.ex
  exact ⟨f, fd, ps, a.imp fun vs H Q E ⟨hl, F, S, L, rs, C, o, lv, hs, q⟩ => ⟨hl, F, S, L, rs, C, o, lv, h rs S C ((paired_len lv).symm.trans hl) hs, q⟩, b⟩
section
variable {P : Program} {w : World} {K : Fg} {mg : Str → Option Value} {base : Heap}
theorem okF {x : Str} {st : Stmt} {N ps : List Str} {k n : Nat} {sp : SpD} (Fn : FunAt K mg x st ps) (Sc : FnScope N ps (defScope st)) (hn : ps.length = n)
    (hbody : ∀ (cdv : Value) (A : Around) (outer : List Env) (s : Shared) (H : Hp) (E : XK) (f : Addr), Room k (A.deeper (envOfC x (defScope st) s.heap.objs.size f cdv)) →
      ∃ ds, PDSs (cxOf CX0 P w K mg base N x (defScope st) f cdv A outer s H E).nox (defBody st) ds ∧ ∀ rs S C, rs.length = n → sp rs S C → ds { nx := fun _ S => C (.dat .none) S, rt := C } (startF N rs) S) : Def P w K mg base x (k + 1) n sp := by
  obtain ⟨f, fd, Fu, hm, hb⟩ := Fn.ex
  exact ⟨f, fd, ps, okD Fu Sc hn fun cdv A outer s H E hr => hbody cdv A outer s H E f hr, hm, Fu.kp, hb⟩
end
section
variable {X : Cx} {a b c e : Expr} {da db dc de : DE} {dA : DA} {pos p : Pos} {es : List Expr}
theorem d_callF {sp : SpD} {k n : Nat} {x : Str} (d : Def X.prog X.w X.K X.mg X.base x k n sp) (hr : Room k X.A) (hg : Gl X x)
    (ha : PDA X (e :: es) dA) (hdb : (x == ("__debug__" : Str)) = false := by decide) (he : starEach (e :: es) X.env = (false, eval e X.env) :: starEach es X.env := by rfl) (hpl : (backTo pos (starEach es X.env)).any (·.1) = false := by rfl) :
    PD X (.Call (.Name x p) (e :: es) [] pos) (dCall n sp dA) := by
  obtain ⟨f, fd, ps, F, hm, hk, hb⟩ := d.ex
  exact d_call F hr hg hm hk hb ha hdb he hpl
theorem d_appT {apos : Pos} (ha : PD X a da) (he : PD X e de) (hbase : attributeBase a "append" X.env (eval a X.env) = eval a X.env := by rfl)
    (hfew : ((backTo pos (starEach [e] X.env)).all (fun x => !x.1) && (backToKw pos (keywordEach [] X.env)).all (fun x => x.1.isSome)
      && decide (([e] : List Expr).length + ([] : List Keyword).length + (if ([] : List Keyword).isEmpty then 0 else 1) < 30)) = true := by rfl)
    (hline : (apos.endLine == pos.line) = true := by rfl) (hs : starEach [e] X.env = [(false, eval e X.env)] := by rfl) : PD X (.Call (.Attribute a "append" apos) [e] [] pos) (dApp da de) :=
  d_app ha he (pe_bm PySem.F.plainAttrs_list PySem.F.slot_list_append PySem.F.type_list_append mt_append ha.pe (pa_cons he.pe pa_nil hs) hbase hfew hline hs rfl)
end

theorem ite2d {p : Prop} [Decidable p] {A B : Prop} (h1 : p → A) (h2 : ¬ p → B) : if decide p = true then A else B := by
  by_cases h : p
  · rw [if_pos (decide_eq_true h)]; exact h1 h
  · rw [if_neg (by rw [decide_eq_false h]; exact Bool.false_ne_true)]; exact h2 h
theorem ite2b {b : Bool} {A B : Prop} (h1 : b = true → A) (h2 : b = false → B) : if b = true then A else B := by
  cases b with
  | true => rw [if_pos rfl]; exact h1 rfl
  | false => rw [if_neg Bool.false_ne_true]; exact h2 rfl
theorem iteTb {b : Bool} {A B : Prop} (h : b = true) (h1 : A) : if b = true then A else B := by rw [if_pos h]; exact h1
theorem iteFb {b : Bool} {A B : Prop} (h : b = false) (h1 : B) : if b = true then A else B := by rw [if_neg (by rw [h]; exact Bool.false_ne_true)]; exact h1
theorem iteTd {p : Prop} [Decidable p] {A B : Prop} (h : p) (h1 : A) : if decide p = true then A else B := iteTb (decide_eq_true h) h1
theorem iteFd {p : Prop} [Decidable p] {A B : Prop} (h : ¬ p) (h1 : B) : if decide p = true then A else B := iteFb (decide_eq_false h) h1
theorem getset {S : SH} {j : Nat} {c : Cell} (h : S[j]? = some c) (c' : Cell) : (S.set j c')[j]? = some c' := by
  obtain ⟨hl, _⟩ := List.getElem?_eq_some_iff.mp h
  exact List.getElem?_set_self hl
theorem cdiv {i j : Int} (h : 0 < j) (h2 : j < 1073741824) : CDivW i j := wide_div (b := 30) h (by
  have e : (2 : Nat) ^ 30 = 1073741824 := by decide
  rw [e]; omega) (by decide) (by decide)
theorem cmul {i j : Int} (h : -4294967296 < i) (h2 : i < 4294967296) (h3 : -4294967296 < j) (h4 : j < 4294967296) : CMulW i j := wide_mul (a := 32) (b := 32) (by
  have e : (2 : Nat) ^ 32 = 4294967296 := by decide
  rw [e]; omega) (by
  have e : (2 : Nat) ^ 32 = 4294967296 := by decide
  rw [e]; omega) (by decide) (by decide) (by decide)
/-! ### the dice -/
/-- the dice: the script, the place, the mixed number, what is left of a great one -/
def DiceOk (rs : List R) : Prop := ∃ (ns : List Int) (at_ mixed left : Int), rs = [.scr ns, .dat (.int at_), .dat (.int mixed), .dat (.int left)] ∧ 0 ≤ at_ ∧ 0 ≤ mixed ∧ mixed < 2147483647
abbrev dice (D : Addr) : Cell := .pk D DiceOk
end DL
set_option Elab.async false
set_option linter.all false
set_option maxRecDepth 100000
set_option maxHeartbeats 4000000
/-! DL, sixth part: forms of loops and comprehensions that one uses; the dice's next. -/
namespace DL
open PySem PySem.Spec PyProof.Rows L2

/-- a comprehension whose tests and elements are told by the item alone -/
theorem lc_pure {E : List R → SH → CR0 → Prop} {items : List R} {fr : Fr} {S : SH} {C : CR0} {i : Nat} {dt : DT} {de : DE} (p : R → Bool) (g : R → R)
    (ht : ∀ r, r ∈ items → ∀ C' : Bool → SH → Prop, C' (p r) S → dt (fr.set i (some r)) S C') (he : ∀ r, r ∈ items → p r = true → ∀ C' : CR0, C' (g r) S → de (fr.set i (some r)) S C') (hl : items.length ≤ 100000)
    (h : E ((items.filter p).map g) S C) : ∃ I : Nat → List R → SH → Prop, I 0 [] S ∧
  (∀ k r acc S, items[k]? = some r → I k acc S → dt (fr.set i (some r)) S fun b S2 => if b = true then de (fr.set i (some r)) S2 fun y S3 => acc.length < 100000 ∧ I (k + 1) (acc ++ [y]) S3 else I (k + 1) acc S2) ∧
  ∀ acc S, I items.length acc S → E acc S C := by
  refine ⟨fun k acc S' => S' = S ∧ acc = ((items.take k).filter p).map g, ⟨rfl, rfl⟩, ?_, ?_⟩
  · rintro k r acc S' hk ⟨rfl, rfl⟩
    have hm : r ∈ items := List.mem_of_getElem? hk
    obtain ⟨hlt, _⟩ := List.getElem?_eq_some_iff.mp hk
    have et : items.take (k + 1) = items.take k ++ [r] := by rw [List.take_add_one, hk]; rfl
    refine ht r hm _ ?_
    refine ite2b (fun hp => ?_) (fun hp => ?_)
    · refine he r hm hp _ ⟨?_, rfl, ?_⟩
      · rw [List.length_map]
        have h1 := List.length_filter_le p (items.take k)
        have h2 := List.length_take_le k items
        omega
      · rw [et, List.filter_append, List.map_append, List.filter_cons, if_pos hp]; rfl
    · refine ⟨rfl, ?_⟩
      rw [et, List.filter_append, List.filter_cons, if_neg (by rw [hp]; exact Bool.false_ne_true)]; simp
  · rintro acc S' ⟨rfl, rfl⟩
    rw [List.take_length]; exact h
/-- without a test -/
theorem lc_map {E : List R → SH → CR0 → Prop} {items : List R} {fr : Fr} {S : SH} {C : CR0} {i : Nat} {de : DE} (g : R → R)
    (he : ∀ r, r ∈ items → ∀ C' : CR0, C' (g r) S → de (fr.set i (some r)) S C') (hl : items.length ≤ 100000) (h : E (items.map g) S C) : ∃ I : Nat → List R → SH → Prop, I 0 [] S ∧
  (∀ k r acc S, items[k]? = some r → I k acc S → dYes (fr.set i (some r)) S fun b S2 => if b = true then de (fr.set i (some r)) S2 fun y S3 => acc.length < 100000 ∧ I (k + 1) (acc ++ [y]) S3 else I (k + 1) acc S2) ∧
  ∀ acc S, I items.length acc S → E acc S C :=
  lc_pure (fun _ => true) g (fun _ _ _ q => q) (fun r hr _ C' q => he r hr C' q) hl (by rw [List.filter_eq_self.mpr (fun _ _ => rfl)]; exact h)
/-- elements that are drawn: each as Q tells of its item -/
theorem lc_nd {E : List R → SH → CR0 → Prop} {items : List R} {fr : Fr} {S : SH} {C : CR0} {i : Nat} {de : DE} (P : R → Prop)
    (he : ∀ (k : Nat) r, items[k]? = some r → ∀ C' : CR0, (∀ y, P y → C' y S) → de (fr.set i (some r)) S C') (hl : items.length ≤ 100000) (h : ∀ acc : List R, acc.length = items.length → (∀ y ∈ acc, P y) → E acc S C) : ∃ I : Nat → List R → SH → Prop, I 0 [] S ∧
  (∀ k r acc S, items[k]? = some r → I k acc S → dYes (fr.set i (some r)) S fun b S2 => if b = true then de (fr.set i (some r)) S2 fun y S3 => acc.length < 100000 ∧ I (k + 1) (acc ++ [y]) S3 else I (k + 1) acc S2) ∧
  ∀ acc S, I items.length acc S → E acc S C := by
  refine ⟨fun k acc S' => S' = S ∧ acc.length = k ∧ ∀ y ∈ acc, P y, ⟨rfl, rfl, by simp⟩, ?_, ?_⟩
  · rintro k r acc S' hk ⟨rfl, hlen, hP⟩
    obtain ⟨hlt, _⟩ := List.getElem?_eq_some_iff.mp hk
    refine he k r hk _ fun y hy => ⟨by omega, rfl, by rw [List.length_append, hlen]; rfl, fun z hz => ?_⟩
    rcases List.mem_append.mp hz with hz | hz
    · exact hP z hz
    · cases List.mem_singleton.mp hz; exact hy
  · rintro acc S' ⟨rfl, hlen, hP⟩
    exact h acc hlen hP
/-- elements that are drawn, each by its place -/
theorem lc_ndI {E : List R → SH → CR0 → Prop} {items : List R} {fr : Fr} {S : SH} {C : CR0} {i : Nat} {de : DE} (P : Nat → R → Prop)
    (he : ∀ (k : Nat) r, items[k]? = some r → ∀ C' : CR0, (∀ y, P k y → C' y S) → de (fr.set i (some r)) S C') (hl : items.length ≤ 100000) (h : ∀ acc : List R, acc.length = items.length → (∀ (k : Nat) y, acc[k]? = some y → P k y) → E acc S C) : ∃ I : Nat → List R → SH → Prop, I 0 [] S ∧
  (∀ k r acc S, items[k]? = some r → I k acc S → dYes (fr.set i (some r)) S fun b S2 => if b = true then de (fr.set i (some r)) S2 fun y S3 => acc.length < 100000 ∧ I (k + 1) (acc ++ [y]) S3 else I (k + 1) acc S2) ∧
  ∀ acc S, I items.length acc S → E acc S C := by
  refine ⟨fun k acc S' => S' = S ∧ acc.length = k ∧ ∀ (m : Nat) y, acc[m]? = some y → P m y, ⟨rfl, rfl, by simp⟩, ?_, ?_⟩
  · rintro k r acc S' hk ⟨rfl, hlen, hP⟩
    obtain ⟨hlt, _⟩ := List.getElem?_eq_some_iff.mp hk
    refine he k r hk _ fun y hy => ⟨by omega, rfl, by rw [List.length_append, hlen]; rfl, fun m z hz => ?_⟩
    rw [List.getElem?_append] at hz
    split at hz
    · exact hP m z hz
    · rename_i hm
      have e : m = acc.length := by
        obtain ⟨h1, _⟩ := List.getElem?_eq_some_iff.mp hz
        simp at h1
        omega
      subst e
      simp at hz
      subst hz
      rw [hlen]; exact hy
  · rintro acc S' ⟨rfl, hlen, hP⟩
    exact h acc hlen hP
/-- drawn ints -/
theorem ints_of_acc {lo hi : Int} : ∀ {acc : List R}, (∀ y ∈ acc, ∃ i : Int, y = .dat (.int i) ∧ lo ≤ i ∧ i ≤ hi) → ∃ ns : List Int, acc = ns.map (fun n => R.dat (.int n)) ∧ ∀ n ∈ ns, lo ≤ n ∧ n ≤ hi
  | [], _ => ⟨[], rfl, by simp⟩
  | y :: r, h => by
    obtain ⟨ns, e, hb⟩ := ints_of_acc (acc := r) fun z hz => h z (List.mem_cons_of_mem _ hz)
    obtain ⟨i, ei, h1, h2⟩ := h y List.mem_cons_self
    refine ⟨i :: ns, by rw [ei, e]; rfl, fun n hn => ?_⟩
    rcases List.mem_cons.mp hn with rfl | hn
    · exact ⟨h1, h2⟩
    · exact hb n hn
theorem dats_ints (ns : List Int) : dats (ns.map (fun n => R.dat (.int n))) = some (ns.map PyData.int) := by
  have e : ns.map (fun n => R.dat (.int n)) = (ns.map PyData.int).map R.dat := by rw [List.map_map]; rfl
  rw [e, dats_map]
theorem set_same {S : SH} {j : Nat} {c : Cell} (h : S[j]? = some c) : S.set j c = S := by
  apply List.ext_getElem?
  intro i
  rw [List.getElem?_set]
  split
  · rename_i e
    subst e
    obtain ⟨hl, _⟩ := List.getElem?_eq_some_iff.mp h
    rw [if_pos hl, h]
  · rfl
theorem cutD_map {α β : Type} (f : α → β) (xs : List α) (lo hi : Option Int) : cutD (xs.map f) lo hi = (cutD xs lo hi).map f := by
  unfold cutD
  rw [List.length_map, List.map_take, List.map_drop]
theorem enum_get {ds : List PyData} {i : Nat} {r : R} (h : (enumD ds)[i]? = some r) : ∃ d, ds[i]? = some d ∧ r = .dat (.tuple [.int (i : Int), d]) := by
  unfold enumD at h
  rw [List.getElem?_map] at h
  by_cases hi : i < ds.length
  · rw [List.getElem?_range hi] at h
    cases h
    have e1 : ds[i]? = some ds[i] := List.getElem?_eq_getElem hi
    exact ⟨ds[i], e1, by show R.dat (.tuple [.int (i : Int), ds.getD i .none]) = _; rw [List.getD_eq_getElem?_getD, e1]; rfl⟩
  · rw [List.getElem?_eq_none (by simpa using hi)] at h
    cases h
theorem enum_len (ds : List PyData) : (enumD ds).length = ds.length := by simp [enumD]
theorem get_ints {ns : List Int} {i : Nat} {d : PyData} (h : (ns.map PyData.int)[i]? = some d) : ∃ n, ns[i]? = some n ∧ d = .int n := by
  rw [List.getElem?_map] at h
  cases e : ns[i]? with
  | none => rw [e] at h; cases h
  | some n => rw [e] at h; exact ⟨n, rfl, (Option.some.inj h).symm⟩
theorem get_dat {ds : List PyData} {i : Nat} {r : R} (h : (ds.map R.dat)[i]? = some r) : ∃ d, ds[i]? = some d ∧ r = .dat d := by
  rw [List.getElem?_map] at h
  cases e : ds[i]? with
  | none => rw [e] at h; cases h
  | some n => rw [e] at h; exact ⟨n, rfl, (Option.some.inj h).symm⟩
theorem mem_ints {ns : List Int} {r : R} (h : r ∈ (ns.map PyData.int).map R.dat) : ∃ n ∈ ns, r = .dat (.int n) := by
  obtain ⟨d, hd, rfl⟩ := List.mem_map.mp h
  obtain ⟨n, hn, rfl⟩ := List.mem_map.mp hd
  exact ⟨n, hn, rfl⟩
theorem rng_get {lo : Int} {n i : Nat} {r : R} (h : (rng lo n)[i]? = some r) : i < n ∧ r = .dat (.int (lo + (i : Int))) := by
  unfold rng at h
  rw [List.getElem?_map] at h
  by_cases hi : i < n
  · rw [List.getElem?_range hi] at h
    cases h
    exact ⟨hi, rfl⟩
  · rw [List.getElem?_eq_none (by simpa using hi)] at h
    cases h
theorem rng_len (lo : Int) (n : Nat) : (rng lo n).length = n := by simp [rng]
theorem rngD_get {hi : Int} {n i : Nat} {r : R} (h : (rngD hi n)[i]? = some r) : i < n ∧ r = .dat (.int (hi - (i : Int))) := by
  unfold rngD at h
  rw [List.getElem?_map] at h
  by_cases hi : i < n
  · rw [List.getElem?_range hi] at h
    cases h
    exact ⟨hi, rfl⟩
  · rw [List.getElem?_eq_none (by simpa using hi)] at h
    cases h
theorem rngD_len (hi : Int) (n : Nat) : (rngD hi n).length = n := by simp [rngD]
/-! ### the dice's next -/
def spNext : SpD := fun rs S C => ∃ (D : Addr) (n : Int) (j : Nat), rs = [.val (.ref D), .dat (.int n)] ∧ S[j]? = some (dice D) ∧ 0 < n ∧ n < 1073741824 ∧ ∀ r, 0 ≤ r → r < n → C (.dat (.int r)) S
/-- the same, the dice being open -/
def spNext0 : SpD := fun rs S C => ∃ (D : Addr) (n : Int) (j : Nat) (xs : List R), rs = [.val (.ref D), .dat (.int n)] ∧ S[j]? = some (.lst D xs) ∧ DiceOk xs ∧ 0 < n ∧ n < 1073741824 ∧ ∀ r ys, 0 ≤ r → r < n → DiceOk ys → C (.dat (.int r)) (S.set j (.lst D ys))
/-- a draw below a number that is known -/
theorem dnext {fr : Fr} {S : SH} {C : CR0} {D : Addr} {n : Int} {i j : Nat} (hv : fr[i]? = some (some (.val (.ref D)))) (hj : S[j]? = some (dice D)) (h0 : 0 < n) (h1 : n < 1073741824) (q : ∀ r, 0 ≤ r → r < n → C (.dat (.int r)) S) :
    dCall 2 spNext (dCons (dVar i) (dCons (dC (.dat (.int n))) dNil)) fr S C := ⟨_, hv, rfl, D, n, j, rfl, hj, h0, h1, q⟩
theorem dnextV {fr : Fr} {S : SH} {C : CR0} {D : Addr} {n : Int} {i j m : Nat} (hv : fr[i]? = some (some (.val (.ref D)))) (hm : fr[m]? = some (some (.dat (.int n)))) (hj : S[j]? = some (dice D)) (h0 : 0 < n) (h1 : n < 1073741824) (q : ∀ r, 0 ≤ r → r < n → C (.dat (.int r)) S) :
    dCall 2 spNext (dCons (dVar i) (dCons (dVar m) dNil)) fr S C := ⟨_, hv, _, hm, rfl, D, n, j, rfl, hj, h0, h1, q⟩
theorem dnextE {fr : Fr} {S : SH} {C : CR0} {D : Addr} {dn : DE} {i j : Nat} (n : Int) (hv : fr[i]? = some (some (.val (.ref D)))) (hj : S[j]? = some (dice D)) (hn : ∀ C', C' (.dat (.int n)) S → dn fr S C') (h0 : 0 < n) (h1 : n < 1073741824) (q : ∀ r, 0 ≤ r → r < n → C (.dat (.int r)) S) :
    dCall 2 spNext (dCons (dVar i) (dCons dn dNil)) fr S C := ⟨_, hv, hn _ ⟨rfl, D, n, j, rfl, hj, h0, h1, q⟩⟩
/-- an item of a list that is written -/
theorem pick {α : Type} {ds : List α} {r : Int} (h0 : 0 ≤ r) (h1 : r < ds.length) : ∃ d, atI ds r = some d ∧ d ∈ ds := by
  have e : r = ((r.toNat : Nat) : Int) := by omega
  have hl : r.toNat < ds.length := by omega
  refine ⟨ds[r.toNat], ?_, List.getElem_mem hl⟩
  have z := atI_nat (List.getElem?_eq_getElem hl)
  rw [← e] at z
  exact z
theorem next_of {P : Program} {w : World} {K : Fg} {mg : Str → Option Value} {base : Heap} {x : Str} {k : Nat} (d : Def P w K mg base x k 2 spNext0) : Def P w K mg base x k 2 spNext := by
  obtain ⟨f, fd, ps, a, b⟩ := d.ex
  refine ⟨f, fd, ps, a.imp fun vs H Q E h => ?_, b⟩
  obtain ⟨hl, F, S, L, rs, C, o, lv, ⟨D, n, j, rfl, hj, hn, hn2, q⟩, fin⟩ := h
  obtain ⟨xs, hx, o2⟩ := o.open_pk (in_app (F := F) hj)
  rw [set_app hj] at o2
  refine ⟨hl, F, S.set j (.lst D xs), L, _, fun r S' => ∃ i ys, r = .dat (.int i) ∧ 0 ≤ i ∧ i < n ∧ DiceOk ys ∧ S' = (S.set j (.lst D xs)).set j (.lst D ys), o2, lv, ⟨D, n, j, xs, rfl, getset hj _, hx, hn, hn2, fun r ys h0 h1 hy => ⟨r, ys, rfl, h0, h1, hy, rfl⟩⟩, ?_⟩
  rintro v r S' H' o' ⟨i, ys, rfl, h0, h1, hy, rfl⟩
  rw [List.set_set] at o'
  have o3 := o'.pack (P := DiceOk) (in_app (F := F) (getset hj (.lst D ys))) hy
  rw [set_app (getset hj _), List.set_set, set_same hj] at o3
  exact fin v _ S H' o3 (q i h0 h1)
end DL
set_option Elab.async false
set_option linter.all false
set_option maxRecDepth 100000
set_option maxHeartbeats 4000000
/-! DL: min of data that is compared place by place (tuples of numbers and lists). -/
namespace DL
open PySem PySem.Spec PyProof.Rows L2

/-- < between what stands at two places, wherever the objects of h0 are kept -/
def LtIn (prog : Program) (w : World) (A : Around) (h0 : Heap) (P : Nat → Value → Prop) (bt : Nat → Nat → Bool) : Prop :=
  ∀ i j vi vj (s : Shared) (Q : Value → Shared → Prop) (E : Value → Shared → Prop), j < i → (∀ b o, h0.get? b = some o → s.heap.get? b = some o) → P i vi → P j vj → Q (.bool (bt i j)) s → wpAny (model prog w) A (richCompare .Lt vi vj) Q E s
theorem argBest_le (bt : Nat → Nat → Bool) : ∀ k, argBest bt k ≤ k
  | 0 => Nat.le_refl _
  | k + 1 => by
    unfold argBest
    split
    · exact Nat.le_refl _
    · exact Nat.le_succ_of_le (argBest_le bt k)
section
variable {prog : Program} {w : World} {A : Around} {R : Result → Shared → Prop} {I : Addr} {fp wr : List Addr} {n : Nat} {P : Nat → Value → Prop} {St : Nat → Heap → Prop} {h0 : Heap}
theorem minloop (W : Walks prog w A.in1 I fp wr n P St) (bt : Nat → Nat → Bool) (lt : LtIn prog w A.in1 h0 P bt) (S : Addr) (hSf : S ∉ fp) (hw : ∀ b o, h0.get? b = some o → b ∉ wr ∧ b ≠ S) :
    ∀ (k j : Nat) (s : Shared) (vb : Value) (c : Nat), n - (j + 1) = k → j + 1 ≤ n → St (j + 1) s.heap → P (argBest bt j) vb → (∀ b o, h0.get? b = some o → s.heap.get? b = some o) →
    s.heap.get? S = some { cls := .type "list", dict := none, data := .seq #[vb, vb] c, slots := #[] } →
    (∀ v h' tk, P (argBest bt (n - 1)) v → (∀ b o, b ∉ wr → b ≠ S → s.heap.get? b = some o → h'.get? b = some o) → R (.ok (.ret v)) { s with heap := h', toks := tk }) →
    codeAny (model prog w) A (.builtin "min.loop" ⟨[.ref I, .none, .ref S], []⟩) R s := by
  have nSw : S ∉ wr := fun h => hSf (W.sub _ h)
  have nm : (toString "min" ++ toString ".loop" : String) = "min.loop" := by decide
  intro k
  induction k with
  | zero =>
    intro j s vb c hk hj st pb keep hS fin
    have ej : j + 1 = n := by omega
    refine codeAny_builtin F.entry_min_loop ?_
    rw [Around.under_plainId F.plain_min_loop _]
    show wpAny _ A.in1 (seqItems? (.ref S) >>= _) _ _ s
    refine wpAny_bind (wpAny_seqItems hS rfl ?_)
    show wpAny _ A.in1 (tryCatch (pyNext (.ref I)) _ >>= _) _ _ s
    refine wpAny_bind (wpAny_tryCatch (W.done s _ _ (ej ▸ st) fun h' tk kp => ?_))
    have hS' := kp S _ nSw hS
    show wpAny _ A.in1 (updateSeq S (fun _ => #[]) >>= _) _ _ _
    refine wpAny_bind ?_
    refine wpAny_updateSeq hS' rfl (wpAny_bind (wpAny_letGo (wpAny_pure ?_)))
    exact fin vb _ tk (by rw [← ej]; exact pb) fun b o hb hbS e => (Heap.get?_update_other _ _ (Ne.symm hbS)).trans (kp b o hb e)
  | succ k ih =>
    intro j s vb c hk hj st pb keep hS fin
    have lj : j + 1 < n := by omega
    refine codeAny_builtin F.entry_min_loop ?_
    rw [Around.under_plainId F.plain_min_loop _]
    show wpAny _ A.in1 (seqItems? (.ref S) >>= _) _ _ s
    refine wpAny_bind (wpAny_seqItems hS rfl ?_)
    show wpAny _ A.in1 (tryCatch (pyNext (.ref I)) _ >>= _) _ _ s
    refine wpAny_bind (wpAny_tryCatch (W.item (j + 1) s _ _ lj st fun v h' tk pv st' kp => ?_))
    have hS' := kp S _ nSw hS
    have keep' : ∀ b o, h0.get? b = some o → h'.get? b = some o := fun b o e => kp b o (hw b o e).1 (keep b o e)
    show wpAny _ A.in1 (tryCatch (holding [v, v] (richCompare .Lt v vb >>= _)) _ >>= _) _ _ _
    refine wpAny_bind (wpAny_tryCatch (wpAny_holding (wpAny_bind (lt (j + 1) (argBest bt j) v vb _ _ _ (Nat.lt_succ_of_le (argBest_le bt j)) keep' pv pb ?_))))
    refine wpAny_bind (wpAny_holding (wpAny_truthy_bool ?_))
    refine wpAny_bind (wpAny_letGo (wpAny_pure ?_))
    cases hb : bt (j + 1) (argBest bt j) with
    | true =>
      simp only [if_true]
      refine wpAny_bind ?_
      refine wpAny_updateSeq hS' rfl (wpAny_bind (wpAny_letGo ?_))
      rw [nm]
      refine wpAny_pure ⟨plainId_quiet F.plain_min_loop _, ih (j + 1) _ v _ (by omega) lj (W.frame _ _ _ st' fun b hbf o e => ?_) (by simp only [argBest, hb, if_true]; exact pv) (fun b o e => (Heap.get?_update_other _ _ (Ne.symm (hw b o e).2)).trans (keep' b o e)) (Heap.get?_update_self _ hS' rfl) fun v' h'' tk'' pv' kp'' => ?_⟩
      · exact (Heap.get?_update_other _ _ (fun h : S = b => hSf (by rw [h]; exact hbf))).trans e
      · exact fin v' h'' tk'' pv' fun b o hbw hbS e => kp'' b o hbw hbS ((Heap.get?_update_other _ _ (Ne.symm hbS)).trans (kp b o hbw e))
    | false =>
      simp only [Bool.false_eq_true, if_false]
      refine wpAny_bind (wpAny_letGo ?_)
      rw [nm]
      refine wpAny_pure ⟨plainId_quiet F.plain_min_loop _, ih (j + 1) _ vb c (by omega) lj st' (by simp only [argBest, hb, Bool.false_eq_true, if_false]; exact pb) keep' hS' fun v' h'' tk'' pv' kp'' => ?_⟩
      exact fin v' h'' tk'' pv' fun b o hbw hbS e => kp'' b o hbw hbS (kp b o hbw e)
theorem minfirst (W : Walks prog w A.in1 I fp wr n P St) (bt : Nat → Nat → Bool) (lt : LtIn prog w A.in1 h0 P bt) (S : Addr) (hSf : S ∉ fp) (hw : ∀ b o, h0.get? b = some o → b ∉ wr ∧ b ≠ S) (hn : 0 < n) {s : Shared} {c : Nat} (st : St 0 s.heap)
    (keep : ∀ b o, h0.get? b = some o → s.heap.get? b = some o) (hS : s.heap.get? S = some { cls := .type "list", dict := none, data := .seq #[] c, slots := #[] })
    (fin : ∀ v h' tk, P (argBest bt (n - 1)) v → (∀ b o, b ∉ wr → b ≠ S → s.heap.get? b = some o → h'.get? b = some o) → R (.ok (.ret v)) { s with heap := h', toks := tk }) :
    codeAny (model prog w) A (.builtin "min.loop" ⟨[.ref I, .none, .ref S], []⟩) R s := by
  have nSw : S ∉ wr := fun h => hSf (W.sub _ h)
  have nm : (toString "min" ++ toString ".loop" : String) = "min.loop" := by decide
  refine codeAny_builtin F.entry_min_loop ?_
  rw [Around.under_plainId F.plain_min_loop _]
  show wpAny _ A.in1 (seqItems? (.ref S) >>= _) _ _ s
  refine wpAny_bind (wpAny_seqItems hS rfl ?_)
  show wpAny _ A.in1 (tryCatch (pyNext (.ref I)) _ >>= _) _ _ s
  refine wpAny_bind (wpAny_tryCatch (W.item 0 s _ _ hn st fun v h' tk pv st' kp => ?_))
  have hS' := kp S _ nSw hS
  show wpAny _ A.in1 (updateSeq S (fun _ => #[v, v]) >>= _) _ _ _
  refine wpAny_bind ?_
  refine wpAny_updateSeq hS' rfl ?_
  rw [nm]
  refine wpAny_pure ⟨plainId_quiet F.plain_min_loop _, minloop W bt lt S hSf hw _ 0 _ v _ rfl hn (W.frame _ _ _ st' fun b hbf o e => ?_) pv (fun b o e => (Heap.get?_update_other _ _ (Ne.symm (hw b o e).2)).trans (kp b o (hw b o e).1 (keep b o e))) (Heap.get?_update_self _ hS' rfl) fun v' h'' tk'' pv' kp'' => ?_⟩
  · exact (Heap.get?_update_other _ _ (fun h : S = b => hSf (by rw [h]; exact hbf))).trans e
  · exact fin v' h'' tk'' pv' fun b o hbw hbS e => kp'' b o hbw hbS ((Heap.get?_update_other _ _ (Ne.symm hbS)).trans (kp b o hbw e))
end
section
variable {prog : Program} {w : World} {A : Around} {E : Value → Shared → Prop} {s : Shared}
/-- min(xs), a list -/
theorem min_listH {l : Addr} {its : Array Value} {bt : Nat → Nat → Bool} {Q : Value → Shared → Prop} (hh : A.handled = none) (hl : s.heap.IsList l its) (hn : 0 < its.size) (lt : LtIn prog w A.in1 s.heap (fun i v => its[i]? = some v) bt)
    (fin : ∀ v h' tk, its[argBest bt (its.size - 1)]? = some v → (∀ b o, s.heap.get? b = some o → h'.get? b = some o) → Q v { s with heap := h', toks := tk }) : wpAny (model prog w) A (call (.builtin "min") [.ref l]) Q E s := by
  have nm : (toString "min" ++ toString ".loop" : String) = "min.loop" := by decide
  refine call_function_tree F.kind_min F.plain_min F.entry_min (F.args_min1 _) ?_
  show wpAny _ A.in1 (Builtin.Builtins.bindParams "min" ["key", "default"] 0 ⟨[], []⟩ >>= _) _ _ s
  refine wpAny_bind (wpAny_of_eq (show Builtin.Builtins.bindParams "min" ["key", "default"] 0 ⟨[], []⟩ = pure [none, none] from rfl) ?_)
  refine wpAny_bind (wpAny_pure ?_)
  refine wpAny_bind (iter_any hl fun s₂ e st hlI => ?_)
  have hlt : l < s.heap.objs.size := by obtain ⟨_, e, _⟩ := hl; exact Heap.lt_size e
  have hsz : s₂.heap.objs.size = s.heap.objs.size + 1 := by rw [e]; exact Heap.size_push ..
  have kp0 : ∀ b o, s.heap.get? b = some o → s₂.heap.get? b = some o := fun b o q => by rw [e]; exact Heap.get?_push_of_some _ q
  refine wpAny_bind (wpAny_newObj_type ?_)
  have W := Walks.list (prog := prog) (w := w) (A := A.in1) hh s.heap.objs.size l hlI its
  have hSf : s₂.heap.objs.size ∉ [s.heap.objs.size, l] := fun hm => by
    have hm' : s₂.heap.objs.size = s.heap.objs.size ∨ s₂.heap.objs.size = l := by simpa using hm
    rw [hsz] at hm'
    rcases hm' with z | z
    · omega
    · exact Nat.lt_irrefl _ (Nat.lt_trans (Nat.lt_succ_self _) (Nat.lt_of_le_of_lt (Nat.le_of_eq z) hlt))
  rw [nm]
  have far : ∀ b o, s.heap.get? b = some o → b ∉ [s.heap.objs.size] ∧ b ≠ s₂.heap.objs.size := fun b o q => ⟨fun hm => by
      have e1 : b = s.heap.objs.size := by simpa using hm
      rw [e1] at q
      exact Nat.lt_irrefl _ (Heap.lt_size q), fun z => by
      have := Heap.lt_size q
      rw [z, hsz] at this
      exact Nat.lt_irrefl _ (Nat.lt_trans (Nat.lt_succ_self _) this)⟩
  refine wpAny_pure ⟨plainId_quiet F.plain_min_loop _, minfirst (h0 := s.heap) W bt lt _ hSf far hn (W.frame _ _ _ st fun b _ o e => Heap.get?_push_of_some _ e) (fun b o q => Heap.get?_push_of_some _ (kp0 b o q)) (Heap.get?_push_size _ rfl) fun v h' tk pv kp => ?_⟩
  have hq := fin v h' tk pv fun b o q => kp b o (far b o q).1 (far b o q).2 (Heap.get?_push_of_some _ (kp0 b o q))
  rw [e]
  exact hq
/-- min(a, b) -/
theorem min_twoH {a b : Value} {c : Bool} {Q : Value → Shared → Prop} (hh : A.handled = none) (lt : ∀ (s' : Shared) (Q : Value → Shared → Prop) (E : Value → Shared → Prop), (∀ b o, s.heap.get? b = some o → s'.heap.get? b = some o) → Q (.bool c) s' → wpAny (model prog w) A.in1 (richCompare .Lt b a) Q E s')
    (fin : ∀ h' tk, (∀ b o, s.heap.get? b = some o → h'.get? b = some o) → Q (if c then b else a) { s with heap := h', toks := tk }) : wpAny (model prog w) A (call (.builtin "min") [a, b]) Q E s := by
  have nm : (toString "min" ++ toString ".loop" : String) = "min.loop" := by decide
  refine call_function_tree F.kind_min F.plain_min F.entry_min (F.args_min2 _ _) ?_
  show wpAny _ A.in1 (Builtin.Builtins.bindParams "min" ["key", "default"] 0 ⟨[], []⟩ >>= _) _ _ s
  refine wpAny_bind (wpAny_of_eq (show Builtin.Builtins.bindParams "min" ["key", "default"] 0 ⟨[], []⟩ = pure [none, none] from rfl) ?_)
  show wpAny _ A.in1 (newTuple [a, b] >>= _) _ _ s
  refine wpAny_bind (wpAny_newObj_type ?_)
  have hT : (s.heap.push { cls := .type "tuple", data := .seq #[a, b] }).IsTuple s.heap.objs.size #[a, b] := ⟨_, Heap.get?_push_size _ rfl, rfl, 0, rfl⟩
  have hs1 : (s.heap.push { cls := .type "tuple", data := .seq #[a, b] }).objs.size = s.heap.objs.size + 1 := Heap.size_push ..
  refine wpAny_bind (wpAny_pyIter_tuple hT ?_)
  refine wpAny_bind (wpAny_newObj_type ?_)
  have hs2 : ((s.heap.push { cls := .type "tuple", data := .seq #[a, b] }).push { cls := .type "tuple_iterator", data := .fields #[.ref s.heap.objs.size, .int 0 0] }).objs.size = s.heap.objs.size + 1 + 1 := by rw [Heap.size_push, hs1]
  have W := Walks.tuple (prog := prog) (w := w) (A := A.in1) hh (s.heap.push { cls := .type "tuple", data := .seq #[a, b] }).objs.size s.heap.objs.size (by rw [hs1]; exact Nat.ne_of_lt (Nat.lt_succ_self _)) #[a, b]
  rw [nm]
  have kp0 : ∀ b' o, s.heap.get? b' = some o → ((s.heap.push { cls := .type "tuple", data := .seq #[a, b] }).push { cls := .type "tuple_iterator", data := .fields #[.ref s.heap.objs.size, .int 0 0] }).get? b' = some o := fun b' o q => Heap.get?_push_of_some _ (Heap.get?_push_of_some _ q)
  have far : ∀ b' o, s.heap.get? b' = some o → b' ∉ [(s.heap.push { cls := .type "tuple", data := .seq #[a, b] }).objs.size] ∧ b' ≠ ((s.heap.push { cls := .type "tuple", data := .seq #[a, b] }).push { cls := .type "tuple_iterator", data := .fields #[.ref s.heap.objs.size, .int 0 0] }).objs.size := fun b' o q => ⟨fun hm => by
      have e1 : b' = (s.heap.push { cls := .type "tuple", data := .seq #[a, b] }).objs.size := by simpa using hm
      have := Heap.lt_size q
      rw [e1, hs1] at this
      exact Nat.lt_irrefl _ (Nat.lt_trans (Nat.lt_succ_self _) this), fun z => by
      have := Heap.lt_size q
      rw [z, hs2] at this
      exact Nat.lt_irrefl _ (Nat.lt_trans (Nat.lt_succ_self _) (Nat.lt_trans (Nat.lt_succ_self _) this))⟩
  have LT : LtIn prog w A.in1 s.heap (fun i v => #[a, b][i]? = some v) (fun _ _ => c) := fun i j vi vj s' Q E hij kp hi hj hq => by
    have h2 : i < 2 := (Array.getElem?_eq_some_iff.mp hi).1
    have e1 : i = 1 := by omega
    have e2 : j = 0 := by omega
    subst e1 e2
    cases hi
    cases hj
    exact lt s' Q E kp hq
  have hSf : ((s.heap.push { cls := .type "tuple", data := .seq #[a, b] }).push { cls := .type "tuple_iterator", data := .fields #[.ref s.heap.objs.size, .int 0 0] }).objs.size ∉ [(s.heap.push { cls := .type "tuple", data := .seq #[a, b] }).objs.size, s.heap.objs.size] := fun hm => by
    have hm' : ((s.heap.push { cls := .type "tuple", data := .seq #[a, b] }).push { cls := .type "tuple_iterator", data := .fields #[.ref s.heap.objs.size, .int 0 0] }).objs.size = (s.heap.push { cls := .type "tuple", data := .seq #[a, b] }).objs.size ∨ ((s.heap.push { cls := .type "tuple", data := .seq #[a, b] }).push { cls := .type "tuple_iterator", data := .fields #[.ref s.heap.objs.size, .int 0 0] }).objs.size = s.heap.objs.size := by simpa using hm
    rw [hs2, hs1] at hm'
    omega
  have st0 : ((s.heap.push { cls := .type "tuple", data := .seq #[a, b] }).push { cls := .type "tuple_iterator", data := .fields #[.ref s.heap.objs.size, .int 0 0] }).IsTupleIter (s.heap.push { cls := .type "tuple", data := .seq #[a, b] }).objs.size s.heap.objs.size 0 ∧ ((s.heap.push { cls := .type "tuple", data := .seq #[a, b] }).push { cls := .type "tuple_iterator", data := .fields #[.ref s.heap.objs.size, .int 0 0] }).IsTuple s.heap.objs.size #[a, b] := ⟨⟨_, Heap.get?_push_size _ rfl, rfl, rfl⟩, hT.push _⟩
  refine wpAny_pure ⟨plainId_quiet F.plain_min_loop _, minfirst (h0 := s.heap) W _ LT _ hSf far (show 0 < 2 by decide) (W.frame 0 _ _ st0 fun b _ o e => Heap.get?_push_of_some _ e) (fun b o q => Heap.get?_push_of_some _ (kp0 b o q)) (Heap.get?_push_size _ rfl) fun v h' tk pv kp => ?_⟩
  · have hq := fin h' tk fun b' o q => kp b' o (far b' o q).1 (far b' o q).2 (Heap.get?_push_of_some _ (kp0 b' o q))
    have ev : v = if c then b else a := by
      cases c with
      | true =>
        have pv' : #[a, b][1]? = some v := pv
        cases pv'
        rfl
      | false =>
        have pv' : #[a, b][0]? = some v := pv
        cases pv'
        rfl
    rw [ev]
    exact hq
end
end DL
set_option Elab.async false
set_option linter.all false
set_option maxRecDepth 100000
set_option maxHeartbeats 4000000
/-! DL: min of data, as a rule. -/
namespace DL
open PySem PySem.Spec PyProof.Rows L2

/-- two data that may be compared -/
def CmpOk (d e : PyData) : Prop := PySem.W.alike d e = true ∧ d ≠ .none ∧ d.depth ≤ 60
def rMinDat (K : Fg) : List V → Hp → VK → Prop := fun vs H Q =>
  (∃ (p : Addr) (xs : List V) (ds : List PyData), vs = [.ref p] ∧ SqL K H p xs ∧ DpAll K H xs ds ∧ (∀ x ∈ ds, ∀ y ∈ ds, CmpOk x y) ∧ 0 < ds.length ∧ ∀ v, xs[argBest (fun i j => PySem.W.dataLt (ds.getD i .none) (ds.getD j .none)) (ds.length - 1)]? = some v → Q v H) ∨
  ∃ (x y : V) (d e : PyData), vs = [x, y] ∧ Dp K H x d ∧ Dp K H y e ∧ CmpOk e d ∧ Q (if PySem.W.dataLt e d then y else x) H
section
variable {X : Cx}
theorem dpAll_len {K : Fg} {H : Hp} : ∀ {xs : List V} {ds : List PyData}, DpAll K H xs ds → xs.length = ds.length
  | _, _, .nil => rfl
  | _, _, .cons _ t => by rw [List.length_cons, List.length_cons, dpAll_len t]
theorem reads_get {h : Heap} : ∀ {us : List Value} {ds : List PyData} {as : List Addr} {i : Nat} {u : Value}, ReadsAll h us ds as → us[i]? = some u → ∃ d as', ds[i]? = some d ∧ Reads h u d as'
  | _, _, _, i, _, .nil, e => by simp at e
  | _, _, _, 0, _, .cons r _, e => by simp at e; subst e; exact ⟨_, _, rfl, r⟩
  | _, _, _, i + 1, u, .cons _ t, e => by
    obtain ⟨d, as', h1, h2⟩ := reads_get (i := i) (u := u) t (by simpa using e)
    exact ⟨d, as', by simpa using h1, h2⟩
theorem units_in1 (A : Around) : A.in1.units = A.units + 1 := rfl
theorem cr_minDat (hc : X.calm = true) (hu : X.A.units + 64 < cLine) : CallR X (.builtin "min") (rMinDat X.K) := by
  intro pins s σ H xs us Q I r h
  have hh := I.ok.hd hc
  rcases h with ⟨p, ys, ds, rfl, hs, hd, hcmp, hn, q⟩ | ⟨x, y, d, e, rfl, hx, hy, hcmp, q⟩
  · obtain ⟨its, rv, hl, _⟩ := I.list hs
    rw [Vals.ref1 r]
    obtain ⟨as, hr⟩ := Dp.readsAll I ds ys its hd rv
    have hlen : its.length = ds.length := rv.length.symm.trans (dpAll_len hd)
    refine min_listH (bt := fun i j => PySem.W.dataLt (ds.getD i .none) (ds.getD j .none)) hh hl.isList (by simpa [hlen] using hn) ?_ ?_
    · intro i j vi vj s' Q' E' hij kp hi hj hq
      obtain ⟨di, ai, e1, r1⟩ := reads_get hr (by simpa using hi)
      obtain ⟨dj, aj, e2, r2⟩ := reads_get hr (by simpa using hj)
      have c := hcmp di (List.mem_of_getElem? e1) dj (List.mem_of_getElem? e2)
      have e1' : ds.getD i .none = di := by rw [List.getD_eq_getElem?_getD, e1]; rfl
      have e2' : ds.getD j .none = dj := by rw [List.getD_eq_getElem?_getD, e2]; rfl
      refine PySem.W.rcLt_alike di dj X.A.in1 s' vi vj ai aj (Reads.keeps kp r1) (Reads.keeps kp r2) c.1 c.2.1 ?_ _ _ _ _ (by rw [← e1', ← e2']; exact hq)
      rw [units_in1]
      have h1 : min di.depth dj.depth ≤ di.depth := Nat.min_le_left _ _
      have h2 := c.2.2
      omega
    · intro v h' tk hv kp
      have hv' : its[argBest (fun i j => PySem.W.dataLt (ds.getD i .none) (ds.getD j .none)) (ds.length - 1)]? = some v := by
        rw [← hlen]
        simpa using hv
      cases ey : ys[argBest (fun i j => PySem.W.dataLt (ds.getD i .none) (ds.getD j .none)) (ds.length - 1)]? with
      | none => rw [rv.none_of ey] at hv'; cases hv'
      | some z =>
        obtain ⟨u, eu, ru⟩ := rv.get ey
        rw [eu] at hv'
        cases hv'
        exact ⟨z, H, I.kept (t' := tk) kp, ru, q z ey⟩
  · obtain ⟨u, w', rfl, ru, rw'⟩ := vals2 r
    obtain ⟨au, r1⟩ := Dp.reads I d x u hx ru
    obtain ⟨aw, r2⟩ := Dp.reads I e y w' hy rw'
    refine min_twoH (c := PySem.W.dataLt e d) hh (fun s' Q' E' kp hq => ?_) fun h' tk kp => ?_
    · refine PySem.W.rcLt_alike e d X.A.in1 s' w' u aw au (Reads.keeps kp r2) (Reads.keeps kp r1) hcmp.1 hcmp.2.1 ?_ _ _ _ _ hq
      rw [units_in1]
      have h1 : min e.depth d.depth ≤ e.depth := Nat.min_le_left _ _
      have h2 := hcmp.2.2
      omega
    · cases hb : PySem.W.dataLt e d with
      | true =>
        rw [hb] at q
        exact ⟨y, H, I.kept (t' := tk) kp, rw', q⟩
      | false =>
        rw [hb] at q
        exact ⟨x, H, I.kept (t' := tk) kp, ru, q⟩
end
def fMinDat : FA := fun rs S C => match rs with
  | [.dat (.list ds)] => (∀ x ∈ ds, ∀ y ∈ ds, CmpOk x y) ∧ ds ≠ [] ∧ ∀ d, ds[argBest (fun i j => PySem.W.dataLt (ds.getD i .none) (ds.getD j .none)) (ds.length - 1)]? = some d → C (.dat d) S
  | [.dat d, .dat e] => CmpOk e d ∧ C (.dat (if PySem.W.dataLt e d then e else d)) S
  | _ => False
theorem cd_minDat {K : Fg} : CallD K (rMinDat K) fMinDat := by
  intro F vs rs H S L C Q o lv hf q
  unfold fMinDat at hf
  split at hf
  · cases lv with | cons m t =>
    cases t
    obtain ⟨hc, hne, h⟩ := hf
    have hr := o.dat m
    cases hr with | lst h1 n1 q1 =>
    refine .inl ⟨_, _, _, rfl, SqL.of h1, q1.dp, hc, List.length_pos_iff.mpr hne, fun v hv => ?_⟩
    obtain ⟨d, hd, rd⟩ := q1.get hv
    exact q v _ S H (o.pd rd) (h d hd)
  · rename_i d e
    cases lv with | cons m t => cases t with | cons m2 t =>
    cases t
    refine .inr ⟨_, _, d, e, rfl, (o.dat m).dp, (o.dat m2).dp, hf.1, ?_⟩
    cases hb : PySem.W.dataLt e d with
    | true =>
      have h2 := hf.2
      rw [hb] at h2
      exact q _ _ S H (o.pd (o.dat m2)) h2
    | false =>
      have h2 := hf.2
      rw [hb] at h2
      exact q _ _ S H (o.pd (o.dat m)) h2
  · exact hf.elim
section
variable {X : Cx} {a b c e : Expr} {da db dc de : DE} {dA : DA} {pos p : Pos} {es : List Expr}
theorem d_minD1U (hu : X.A.units + 64 < cLine) (hg : Gl X "min") (hm : X.mg "min" = none) (ha : PDA X [e] dA) (hc : X.calm = true := by rfl) (he : starEach [e] X.env = [(false, eval e X.env)] := by rfl) : PD X (.Call (.Name "min" p) [e] [] pos) (dCB fMinDat dA) := d_callB (cr_minDat hc hu) cd_minDat hg hm (by decide +kernel) ha (by decide) (by decide) he (by rfl)
theorem d_minD2U (hu : X.A.units + 64 < cLine) (hg : Gl X "min") (hm : X.mg "min" = none) (ha : PDA X [a, b] dA) (hc : X.calm = true := by rfl) (he : starEach [a, b] X.env = (false, eval a X.env) :: starEach [b] X.env := by rfl) (hpl : (backTo pos (starEach [b] X.env)).any (·.1) = false := by rfl) : PD X (.Call (.Name "min" p) [a, b] [] pos) (dCB fMinDat dA) := d_callB (cr_minDat hc hu) cd_minDat hg hm (by decide +kernel) ha (by decide) (by decide) he hpl
end
/-! ### (a number, a list of numbers): the order -/
abbrev CM := Int × List Int
def CM.dat (x : CM) : PyData := .tuple [.int x.1, .list (x.2.map PyData.int)]
/-- lists of ints, the first that differs, the shorter one first -/
def lexI : List Int → List Int → Bool
  | [], [] => false
  | [], _ :: _ => true
  | _ :: _, [] => false
  | x :: xs, y :: ys => if x = y then lexI xs ys else decide (x < y)
def ltCM (x y : CM) : Bool := if x.1 = y.1 then lexI x.2 y.2 else decide (x.1 < y.1)
theorem lex_end (l m : List (Int ⊕ List Nat)) : PyProof.Rows.lexLt PyProof.Rows.itemOrd (.inl 0 :: l) (.inl 1 :: m) = true := by
  rw [PySem.W.lex_atom (by decide), PySem.W.lex_one]; rfl
theorem lex_end2 (l m : List (Int ⊕ List Nat)) : PyProof.Rows.lexLt PyProof.Rows.itemOrd (.inl 1 :: l) (.inl 0 :: m) = false := by
  rw [PySem.W.lex_atom (by decide), PySem.W.lex_one]; rfl
theorem lex_same (l : List (Int ⊕ List Nat)) : PyProof.Rows.lexLt PyProof.Rows.itemOrd l l = false := by
  have h := PySem.W.lex_pre l [] []
  rw [List.append_nil] at h
  rw [h]; rfl
theorem eqv_int (x y : Int) : PyData.eqv (.int x) (.int y) = (x == y) := by rw [PyData.eqv]
theorem lexI_toks : ∀ xs ys : List Int, PyProof.Rows.lexLt PyProof.Rows.itemOrd (PySem.W.keyToksAll (xs.map PyData.int)) (PySem.W.keyToksAll (ys.map PyData.int)) = lexI xs ys
  | [], [] => lex_same _
  | [], y :: ys => by
    rw [List.map_nil, List.map_cons, PySem.W.toks_all_cons]
    show PyProof.Rows.lexLt PyProof.Rows.itemOrd (PySem.W.keyToksAll []) _ = true
    rw [PySem.W.keyToksAll]
    exact lex_end _ _
  | x :: xs, [] => by
    rw [List.map_nil, List.map_cons, PySem.W.toks_all_cons]
    show PyProof.Rows.lexLt PyProof.Rows.itemOrd _ (PySem.W.keyToksAll []) = false
    rw [PySem.W.keyToksAll]
    exact lex_end2 _ _
  | x :: xs, y :: ys => by
    have ha : PySem.W.alike (.int x) (.int y) = true := by rw [PySem.W.alike]
    rw [List.map_cons, List.map_cons]
    unfold lexI
    by_cases h : x = y
    · rw [if_pos h, PySem.W.dataLt_all_yes ha (by rw [eqv_int, h]; simp), lexI_toks xs ys]
    · rw [if_neg h, PySem.W.dataLt_all_no ha (by rw [eqv_int]; simpa using h), PySem.W.dataLt_int]
theorem eqvAll_ints : ∀ xs ys : List Int, PyData.eqvAll (xs.map PyData.int) (ys.map PyData.int) = decide (xs = ys)
  | [], [] => by rw [List.map_nil, PyData.eqvAll]; rfl
  | [], y :: ys => by rw [List.map_nil, List.map_cons, PyData.eqvAll]; rfl
  | x :: xs, [] => by rw [List.map_nil, List.map_cons, PyData.eqvAll]; rfl
  | x :: xs, y :: ys => by
    rw [List.map_cons, List.map_cons, PyData.eqvAll, eqv_int, eqvAll_ints xs ys]
    by_cases h : x = y <;> by_cases h2 : xs = ys <;> simp [h, h2]
theorem alikeAll_ints : ∀ xs ys : List Int, PySem.W.alikeAll (xs.map PyData.int) (ys.map PyData.int) = true
  | [], _ => by rw [List.map_nil, PySem.W.alikeAll]
  | x :: xs, [] => by rw [List.map_nil, List.map_cons, PySem.W.alikeAll]
  | x :: xs, y :: ys => by rw [List.map_cons, List.map_cons, PySem.W.alikeAll, PySem.W.alike, alikeAll_ints xs ys]; rfl
theorem lexI_irrefl : ∀ xs : List Int, lexI xs xs = false
  | [] => rfl
  | x :: xs => by unfold lexI; rw [if_pos rfl]; exact lexI_irrefl xs
theorem dataLt_CM (x y : CM) : PySem.W.dataLt x.dat y.dat = ltCM x y := by
  have ha : PySem.W.alike (.int x.1) (.int y.1) = true := by rw [PySem.W.alike]
  unfold CM.dat ltCM
  rw [PySem.W.dataLt_tuple]
  by_cases h : x.1 = y.1
  · rw [if_pos h, PySem.W.dataLt_all_yes ha (by rw [eqv_int, h]; simp)]
    have hb : PySem.W.alike (.list (x.2.map PyData.int)) (.list (y.2.map PyData.int)) = true := by rw [PySem.W.alike]; exact alikeAll_ints _ _
    by_cases h2 : x.2 = y.2
    · rw [PySem.W.dataLt_all_yes hb (by rw [PyData.eqv, eqvAll_ints, h2]; simp), h2, lexI_irrefl]
      exact lex_same _
    · rw [PySem.W.dataLt_all_no hb (by rw [PyData.eqv, eqvAll_ints]; simpa using h2), PySem.W.dataLt_list, lexI_toks]
  · rw [if_neg h, PySem.W.dataLt_all_no ha (by rw [eqv_int]; simpa using h), PySem.W.dataLt_int]
theorem depth_ints : ∀ xs : List Int, PyData.depthAll (xs.map PyData.int) ≤ 1
  | [] => by rw [List.map_nil, PyData.depthAll]; decide
  | x :: xs => by
    rw [List.map_cons, PyData.depthAll, PyData.depth]
    have := depth_ints xs
    omega
theorem cmp_CM (x y : CM) : CmpOk x.dat y.dat := by
  refine ⟨?_, (fun h => nomatch h), ?_⟩
  · unfold CM.dat
    rw [PySem.W.alike, PySem.W.alikeAll, PySem.W.alike, PySem.W.alikeAll, PySem.W.alike, alikeAll_ints, PySem.W.alikeAll]; rfl
  · unfold CM.dat
    have := depth_ints x.2
    simp only [PyData.depth, PyData.depthAll]
    omega
end DL
set_option Elab.async false
set_option linter.all false
set_option maxRecDepth 100000
set_option maxHeartbeats 4000000
/-! DL: what a live value stands for, its cells read through; ends that let cells go. -/
namespace DL
open PySem PySem.Spec PyProof.Rows L2

mutual
inductive View (S : SH) : R → PyData → Prop
  | dat (d : PyData) : View S (.dat d) d
  | cel {p : Addr} {j : Nat} {xs : List R} {ds : List PyData} : S[j]? = some (.lst p xs) → Views S xs ds → View S (.val (.ref p)) (.list ds)
  | tp {rs : List R} {ds : List PyData} : Views S rs ds → View S (.tp rs) (.tuple ds)
inductive Views (S : SH) : List R → List PyData → Prop
  | nil : Views S [] []
  | cons {r : R} {rs : List R} {d : PyData} {ds : List PyData} : View S r d → Views S rs ds → Views S (r :: rs) (d :: ds)
end
theorem Views.of_dats {S : SH} : ∀ ds : List PyData, Views S (ds.map R.dat) ds
  | [] => .nil
  | d :: ds => .cons (.dat d) (Views.of_dats ds)
theorem Views.length {S : SH} : ∀ {rs : List R} {ds : List PyData}, Views S rs ds → rs.length = ds.length
  | _, _, .nil => rfl
  | _, _, .cons _ t => by rw [List.length_cons, List.length_cons, Views.length t]
theorem Views.get' {S : SH} : ∀ {rs : List R} {ds : List PyData} {i : Nat} {d : PyData}, Views S rs ds → ds[i]? = some d → ∃ r, rs[i]? = some r ∧ View S r d
  | _, _, _, _, .nil, e => by simp at e
  | _, _, 0, _, .cons r _, e => by simp at e; subst e; exact ⟨_, rfl, r⟩
  | _, _, i + 1, d, .cons _ t, e => by
    obtain ⟨u, h1, h2⟩ := Views.get' (i := i) (d := d) t (by simpa using e)
    exact ⟨u, by simpa using h1, h2⟩
section
variable {K : Fg} {F : SH} {H : Hp} {S : SH} {L : Live}
mutual
theorem View.dp (o : OkF K F H S L) : ∀ {r : R} {d : PyData} {v : V}, View S r d → RepR K (Av (S ++ F)) H v r → Dp K H v d
  | _, _, _, .dat d, h => Rep.dp h
  | _, _, v, .cel (p := p) hj q, h => by
    cases (show v = V.ref p from h)
    obtain ⟨vs, e, qs⟩ := o.cells _ (at_split (in_app hj))
    exact .lst (SqL.of e) (Views.dp o q qs)
  | _, _, v, .tp (rs := rs) q, h => by
    obtain ⟨a, vs, rfl, e, qs⟩ := (show ∃ a vs, v = .ref a ∧ (H a = some (.tup vs) ∨ KTup K a vs) ∧ RepRl K _ H vs rs from h)
    exact .tup (sqT_of (A := Av S) e) (Views.dp o q qs.pair)
theorem Views.dp (o : OkF K F H S L) : ∀ {rs : List R} {ds : List PyData} {vs : List V}, Views S rs ds → RepRs K (Av (S ++ F)) H vs rs → DpAll K H vs ds
  | _, _, _, .nil, .nil => .nil
  | _, _, _, .cons v t, .cons r s => .cons (View.dp o v r) (Views.dp o t s)
end
/-- min of two, read through -/
def fMinV : FA := fun rs S C => match rs with
  | [a, b] => ∃ d e, View S a d ∧ View S b e ∧ CmpOk e d ∧ C (if PySem.W.dataLt e d then b else a) S
  | _ => False
theorem cd_minV : CallD K (rMinDat K) fMinV := by
  intro F vs rs H S L C Q o lv hf q
  unfold fMinV at hf
  split at hf
  · rename_i a b
    cases lv with | cons m t => cases t with | cons m2 t =>
    cases t
    obtain ⟨d, e, hd, he, hc, h⟩ := hf
    refine .inr ⟨_, _, d, e, rfl, hd.dp o (o.live _ m), he.dp o (o.live _ m2), hc, ?_⟩
    cases hb : PySem.W.dataLt e d with
    | true =>
      rw [hb] at h
      exact q _ _ S H (o.push (o.live _ m2)) h
    | false =>
      rw [hb] at h
      exact q _ _ S H (o.push (o.live _ m)) h
  · exact hf.elim
/-- a list, its items -/
def lstR (S : SH) : R → List R → Prop
  | .dat (.list ds), xs => xs = ds.map R.dat
  | .val (.ref p), xs => ∃ j : Nat, S[j]? = some (.lst p xs)
  | _, _ => False
theorem lstR_at (o : OkF K F H S L) {v : V} {r : R} {xs : List R} (h : RepR K (Av (S ++ F)) H v r) (l : lstR S r xs) : ∃ p vs, v = .ref p ∧ H p = some (.lst vs) ∧ RepRs K (Av (S ++ F)) H vs xs := by
  cases r with
  | dat d =>
    cases d with
    | list ds =>
      cases (show xs = ds.map R.dat from l)
      have h : Rep K _ H v (.list ds) := h
      cases h with | lst e n q => exact ⟨_, _, rfl, e, all_reps q⟩
    | _ => exact l.elim
  | val w =>
    cases w with
    | ref p =>
      obtain ⟨j, hj⟩ := l
      cases (show v = V.ref p from h)
      obtain ⟨vs, e, q⟩ := o.cells _ (at_split (in_app hj))
      exact ⟨_, _, rfl, e, q⟩
    | _ => exact l.elim
  | scr ns => exact l.elim
  | tp rs => exact l.elim
  | obj C ks rs => exact l.elim
  | dic ks rs => exact l.elim
/-- xs + ys, a new cell -/
def fAddC : F2 := fun a b S C => ∃ xs ys, lstR S a xs ∧ lstR S b ys ∧ xs.length + ys.length ≤ 100000 ∧ ∀ p, C (.val (.ref p)) (.lst p (xs ++ ys) :: S)
theorem opd_addC : OpD K (rAddAll K) fAddC := by
  intro F x y a b H S L C Q o hx hy hf q
  obtain ⟨xs, ys, l1, l2, hl, h⟩ := hf
  obtain ⟨p1, v1, rfl, e1, q1⟩ := lstR_at o (o.live _ hx) l1
  obtain ⟨p2, v2, rfl, e2, q2⟩ := lstR_at o (o.live _ hy) l2
  exact .inr (.inr (.inl ⟨_, _, _, _, rfl, rfl, e1, e2, by rw [paired_len q1, paired_len q2]; exact big_of hl, fun p hp => q _ _ (_ :: S) _ (Ok.push (r := .val (.ref p)) (o.lstC hp (paired_app q1 q2)) rfl) (h p)⟩))
end
/-- an end that lets cells go -/
def Wk (C : CR0) : CR0 := fun r S => ∃ S1 S', S.Perm S1 ∧ S'.Sublist S1 ∧ C r S'
theorem wk {C : CR0} {r : R} {S : SH} (h : C r S) : Wk C r S := ⟨S, S, List.Perm.refl _, List.Sublist.refl _, h⟩
theorem wk_tail {C : CR0} {r : R} {S : SH} (T : SH) (h : C r S) : Wk C r (T ++ S) := ⟨T ++ S, S, List.Perm.refl _, List.sublist_append_right T S, h⟩
theorem wk_one {C : CR0} {r : R} {S : SH} {c : Cell} (T U : SH) (h : C r (c :: S)) : Wk C r (T ++ c :: (U ++ S)) := ⟨T ++ c :: (U ++ S), c :: S, List.Perm.refl _, (List.Sublist.cons₂ c (List.sublist_append_right U S)).trans (List.sublist_append_right T _), h⟩
section
variable {P : Program} {w : World} {K : Fg} {mg : Str → Option Value} {base : Heap}
theorem Ok.wk {C : CR0} {H : Hp} {F S : SH} {L : Live} {r : R} (o : OkF K F H S L) (h : Wk C r S) : ∃ S', OkF K F H S' L ∧ C r S' := by
  obtain ⟨S1, S', hp, hs, h⟩ := h
  exact ⟨S', (o.perm (hp.append_right F)).less (hs.append (List.Sublist.refl F)), h⟩
theorem okFw {x : Str} {st : Stmt} {N ps : List Str} {k n : Nat} {sp : SpD} (Fn : FunAt K mg x st ps) (Sc : FnScope N ps (defScope st)) (hn : ps.length = n)
    (hbody : ∀ (cdv : Value) (A : Around) (outer : List Env) (s : Shared) (H : Hp) (E : XK) (f : Addr), Room k (A.deeper (envOfC x (defScope st) s.heap.objs.size f cdv)) →
      ∃ ds, PDSs (cxOf CX0 P w K mg base N x (defScope st) f cdv A outer s H E).nox (defBody st) ds ∧ ∀ rs S C, rs.length = n → sp rs S C → ds { nx := fun _ S => Wk C (.dat .none) S, rt := Wk C } (startF N rs) S) : Def P w K mg base x (k + 1) n sp := by
  have h := okF (P := P) (w := w) (base := base) (sp := fun rs S C => ∃ C', sp rs S C' ∧ ∀ r S, Wk C' r S → C r S) Fn Sc hn fun cdv A outer s H E f hr => by
    obtain ⟨ds, hp, hd⟩ := hbody cdv A outer s H E f hr
    obtain ⟨ts, pt, l⟩ := hp.ex
    refine ⟨fun D fr S => ∃ C', (∀ r S, Wk C' r S → D.rt r S) ∧ (∀ fr S, Wk C' (.dat .none) S → D.nx fr S) ∧ ds { nx := fun _ S => Wk C' (.dat .none) S, rt := Wk C' } fr S, ⟨ts, pt, fun F H σ fr S L f o D D' e ⟨C', h1, h2, h3⟩ => ?_⟩, fun rs S C hl ⟨C', hs, hw⟩ => ⟨C', hw, fun _ S q => hw _ S q, hd rs S C' hl hs⟩⟩
    exact l F H σ fr S L f o D { nx := fun _ S => Wk C' (.dat .none) S, rt := Wk C' } ⟨fun σ' fr' S' H' L' f' o' s' q => e.nx σ' fr' S' H' L' f' o' s' (h2 fr' S' q), fun v r S' H' o' q => e.rt v r S' H' o' (h1 r S' q), fun _ _ _ _ _ _ _ _ q => q.elim, fun _ _ _ _ _ _ _ _ q => q.elim⟩ h3
  obtain ⟨f, fd, ps', a, b⟩ := h.ex
  refine ⟨f, fd, ps', a.imp fun vs H Q E h => ?_, b⟩
  obtain ⟨hl, F, S, L, rs, C, o, lv, hs, fin⟩ := h
  refine ⟨hl, F, S, L, rs, Wk C, o, lv, ⟨C, hs, fun _ _ q => q⟩, fun v r S' H' o' q => ?_⟩
  obtain ⟨S2, o2, q2⟩ := o'.wk q
  exact fin v r S2 H' o2 q2
end
section
variable {X : Cx} {a b c e : Expr} {da db dc de : DE} {dA : DA} {pos p : Pos} {es : List Expr}
theorem d_minVU (hu : X.A.units + 64 < cLine) (hg : Gl X "min") (hm : X.mg "min" = none) (ha : PDA X [a, b] dA) (hc : X.calm = true := by rfl) (he : starEach [a, b] X.env = (false, eval a X.env) :: starEach [b] X.env := by rfl) (hpl : (backTo pos (starEach [b] X.env)).any (·.1) = false := by rfl) : PD X (.Call (.Name "min" p) [a, b] [] pos) (dCB fMinV dA) := d_callB (cr_minDat hc hu) cd_minV hg hm (by decide +kernel) ha (by decide) (by decide) he hpl
theorem d_addC (ha : PD X a da) (hb : PD X b db) : PD X (.BinOp a .Add b pos) (dOp fAddC da db) := d_opG op_addAll opd_addC ha hb
end
end DL
set_option Elab.async false
set_option linter.all false
set_option maxRecDepth 100000
set_option maxHeartbeats 4000000
/-! DL: instances of own classes: fields, methods, making; further list methods; weakenings in a body. -/
namespace DL
open PySem PySem.Spec PyProof.Rows L2

/-- what is known of a class: its instances' fields, in order -/
structure Klass (K : Fg) (C : Addr) (ks : List Str) : Prop where
  cl : Cls K C
  nf : ∀ f ∈ ks, NoAttr K C f
  nd : ks.Nodup
  few : ks.length < 1000
def putAt {α : Type} : Nat → α → List α → List α
  | _, x, [] => [x]
  | 0, x, _ :: t => x :: t
  | n + 1, x, y :: t => y :: putAt n x t
section
variable {α : Type}
theorem lookup_zip {f : Str} : ∀ {ks : List Str} {vs : List α} {i : Nat} {v : α}, ks.Nodup → ks[i]? = some f → vs[i]? = some v → (ks.zip vs).lookup f = some v
  | [], _, _, _, _, h, _ => by simp at h
  | k :: ks, [], _, _, _, _, h => by simp at h
  | k :: ks, w :: vs, 0, v, _, h1, h2 => by
    simp at h1 h2
    subst h1 h2
    rw [List.zip_cons_cons, List.lookup_cons, beq_self_eq_true]
  | k :: ks, w :: vs, i + 1, v, nd, h1, h2 => by
    rw [List.nodup_cons] at nd
    have h1' : ks[i]? = some f := by simpa using h1
    have hne : f ≠ k := fun e => nd.1 (by rw [← e]; exact List.mem_of_getElem? h1')
    rw [List.zip_cons_cons, List.lookup_cons]
    have : (f == k) = false := by simpa using hne
    rw [this]
    exact lookup_zip nd.2 h1' (by simpa using h2)
theorem lookup_zip_none {f : Str} : ∀ {ks : List Str} {vs : List α}, f ∉ ks → (ks.zip vs).lookup f = none
  | [], _, _ => rfl
  | k :: ks, [], _ => rfl
  | k :: ks, w :: vs, h => by
    rw [List.zip_cons_cons, List.lookup_cons]
    have : (f == k) = false := by simpa using fun e => h (by rw [e]; exact List.mem_cons_self)
    rw [this]
    exact lookup_zip_none fun z => h (List.mem_cons_of_mem _ z)
theorem putF_zip {f : Str} {v : V} : ∀ {ks : List Str} {vs : List V} {i : Nat}, ks.Nodup → ks[i]? = some f → i ≤ vs.length → vs.length ≤ ks.length → putF f v (ks.zip vs) = ks.zip (putAt i v vs)
  | [], _, _, _, h, _, _ => by simp at h
  | k :: ks, [], i, _, h1, h2, _ => by
    have : i = 0 := by simpa using h2
    subst this
    simp at h1
    subst h1
    simp [putF, putAt]
  | k :: ks, w :: vs, 0, _, h1, _, _ => by
    simp at h1
    subst h1
    simp [putF, putAt]
  | k :: ks, w :: vs, i + 1, nd, h1, h2, h3 => by
    rw [List.nodup_cons] at nd
    have h1' : ks[i]? = some f := by simpa using h1
    have hne : k ≠ f := fun e => nd.1 (by rw [e]; exact List.mem_of_getElem? h1')
    have ih := putF_zip (v := v) (i := i) (ks := ks) (vs := vs) nd.2 h1' (by simpa using h2) (by simpa using h3)
    rw [List.zip_cons_cons, putF, if_neg hne, ih]
    rfl
end
theorem paired_put {α β : Type} {P : α → β → Prop} {x : α} {y : β} (r : P x y) : ∀ {xs : List α} {us : List β} (i : Nat), Paired P xs us → Paired P (putAt i x xs) (putAt i y us)
  | _, _, 0, .nil => .cons r .nil
  | _, _, _ + 1, .nil => .cons r .nil
  | _, _, 0, .cons _ t => .cons r t
  | _, _, i + 1, .cons h t => .cons h (paired_put r i t)
theorem putAt_len {α : Type} {x : α} : ∀ {i n : Nat} {xs : List α}, i < n → xs.length ≤ n → i ≤ xs.length → (putAt i x xs).length ≤ n
  | 0, n, [], h, _, _ => h
  | _ + 1, n, [], _, _, h3 => absurd h3 (Nat.not_succ_le_zero _)
  | 0, n, _ :: t, _, h2, _ => h2
  | i + 1, n, y :: t, h, h2, h3 => by
    obtain ⟨m, rfl⟩ : ∃ m, n = m + 1 := ⟨n - 1, by omega⟩
    have := putAt_len (x := x) (i := i) (n := m) (xs := t) (by omega) (by simpa using h2) (by simpa using h3)
    show (putAt i x t).length + 1 ≤ m + 1
    omega
section
variable {K : Fg}
/-! ### e.f -/
def dFld (C : Addr) (ks : List Str) (i : Nat) (da : DE) : DE := fun fr S Q => da fr S fun a S1 => match a with
  | .val (.ref p) => ∃ (j : Nat) (rs : List R) (r : R), S1[j]? = some (.ins p C ks rs) ∧ rs[i]? = some r ∧ Q r S1
  | .obj C' ks' rs => C' = C ∧ ks' = ks ∧ ∃ r, rs[i]? = some r ∧ Q r S1
  | _ => False
theorem lift_fld {C : Addr} {ks : List Str} {i : Nat} {f : Str} {ta : TE} {da : DE} (T : Klass K C ks) (hi : ks[i]? = some f) (la : Lift K ta da) : Lift K (tFld K ta f) (dFld C ks i da) := by
  intro F H σ fr S L fo o C' Q hd q
  refine la F H σ fr S L fo o _ _ hd fun x a S1 H1 o1 h1 => ?_
  have hx := o1.live _ List.mem_cons_self
  have nf : NoAttr K C f := T.nf f (List.mem_of_getElem? hi)
  split at h1
  · rename_i p
    cases (show x = V.ref p from hx)
    obtain ⟨j, rs, r, hj, hr, h⟩ := h1
    obtain ⟨dx, vs, e1, _, q1⟩ := o1.cells _ (at_split (in_app hj))
    obtain ⟨v, ev, rv⟩ := paired_get' q1 hr
    exact ⟨p, C, dx, _, v, rfl, e1, T.cl, nf, lookup_zip T.nd hi ev, q v r S1 H1 ((o1.sub tl_mem).push rv) h⟩
  · rename_i C2 ks2 rs
    obtain ⟨rfl, rfl, r, hr, h⟩ := h1
    obtain ⟨a, dx, vs, rfl, e1, _, hl, q1⟩ := hx
    obtain ⟨v, ev, rv⟩ := paired_get' q1.pair hr
    exact ⟨a, C2, dx, _, v, rfl, e1, T.cl, nf, lookup_zip T.nd hi ev, q v r S1 H1 ((o1.sub tl_mem).push rv) h⟩
  · exact h1.elim
/-! ### o.f = e -/
def sFldD (C : Addr) (ks : List Str) (i : Nat) (da dv : DE) : DS := fun D fr S => dv fr S fun r S1 => da fr S1 fun a S2 => match a with
  | .val (.ref p) => ∃ (j : Nat) (rs : List R), S2[j]? = some (.ins p C ks rs) ∧ i ≤ rs.length ∧ D.nx fr (S2.set j (.ins p C ks (putAt i r rs)))
  | _ => False
theorem lift_sfld {C : Addr} {ks : List Str} {i : Nat} {f : Str} {ta tv : TE} {da dv : DE} (T : Klass K C ks) (hi : ks[i]? = some f) (la : Lift K ta da) (lv : Lift K tv dv) : LiftS K (L2.sFld K ta tv f) (sFldD C ks i da dv) := fun F H σ fr S L fo o D D' e h => by
  refine lv F H σ fr S L fo o _ _ h fun y r S1 H1 o1 h1 => ?_
  refine la F H1 σ fr S1 _ (fo.mono tl_mem) o1 _ _ h1 fun x a S2 H2 o2 h2 => ?_
  have hx := o2.live _ List.mem_cons_self
  have hy := o2.live (y, r) (List.mem_cons_of_mem _ List.mem_cons_self)
  have sb : ∀ e ∈ L, e ∈ (x, a) :: (y, r) :: L := fun e he => List.mem_cons_of_mem _ (List.mem_cons_of_mem _ he)
  split at h2
  · rename_i p
    cases (show x = V.ref p from hx)
    obtain ⟨j, rs, hj, hl, h⟩ := h2
    obtain ⟨dx, vs, e1, hv, q1⟩ := o2.cells _ (at_split (in_app hj))
    have el := paired_len q1
    have few := T.few
    refine ⟨p, C, dx, ks.zip vs, rfl, e1, T.cl, T.nf f (List.mem_of_getElem? hi), ?_, ?_⟩
    · rw [List.length_zip]; exact Nat.lt_of_le_of_lt (Nat.min_le_left _ _) few
    · rw [putF_zip T.nd hi (by omega) hv]
      have hik : i < ks.length := (List.getElem?_eq_some_iff.mp hi).1
      have o3 := o2.put (u := .ins C dx (ks.zip (putAt i y vs))) (c' := .ins p C ks (putAt i r rs)) (in_app hj) rfl rfl e1 True.intro ⟨dx, _, upd_same, putAt_len hik hv (by omega), RepRs.stp (stp_upd e1 (pt_at (in_app hj)) True.intro) (paired_put hy i q1)⟩
      rw [set_app hj] at o3
      exact e.nx _ _ _ _ _ (fo.mono sb) o3 sb h
  · exact h2.elim
/-! ### C(..) -/
def dMake (C : Addr) (ks : List Str) (n : Nat) (sp : SpD) (da : DA) : DE := fun fr S Q => da fr S fun rs S1 => rs.length + 1 = n ∧ ∀ x, sp (.val (.ref x) :: rs) (.ins x C ks [] :: S1) fun r S2 => r = .dat .none ∧ Q (.val (.ref x)) S2
theorem lift_make {C : Addr} {ks : List Str} {n : Nat} {sp : SpD} {E : XK} {ta : TA} {da : DA} (l : LiftA K ta da) : Lift K (tMake C (toSp K n sp) [] E ta) (dMake C ks n sp da) := fun F H σ fr S L f o Q0 Q h q => by
  refine l F H σ fr S L f o _ _ h fun vs rs S1 H1 L1 o1 s1 lv h1 x dx hx hdx hne => ?_
  have o2 : OkF K F (upd H1 dx (.own x)) S1 L1 := o1.new hdx
  have hx2 : upd H1 dx (.own x) x = none := by rw [upd_ne (Ne.symm hne)]; exact hx
  have o3 : OkF K F (upd (upd H1 dx (.own x)) x (.ins C dx [])) (.ins x C ks [] :: S1) L1 := o2.cell (c := .ins x C ks []) rfl hx2 ⟨dx, [], by rw [List.zip_nil_right]; exact upd_same, Nat.zero_le _, .nil⟩
  have o4 := Ok.push (v := .ref x) (r := .val (.ref x)) o3 rfl
  refine ⟨?_, F, _, _, .val (.ref x) :: rs, fun r S2 => r = .dat .none ∧ Q0 (.val (.ref x)) S2, o4, ?_, h1.2 x, ?_⟩
  · rw [List.append_nil, List.length_cons, paired_len lv]; exact h1.1
  · rw [List.append_nil]
    exact .cons List.mem_cons_self (Lives.mono tl_mem lv)
  · rintro v r S2 H2 o5 ⟨rfl, h2⟩
    have e : v = .non := by cases (o5.dat List.mem_cons_self); rfl
    refine ⟨e, q _ _ S2 H2 ?_ h2⟩
    exact (o5.sub tl_mem).sub (sub_cons s1)
/-! ### o.m(..) -/
def dMeth (C : Addr) (ks : List Str) (n : Nat) (sp : SpD) (da : DE) (dA : DA) : DE := fun fr S Q => da fr S fun a S1 => match a with
  | .val (.ref p) => (∃ (j : Nat) (rs : List R), S1[j]? = some (.ins p C ks rs)) ∧ dA fr S1 fun rs S2 => rs.length + 1 = n ∧ sp (.val (.ref p) :: rs) S2 Q
  | _ => False
theorem lift_meth {C : Addr} {ks : List Str} {m : Str} {n : Nat} {sp : SpD} {E : XK} {te : TE} {ta : TA} {de : DE} {da : DA} (hm : m ∉ ks) (le : Lift K te de) (l : LiftA K ta da) : Lift K (tMeth C m (toSp K n sp) [] E te ta) (dMeth C ks n sp de da) := fun F H σ fr S L f o Q0 Q h q => by
  refine le F H σ fr S L f o _ _ h fun x a S1 H1 o1 h1 => ?_
  have hx := o1.live _ List.mem_cons_self
  split at h1
  · rename_i p
    cases (show x = V.ref p from hx)
    obtain ⟨⟨j, rs, hj⟩, h1⟩ := h1
    obtain ⟨dx, vs, e1, _, q1⟩ := o1.cells _ (at_split (in_app hj))
    refine ⟨p, dx, _, rfl, e1, lookup_zip_none hm, ?_⟩
    refine l F H1 σ fr S1 _ (f.mono tl_mem) o1 _ _ h1 fun vs2 rs2 S2 H2 L2 o2 s2 lv h2 => ?_
    refine ⟨?_, F, S2, L2, .val (.ref p) :: rs2, Q0, o2, ?_, h2.2, fun v r S' H' o' h' => q v r S' H' (o'.sub (sub_cons fun e he => s2 e (List.mem_cons_of_mem _ he))) h'⟩
    · rw [List.append_nil, List.length_cons, paired_len lv]; exact h2.1
    · rw [List.append_nil]
      exact .cons (s2 _ List.mem_cons_self) lv
  · exact h1.elim
/-! ### xs.pop() -/
def dPop (da : DE) : DE := fun fr S Q => da fr S fun a S1 => match a with
  | .val (.ref p) => ∃ (j : Nat) (xs : List R) (r : R), S1[j]? = some (.lst p (xs ++ [r])) ∧ Q r (S1.set j (.lst p xs))
  | _ => False
theorem paired_snoc {α β : Type} {P : α → β → Prop} : ∀ {ws : List α} {xs : List β} {y : β}, Paired P ws (xs ++ [y]) → ∃ us u, ws = us ++ [u] ∧ Paired P us xs ∧ P u y
  | _, [], _, .cons h .nil => ⟨[], _, rfl, .nil, h⟩
  | _, x :: xs, y, .cons h t => by
    obtain ⟨us, u, rfl, a, b⟩ := paired_snoc (xs := xs) t
    exact ⟨_ :: us, u, rfl, .cons h a, b⟩
theorem lift_pop {to : TE} {da : DE} (la : Lift K to da) : Lift K (tBM0 K "list" rPop to) (dPop da) := by
  intro F H σ fr S L fo o C Q hd q
  refine la F H σ fr S L fo o _ _ hd fun x a S1 H1 o1 h1 => ?_
  split at h1
  · rename_i p
    obtain ⟨j, xs, r, hj, h⟩ := h1
    cases o1.val List.mem_cons_self
    obtain ⟨us, e1, q1⟩ := o1.cells _ (at_split (in_app hj))
    obtain ⟨us, u, rfl, q2, q3⟩ := paired_snoc q1
    refine ⟨.inl ⟨rfl, _, SqL.of e1⟩, p, _, u, rfl, rfl, e1, by simp, ?_⟩
    rw [List.dropLast_concat]
    have o3 := (o1.push q3).putL (in_app hj) q2
    rw [set_app hj] at o3
    exact q _ _ _ _ (o3.sub (sub_cons tl_mem)) h
  · exact h1.elim
/-! ### a, b, c = x, y, z -/
def sPar3 (i j l : Nat) (da : DA) : DS := fun D fr S => da fr S fun rs S1 => match rs with
  | [r, q, t] => D.nx (((fr.set i (some r)).set j (some q)).set l (some t)) S1
  | _ => False
theorem lift_par3 {i j l : Nat} {ta : TA} {da : DA} (la : LiftA K ta da) : LiftS K (tPar3 i j l ta) (sPar3 i j l da) := fun F H σ fr S L f o D D' e h => by
  refine la F H σ fr S L f o _ _ h fun vs rs S1 H1 L1 o1 s1 lv h1 => ?_
  split at h1
  · cases lv with | cons m1 t => cases t with | cons m2 t2 => cases t2 with | cons m3 t3 =>
    cases t3
    exact ⟨_, _, _, rfl, e.nx _ _ S1 H1 L1 ((((f.mono s1).set m1 i).set m2 j).set m3 l) o1 s1 h1⟩
  · exact h1.elim
end
/-! ### the rules -/
section
variable {X : Cx} {a b c e o v : Expr} {da db dc de dO dv : DE} {dA : DA} {pos pos' p apos : Pos} {es : List Expr} {C : Addr} {ks : List Str} {f m x : Str}
theorem d_fld (T : Klass X.K C ks) (i : Nat) (he : PD X e de) (hi : ks[i]? = some f := by rfl) (hb : attributeBase e f X.env (eval e X.env) = eval e X.env := by rfl) : PD X (.Attribute e f pos) (dFld C ks i de) := by
  obtain ⟨_, p, l⟩ := he.ex
  exact ⟨_, pe_fld p hb, lift_fld T hi l⟩
theorem s_fld (T : Klass X.K C ks) (i : Nat) (ho : PD X o dO) (hv : PD X v dv) (hi : ks[i]? = some f := by rfl) (hs : swapsWith v (some (.Attribute o f pos')) pos.line X.env = pure false := by rfl) : PDS X (.Assign [.Attribute o f pos'] v pos) (sFldD C ks i dO dv) := by
  obtain ⟨_, p, l⟩ := ho.ex
  obtain ⟨_, p2, l2⟩ := hv.ex
  exact ⟨_, ps_fld p p2 hs, lift_sfld T hi l l2⟩
theorem s_par3 {i j k : Nat} {x y z : Str} {px py pz pt : Pos} {kt k2 pt2} (hN : X.N.Nodup) (ha : PDA X [a, b, c] dA) (hc : X.calm = true := by rfl) (hi : X.N[i]? = some x := by rfl) (hj : X.N[j]? = some y := by rfl) (hk : X.N[k]? = some z := by rfl) (hij : i ≠ j := by decide) (hik : i ≠ k := by decide) (hjk : j ≠ k := by decide)
    (hx : X.env.scope.names.lookup x = some .local := by rfl) (hy : X.env.scope.names.lookup y = some .local := by rfl) (hz : X.env.scope.names.lookup z = some .local := by rfl)
    (hw : swappedStores [.Tuple [.Name x px, .Name y py, .Name z pz] kt pt] (.Tuple [a, b, c] k2 pt2) X.env = pure (some [x, y, z]) := by rfl)
    (hs : swapsWithSole [.Tuple [.Name x px, .Name y py, .Name z pz] kt pt] (.Tuple [a, b, c] k2 pt2) pos.line X.env = pure false := by rfl) :
    PDS X (.Assign [.Tuple [.Name x px, .Name y py, .Name z pz] kt pt] (.Tuple [a, b, c] k2 pt2) pos) (sPar3 i j k dA) := by
  obtain ⟨_, p, l⟩ := ha.ex
  exact ⟨_, ps_par3 hc hN hi hj hk hij hik hjk hx hy hz p hw hs, lift_par3 l⟩
theorem d_pop (ha : PD X a da) (hbase : attributeBase a "pop" X.env (eval a X.env) = eval a X.env := by rfl) (hline : (apos.endLine == pos.line) = true := by rfl) : PD X (.Call (.Attribute a "pop" apos) [] [] pos) (dPop da) := by
  obtain ⟨_, p, l⟩ := ha.ex
  exact ⟨_, pe_bm0 PySem.F.plainAttrs_list PySem.F.slot_list_pop PySem.F.type_list_pop mt_pop p hbase hline, lift_pop l⟩
end
/-! ### methods and makers as they are called -/
/-- a method of a class and its promise (self first) -/
structure DefM (P : Program) (w : World) (K : Fg) (mg : Str → Option Value) (base : Heap) (C : Addr) (m : Str) (k n : Nat) (sp : SpD) : Prop where
  ex : ∃ f fd ps, FnOk P w K mg base CX0 k f fd ps (toSp K n sp) ∧ Meth K C m f ∧ Binds K fd ps []
structure DefI (P : Program) (w : World) (K : Fg) (mg : Str → Option Value) (base : Heap) (x : Str) (C : Addr) (k n : Nat) (sp : SpD) : Prop where
  ex : ∃ f fd ps, FnOk P w K mg base CX0 k f fd ps (toSp K n sp) ∧ Mk K C f ∧ Binds K fd ps [] ∧ mg x = some (.ref C)
/-- a method's def as it stands -/
structure FunM (K : Fg) (C : Addr) (m qual : Str) (st : Stmt) (ps : List Str) : Prop where
  ex : ∃ f fd, Fun K m qual st f fd ∧ Meth K C m f ∧ Binds K fd ps []
structure FunI (K : Fg) (mg : Str → Option Value) (x : Str) (C : Addr) (qual : Str) (st : Stmt) (ps : List Str) : Prop where
  ex : ∃ f fd, Fun K "__init__" qual st f fd ∧ Mk K C f ∧ Binds K fd ps [] ∧ mg x = some (.ref C)
section
variable {P : Program} {w : World} {K : Fg} {mg : Str → Option Value} {base : Heap} {C : Addr} {m x qual : Str} {st : Stmt} {N ps : List Str} {j k n : Nat} {sp sp' : SpD}
theorem DefM.mono (d : DefM P w K mg base C m j n sp) (h : j ≤ k) : DefM P w K mg base C m k n sp := by
  obtain ⟨f, fd, ps, a, b⟩ := d.ex
  exact ⟨f, fd, ps, a.mono h, b⟩
theorem DefI.mono (d : DefI P w K mg base x C j n sp) (h : j ≤ k) : DefI P w K mg base x C k n sp := by
  obtain ⟨f, fd, ps, a, b⟩ := d.ex
  exact ⟨f, fd, ps, a.mono h, b⟩
theorem toSp_imp (h : ∀ rs S C, rs.length = n → sp' rs S C → sp rs S C) : ∀ vs H Q E, toSp K n sp' vs H Q E → toSp K n sp vs H Q E := fun vs H Q E ⟨hl, F, S, L, rs, C, o, lv, hs, q⟩ => ⟨hl, F, S, L, rs, C, o, lv, h rs S C ((paired_len lv).symm.trans hl) hs, q⟩
theorem DefM.imp (d : DefM P w K mg base C m k n sp) (h : ∀ rs S C, rs.length = n → sp' rs S C → sp rs S C) : DefM P w K mg base C m k n sp' := by
  obtain ⟨f, fd, ps, a, b⟩ := d.ex
  exact ⟨f, fd, ps, a.imp (toSp_imp h), b⟩
theorem DefI.imp (d : DefI P w K mg base x C k n sp) (h : ∀ rs S C, rs.length = n → sp' rs S C → sp rs S C) : DefI P w K mg base x C k n sp' := by
  obtain ⟨f, fd, ps, a, b⟩ := d.ex
  exact ⟨f, fd, ps, a.imp (toSp_imp h), b⟩
end
/-! ### weakenings: what is known is told otherwise (cells let go, frozen, in another order) -/
/-- of a value and the cells -/
def Wkn (r : R) (S : SH) (r' : R) (S' : SH) : Prop := ∀ (K : Fg) (F : SH) (H : Hp) (L : Live) (v : V), OkF K F H S ((v, r) :: L) → OkF K F H S' ((v, r') :: L)
/-- of a frame and the cells -/
def WkF (fr : Fr) (S : SH) (fr' : Fr) (S' : SH) : Prop := ∀ (K : Fg) (F : SH) (H : Hp) (σ : L2.St) (L : Live), FrOk σ fr L → OkF K F H S L → ∃ L', FrOk σ fr' L' ∧ OkF K F H S' L' ∧ ∀ e ∈ L, e ∈ L'
def WkC (C : CR0) : CR0 := fun r S => ∃ r' S', Wkn r S r' S' ∧ C r' S'
theorem WkC.of {C : CR0} {r : R} {S : SH} (h : C r S) : WkC C r S := ⟨r, S, fun _ _ _ _ _ o => o, h⟩
theorem wkn_sub {r : R} {S S1 S' : SH} (hp : S.Perm S1) (hs : S'.Sublist S1) : Wkn r S r S' := fun K F H L v o => (o.perm (hp.append_right F)).less (hs.append (List.Sublist.refl F))
theorem wkn_obj {p C : Addr} {ks : List Str} {rs : List R} {S : SH} (hl : rs.length = ks.length) : Wkn (.val (.ref p)) (.ins p C ks rs :: S) (.obj C ks rs) S := fun K F H L v o => by
  have e := o.val List.mem_cons_self
  subst e
  exact ((Ok.frzI (i := 0) o rfl hl)).sub (sub_cons tl_mem)
theorem wkn_lst {p : Addr} {ds : List PyData} {S : SH} : Wkn (.val (.ref p)) (.lst p (ds.map R.dat) :: S) (.dat (.list ds)) S := fun K F H L v o => by
  have e := o.val List.mem_cons_self
  subst e
  exact ((Ok.frz (i := 0) o rfl (dats_map ds))).sub (sub_cons tl_mem)
theorem Wkn.trans {r r' r'' : R} {S S' S'' : SH} (h : Wkn r S r' S') (g : Wkn r' S' r'' S'') : Wkn r S r'' S'' := fun K F H L v o => g K F H L v (h K F H L v o)
section
variable {P : Program} {w : World} {K : Fg} {mg : Str → Option Value} {base : Heap} {n : Nat} {sp : SpD}
theorem toSp_wk : ∀ vs H Q E, toSp K n sp vs H Q E → toSp K n (fun rs S C => ∃ C', sp rs S C' ∧ ∀ r S, WkC C' r S → C r S) vs H Q E := fun vs H Q E ⟨hl, F, S, L, rs, C, o, lv, hs, q⟩ =>
  ⟨hl, F, S, L, rs, WkC C, o, lv, ⟨C, hs, fun _ _ z => z⟩, fun v r S' H' o' ⟨r2, S2, hw, h2⟩ => q v r2 S2 H' (hw K F H' L v o') h2⟩
/-- THE RULE: a def's body, its ends weakened -/
theorem okD_wk {x qual : Str} {st : Stmt} {f : Addr} {fd : FuncData} {N ps : List Str} {k : Nat} (Fn : Fun K x qual st f fd) (Sc : FnScope N ps (defScope st)) (hn : ps.length = n)
    (hbody : ∀ (cdv : Value) (A : Around) (outer : List Env) (s : Shared) (H : Hp) (E : XK), Room k (A.deeper (envOfC qual (defScope st) s.heap.objs.size f cdv)) →
      ∃ ds, PDSs (cxOf CX0 P w K mg base N qual (defScope st) f cdv A outer s H E).nox (defBody st) ds ∧ ∀ rs S C, rs.length = n → sp rs S C → ds { nx := fun _ S => WkC C (.dat .none) S, rt := WkC C } (startF N rs) S) : FnOk P w K mg base CX0 (k + 1) f fd ps (toSp K n sp) := by
  refine (okD (sp := fun rs S C => ∃ C', sp rs S C' ∧ ∀ r S, WkC C' r S → C r S) Fn Sc hn fun cdv A outer s H E hr => ?_).imp toSp_wk
  obtain ⟨ds, hp, hd⟩ := hbody cdv A outer s H E hr
  obtain ⟨ts, pt, l⟩ := hp.ex
  refine ⟨fun D fr S => ∃ C', (∀ r S, WkC C' r S → D.rt r S) ∧ (∀ fr S, WkC C' (.dat .none) S → D.nx fr S) ∧ ds { nx := fun _ S => WkC C' (.dat .none) S, rt := WkC C' } fr S, ⟨ts, pt, fun F H σ fr S L f o D D' e ⟨C', h1, h2, h3⟩ => ?_⟩, fun rs S C hl ⟨C', hs, hw⟩ => ⟨C', hw, fun _ S q => hw _ S q, hd rs S C' hl hs⟩⟩
  exact l F H σ fr S L f o D { nx := fun _ S => WkC C' (.dat .none) S, rt := WkC C' } ⟨fun σ' fr' S' H' L' f' o' s' q => e.nx σ' fr' S' H' L' f' o' s' (h2 fr' S' q), fun v r S' H' o' q => e.rt v r S' H' o' (h1 r S' q), fun _ _ _ _ _ _ _ _ q => q.elim, fun _ _ _ _ _ _ _ _ q => q.elim⟩ h3
theorem okW {x : Str} {st : Stmt} {N ps : List Str} {k : Nat} (Fn : FunAt K mg x st ps) (Sc : FnScope N ps (defScope st)) (hn : ps.length = n)
    (hbody : ∀ (cdv : Value) (A : Around) (outer : List Env) (s : Shared) (H : Hp) (E : XK) (f : Addr), Room k (A.deeper (envOfC x (defScope st) s.heap.objs.size f cdv)) →
      ∃ ds, PDSs (cxOf CX0 P w K mg base N x (defScope st) f cdv A outer s H E).nox (defBody st) ds ∧ ∀ rs S C, rs.length = n → sp rs S C → ds { nx := fun _ S => WkC C (.dat .none) S, rt := WkC C } (startF N rs) S) : Def P w K mg base x (k + 1) n sp := by
  obtain ⟨f, fd, Fu, hm, hb⟩ := Fn.ex
  exact ⟨f, fd, ps, okD_wk Fu Sc hn fun cdv A outer s H E hr => hbody cdv A outer s H E f hr, hm, Fu.kp, hb⟩
theorem okM {C : Addr} {m qual : Str} {st : Stmt} {N ps : List Str} {k : Nat} (Fn : FunM K C m qual st ps) (Sc : FnScope N ps (defScope st)) (hn : ps.length = n)
    (hbody : ∀ (cdv : Value) (A : Around) (outer : List Env) (s : Shared) (H : Hp) (E : XK) (f : Addr), Room k (A.deeper (envOfC qual (defScope st) s.heap.objs.size f cdv)) →
      ∃ ds, PDSs (cxOf CX0 P w K mg base N qual (defScope st) f cdv A outer s H E).nox (defBody st) ds ∧ ∀ rs S C, rs.length = n → sp rs S C → ds { nx := fun _ S => WkC C (.dat .none) S, rt := WkC C } (startF N rs) S) : DefM P w K mg base C m (k + 1) n sp := by
  obtain ⟨f, fd, Fu, hm, hb⟩ := Fn.ex
  exact ⟨f, fd, ps, okD_wk Fu Sc hn fun cdv A outer s H E hr => hbody cdv A outer s H E f hr, hm, hb⟩
theorem okI {x : Str} {C : Addr} {qual : Str} {st : Stmt} {N ps : List Str} {k : Nat} (Fn : FunI K mg x C qual st ps) (Sc : FnScope N ps (defScope st)) (hn : ps.length = n)
    (hbody : ∀ (cdv : Value) (A : Around) (outer : List Env) (s : Shared) (H : Hp) (E : XK) (f : Addr), Room k (A.deeper (envOfC qual (defScope st) s.heap.objs.size f cdv)) →
      ∃ ds, PDSs (cxOf CX0 P w K mg base N qual (defScope st) f cdv A outer s H E).nox (defBody st) ds ∧ ∀ rs S C, rs.length = n → sp rs S C → ds { nx := fun _ S => WkC C (.dat .none) S, rt := WkC C } (startF N rs) S) : DefI P w K mg base x C (k + 1) n sp := by
  obtain ⟨f, fd, Fu, hm, hb, hx⟩ := Fn.ex
  exact ⟨f, fd, ps, okD_wk Fu Sc hn fun cdv A outer s H E hr => hbody cdv A outer s H E f hr, hm, hb, hx⟩
end
/-- a weakening ahead of a block -/
def sWk (ds : DS) : DS := fun D fr S => ∃ fr' S', WkF fr S fr' S' ∧ ds D fr' S'
section
variable {X : Cx} {a b c e o v : Expr} {da db dc de dO dv : DE} {dA : DA} {pos pos' p apos : Pos} {es : List Expr} {C : Addr} {ks : List Str} {f m x : Str} {sts : List Stmt} {ds : DS}
theorem ss_wk (h : PDSs X sts ds) : PDSs X sts (sWk ds) := by
  obtain ⟨ts, p, l⟩ := h.ex
  exact ⟨ts, p, fun F H σ fr S L fo o D D' e ⟨fr', S', hw, hd⟩ => by
    obtain ⟨L', f', o', s'⟩ := hw X.K F H σ L fo o
    exact l F H σ fr' S' L' f' o' D D' (e.mono s') hd⟩
theorem d_meth {sp : SpD} {k n : Nat} {pl : Sem Bool} (T : Klass X.K C ks) (d : DefM X.prog X.w X.K X.mg X.base C m k n sp) (hr : Room k X.A) (hm : m ∉ ks) (ho : PD X o dO) (ha : PDA X (e :: es) dA)
    (hst : starEach (e :: es) X.env = (false, eval e X.env) :: starEach es X.env := by rfl) (hpl : (backTo pos (starEach es X.env)).any (·.1) = false := by rfl)
    (ht : eval (.Call (.Attribute o m apos) (e :: es) [] pos) X.env = (do
      let ov ← eval o X.env
      standAt apos.atName
      let (f, first) ← holding [ov] (getMethod ov m pl)
      callWith pos f first (backTo pos (starEach (e :: es) X.env)) (backToKw pos (keywordEach [] X.env))) := by rfl) :
    PD X (.Call (.Attribute o m apos) (e :: es) [] pos) (dMeth C ks n sp dO dA) := by
  obtain ⟨f, fd, ps, F, hM, hb⟩ := d.ex
  obtain ⟨_, p1, l1⟩ := ho.ex
  obtain ⟨_, p2, l2⟩ := ha.ex
  exact ⟨_, pe_meth p1 T.cl hM F hr hb .nil pass0 p2 hst hpl ht, lift_meth hm l1 l2⟩
theorem d_meth0 {sp : SpD} {k n : Nat} {pl : Sem Bool} (T : Klass X.K C ks) (d : DefM X.prog X.w X.K X.mg X.base C m k n sp) (hr : Room k X.A) (hm : m ∉ ks) (ho : PD X o dO)
    (ht : eval (.Call (.Attribute o m apos) [] [] pos) X.env = (do
      let ov ← eval o X.env
      standAt apos.atName
      let (f, first) ← holding [ov] (getMethod ov m pl)
      callWith pos f first (backTo pos (starEach [] X.env)) (backToKw pos (keywordEach [] X.env))) := by rfl) :
    PD X (.Call (.Attribute o m apos) [] [] pos) (dMeth C ks n sp dO dNil) := by
  obtain ⟨f, fd, ps, F, hM, hb⟩ := d.ex
  obtain ⟨_, p1, l1⟩ := ho.ex
  exact ⟨_, pe_meth0 p1 T.cl hM F hr hb .nil pass0 ht, lift_meth hm l1 lift_nil⟩
theorem d_make {sp : SpD} {k n : Nat} (ks : List Str) (d : DefI X.prog X.w X.K X.mg X.base x C k n sp) (hr : Room (k + 1) X.A) (hg : Gl X x) (ha : PDA X (e :: es) dA) (hdb : (x == ("__debug__" : Str)) = false := by decide) (he : starEach (e :: es) X.env = (false, eval e X.env) :: starEach es X.env := by rfl) (hpl : (backTo pos (starEach es X.env)).any (·.1) = false := by rfl) :
    PD X (.Call (.Name x p) (e :: es) [] pos) (dMake C ks n sp dA) := by
  obtain ⟨f, fd, ps, F, M, hb, hm⟩ := d.ex
  obtain ⟨_, p2, l2⟩ := ha.ex
  exact ⟨_, pe_make M F hr hg hm hb .nil pass0 p2 hdb he hpl, lift_make l2⟩
end
end DL
set_option Elab.async false
set_option linter.all false
set_option maxRecDepth 100000
set_option maxHeartbeats 4000000
/-! DL: zip of a text and a tuple; written dicts and tuples; (x,) * n; comprehensions over a list that is a cell. -/
namespace DL
open PySem PySem.Spec PyProof.Rows L2

/-! ### zip(text, tuple) -/
def ItzS (K : Fg) (z : Str) (b : Addr) : It :=
  ⟨fun i H => i < z.cps.size ∧ ∃ (ys : List V) (y : V), SqT K H b ys ∧ ys[i]? = some y,
    fun i H v H' => ∃ T c y, v = .ref T ∧ H T = none ∧ H' = upd H T (.tup [.str ⟨#[c]⟩, y]) ∧ z.cps[i]? = some c ∧ ∀ ys, SqT K H b ys → ys[i]? = some y,
    fun i H => ∃ ys : List V, SqT K H b ys ∧ i = min z.cps.size ys.length⟩
theorem turn_zipS {P : Program} {w : World} {K : Fg} {elts : List Expr} {kk : Nat} {tpos : Pos} {z : Str} {tk0 : Tok} {b zz TI TO i1 i2 : Addr} (D : ZipSep2 zz TI TO i1 i2 [i1] [i2, b]) (hne : b ≠ i2) :
    Turn P w K (.Tuple elts kk tpos) (ItzS K z b) [zz, TI, TO, i1, i2] zz (fun i h => IsZip h zz TI TO .none ∧ IsTupOf2 h TI (.ref i1) (.ref i2) ∧ (∃ x y, IsTupOf2 h TO x y) ∧ h.IsStrIter i1 (strIterType z) z tk0 i ∧ h.IsTupleIter i2 b i) where
  mem := by simp
  obj := fun i h st c hc => by
    obtain ⟨hz, hTI, ⟨x, y, hTO⟩, ⟨o1, e1, _, d1⟩, ⟨o2, e2, _, d2⟩⟩ := st
    have e' : c = zz ∨ c = TI ∨ c = TO ∨ c = i1 ∨ c = i2 := by simpa using hc
    rcases e' with q | q | q | q | q
    · rw [q]; exact ⟨_, hz, fun v q => nomatch q⟩
    · rw [q]; exact ⟨_, hTI, fun v q => nomatch q⟩
    · rw [q]; exact ⟨_, hTO, fun v q => nomatch q⟩
    · rw [q]; exact ⟨o1, e1, fun v q => by rw [d1] at q; cases q⟩
    · rw [q]; exact ⟨o2, e2, fun v q => by rw [d2] at q; cases q⟩
  keep := fun i h h' st k => by
    obtain ⟨hz, hTI, ⟨x, y, hTO⟩, ⟨o1, e1, r1⟩, h2⟩ := st
    exact ⟨k zz (by simp) _ hz, k TI (by simp) _ hTI, ⟨x, y, k TO (by simp) _ hTO⟩, ⟨o1, k i1 (by simp) o1 e1, r1⟩, h2.at fun o q => k i2 (by simp) o q⟩
  item := by
    intro X hP hw hK hc i pins s σ H E I hf st hg
    subst hP hw hK
    obtain ⟨hz, hTI, hTO, h1, h2⟩ := st
    obtain ⟨hlt, ys, y, hqy, hy⟩ := hg
    obtain ⟨its, rv, p, _⟩ := I.tuple hqy
    obtain ⟨u, hu, ru⟩ := rv.get hy
    have hhd : X.A.in1.handled = none := I.ok.hd hc
    have G := GoesN.zip2 (prog := X.prog) (w := X.w) (A := X.A) (elts := elts) (x1 := kk) (pos := tpos) D (Draws.text hhd i1 z tk0) (Draws.tuple hhd i2 b hne its.toArray)
    have hlt2 : i < its.toArray.size := by
      have := (List.getElem?_eq_some_iff.mp hu).1
      simpa using this
    refine G.goes i s _ _ (by omega) ⟨hz, hTI, hTO, h1, h2, p⟩ fun v h' tk hY st' hk htk => ?_
    obtain ⟨T, xv, yv, rfl, hT0, ⟨c, t, hcx, rfl⟩, hyv, hT⟩ := hY
    have eyv : yv = u := by
      have e1 : its[i]? = some yv := by simpa using hyv
      rw [hu] at e1
      exact (Option.some.inj e1).symm
    subst eyv
    have new : ObjOk X.prog X.w (upd H T (.tup [.str ⟨#[c]⟩, y])) h' T (.tup [.str ⟨#[c]⟩, y]) :=
      ⟨by show 2 ≤ sizeLine; decide, [.str ⟨#[c]⟩ t, yv], .cons ⟨t, rfl⟩ (.cons ru .nil), hT⟩
    have I1 : Inv X pins σ (upd H T (.tup [.str ⟨#[c]⟩, y])) { s with heap := h', toks := tk } :=
      I.turnedNew (t' := tk) (ch := [zz, TI, TO, i1, i2]) (fun c o hb q => hk c o (fun q' => hb (by
        have q'' : c = zz ∨ c = TO ∨ c = i1 ∨ c = i2 := by simpa using q'
        rcases q'' with q'' | q'' | q'' | q'' <;> simp [q''])) q) hf hT0 new
    refine ⟨.ref T, _, I1, rfl, ⟨T, c, y, rfl, I.hok.fresh hT0, rfl, hcx, fun l hl => by rw [I.tuple_inj hl hqy]; exact hy⟩, ⟨st'.1, st'.2.1, st'.2.2.1, st'.2.2.2.1, st'.2.2.2.2.1⟩, fun c' hcm => ?_⟩
    have hlt : c' < s.heap.objs.size := by
      obtain ⟨x0, y0, hTO'⟩ := hTO
      have e' : c' = zz ∨ c' = TI ∨ c' = TO ∨ c' = i1 ∨ c' = i2 := by simpa using hcm
      rcases e' with q | q | q | q | q
      · rw [q]; exact Heap.lt_size hz
      · rw [q]; exact Heap.lt_size hTI
      · rw [q]; exact Heap.lt_size hTO'
      · rw [q]; obtain ⟨_, e1, _⟩ := h1; exact Heap.lt_size e1
      · rw [q]; obtain ⟨_, e2, _⟩ := h2; exact Heap.lt_size e2
    rw [upd_ne (Nat.ne_of_lt (Nat.lt_of_lt_of_le hlt hT0))]
    exact (hf c' hcm).1
  done := by
    intro X hP hw hK hc i pins s σ H E I hf st hg
    subst hP hw hK
    obtain ⟨hz, hTI, hTO, h1, h2⟩ := st
    obtain ⟨ys, hqy, hend⟩ := hg
    obtain ⟨its, rv, p, _⟩ := I.tuple hqy
    have l1 := rv.length
    have hhd : X.A.in1.handled = none := I.ok.hd hc
    have G := GoesN.zip2 (prog := X.prog) (w := X.w) (A := X.A) (elts := elts) (x1 := kk) (pos := tpos) D (Draws.text hhd i1 z tk0) (Draws.tuple hhd i2 b hne its.toArray)
    have e : i = min z.cps.size its.toArray.size := by rw [hend, l1]; simp
    subst e
    exact wpAny_mono (G.stops s (fun s1 => Inv X pins σ H s1) _ ⟨hz, hTI, hTO, h1, h2, p⟩ fun h' tk hk htk => I.turnedL (t' := tk) (ch := [zz, TI, TO, i1, i2]) (fun c o hb q =>
      hk c o (fun q' => hb (by
        have q'' : c = zz ∨ c = TO ∨ c = i1 ∨ c = i2 := by simpa using q'
        rcases q'' with q'' | q'' | q'' | q'' <;> simp [q''])) q) hf) (fun _ _ h => h) (fun _ _ h => h)
  self := fun A i s Q E st h => wpAny_pyIter_zip st.1 h
def iZipS (K : Fg) (ta : TA) : TI := fun σ H R => ta σ H fun vs H1 => ∃ z b ys, vs = [.str z, .ref b] ∧ SqT K H1 b ys ∧ R (ItzS K z b) H1
theorem pi_zipS {X : Cx} {e e2 : Expr} {ta : TA} {p pos tpos : Pos} {elts : List Expr} {kk : Nat} (hg : Gl X "zip") (hm : X.mg "zip" = none) (ha : PA X [e, e2] ta)
    (hs : starEach [e, e2] X.env = (false, eval e X.env) :: starEach [e2] X.env := by rfl) (hpl : (backTo pos (starEach [e2] X.env)).any (·.1) = false := by rfl) :
    PI X (.Tuple elts kk tpos) (.Call (.Name "zip" p) [e, e2] [] pos) (iZipS X.K ta) := by
  refine ⟨fun pins s σ H R I h => ?_⟩
  refine Call_ (ld_blt I hg hm PyProof.Rows.boot_zip (PyProof.Rows.callWith_type1 (thn (ha.run pos pins s σ H _ I h) fun us s1 ⟨vs, H1, I1, r1, q1⟩ => ?_) hs hpl))
  obtain ⟨z, b, ys, ex, hqy, q⟩ := q1
  subst ex
  cases r1 with
  | cons r rr =>
    cases rr with
    | cons r' rr =>
      cases rr
      obtain ⟨t, rfl⟩ := r
      cases r'
      have fresh5 : ∀ c, c ∈ [s1.heap.objs.size + 4, s1.heap.objs.size + 2, s1.heap.objs.size + 3, s1.heap.objs.size, s1.heap.objs.size + 1] → FpOk X pins H1 c := fun c hcm => by
        have e' : c = s1.heap.objs.size + 4 ∨ c = s1.heap.objs.size + 2 ∨ c = s1.heap.objs.size + 3 ∨ c = s1.heap.objs.size ∨ c = s1.heap.objs.size + 1 := by simpa using hcm
        have hle : s1.heap.objs.size ≤ c := by
          rcases e' with z | z | z | z | z
          · rw [z]; exact Nat.le_add_right _ _
          · rw [z]; exact Nat.le_add_right _ _
          · rw [z]; exact Nat.le_add_right _ _
          · rw [z]; exact Nat.le_refl _
          · rw [z]; exact Nat.le_add_right _ _
        exact I1.fpOk hle (I1.hok.fresh hle)
      obtain ⟨its, rv, p1, _⟩ := I1.tuple hqy
      obtain ⟨o1, ho1, _⟩ := id p1
      have hb : b < s1.heap.objs.size := Heap.lt_size ho1
      have nadd : ∀ (n k m : Nat), k ≠ m → n + k ≠ n + m := fun n k m h e => h (Nat.add_left_cancel e)
      have nz : ∀ (n k : Nat), k ≠ 0 → n + k ≠ n := fun n k h e => h (Nat.add_left_cancel (m := k) (k := 0) e)
      have sep : ZipSep2 (s1.heap.objs.size + 4) (s1.heap.objs.size + 2) (s1.heap.objs.size + 3) s1.heap.objs.size (s1.heap.objs.size + 1) [s1.heap.objs.size] [s1.heap.objs.size + 1, b] := by
        generalize s1.heap.objs.size = n at hb
        have hb' : ∀ k : Nat, n + k ≠ b := fun k e => Nat.lt_irrefl _ (Nat.lt_of_le_of_lt (Nat.le_add_right n k) (e ▸ hb))
        have hb0 : n ≠ b := fun e => Nat.lt_irrefl _ (e ▸ hb)
        refine ⟨nadd _ _ _ (by decide), nadd _ _ _ (by decide), nadd _ _ _ (by decide), nz _ _ (by decide), List.mem_singleton.mpr rfl, fun z => nz _ _ (by decide) (List.mem_singleton.mp z), fun z => nz _ _ (by decide) (List.mem_singleton.mp z), nadd _ _ _ (by decide), List.mem_cons_self, fun z => ?_, fun z => ?_, fun z => ?_, fun z => nz _ _ (by decide) (List.mem_singleton.mp z)⟩
        · rcases List.mem_cons.mp z with z | z
          · exact nadd _ _ _ (by decide) z
          · exact hb' _ (List.mem_singleton.mp z)
        · rcases List.mem_cons.mp z with z | z
          · exact nadd _ _ _ (by decide) z
          · exact hb' _ (List.mem_singleton.mp z)
        · rcases List.mem_cons.mp z with z | z
          · exact nz _ _ (by decide) z.symm
          · exact hb0 (List.mem_singleton.mp z)
      refine zip_begins2 (begins_text z t) (begins_tuple b its.toArray) trivial p1 fun h' hz hTI hTO h1 h2 hsz hk => wpAny_pyIter_zip hz ?_
      have I2 : Inv X pins σ H1 { s1 with heap := h' } := I1.kept (t' := s1.toks) hk
      exact ⟨s1.heap.objs.size + 4, [s1.heap.objs.size + 4, s1.heap.objs.size + 2, s1.heap.objs.size + 3, s1.heap.objs.size, s1.heap.objs.size + 1], _, _, H1, rfl, I2, turn_zipS (tk0 := t) sep (fun e => Nat.lt_irrefl _ (Nat.lt_of_le_of_lt (Nat.le_add_right _ 1) (e ▸ hb))), ⟨hz, hTI, ⟨_, _, hTO⟩, ⟨_, h1, rfl, rfl⟩, ⟨_, h2, rfl, rfl⟩⟩, fresh5, q⟩
section
variable {K : Fg}
def zipSD (z : Str) (ds : List PyData) : List R := (z.cps.toList.zip ds).map fun q => R.dat (.tuple [.str ⟨#[q.1]⟩, q.2])
def iZs (da : DA) : DI := fun fr S C => da fr S fun rs S1 => match rs with
  | [.dat (.str z), .dat (.tuple ds)] => C (zipSD z ds) S1
  | _ => False
theorem it_zipS {z : Str} {b : Addr} {ds : List PyData} {L : Live} (m : (V.ref b, R.dat (.tuple ds)) ∈ L) : ItOk K (ItzS K z b) (zipSD z ds) L := fun H T L' o s i => by
  have hr := o.dat (s _ m)
  cases hr with | @tup _ xs _ h1 q1 =>
  have hq : SqT K H b xs := sqT_of (A := Av T) h1
  unfold zipSD
  refine ⟨fun r e => ?_, fun hl => ⟨xs, hq, ?_⟩⟩
  · rw [List.getElem?_map] at e
    cases e1 : (z.cps.toList.zip ds)[i]? with
    | none => rw [e1] at e; cases e
    | some q =>
      rw [e1] at e
      cases e
      obtain ⟨c, d⟩ := q
      obtain ⟨ec, ed⟩ : z.cps.toList[i]? = some c ∧ ds[i]? = some d := by
        rw [List.getElem?_zip_eq_some] at e1
        exact e1
      obtain ⟨v, ev, rv⟩ := q1.get' ed
      have ec' : z.cps[i]? = some c := by simpa using ec
      refine ⟨⟨(Array.getElem?_eq_some_iff.mp ec').1, xs, v, hq, ev⟩, fun x H' y => ?_⟩
      obtain ⟨T', c', y', rfl, hT, rfl, hc', y⟩ := y
      have e3 := y xs hq
      rw [ev] at e3
      cases e3
      rw [ec'] at hc'
      cases hc'
      exact o.tup hT (.cons (.str _) (.cons rv .nil))
  · rw [List.length_map, List.length_zip] at hl
    rw [q1.length, ← hl]
    simp
theorem lift_zipS {ta : TA} {da : DA} (l : LiftA K ta da) : LiftI K (iZipS K ta) (iZs da) := fun F H σ fr S L f o C Rr h q => by
  refine l F H σ fr S L f o _ _ h fun vs rs S1 H1 L1 o1 s1 lv h1 => ?_
  split at h1
  · cases lv with | cons m t => cases t with | cons m2 t =>
    cases t
    have hr := o1.dat m
    cases hr
    have hr2 := o1.dat m2
    cases hr2 with | tup e1 q1 =>
    exact ⟨_, _, _, rfl, sqT_of (A := Av S1) e1, q _ _ S1 H1 L1 o1 s1 (it_zipS m2) h1⟩
  · exact h1.elim
end
section
variable {X : Cx} {a b e : Expr} {dA : DA} {pos : Pos}
theorem i_zipS {p tpos : Pos} {elts : List Expr} {kk : Nat} (hg : Gl X "zip") (hm : X.mg "zip" = none) (ha : PDA X [a, b] dA) (hs : starEach [a, b] X.env = (false, eval a X.env) :: starEach [b] X.env := by rfl) (hpl : (backTo pos (starEach [b] X.env)).any (·.1) = false := by rfl) :
    PDI X (.Tuple elts kk tpos) (.Call (.Name "zip" p) [a, b] [] pos) (iZs dA) := by
  obtain ⟨_, p, l⟩ := ha.ex
  exact ⟨_, pi_zipS hg hm p hs hpl, lift_zipS l⟩
end
end DL
set_option Elab.async false
set_option linter.all false
set_option maxRecDepth 100000
set_option maxHeartbeats 4000000
/-! DL: enumerate of a tuple. -/
namespace DL
open PySem PySem.Spec PyProof.Rows L2

theorem meets_enum1 {v : Value} {o : Obj} {H : Heap → Prop} (B : Begins v o H) :
    Meets (Builtin.«enumerate.__new__» ⟨[.type "enumerate", v], []⟩) (fun _ R s => H s.heap ∧
      R (.ok (.ret (.ref (s.heap.push o).objs.size))) { s with heap := (s.heap.push o).push { cls := .type "enumerate", data := .fields #[.none, .bool false, .ref s.heap.objs.size, rawInt 0, .none, .none] } }) :=
  .of_wp fun prog w A R s h => by
    obtain ⟨hp, g, d, tk, os⟩ := s; obtain ⟨h1, h⟩ := h
    have hsub := sub_enumerate
    have q1 : ∀ {A' : Around} {E : Value → Shared → Prop} {Q : Value → Shared → Prop}, Q (.ref hp.objs.size) ⟨hp.push o, g, d, tk, os⟩ → wpAny (model prog w) A' (pyIter v) Q E ⟨hp, g, d, tk, os⟩ :=
      fun q => B.iter prog w _ _ ⟨hp, g, d, tk, os⟩ _ h1 q
    wp_walk using q1
    refine wpAny_stack_any fun st => wpAny_pure ?_
    split
    · rename_i c _ _ _ _ _
      cases (c == Value.type "enumerate")
      · wp_walk using q1
        exact ⟨_, rfl, h⟩
      · wp_walk using q1
        exact ⟨_, rfl, h⟩
    · wp_walk using q1
      exact ⟨_, rfl, h⟩
section
variable {prog : Program} {w : World} {A : Around} {E : Value → Shared → Prop} {s : Shared}
theorem enum_begins1 {v : Value} {o : Obj} {H : Heap → Prop} {Q : Value → Shared → Prop} (B : Begins v o H) (h1 : H s.heap)
    (h : ∀ h', IsEnum h' (s.heap.objs.size + 1) s.heap.objs.size 0 .none → h'.get? s.heap.objs.size = some o → h'.objs.size = s.heap.objs.size + 2 →
      (∀ b o, s.heap.get? b = some o → h'.get? b = some o) → Q (.ref (s.heap.objs.size + 1)) { s with heap := h' }) :
    wpAny (model prog w) A (call (.type "enumerate") [v]) Q E s := by
  refine callType_new F.called_enumerate (by decide) (F.typeCall_enumerate_1 _) (F.newCall_enumerate_1 _) (fun obj => F.args_object_init_2 obj _) F.entry_enumerate_new
    (meets_enum1 B) ⟨h1, ?_⟩
  have hz : (s.heap.push o).objs.size = s.heap.objs.size + 1 := Heap.size_push ..
  show _ ∧ _
  rw [hz]
  have he : IsEnum ((s.heap.push o).push { cls := .type "enumerate", data := .fields #[.none, .bool false, .ref s.heap.objs.size, rawInt 0, .none, .none] }) (s.heap.objs.size + 1) s.heap.objs.size 0 .none := by
    have := Heap.get?_push_size (s.heap.push o) (o := { cls := .type "enumerate", data := .fields #[.none, .bool false, .ref s.heap.objs.size, rawInt 0, .none, .none] }) rfl
    rw [hz] at this; exact this
  refine ⟨⟨_, he, rfl⟩, h _ he (Heap.get?_push_of_some _ (Heap.get?_push_size _ B.free)) (by rw [Heap.size_push, hz]) fun b o x => Heap.get?_push_of_some _ (Heap.get?_push_of_some _ x)⟩
end
def IteT (K : Fg) (b : Addr) : It :=
  ⟨fun i H => ∃ (ys : List V) (y : V), SqT K H b ys ∧ ys[i]? = some y,
    fun i H v H' => ∃ T y, v = .ref T ∧ H T = none ∧ H' = upd H T (.tup [.int (i : Int), y]) ∧ ∀ ys, SqT K H b ys → ys[i]? = some y,
    fun i H => ∃ ys : List V, SqT K H b ys ∧ i = ys.length⟩
theorem turn_enumT {P : Program} {w : World} {K : Fg} {elts : List Expr} {kk : Nat} {tpos : Pos} {b e it : Addr} (hei : e ≠ it) (heb : e ≠ b) (hne : b ≠ it) :
    Turn P w K (.Tuple elts kk tpos) (IteT K b) [e, it] e (fun i h => (∃ old, IsEnum h e it (0 + (i : Int)) old) ∧ h.IsTupleIter it b i) where
  mem := by simp
  obj := fun i h st c hc => by
    obtain ⟨⟨old, he⟩, ⟨o2, e2, _, d2⟩⟩ := st
    have e' : c = e ∨ c = it := by simpa using hc
    rcases e' with q | q
    · rw [q]; exact ⟨_, he, fun v q => nomatch q⟩
    · rw [q]; exact ⟨o2, e2, fun v q => by rw [d2] at q; cases q⟩
  keep := fun i h h' st k => by
    obtain ⟨⟨old, he⟩, h2⟩ := st
    exact ⟨⟨old, k e (by simp) _ he⟩, h2.at fun o q => k it (by simp) o q⟩
  item := by
    intro X hP hw hK hc i pins s σ H E I hf st hg
    subst hP hw hK
    obtain ⟨⟨old, he⟩, h2⟩ := st
    obtain ⟨ys, y, hqy, hy⟩ := hg
    obtain ⟨its, rv, p, _⟩ := I.tuple hqy
    obtain ⟨u, hu, ru⟩ := rv.get hy
    have hhd : X.A.in1.handled = none := I.ok.hd hc
    have G := GoesN.enumFrom (prog := X.prog) (w := X.w) (A := X.A) (elts := elts) (x1 := kk) (pos := tpos) 0 (Draws.tuple hhd it b hne its.toArray) e hei (by
      intro z
      have z' : e = it ∨ e = b := by simpa using z
      rcases z' with z' | z'
      · exact hei z'
      · exact heb z') (by simp)
    have hlt2 : i < its.toArray.size := by
      have := (List.getElem?_eq_some_iff.mp hu).1
      simpa using this
    refine G.goes i s _ _ hlt2 ⟨⟨old, he⟩, h2, p⟩ fun v h' tk hY st' hk htk => ?_
    obtain ⟨T, t, yv, rfl, hT0, hyv, hT⟩ := hY
    have eyv : yv = u := by
      have e1 : its[i]? = some yv := by simpa using hyv
      rw [hu] at e1
      exact (Option.some.inj e1).symm
    subst eyv
    have e0 : (0 : Int) + (i : Int) = (i : Int) := Int.zero_add _
    rw [e0] at hT
    have new : ObjOk X.prog X.w (upd H T (.tup [.int (i : Int), y])) h' T (.tup [.int (i : Int), y]) :=
      ⟨by show 2 ≤ sizeLine; decide, [.int (i : Int) t, yv], .cons ⟨t, rfl⟩ (.cons ru .nil), hT⟩
    have I1 : Inv X pins σ (upd H T (.tup [.int (i : Int), y])) { s with heap := h', toks := tk } :=
      I.turnedNew (t' := tk) (ch := [e, it]) (fun c o hb q => hk c o hb q) hf hT0 new
    refine ⟨.ref T, _, I1, rfl, ⟨T, y, rfl, I.hok.fresh hT0, rfl, fun l hl => by rw [I.tuple_inj hl hqy]; exact hy⟩, ⟨st'.1, st'.2.1⟩, fun c' hcm => ?_⟩
    have hlt : c' < s.heap.objs.size := by
      have e' : c' = e ∨ c' = it := by simpa using hcm
      rcases e' with q | q
      · rw [q]; exact Heap.lt_size he
      · rw [q]; obtain ⟨_, e2, _⟩ := h2; exact Heap.lt_size e2
    rw [upd_ne (Nat.ne_of_lt (Nat.lt_of_lt_of_le hlt hT0))]
    exact (hf c' hcm).1
  done := by
    intro X hP hw hK hc i pins s σ H E I hf st hg
    subst hP hw hK
    obtain ⟨⟨old, he⟩, h2⟩ := st
    obtain ⟨ys, hqy, hend⟩ := hg
    obtain ⟨its, rv, p, _⟩ := I.tuple hqy
    have l1 := rv.length
    have hhd : X.A.in1.handled = none := I.ok.hd hc
    have G := GoesN.enumFrom (prog := X.prog) (w := X.w) (A := X.A) (elts := elts) (x1 := kk) (pos := tpos) 0 (Draws.tuple hhd it b hne its.toArray) e hei (by
      intro z
      have z' : e = it ∨ e = b := by simpa using z
      rcases z' with z' | z'
      · exact hei z'
      · exact heb z') (by simp)
    have e : i = its.toArray.size := by rw [hend, l1]; simp
    subst e
    exact wpAny_mono (G.stops s (fun s1 => Inv X pins σ H s1) _ ⟨⟨old, he⟩, h2, p⟩ fun h' tk hk htk => I.turnedL (t' := tk) (fun c o hb q => hk c o hb q) hf) (fun _ _ h => h) (fun _ _ h => h)
  self := fun A i s Q E st h => by
    obtain ⟨⟨old, he⟩, _⟩ := st
    exact wpAny_pyIter_enum he h
def iEnumT (K : Fg) (ta : TA) : TI := fun σ H R => ta σ H fun vs H1 => ∃ b ys, vs = [.ref b] ∧ SqT K H1 b ys ∧ R (IteT K b) H1
theorem pi_enumT {X : Cx} {e : Expr} {ta : TA} {p pos tpos : Pos} {elts : List Expr} {kk : Nat} (hg : Gl X "enumerate") (hm : X.mg "enumerate" = none) (ha : PA X [e] ta) (hs : starEach [e] X.env = [(false, eval e X.env)] := by rfl) :
    PI X (.Tuple elts kk tpos) (.Call (.Name "enumerate" p) [e] [] pos) (iEnumT X.K ta) := by
  refine ⟨fun pins s σ H R I h => ?_⟩
  refine Call_ (ld_blt I hg hm boot_enumerate (PyProof.Rows.callWith_type1 (thn (ha.run pos pins s σ H _ I h) fun us s1 ⟨vs, H1, I1, r1, q1⟩ => ?_) hs rfl))
  obtain ⟨b, ys, ex, hq, q⟩ := q1
  subst ex
  cases r1 with
  | cons r rr =>
    cases rr
    cases r
    obtain ⟨its, rv, p1, _⟩ := I1.tuple hq
    obtain ⟨o1, ho1, _⟩ := id p1
    have hb : b < s1.heap.objs.size := Heap.lt_size ho1
    refine enum_begins1 (begins_tuple b its.toArray) p1 fun h' he h2 hsz hk => wpAny_pyIter_enum he ?_
    have I2 : Inv X pins σ H1 { s1 with heap := h' } := I1.kept (t' := s1.toks) hk
    refine ⟨s1.heap.objs.size + 1, [s1.heap.objs.size + 1, s1.heap.objs.size], _, _, H1, rfl, I2, turn_enumT (b := b) (Nat.succ_ne_self _) (fun e => Nat.lt_irrefl _ (Nat.lt_of_le_of_lt (Nat.le_add_right _ 1) (e ▸ hb))) (fun e => Nat.lt_irrefl _ (e ▸ hb)), ⟨⟨.none, he⟩, ⟨_, h2, rfl, rfl⟩⟩, fun b' hb' => ?_, q⟩
    have e' : b' = s1.heap.objs.size + 1 ∨ b' = s1.heap.objs.size := by simpa using hb'
    have hle : s1.heap.objs.size ≤ b' := by
      rcases e' with z | z
      · rw [z]; exact Nat.le_add_right _ _
      · rw [z]; exact Nat.le_refl _
    exact I1.fpOk hle (I1.hok.fresh hle)
section
variable {K : Fg}
def iEnT (da : DA) : DI := fun fr S C => da fr S fun rs S1 => match rs with
  | [.dat (.tuple ds)] => C (enumD ds) S1
  | _ => False
theorem it_enumT {b : Addr} {ds : List PyData} {L : Live} (m : (V.ref b, R.dat (.tuple ds)) ∈ L) : ItOk K (IteT K b) (enumD ds) L := fun H T L' o s i => by
  have hr := o.dat (s _ m)
  cases hr with | @tup _ xs _ h1 q1 =>
  have hq : SqT K H b xs := sqT_of (A := Av T) h1
  refine ⟨fun r e => ?_, fun hl => ⟨xs, hq, ?_⟩⟩
  · unfold enumD at e
    rw [List.getElem?_map] at e
    by_cases hi : i < ds.length
    · rw [List.getElem?_range hi] at e
      cases e
      have e1 : ds[i]? = some ds[i] := List.getElem?_eq_getElem hi
      obtain ⟨v, ev, rv⟩ := q1.get' e1
      refine ⟨⟨xs, v, hq, ev⟩, fun x H' y => ?_⟩
      obtain ⟨T', y', rfl, hT, rfl, y⟩ := y
      have e3 := y xs hq
      rw [ev] at e3
      cases e3
      have e2 : ds.getD i .none = ds[i] := by rw [List.getD_eq_getElem?_getD, e1]; rfl
      show Ok K _ T ((V.ref T', R.dat (.tuple [.int ((i : Nat) : Int), ds.getD i .none])) :: L')
      rw [e2]
      exact o.tup hT (.cons (.int _) (.cons rv .nil))
    · rw [List.getElem?_eq_none (by simpa using hi)] at e
      cases e
  · rw [q1.length, ← hl]
    simp [enumD]
theorem lift_enumT {ta : TA} {da : DA} (l : LiftA K ta da) : LiftI K (iEnumT K ta) (iEnT da) := fun F H σ fr S L f o C Rr h q => by
  refine l F H σ fr S L f o _ _ h fun vs rs S1 H1 L1 o1 s1 lv h1 => ?_
  split at h1
  · cases lv with | cons m t =>
    cases t
    have hr := o1.dat m
    cases hr with | tup e1 q1 =>
    exact ⟨_, _, rfl, sqT_of (A := Av S1) e1, q _ _ S1 H1 L1 o1 s1 (it_enumT m) h1⟩
  · exact h1.elim
end
section
variable {X : Cx} {a b e : Expr} {dA : DA} {pos : Pos}
theorem i_enumT {p tpos : Pos} {elts : List Expr} {kk : Nat} (hg : Gl X "enumerate") (hm : X.mg "enumerate" = none) (ha : PDA X [e] dA) (hs : starEach [e] X.env = [(false, eval e X.env)] := by rfl) :
    PDI X (.Tuple elts kk tpos) (.Call (.Name "enumerate" p) [e] [] pos) (iEnT dA) := by
  obtain ⟨_, p, l⟩ := ha.ex
  exact ⟨_, pi_enumT hg hm p hs, lift_enumT l⟩
end
end DL
set_option Elab.async false
set_option linter.all false
set_option maxRecDepth 100000
set_option maxHeartbeats 4000000
/-! DL: (x,) * n; written tuples and dicts of texts; comprehensions over a list that is a cell. -/
namespace DL
open PySem PySem.Spec PyProof.Rows L2

/-! ### tuple * int -/
theorem tuple_mul1 (l : Addr) (items : Array Value) (n : Nat) (dd : Option Addr) (sl : Array (Option Value)) (u : Tok) :
    Meets (Builtin.«tuple.__mul__» ⟨[.ref l, .int 1 u], []⟩) (fun _ R s => s.heap.get? l = some { cls := .type "tuple", dict := dd, data := .seq items n, slots := sl } ∧
      R (.ok (.ret (Value.ref l))) s) :=
  .of_wp fun prog w A R s h => by
    obtain ⟨hp, g, d, tk, os⟩ := s
    obtain ⟨hl, h⟩ := h
    have f1 := AutoSeq1.idx_int
    wp_walk using wpAny_loadPart' hl
    exact ⟨_, rfl, h⟩
def rRep1 (K : Fg) : R2 := fun x y H Q => ∃ l xs, x = .ref l ∧ y = .int 1 ∧ SqT K H l xs ∧ Q (.ref l) H
theorem op_rep1 {X : Cx} : OpR X (binaryOp .Mult) (rRep1 X.K) := by
  intro pins s σ H x y v u Q I rx ry h
  obtain ⟨l, xs, rfl, rfl, hT, q⟩ := h
  cases rx
  obtain ⟨t, rfl⟩ := ry
  obtain ⟨its, r, ⟨⟨cls, dd, data, sl⟩, ho, hc, n, hd⟩, hs⟩ := I.tuple hT
  simp only at hc hd
  subst hc hd
  refine wpAny_binaryOp_repeat_ref (T := "tuple") (U := "int") (by decide) ⟨_, ho, rfl⟩ (fun s' => typeIs_int s' 1 t) noFill_tuple_mul F.fills_int_mul F.slot_int_rmul repeat_tuple F.slot_int_index.lookup
    (call_meets F.slot_int_rmul (typeIs_int s 1 t) F.entry_int_rmul (F.args_int_rmul_2 _ _) (int_rmul_tuple 1 t l its.toArray n dd sl)
      ⟨ho, rfl, ⟨_, ho, rfl⟩, call_meets F.slot_tuple_mul ⟨_, ho, rfl⟩ F.entry_tuple_mul (F.args_tuple_mul_2 _ _) (tuple_mul1 l its.toArray n dd sl t) ⟨ho, ?_⟩⟩)
  exact ⟨.ref l, H, I, rfl, q⟩
section
variable {K : Fg}
def fMulT : F2 := fun a b S C => match a, b with
  | .dat (.tuple xs), .dat (.int k) => xs ≠ [] ∧ 1 ≤ k ∧ k ≤ 1000 ∧ xs.length ≤ 1000 ∧ C (.dat (.tuple (List.replicate k.toNat xs).flatten)) S
  | _, _ => False
def rMulT (K : Fg) : R2 := fun x y H Q => rRepT K x y H Q ∨ rRep1 K x y H Q
theorem opd_mulT : OpD K (rMulT K) fMulT := by
  intro F x y a b H S L C Q o hx hy hf q
  replace hx := o.live _ hx
  replace hy := o.live _ hy
  unfold fMulT at hf
  split at hf
  · rename_i xs k
    cases rep_int_inv hy
    obtain ⟨hne, h1, h2, hl, h⟩ := hf
    cases hx with | @tup _ vs _ e1 q1 =>
    by_cases hk : k = 1
    · subst hk
      refine .inr ⟨_, _, rfl, rfl, sqT_of (A := Av S) e1, q _ _ S H (o.pd (.tup e1 q1)) ?_⟩
      have e : (List.replicate (1 : Int).toNat xs).flatten = xs := by simp
      rw [e] at h
      exact h
    · refine .inl ⟨_, _, _, rfl, rfl, sqT_of (A := Av S) e1, fun z => hne ?_, by omega, h2, by rw [q1.length]; exact hl, fun p hp => q _ _ S _ (o.tup hp (q1.rep _)) h⟩
      have := q1.length
      rw [z] at this
      exact List.eq_nil_of_length_eq_zero this.symm
  · exact hf.elim
end
/-! ### a written dict of texts: d.get(k, x) -/
structure KTab (K : Fg) (w : World) (a : Addr) (kvs : List (Str × Str)) : Prop where
  ex : ∃ es n, KDict K w a es n
  at_ : ∀ z, ∃ r, PySem.W.nsIn K a z = some r ∧ match kvs.lookup z with
    | some s => ∃ u, r = some u ∧ RelV (.str s) u
    | none => r = none
def tKGet (a : Addr) (kvs : List (Str × Str)) (ty tx : TE) : TE := fun σ H Q => ty σ H fun y H1 => tx σ H1 fun z H2 => ∃ s, y = .str s ∧ Q (match kvs.lookup s with | some v => .str v | none => z) H2
section
variable {X : Cx} {o e f : Expr} {apos cpos : Pos} {ty tx : TE} {a : Addr} {kvs : List (Str × Str)}
theorem pe_kget (T : KTab X.K X.w a kvs) (ho : PE X o (tC (.ref a))) (he : PE X e ty) (hf : PE X f tx) (m : M2 X o "get" apos e f cpos) : PE X (.Call (.Attribute o "get" apos) [e, f] [] cpos) (tKGet a kvs ty tx) := by
  refine ⟨fun pins s σ H Q I h => ?_⟩
  refine wpAny_Call_method m.base m.few m.line PySem.F.plainAttrs_dict PySem.F.slot_dict_get PySem.F.type_dict_get (thn (ho.run pins s σ H (fun v H' => v = .ref a ∧ ty σ H' fun y H1 => tx σ H1 fun z H2 => ∃ s, y = .str s ∧ Q (match kvs.lookup s with | some v => .str v | none => z) H2) I ⟨rfl, h⟩) fun u s1 ⟨x, H1, I1, rx, ex, q1⟩ => ?_)
  subst ex
  obtain rfl : u = Value.ref a := rx
  obtain ⟨es, n, D⟩ := T.ex
  have hk := I1.kIn a _ D.at_
  refine ⟨kd_type D I1, fun b q => ?_, ?_⟩
  · cases q
    exact ⟨_, hk, rfl⟩
  rw [m.trees]
  refine Calls.callWith_builtin rfl (Calls.evalArgs_plain (Calls.spliced_cons (thn (he.run pins s1 σ H1 _ I1 q1) fun iv s2 ⟨y, H2, I2, ry, q2⟩ =>
    Calls.spliced_cons (thn (hf.run pins s2 σ H2 _ I2 q2) fun fv s3 ⟨z, H3, I3, rz, st, ey, q3⟩ => Calls.spliced_nil ?_))))
  subst ey
  obtain ⟨t, rfl⟩ := ry
  have hm := PySem.W.mapOf_K (prog := X.prog) (w := X.w) I3.kIn D.at_ D.lit
  obtain ⟨r, er, hr⟩ := T.at_ st
  refine call_meetsIn PySem.F.slot_dict_get hm.typeIs PySem.F.entry_dict_get (PySem.F.args_dict_get_3 _ _ _) (meets_dict_get_default (strKind X.prog X.w) a (strKind_is X.prog X.w st t) D.low fv) ⟨_, hm, ?_⟩
  rw [PySem.W.find_K D.at_ er]
  cases hl : kvs.lookup st with
  | none =>
    rw [hl] at hr q3
    rw [hr]
    exact ⟨z, H3, I3.tok _, rz, q3⟩
  | some s' =>
    rw [hl] at hr q3
    obtain ⟨u, rfl, ru⟩ := hr
    exact ⟨.str s', H3, I3.tok _, ru, q3⟩
def dKGet (kvs : List (Str × Str)) (de df : DE) : DE := fun fr S Q => de fr S fun r S1 => df fr S1 fun q S2 => match r with
  | .dat (.str s) => Q (match kvs.lookup s with | some v => .dat (.str v) | none => q) S2
  | _ => False
theorem lift_kget {K : Fg} {de df : DE} (le : Lift K ty de) (lf : Lift K tx df) : Lift K (tKGet a kvs ty tx) (dKGet kvs de df) := by
  intro F H σ fr S L fo o C Q hd q
  refine le F H σ fr S L fo o _ _ hd fun y r S1 H1 o1 h1 => ?_
  refine lf F H1 σ fr S1 _ (fo.mono tl_mem) o1 _ _ h1 fun z d S2 H2 o2 h2 => ?_
  have hy := o2.live (y, r) (List.mem_cons_of_mem _ List.mem_cons_self)
  have hz := o2.live (z, d) List.mem_cons_self
  have o3 := o2.sub (fun e he => List.mem_cons_of_mem (z, d) (List.mem_cons_of_mem (y, r) he) : ∀ e ∈ L, e ∈ (z, d) :: (y, r) :: L)
  split at h2
  · rename_i st
    cases hy
    refine ⟨st, rfl, ?_⟩
    cases hl : kvs.lookup st with
    | none =>
      rw [hl] at h2
      exact q _ _ S2 H2 (o3.push hz) h2
    | some s' =>
      rw [hl] at h2
      exact q _ _ S2 H2 (o3.pd (.str _)) h2
  · exact h2.elim
theorem d_kget {de df : DE} {x : Str} {p : Pos} (T : KTab X.K X.w a kvs) (hg : Gl X x) (hm : X.mg x = some (.ref a)) (he : PD X e de) (hf : PD X f df) (hd : (x == ("__debug__" : Str)) = false := by decide)
    (h1 : attributeBase (.Name x p) "get" X.env (eval (.Name x p) X.env) = eval (.Name x p) X.env := by rfl)
    (h2 : ((backTo cpos (starEach [e, f] X.env)).all (fun x => !x.1) && (backToKw cpos (keywordEach [] X.env)).all (fun x => x.1.isSome)
      && decide (([e, f] : List Expr).length + ([] : List Keyword).length + (if ([] : List Keyword).isEmpty then 0 else 1) < 30)) = true := by rfl)
    (h3 : (apos.endLine == cpos.line) = true := by rfl)
    (h4 : backTo cpos (starEach [e, f] X.env) = [(false, eval e X.env), (false, eval f X.env)] := by rfl) : PD X (.Call (.Attribute (.Name x p) "get" apos) [e, f] [] cpos) (dKGet kvs de df) := by
  obtain ⟨_, p1, l1⟩ := he.ex
  obtain ⟨_, p2, l2⟩ := hf.ex
  exact ⟨_, pe_kget T (pe_glob (v := .ref a) hg hm rfl hd) p1 p2 ⟨h1, h2, h3, h4⟩, lift_kget l1 l2⟩
/-- a written tuple of texts -/
theorem d_globT {x : Str} {ns : List Str} {pos : Pos} (hg : Gl X x) (hm : X.mg x = some (.ref a)) (kt : KTup X.K a (ns.map V.str)) (hd : (x == ("__debug__" : Str)) = false := by decide) : PD X (.Name x pos) (dC (.dat (.tuple (ns.map PyData.str)))) :=
  ⟨_, pe_glob (v := .ref a) hg hm rfl hd, lift_c fun _ _ => Rep.tup (.inr kt) (RepAll.strs ns)⟩
theorem d_mulT {da db : DE} {pos : Pos} {b c : Expr} (ha : PD X b da) (hb : PD X c db) : PD X (.BinOp b .Mult c pos) (dOp fMulT da db) := d_opG (op_repT.or op_rep1) opd_mulT ha hb
end
/-! ### [.. for x in xs], xs a cell that stays -/
section
variable {K : Fg}
def ItKp (K : Fg) (J : It) (items : List R) (p : Addr) (L : Live) : Prop := ∀ (H : Hp) (T : SH) (L' : Live), Ok K H T L' → (∀ e ∈ L, e ∈ L') → Cell.lst p items ∈ T → ∀ i : Nat, (∀ r, items[i]? = some r → J.go i H ∧ ∀ x H', J.yld i H x H' → Ok K H' T ((x, r) :: L')) ∧ (items.length = i → J.stop i H)
theorem it_cell {p : Addr} {items : List R} {L : Live} : ItKp K (Itl K p) items p L := fun H T L' o s m i => by
  obtain ⟨vs, e1, q1⟩ := o.cells _ m
  have hl := paired_len q1
  refine ⟨fun r e => ?_, fun hi => ⟨vs, SqL.of e1, by rw [hl]; exact Nat.le_of_eq hi⟩⟩
  obtain ⟨v, ev, rv⟩ := paired_get' q1 e
  refine ⟨⟨vs, v, SqL.of e1, ev⟩, fun x H' y => ?_⟩
  obtain ⟨rfl, y⟩ := y
  have := y vs (SqL.of e1)
  rw [ev] at this
  cases this
  exact o.push rv
/-- the source: a cell -/
def dLcK (E : List R → SH → CR0 → Prop) (ds : DE) (i : Nat) (dt : DT) (de : DE) : DE := fun fr S C => ds fr S fun a S1 => match a with
  | .val (.ref p) => ∃ items : List R, Cell.lst p items ∈ S1 ∧ ∃ I : Nat → List R → SH → Prop, I 0 [] S1 ∧ (∀ k acc S, I k acc S → Cell.lst p items ∈ S) ∧
    (∀ k r acc S, items[k]? = some r → I k acc S → dt (fr.set i (some r)) S fun b S2 => if b = true then de (fr.set i (some r)) S2 fun y S3 => acc.length < 100000 ∧ I (k + 1) (acc ++ [y]) S3 else I (k + 1) acc S2) ∧
    ∀ acc S, I items.length acc S → E acc S C
  | _ => False
theorem lift_lcK {E : List R → SH → CR0 → Prop} (hE : EndD K E) {ts : TE} {ds : DE} {tt : TT} {dt : DT} {te : TE} {de : DE} {i : Nat} (ls : Lift K ts ds) (lt : LiftT K tt dt) (le : Lift K te de) : Lift K (tLc (iAny K ts) (gName i) tt te [i]) (dLcK E ds i dt de) := fun F H σ fr S L f o C Q h q => by
  refine ls F H σ fr S L f o _ _ h fun x a S1 H1 o1' h1 => ?_
  have hx := o1'.live _ List.mem_cons_self
  split at h1
  · rename_i p
    cases (show x = V.ref p from hx)
    obtain ⟨items, hm, I, i0, kp, st, dn⟩ := h1
    have o1 := o1'.sub tl_mem
    obtain ⟨vs0, e0, _⟩ := o1.cells _ (List.mem_append_left F hm)
    refine .inl ⟨p, rfl, ⟨_, SqL.of e0⟩, fun D hD => ?_⟩
    have o0 : OkF K (.lst D [] :: F) (upd H1 D (.lst [])) S1 L := (o1.lstC hD .nil).perm List.perm_middle.symm
    refine ⟨fun k m H => m = items.length - k ∧ k ≤ items.length ∧ ∃ S acc L', OkF K (.lst D acc :: F) H S L' ∧ (∀ e ∈ L, e ∈ L') ∧ I k acc S, ⟨items.length, by simp, Nat.zero_le _, S1, [], L, o0, fun _ z => z, i0⟩, ?_⟩
    rintro k m H2 ⟨rfl, hk, S2, acc, L2, o2, s2, i2⟩
    obtain ⟨go, sp⟩ := it_cell (K := K) (p := p) (items := items) (L := L) H2 _ L2 o2 s2 (List.mem_append_left _ (kp k acc S2 i2)) k
    by_cases hlt : k < items.length
    · obtain ⟨hg, hy⟩ := go _ (List.getElem?_eq_getElem hlt)
      refine .inr ⟨hg, fun H => ∃ S acc L', OkF K (.lst D acc :: F) H S L' ∧ (∀ e ∈ L, e ∈ L') ∧ I (k + 1) acc S, fun H' n => ⟨items.length - (k + 1), by omega, rfl, hlt, n⟩, fun x H3 y => ?_⟩
      have o3 : OkF K (.lst D acc :: F) H3 S2 ((x, items[k]) :: L2) := hy x H3 y
      show wipe ((wipe σ [i]).set i (some x)) [i] = wipe σ [i] ∧ _
      refine ⟨by simp [wipe], ?_⟩
      have f3 : FrOk ((wipe σ [i]).set i (some x)) (fr.set i (some items[k])) ((x, items[k]) :: L2) := by
        have e1 : (wipe σ [i]).set i (some x) = σ.set i (some x) := by simp [wipe]
        rw [e1]
        exact (f.mono fun z hz => List.mem_cons_of_mem _ (s2 z hz)).set List.mem_cons_self i
      refine lt _ H3 _ _ S2 _ f3 o3 _ _ (st k _ acc S2 (List.getElem?_eq_getElem hlt) i2) fun b S4 H4 o4 h4 => ?_
      cases b with
      | false => exact ⟨S4, acc, _, o4, fun z hz => List.mem_cons_of_mem _ (s2 z hz), h4⟩
      | true =>
        refine le _ H4 _ _ S4 _ f3 o4 _ _ h4 fun v r S5 H5 o5 h5 => ?_
        obtain ⟨vs, e5, q5⟩ := o5.cells _ (at_split (mid_get S5 F))
        refine ⟨vs, e5, by rw [paired_len q5]; exact big_lt h5.1, S5, acc ++ [r], (v, r) :: (x, items[k]) :: L2, ?_, fun z hz => List.mem_cons_of_mem _ (List.mem_cons_of_mem _ (s2 z hz)), h5.2⟩
        have o6 := o5.putL (mid_get S5 F) (paired_app q5 (.cons (o5.live (v, r) List.mem_cons_self) .nil))
        rw [List.set_append_right _ _ (Nat.le_refl _)] at o6
        simpa using o6
    · have ek : k = items.length := by omega
      subst ek
      obtain ⟨r, S', o', h'⟩ := hE F H2 S2 L2 D acc C o2 (dn acc S2 i2)
      exact .inl ⟨sp rfl, q _ r S' H2 (o'.sub (sub_cons s2)) h'⟩
  · exact h1.elim
end
section
variable {X : Cx} {a b c e iter : Expr} {da db dc de ds : DE} {dt : DT} {pos : Pos}
theorem d_lcK {E : List R → SH → CR0 → Prop} (hE : ∀ K, EndD K E) {elt : Expr} {x : Str} {p : Pos} {ifs : List Expr} {scope : Scope} {i : Nat} (hN : X.N.Nodup) (hi : PD X iter ds) (ok : BlkOk X.N X.env.scope scope [(x, i)])
    (hg : ∀ (s : Shared) (H : Hp) (C : Addr) (cl : List (Str × Addr)) (fp : List Addr), PG (X.blk s H scope (compEnvC scope cl C X.env) fp) (.Name x p) (gName i))
    (ht : ∀ (s : Shared) (H : Hp) (C : Addr) (cl : List (Str × Addr)) (fp : List Addr), PDTs (X.blk s H scope (compEnvC scope cl C X.env) fp) ifs dt)
    (he : ∀ (s : Shared) (H : Hp) (C : Addr) (cl : List (Str × Addr)) (fp : List Addr), PD (X.blk s H scope (compEnvC scope cl C X.env) fp) elt de)
    (hc : X.calm = true := by rfl) (hs : ∀ x, foldedSetIterable iter X.env x = pure x := by intro _; rfl) :
    PD X (.ListComp elt [⟨.Name x p, iter, ifs, 0⟩] scope pos) (dLcK E ds i dt de) := by
  obtain ⟨_, pi, li⟩ := hi.ex
  exact ⟨_, pe_lc (own := [(x, i)]) (te := toTE X.K de) (tt := toTT X.K dt) hc hN (pi_any pi) ok hg (fun s H C cl fp => (ht s H C cl fp).run) (fun s H C cl fp => (he s H C cl fp).pe) hs, lift_lcK (hE X.K) li (liftT_to dt) (lift_to de)⟩
end
end DL
set_option Elab.async false
set_option linter.all false
set_option maxRecDepth 100000
set_option maxHeartbeats 4000000
/-! DL: a list that is a cell against []; instances that are never changed behind their making. -/
namespace DL
open PySem PySem.Spec PyProof.Rows L2

def rNeE (K : Fg) : R2 := fun x y H Q => ∃ l b xs, x = .ref l ∧ y = .ref b ∧ SqL K H l xs ∧ SqL K H b [] ∧ Q (.bl (!xs.isEmpty)) H
theorem op_neE {X : Cx} (hu : X.A.units + 64 < cLine) : OpR X (compareOp .NotEq) (rNeE X.K) := by
  intro pins s σ H x y v u Q I rx ry h
  obtain ⟨l, b, xs, rfl, rfl, h1, h2, q⟩ := h
  cases rx
  cases ry
  obtain ⟨its, rv, p1, _⟩ := I.list h1
  obtain ⟨its2, rv2, p2, _⟩ := I.list h2
  cases rv2
  cases xs with
  | nil =>
    cases rv
    have h := SeqAt.RcNeAt.lists (A := X.A) (s := s) (e := fun _ => true) p1.isList p2.isList rfl (by omega) (fun j h1 h2 => absurd h1 (by simp))
    exact h X.prog X.w X.xe (EP X pins σ Q) ⟨.bl false, H, I, rfl, q⟩
  | cons a r =>
    cases rv with | cons ra rr =>
    have h := SeqAt.RcNeAt.lists_lengths (A := X.A) (s := s) p1.isList p2.isList (by simp) (by omega)
    exact h X.prog X.w X.xe (EP X pins σ Q) ⟨.bl true, H, I, rfl, q⟩
section
variable {K : Fg}
def fNeE : F2 := fun a b S C => match a, b with
  | .val (.ref p), .dat (.list []) => ∃ (j : Nat) (xs : List R), S[j]? = some (.lst p xs) ∧ C (.dat (.bool (!xs.isEmpty))) S
  | _, _ => False
theorem opd_neE : OpD K (rNeE K) fNeE := by
  intro F x y a b H S L C Q o hx hy hf q
  replace hx := o.live _ hx
  replace hy := o.live _ hy
  unfold fNeE at hf
  split at hf
  · rename_i p
    cases (show x = V.ref p from hx)
    obtain ⟨j, xs, hj, h⟩ := hf
    obtain ⟨vs, e1, q1⟩ := o.cells _ (at_split (in_app hj))
    cases hy with | lst e2 n2 q2 =>
    cases q2
    refine ⟨_, _, vs, rfl, rfl, SqL.of e1, SqL.of e2, q _ _ S H (o.pd (d := .bool (!xs.isEmpty)) ?_) h⟩
    have e : vs.isEmpty = xs.isEmpty := by
      cases q1 with
      | nil => rfl
      | cons _ _ => rfl
    rw [e]
    exact .bl _
  · exact hf.elim
/-- C(..), frozen at once -/
def dMakeF (C : Addr) (ks : List Str) (n : Nat) (sp : SpD) (da : DA) : DE := fun fr S Q => da fr S fun rs S1 => rs.length + 1 = n ∧ ∀ x, sp (.val (.ref x) :: rs) (.ins x C ks [] :: S1) fun r S2 => r = .dat .none ∧ ∃ vs S3, S2 = .ins x C ks vs :: S3 ∧ vs.length = ks.length ∧ Q (.obj C ks vs) S3
theorem lift_makeF {C : Addr} {ks : List Str} {n : Nat} {sp : SpD} {E : XK} {ta : TA} {da : DA} (l : LiftA K ta da) : Lift K (tMake C (toSp K n sp) [] E ta) (dMakeF C ks n sp da) := fun F H σ fr S L f o Q0 Q h q => by
  refine l F H σ fr S L f o _ _ h fun vs rs S1 H1 L1 o1 s1 lv h1 x dx hx hdx hne => ?_
  have o2 : OkF K F (upd H1 dx (.own x)) S1 L1 := o1.new hdx
  have hx2 : upd H1 dx (.own x) x = none := by rw [upd_ne (Ne.symm hne)]; exact hx
  have o3 : OkF K F (upd (upd H1 dx (.own x)) x (.ins C dx [])) (.ins x C ks [] :: S1) L1 := o2.cell (c := .ins x C ks []) rfl hx2 ⟨dx, [], by rw [List.zip_nil_right]; exact upd_same, Nat.zero_le _, .nil⟩
  have o4 := Ok.push (v := .ref x) (r := .val (.ref x)) o3 rfl
  refine ⟨?_, F, _, _, .val (.ref x) :: rs, fun r S2 => r = .dat .none ∧ ∃ vs S3, S2 = .ins x C ks vs :: S3 ∧ vs.length = ks.length ∧ Q0 (.obj C ks vs) S3, o4, ?_, h1.2 x, ?_⟩
  · rw [List.append_nil, List.length_cons, paired_len lv]; exact h1.1
  · rw [List.append_nil]
    exact .cons List.mem_cons_self (Lives.mono tl_mem lv)
  · rintro v r S2 H2 o5 ⟨rfl, ws, S3, rfl, hl, h2⟩
    have e : v = .non := by cases (o5.dat List.mem_cons_self); rfl
    have o6 : Ok K H2 (S3 ++ F) ((.ref x, .obj C ks ws) :: (v, .dat .none) :: (.ref x, .val (.ref x)) :: L1) := Ok.frzI (i := 0) o5 rfl hl
    refine ⟨e, q _ _ S3 H2 (o6.sub (sub_cons fun z hz => List.mem_cons_of_mem _ (List.mem_cons_of_mem _ (s1 z hz)))) h2⟩
end
section
variable {X : Cx} {a b e : Expr} {da db : DE} {dA : DA} {pos p : Pos} {es : List Expr} {C : Addr} {x : Str}
theorem d_neE (hu : X.A.units + 64 < cLine) (ha : PD X a da) (hb : PD X b db) : PD X (.Compare a [.NotEq] [b] pos) (dOp fNeE da db) := d_cmpG (op_neE hu) opd_neE ha hb (nomark _)
theorem t_neE (hu : X.A.units + 64 < cLine) (ha : PD X a da) (hb : PD X b db) : PDT X (.Compare a [.NotEq] [b] pos) (dTest (dOp fNeE da db)) := t_cmpG (op_neE hu) opd_neE ha hb (nomark _)
theorem d_makeF {sp : SpD} {k n : Nat} (ks : List Str) (d : DefI X.prog X.w X.K X.mg X.base x C k n sp) (hr : Room (k + 1) X.A) (hg : Gl X x) (ha : PDA X (e :: es) dA) (hdb : (x == ("__debug__" : Str)) = false := by decide) (he : starEach (e :: es) X.env = (false, eval e X.env) :: starEach es X.env := by rfl) (hpl : (backTo pos (starEach es X.env)).any (·.1) = false := by rfl) :
    PD X (.Call (.Name x p) (e :: es) [] pos) (dMakeF C ks n sp dA) := by
  obtain ⟨f, fd, ps, F, M, hb, hm⟩ := d.ex
  obtain ⟨_, p2, l2⟩ := ha.ex
  exact ⟨_, pe_make M F hr hg hm hb .nil pass0 p2 hdb he hpl, lift_makeF l2⟩
end
section
variable {X : Cx} {a b c e iter : Expr} {da db dc de ds : DE} {dt : DT} {pos : Pos}
/-- y = [.. for x in xs], xs a cell, y a local -/
theorem s_lcK {E : List R → SH → CR0 → Prop} (hE : ∀ K, EndD K E) {elt : Expr} {x y : Str} {p py spos : Pos} {ifs : List Expr} {scope : Scope} {i j : Nat} (hN : X.N.Nodup) (hi : PD X iter ds) (ok : BlkOk X.N X.env.scope scope [(x, i)])
    (hg : ∀ (s : Shared) (H : Hp) (C : Addr) (cl : List (Str × Addr)) (fp : List Addr), PG (X.blk s H scope (compEnvC scope cl C X.env) fp) (.Name x p) (gName i))
    (ht : ∀ (s : Shared) (H : Hp) (C : Addr) (cl : List (Str × Addr)) (fp : List Addr), PDTs (X.blk s H scope (compEnvC scope cl C X.env) fp) ifs dt)
    (he : ∀ (s : Shared) (H : Hp) (C : Addr) (cl : List (Str × Addr)) (fp : List Addr), PD (X.blk s H scope (compEnvC scope cl C X.env) fp) elt de)
    (hc : X.calm = true := by rfl) (hy : X.N[j]? = some y := by rfl) (hyl : X.env.scope.names.lookup y = some .local := by rfl)
    (hsw : swapsWith (.ListComp elt [⟨.Name x p, iter, ifs, 0⟩] scope pos) (some (.Name y py)) spos.line X.env = pure true := by exact sw_true rfl rfl rfl (by decide +kernel)) (hs : ∀ x, foldedSetIterable iter X.env x = pure x := by intro _; rfl) :
    PDS X (.Assign [.Name y py] (.ListComp elt [⟨.Name x p, iter, ifs, 0⟩] scope pos) spos) (sAsg (dLcK E ds i dt de) (gnm j)) := by
  obtain ⟨_, pi, li⟩ := hi.ex
  exact ⟨_, ps_setLc (own := [(x, i)]) (te := toTE X.K de) (tt := toTT X.K dt) hc hN hy hyl hsw (pi_any pi) ok hg (fun s H C cl fp => (ht s H C cl fp).run) (fun s H C cl fp => (he s H C cl fp).pe) hs, lift_asg (lift_lcK (hE X.K) li (liftT_to dt) (lift_to de)) (lift_name j)⟩
end
/-- a comprehension over a cell that stays: its elements by the items -/
theorem lcK_map {E : List R → SH → CR0 → Prop} {items : List R} {fr : Fr} {S : SH} {C : CR0} {i : Nat} {de : DE} {p : Addr} (g : R → R) (hm : Cell.lst p items ∈ S)
    (he : ∀ r, r ∈ items → ∀ C' : CR0, C' (g r) S → de (fr.set i (some r)) S C') (hl : items.length ≤ 100000) (h : E (items.map g) S C) : ∃ items' : List R, Cell.lst p items' ∈ S ∧ ∃ I : Nat → List R → SH → Prop, I 0 [] S ∧ (∀ k acc S, I k acc S → Cell.lst p items' ∈ S) ∧
    (∀ k r acc S, items'[k]? = some r → I k acc S → dYes (fr.set i (some r)) S fun b S2 => if b = true then de (fr.set i (some r)) S2 fun y S3 => acc.length < 100000 ∧ I (k + 1) (acc ++ [y]) S3 else I (k + 1) acc S2) ∧
    ∀ acc S, I items'.length acc S → E acc S C := by
  refine ⟨items, hm, fun k acc S' => S' = S ∧ acc = (items.take k).map g, ⟨rfl, rfl⟩, fun k acc S' z => by rw [z.1]; exact hm, ?_, ?_⟩
  · rintro k r acc S' hk ⟨rfl, rfl⟩
    have hmem : r ∈ items := List.mem_of_getElem? hk
    obtain ⟨hlt, _⟩ := List.getElem?_eq_some_iff.mp hk
    have et : items.take (k + 1) = items.take k ++ [r] := by rw [List.take_add_one, hk]; rfl
    refine he r hmem _ ⟨?_, rfl, ?_⟩
    · rw [List.length_map]
      have h2 := List.length_take_le k items
      omega
    · rw [et, List.map_append]; rfl
  · rintro acc S' ⟨rfl, rfl⟩
    rw [List.take_length]; exact h
end DL
set_option Elab.async false
set_option linter.all false
set_option maxRecDepth 100000
set_option maxHeartbeats 4000000
/-! The program's things as plain data: parts, rows, programs, what a row does. -/
namespace PM
open PySem PySem.Spec PyProof.Rows L2 DL

/-! ### loops over lists that are known -/
def loopD (dg : DG) (db : DS) (D : DEnds) : List R → Fr → SH → Prop
  | [] => D.nx
  | r :: rs => fun fr S => dg r fr S fun fr2 S2 => db { D with nx := loopD dg db D rs, ct := loopD dg db D rs, bk := D.nx } fr2 S2
theorem loop_unroll {dg : DG} {db : DS} {D : DEnds} {items : List R} {fr : Fr} {S : SH} (h : loopD dg db D items fr S) : ∃ I : Nat → Fr → SH → Prop, I 0 fr S ∧
    (∀ i r fr S, items[i]? = some r → I i fr S → dg r fr S fun fr2 S2 => db { D with nx := I (i + 1), ct := I (i + 1), bk := D.nx } fr2 S2) ∧ ∀ fr S, I items.length fr S → D.nx fr S := by
  refine ⟨fun i => loopD dg db D (items.drop i), h, fun i r fr S hi hI => ?_, fun fr S hI => ?_⟩
  · have e : items.drop i = r :: items.drop (i + 1) := by
      obtain ⟨hl, e⟩ := List.getElem?_eq_some_iff.mp hi
      rw [List.drop_eq_getElem_cons hl, e]
    have hI' : loopD dg db D (items.drop i) fr S := hI
    rw [e] at hI'
    exact hI'
  · have hI' : loopD dg db D (items.drop items.length) fr S := hI
    rw [List.drop_length] at hI'
    exact hI'
theorem at0 {α : Type} {x : α} {xs : List α} : atI (x :: xs) 0 = some x := atI_nat (j := 0) (by rfl)
/-! ### lists by what they hold, cells or data -/
theorem ix_lstR {S : SH} {r : R} {xs : List R} {i : Int} {x : R} {C : CR0} (h : lstR S r xs) (e : atI xs i = some x) (q : C x S) : fIx r (.dat (.int i)) S C := by
  cases r with
  | dat d =>
    cases d with
    | list ds =>
      cases (show xs = ds.map R.dat from h)
      unfold atI at e
      rw [List.length_map] at e
      cases e1 : ixN ds.length i with
      | none => rw [e1] at e; cases e
      | some j =>
        rw [e1] at e
        have e2 : (ds.map R.dat)[j]? = some x := e
        obtain ⟨d, ed, rfl⟩ := get_dat e2
        refine ⟨d, ?_, q⟩
        unfold atI
        rw [e1]; exact ed
    | _ => exact h.elim
  | val w =>
    cases w with
    | ref p =>
      obtain ⟨j, hj⟩ := h
      exact .inl ⟨j, xs, x, hj, e, q⟩
    | _ => exact h.elim
  | _ => exact h.elim
theorem len_lstR {S : SH} {r : R} {xs : List R} {C : CR0} (h : lstR S r xs) (q : C (.dat (.int xs.length)) S) : fLen [r] S C := by
  cases r with
  | dat d =>
    cases d with
    | list ds =>
      cases (show xs = ds.map R.dat from h)
      rw [List.length_map] at q
      exact q
    | _ => exact h.elim
  | val w =>
    cases w with
    | ref p =>
      obtain ⟨j, hj⟩ := h
      exact ⟨j, xs, hj, q⟩
    | _ => exact h.elim
  | _ => exact h.elim
theorem dlen_lstR {S : SH} {fr : Fr} {i : Nat} {r : R} {xs : List R} {C : CR0} (hi : fr[i]? = some (some r)) (h : lstR S r xs) (q : C (.dat (.int xs.length)) S) : dCB fLen (dCons (dVar i) dNil) fr S C := ⟨r, hi, len_lstR h q⟩
def iR (ns : List Int) : List R := ns.map fun n => R.dat (.int n)
theorem iR_at {ns : List Int} {i : Nat} (h : i < ns.length) : atI (iR ns) (i : Int) = some (.dat (.int (ns.getD i 0))) := by
  refine atI_nat ?_
  unfold iR
  rw [List.getElem?_map, List.getElem?_eq_getElem h, List.getD_eq_getElem?_getD, List.getElem?_eq_getElem h]
  rfl
theorem iR_len (ns : List Int) : (iR ns).length = ns.length := by simp [iR]
theorem toNat_cast {i : Int} (h : 0 ≤ i) : ((i.toNat : Nat) : Int) = i := by omega
/-! ### data: shaped -/
theorem lay_ints : ∀ xs : List Int, PyData.canLayAll0 (xs.map PyData.int) = true
  | [] => by rw [List.map_nil, PyData.canLayAll0]
  | x :: xs => by rw [List.map_cons, PyData.canLayAll0, lay_ints xs, PyData.canLay0]; rfl
theorem lay_app : ∀ {xs ys : List PyData}, PyData.canLayAll0 xs = true → PyData.canLayAll0 ys = true → PyData.canLayAll0 (xs ++ ys) = true
  | [], _, _, h => h
  | x :: xs, ys, h, g => by
    rw [PyData.canLayAll0] at h
    obtain ⟨h1, h2⟩ := Bool.and_eq_true_iff.mp h
    rw [List.cons_append, PyData.canLayAll0, h1, lay_app h2 g]; rfl
theorem lay_all : ∀ {xs : List PyData}, (∀ x ∈ xs, PyData.canLay0 x = true) → PyData.canLayAll0 xs = true
  | [], _ => by rw [PyData.canLayAll0]
  | x :: xs, h => by rw [PyData.canLayAll0, h x List.mem_cons_self, lay_all fun y hy => h y (List.mem_cons_of_mem _ hy)]; rfl
theorem depth_all {n : Nat} : ∀ {xs : List PyData}, (∀ x ∈ xs, x.depth ≤ n) → PyData.depthAll xs ≤ n
  | [], _ => by rw [PyData.depthAll]; exact Nat.zero_le _
  | x :: xs, h => by
    rw [PyData.depthAll]
    exact Nat.max_le.mpr ⟨h x List.mem_cons_self, depth_all fun y hy => h y (List.mem_cons_of_mem _ hy)⟩
theorem shaped_mk {d : PyData} (h : d.canLay0 = true) (g : d.depth ≤ 64) : SeqAt.shaped d = true := by
  unfold SeqAt.shaped
  rw [h, decide_eq_true g]; rfl
theorem eqOk_mk {d e : PyData} (h : SeqAt.shaped d = true) (g : SeqAt.shaped e = true) : eqOk d e = true := by
  unfold eqOk
  rw [h, g, Bool.and_self, Bool.or_true]
/-! ### parts -/
abbrev pairW : List Str := ["sum", "diff", "less"]
abbrev changeW : List Str := ["add", "put", "cut"]
inductive Op3 where
  | sum | diff | less
def Op3.word : Op3 → Str
  | .sum => "sum" | .diff => "diff" | .less => "less"
inductive Part where
  | num (n : Int)
  | name (n : Int)
  | op (o : Op3) (a b : Part)
def Part.dat : Part → PyData
  | .num n => .tuple [.str "num", .int n]
  | .name n => .tuple [.str "name", .int n]
  | .op o a b => .tuple [.str o.word, a.dat, b.dat]
def Part.deep : Part → Nat
  | .num _ => 1
  | .name _ => 1
  | .op _ a b => max a.deep b.deep + 1
def Part.ok (names : Int) : Part → Prop
  | .num n => 0 ≤ n ∧ n ≤ 10006
  | .name n => 0 ≤ n ∧ n < names
  | .op _ a b => a.ok names ∧ b.ok names
def Part.worth (ns : List Int) : Part → Int
  | .num n => n
  | .name n => ns.getD n.toNat 0
  | .op .less a b => if a.worth ns < b.worth ns then 1 else 0
  | .op .sum a b => (a.worth ns + b.worth ns) % 10007
  | .op .diff a b => (a.worth ns - b.worth ns) % 10007
theorem Part.nonneg {names : Int} {ns : List Int} (h : ∀ x ∈ ns, 0 ≤ x) : ∀ p : Part, p.ok names → 0 ≤ p.worth ns
  | .num n, hp => hp.1
  | .name n, _ => by
    unfold Part.worth
    rw [List.getD_eq_getElem?_getD]
    cases e : ns[n.toNat]? with
    | none => exact Int.le_refl _
    | some x => exact h x (List.mem_of_getElem? e)
  | .op .less a b, _ => by
    unfold Part.worth
    split <;> decide
  | .op .sum a b, _ => Int.emod_nonneg _ (by decide)
  | .op .diff a b, _ => Int.emod_nonneg _ (by decide)
theorem Part.depth : ∀ p : Part, p.dat.depth ≤ p.deep + 1
  | .num n => by simp [Part.dat, Part.deep, PyData.depth, PyData.depthAll]
  | .name n => by simp [Part.dat, Part.deep, PyData.depth, PyData.depthAll]
  | .op o a b => by
    have h1 := Part.depth a
    have h2 := Part.depth b
    simp only [Part.dat, Part.deep, PyData.depth, PyData.depthAll]
    omega
theorem Part.lay : ∀ p : Part, p.dat.canLay0 = true
  | .num n => by simp only [Part.dat, PyData.canLay0, PyData.canLayAll0]; decide +kernel
  | .name n => by simp only [Part.dat, PyData.canLay0, PyData.canLayAll0]; decide +kernel
  | .op o a b => by
    simp only [Part.dat, PyData.canLay0, PyData.canLayAll0, Part.lay a, Part.lay b]
    cases o <;> decide +kernel
theorem Part.deep_pos : ∀ p : Part, 1 ≤ p.deep
  | .num _ => Nat.le_refl _
  | .name _ => Nat.le_refl _
  | .op _ _ _ => Nat.le_add_left _ _
/-! ### rows -/
inductive PRow where
  | set (n : Int) (p : Part)
  | take (n : Int)
  | add (f : Int) (p : Part)
  | put (f : Int) (p q : Part)
  | cut (f : Int) (p : Part)
  | get (n f : Int) (p : Part)
  | size (n f : Int)
  | send (p : Part)
  | go (r : Int)
  | unl (n r : Int)
  | mark
def PRow.word : PRow → Str
  | .set _ _ => "set" | .take _ => "take" | .add _ _ => "add" | .put _ _ _ => "put" | .cut _ _ => "cut" | .get _ _ _ => "get" | .size _ _ => "size"
  | .send _ => "send" | .go _ => "go" | .unl _ _ => "unless" | .mark => "mark"
def PRow.args : PRow → List PyData
  | .set n p => [.int n, p.dat] | .take n => [.int n] | .add f p => [.int f, p.dat] | .put f p q => [.int f, p.dat, q.dat] | .cut f p => [.int f, p.dat]
  | .get n f p => [.int n, .int f, p.dat] | .size n f => [.int n, .int f] | .send p => [p.dat] | .go r => [.int r] | .unl n r => [.int n, .int r] | .mark => []
def PRow.dat (r : PRow) : PyData := .tuple (.str r.word :: r.args)
def PRow.shape : PRow → Str
  | .set _ _ => "nx" | .take _ => "n" | .add _ _ => "fx" | .put _ _ _ => "fxx" | .cut _ _ => "fx" | .get _ _ _ => "nfx" | .size _ _ => "nf"
  | .send _ => "x" | .go _ => "r" | .unl _ _ => "nr" | .mark => ""
def NumOk (n hi : Int) : Prop := 0 ≤ n ∧ n < hi
def PartOk (names : Int) (p : Part) : Prop := p.ok names ∧ p.deep ≤ 3
def PRow.ok (names files many : Int) : PRow → Prop
  | .set n p => NumOk n names ∧ PartOk names p
  | .take n => NumOk n names
  | .add f p => NumOk f files ∧ PartOk names p
  | .put f p q => NumOk f files ∧ PartOk names p ∧ PartOk names q
  | .cut f p => NumOk f files ∧ PartOk names p
  | .get n f p => NumOk n names ∧ NumOk f files ∧ PartOk names p
  | .size n f => NumOk n names ∧ NumOk f files
  | .send p => PartOk names p
  | .go r => NumOk r (many + 1)
  | .unl n r => NumOk n names ∧ NumOk r (many + 1)
  | .mark => True
theorem PRow.lay (r : PRow) : r.dat.canLay0 = true := by
  cases r <;> simp only [PRow.dat, PRow.word, PRow.args, PyData.canLay0, PyData.canLayAll0, Part.lay] <;> decide +kernel
theorem PRow.depth {names files many : Int} {r : PRow} (h : r.ok names files many) : r.dat.depth ≤ 5 := by
  cases r with
  | set n p => have := p.depth; have := h.2.2; simp only [PRow.dat, PRow.word, PRow.args, PyData.depth, PyData.depthAll]; omega
  | take n => simp [PRow.dat, PRow.word, PRow.args, PyData.depth, PyData.depthAll]
  | add f p => have := p.depth; have := h.2.2; simp only [PRow.dat, PRow.word, PRow.args, PyData.depth, PyData.depthAll]; omega
  | put f p q => have := p.depth; have := q.depth; have := h.2.1.2; have := h.2.2.2; simp only [PRow.dat, PRow.word, PRow.args, PyData.depth, PyData.depthAll]; omega
  | cut f p => have := p.depth; have := h.2.2; simp only [PRow.dat, PRow.word, PRow.args, PyData.depth, PyData.depthAll]; omega
  | get n f p => have := p.depth; have := h.2.2.2; simp only [PRow.dat, PRow.word, PRow.args, PyData.depth, PyData.depthAll]; omega
  | size n f => simp [PRow.dat, PRow.word, PRow.args, PyData.depth, PyData.depthAll]
  | send p => have := p.depth; have := h.2; simp only [PRow.dat, PRow.word, PRow.args, PyData.depth, PyData.depthAll]; omega
  | go r => simp [PRow.dat, PRow.word, PRow.args, PyData.depth, PyData.depthAll]
  | unl n r => simp [PRow.dat, PRow.word, PRow.args, PyData.depth, PyData.depthAll]
  | mark => simp [PRow.dat, PRow.word, PRow.args, PyData.depth, PyData.depthAll]
/-! ### programs -/
structure Prog where
  names : Int
  files : Int
  rows : List PRow
def Prog.dat (p : Prog) : PyData := .tuple [.int p.names, .int p.files, .tuple (p.rows.map PRow.dat)]
structure Prog.ok (p : Prog) : Prop where
  n : 1 ≤ p.names ∧ p.names ≤ 8
  f : 1 ≤ p.files ∧ p.files ≤ 4
  l : p.rows.length ≤ 60
  r : ∀ r ∈ p.rows, r.ok p.names p.files p.rows.length
def HandedOk (hs : List Int) : Prop := hs.length ≤ 40 ∧ ∀ x ∈ hs, 0 ≤ x ∧ x ≤ 10006
/-! ### classes' fields -/
abbrev FE : List Str := ["row", "taken", "name", "number", "file", "at", "old", "new", "letter", "fault"]
abbrev FM : List Str := ["row", "names", "taken", "passed", "letters"]
abbrev FI : List Str := ["row", "names", "taken", "passed", "letters", "since", "noted", "out", "again"]
abbrev FW : List Str := ["rows", "handed", "way", "often", "held", "letters", "mark", "jots", "made", "over", "inner", "count"]
theorem le_ok {a b : Nat} (h : Nat.ble a b = true) : a ≤ b := Nat.le_of_ble_eq_true h
/-! ### what is kept of lists -/
theorem lstR_cons {S : SH} {r : R} {xs : List R} (c : Cell) (h : lstR S r xs) : lstR (c :: S) r xs := by
  cases r with
  | dat d => cases d <;> exact h
  | val v =>
    cases v with
    | ref p =>
      obtain ⟨j, hj⟩ := h
      exact ⟨j + 1, by simpa using hj⟩
    | _ => exact h
  | _ => exact h
theorem lstR_set {S : SH} {r : R} {xs : List R} {j : Nat} {p C : Addr} {ks : List Str} {rs : List R} (hj : S[j]? = some (.ins p C ks rs)) (c : Cell) (h : lstR S r xs) : lstR (S.set j c) r xs := by
  cases r with
  | dat d => cases d <;> exact h
  | val v =>
    cases v with
    | ref p =>
      obtain ⟨i, hi⟩ := h
      refine ⟨i, ?_⟩
      rw [List.getElem?_set]
      split
      · rename_i e
        subst e
        rw [hj] at hi
        cases hi
      · exact hi
    | _ => exact h
  | _ => exact h
theorem cut_from {α : Type} (xs : List α) {i : Int} (h : 0 ≤ i) : cutD xs (some i) none = xs.drop i.toNat := by
  unfold DL.cutD
  have e : HT.sIx xs.length 0 (some i) = min i.toNat xs.length := by
    have := HT.sIx_nat xs.length 0 i.toNat
    rw [toNat_cast h] at this
    exact this
  rw [e, HT.sIx_none]
  by_cases hl : i.toNat ≤ xs.length
  · rw [Nat.min_eq_left hl, List.take_of_length_le (by rw [List.length_drop]; exact Nat.le_refl _)]
  · rw [Nat.min_eq_right (by omega), List.drop_length, List.drop_eq_nil_of_le (by omega)]
    simp
theorem cut_to {α : Type} (xs : List α) {i : Int} (h : 0 ≤ i) : cutD xs none (some i) = xs.take i.toNat := by
  unfold DL.cutD
  have e : HT.sIx xs.length xs.length (some i) = min i.toNat xs.length := by
    have := HT.sIx_nat xs.length xs.length i.toNat
    rw [toNat_cast h] at this
    exact this
  rw [e, HT.sIx_none]
  simp only [List.drop_zero, Nat.sub_zero]
  by_cases hl : i.toNat ≤ xs.length
  · rw [Nat.min_eq_left hl]
  · rw [Nat.min_eq_right (by omega), List.take_of_length_le (Nat.le_refl _), List.take_of_length_le (by omega)]
/-! ### what a row does -/
structure Eff where
  row : Int
  taken : Int
  name : Option Int
  number : Option Int
  file : Option Int
  pos : Int
  old : List Int
  new : List Int
  letter : Option Int
  fault : Option Str
def optI : Option Int → PyData
  | none => .none
  | some i => .int i
def optS : Option Str → PyData
  | none => .none
  | some i => .str i
def tupI (ns : List Int) : PyData := .tuple (ns.map PyData.int)
def lstI (ns : List Int) : PyData := .list (ns.map PyData.int)
def Eff.rs (e : Eff) : List R := [.dat (.int e.row), .dat (.int e.taken), .dat (optI e.name), .dat (optI e.number), .dat (optI e.file), .dat (.int e.pos), .dat (tupI e.old), .dat (tupI e.new), .dat (optI e.letter), .dat (optS e.fault)]
def eff0 (row taken : Int) : Eff := ⟨row, taken, none, none, none, 0, [], [], none, none⟩
def fileR (fs : List (List Int)) : List R := fs.map fun f => .dat (lstI f)
def changedE (e : Eff) (f : Int) (held : List Int) (at_ : Nat) (new : List Int) : Eff := { e with file := some f, pos := at_, old := held.drop at_, new := new }
def effect (row : PRow) (at_ taken : Int) (ns hs : List Int) (fs : List (List Int)) : Eff :=
  let e := eff0 (at_ + 1) taken
  match row with
  | .set n p => { e with name := some n, number := some (p.worth ns) }
  | .size n f => { e with name := some n, number := some ((fs.getD f.toNat []).length : Int) }
  | .take n => if taken = (hs.length : Int) then { e with name := some n, fault := some "none", taken := taken + 1 } else { e with name := some n, number := some (hs.getD taken.toNat 0), taken := taken + 1 }
  | .get n f p => if ((fs.getD f.toNat []).length : Int) ≤ p.worth ns then { e with name := some n, fault := some "place" } else { e with name := some n, number := some ((fs.getD f.toNat []).getD (p.worth ns).toNat 0) }
  | .add f p => let h := fs.getD f.toNat []; changedE (if h.length = 40 then { e with fault := some "full" } else e) f h h.length [p.worth ns]
  | .put f p q => let h := fs.getD f.toNat []; changedE (if (h.length : Int) ≤ p.worth ns then { e with fault := some "place" } else e) f h (p.worth ns).toNat (q.worth ns :: h.drop ((p.worth ns).toNat + 1))
  | .cut f p => let h := fs.getD f.toNat []; changedE e f h (min (p.worth ns).toNat h.length) []
  | .send p => { e with letter := some (p.worth ns) }
  | .go r => { e with row := r }
  | .unl n r => if ns.getD n.toNat 0 = 0 then { e with row := r } else e
  | .mark => e
theorem fileR_at {fs : List (List Int)} {i : Nat} (h : i < fs.length) : atI (fileR fs) (i : Int) = some (.dat (lstI (fs.getD i []))) := by
  refine atI_nat ?_
  unfold fileR
  rw [List.getElem?_map, List.getElem?_eq_getElem h, List.getD_eq_getElem?_getD, List.getElem?_eq_getElem h]
  rfl
theorem fileR_len (fs : List (List Int)) : (fileR fs).length = fs.length := by simp [fileR]
end PM
set_option Elab.async false
set_option linter.all false
set_option maxRecDepth 100000
set_option maxHeartbeats 4000000
namespace K05
open PySem PySem.Spec PyProof.Rows L2 DL PM
def topS (i : Nat) : Stmt := PySem.Challenge.pw_longwork_k05_on_move_by_move.main.body.getD i (.Pass ⟨0, 0, 0, 0⟩)
section
variable {P : Program} {w : World} {K : Fg} {mg : Str → Option Value} {base : Heap}
/-! is_number -/
def isNum : PyData → Int → Int → Bool
  | .int i, lo, hi => decide (lo ≤ i) && decide (i ≤ hi)
  | _, _, _ => false
def spIsNumber : SpD := fun rs S C => ∃ d lo hi, rs = [.dat d, .dat (.int lo), .dat (.int hi)] ∧ kdOf d ≠ none ∧ C (.dat (.bool (isNum d lo hi))) S
abbrev s_is_number : Stmt := topS 19
abbrev N_is_number : List Str := ["part", "low", "high"]
theorem sc_is_number : FnScope N_is_number ["part", "low", "high"] (defScope s_is_number) := ⟨rfl, rfl, rfl, by decide +kernel, rfl, by decide +kernel, by decide +kernel⟩
theorem ok_is_number {k : Nat} (F : FunAt K mg "is_number" s_is_number ["part", "low", "high"]) (B : Blt mg) : Def P w K mg base "is_number" (k + 1) 3 spIsNumber := by
  refine okF F sc_is_number rfl fun cdv A outer s H E f hr => ⟨_,
    (ss_one (s_ret (d_and (d_isi kit_int (by rfl) B.isinstance (a_cons (dv 0) (a_cons (d_bltn (v := .ty "int") (by rfl) B.int (by decide +kernel) rfl) a_nil))) (d_and (d_not (d_isi kit_bool (by rfl) B.isinstance (a_cons (dv 0) (a_cons (d_bltn (v := .ty "bool") (by rfl) B.bool (by decide +kernel) rfl) a_nil)))) (d_one (d_leLe (dv 1) (dv 0) (dv 2)))))))
    , ?_⟩
  intro rs S C hl h
  obtain ⟨d, lo, hi, rfl, hk, h⟩ := h
  cases d with
  | int i =>
    refine ⟨_, rfl, rfl, _, rfl, iteTb rfl ⟨_, rfl, rfl, _, rfl, iteTb rfl ⟨_, rfl, _, rfl, ite2d (fun h1 => ?_) (fun h1 => ?_)⟩⟩⟩
    · refine ⟨_, rfl, ?_⟩
      have e : isNum (.int i) lo hi = decide (i ≤ hi) := by simp [isNum, h1]
      rw [e] at h
      exact h
    · have e : isNum (.int i) lo hi = false := by simp [isNum, h1]
      rw [e] at h
      exact h
  | dict kvs => exact absurd rfl hk
  | bool b => exact ⟨_, rfl, rfl, _, rfl, iteTb rfl ⟨_, rfl, rfl, _, rfl, iteFb rfl h⟩⟩
  | _ => exact ⟨_, rfl, rfl, _, rfl, iteFb rfl h⟩
theorem isNum_yes {i lo hi : Int} (h : lo ≤ i ∧ i ≤ hi) : isNum (.int i) lo hi = true := by simp [isNum, h.1, h.2]
/-! is_part -/
def spIsPart (n : Nat) : SpD := fun rs S C => ∃ (p : Part) (names deep : Int), rs = [.dat p.dat, .dat (.int names), .dat (.int deep)] ∧ p.ok names ∧ (p.deep : Int) ≤ deep ∧ p.deep ≤ n ∧ p.deep ≤ 60 ∧ C (.dat (.bool true)) S
theorem Def.never {x : Str} {st : Stmt} {ps : List Str} {k n : Nat} (Fn : FunAt K mg x st ps) : Def P w K mg base x k n (fun _ _ _ => False) := by
  obtain ⟨f, fd, Fu, hm, hb⟩ := Fn.ex
  exact ⟨f, fd, ps, ⟨fun vs H Q E h => by obtain ⟨_, _, _, _, _, _, _, _, z, _⟩ := h; exact z.elim, fun A outer s H args us vs Q E _ _ _ _ h => by obtain ⟨_, _, _, _, _, _, _, _, z, _⟩ := h; exact z.elim⟩, hm, Fu.kp, hb⟩
abbrev s_is_part : Stmt := topS 20
abbrev N_is_part : List Str := ["part", "names", "deep"]
theorem sc_is_part : FnScope N_is_part ["part", "names", "deep"] (defScope s_is_part) := ⟨rfl, rfl, rfl, by decide +kernel, rfl, by decide +kernel, by decide +kernel⟩
theorem part_body {n k : Nat} {spR : SpD} {a1 : Addr} {t1 : Tok} (F : FunAt K mg "is_part" s_is_part ["part", "names", "deep"]) (B : Blt mg) (D : Def P w K mg base "is_part" (k + 1) 3 spR) (D1 : Def P w K mg base "is_number" 1 3 spIsNumber) (hR : ∀ m rs S C, m + 1 = n → spIsPart m rs S C → spR rs S C)
    (c1 : mg "PAIRS" = some (.ref a1)) (k1 : KTup K a1 (pairW.map V.str)) (c2 : mg "REST" = some (.int 10007 t1)) : Def P w K mg base "is_part" (k + 2) 3 (spIsPart n) := by
  refine okF F sc_is_part rfl fun cdv A outer s H E f hr => ⟨_,
    (ss_cons (s_if (PDW.pt (w_or (t_eq hr.units (dv 2) d_int) (w_or (t_not (t_val (d_isi kit_tuple (by rfl) B.isinstance (a_cons (dv 0) (a_cons (d_bltn (v := .ty "tuple") (by rfl) B.tuple (by decide +kernel) rfl) a_nil))))) (w_or (t_eq hr.units (dv 0) (d_tup a_nil)) (w_or1 (t_not (t_val (d_isi kit_str (by rfl) B.isinstance (a_cons (d_ix (hu_of hr) (dv 0) d_int) (a_cons (d_bltn (v := .ty "str") (by rfl) B.str (by decide +kernel) rfl) a_nil))))))))))
      (ss_one (s_ret d_bl))
      ss_nil)
      (ss_cons (s_if (t_in (d_ix (hu_of hr) (dv 0) d_int) (d_globT (ns := pairW) (by rfl) c1 k1))
      (ss_one (s_ret (d_and (d_eq hr.units (d_len (by rfl) B.len (a_cons (dv 0) a_nil)) d_int) (d_and (d_callF D (hr.mono (by omega)) (by rfl) (a_cons (d_ix (hu_of hr) (dv 0) d_int) (a_cons (dv 1) (a_cons (d_sub (dv 2) d_int) a_nil)))) (d_one (d_callF D (hr.mono (by omega)) (by rfl) (a_cons (d_ix (hu_of hr) (dv 0) d_int) (a_cons (dv 1) (a_cons (d_sub (dv 2) d_int) a_nil)))))))))
      ss_nil)
      (ss_cons (s_if (PDW.pt (w_or (t_ne hr.units (d_len (by rfl) B.len (a_cons (dv 0) a_nil)) d_int) (w_or1 (t_notIn (d_ix (hu_of hr) (dv 0) d_int) (d_tup (a_cons d_str (a_cons d_str a_nil)))))))
      (ss_one (s_ret d_bl))
      ss_nil)
      (ss_one (s_ret (d_callF D1 (hr.mono (by omega)) (by rfl) (a_cons (d_ix (hu_of hr) (dv 0) d_int) (a_cons d_int (a_cons (d_if (t_eq hr.units (d_ix (hu_of hr) (dv 0) d_int) d_str) (d_sub (d_globI (by rfl) c2) d_int) (d_sub (dv 1) d_int)) a_nil)))))))))
    , ?_⟩
  intro rs S C hl h
  obtain ⟨p, names, deep, rfl, hp, hd, hn, h60, h⟩ := h
  have hpos := p.deep_pos
  have hsh : SeqAt.shaped p.dat = true := shaped_mk p.lay (by have := p.depth; omega)
  have he : eqOk p.dat (.tuple []) = true := eqOk_mk hsh (by decide)
  have hz : PyData.eqv (.int deep) (.int 0) = false := by simp [PyData.eqv]; omega
  have e0 : ∀ (x : PyData) (xs : List PyData), PyData.eqv (.tuple (x :: xs)) (.tuple []) = false := fun x xs => by rw [PyData.eqv, PyData.eqvAll]
  cases p with
  | num n =>
    refine ⟨_, rfl, rfl, iteFb hz ⟨_, rfl, rfl, _, rfl, iteFb rfl ⟨_, rfl, Nat.zero_le _, _, rfl, he, iteFb (e0 _ _) ⟨_, rfl, ⟨_, rfl, rfl, _, rfl, iteFb rfl ?_⟩⟩⟩⟩⟩
    refine ⟨_, rfl, _, rfl, rfl, rfl, iteFb rfl ?_⟩
    refine ⟨_, rfl, rfl, iteFb rfl ⟨_, rfl, _, rfl, by simp, _, rfl, rfl, rfl, iteFb rfl ?_⟩⟩
    refine ⟨_, rfl, _, rfl, _, rfl, _, rfl, rfl, iteTb rfl ⟨rfl, _, _, _, rfl, (fun z => nomatch z), ?_⟩⟩
    rw [isNum_yes ⟨hp.1, by have := hp.2; omega⟩]
    exact h
  | name n =>
    refine ⟨_, rfl, rfl, iteFb hz ⟨_, rfl, rfl, _, rfl, iteFb rfl ⟨_, rfl, Nat.zero_le _, _, rfl, he, iteFb (e0 _ _) ⟨_, rfl, ⟨_, rfl, rfl, _, rfl, iteFb rfl ?_⟩⟩⟩⟩⟩
    refine ⟨_, rfl, _, rfl, rfl, rfl, iteFb rfl ?_⟩
    refine ⟨_, rfl, rfl, iteFb rfl ⟨_, rfl, _, rfl, by simp, _, rfl, rfl, rfl, iteFb rfl ?_⟩⟩
    refine ⟨_, rfl, _, rfl, _, rfl, _, rfl, rfl, iteFb rfl ⟨_, rfl, rfl, _, _, _, rfl, (fun z => nomatch z), ?_⟩⟩
    rw [isNum_yes ⟨hp.1, by have := hp.2; omega⟩]
    exact h
  | op o a b =>
    have hm : ∃ m, m + 1 = n := ⟨n - 1, by omega⟩
    obtain ⟨m, hm⟩ := hm
    have hda : a.deep + 1 ≤ (Part.op o a b).deep := by simp only [Part.deep]; omega
    have hdb : b.deep + 1 ≤ (Part.op o a b).deep := by simp only [Part.deep]; omega
    refine ⟨_, rfl, rfl, iteFb hz ⟨_, rfl, rfl, _, rfl, iteFb rfl ⟨_, rfl, Nat.zero_le _, _, rfl, he, iteFb (e0 _ _) ⟨_, rfl, ⟨_, rfl, rfl, _, rfl, iteFb rfl ?_⟩⟩⟩⟩⟩
    have hw : inD (.str o.word) (pairW.map PyData.str) = true := by cases o <;> rfl
    refine ⟨_, rfl, _, rfl, rfl, rfl, iteTb hw ?_⟩
    refine ⟨_, rfl, rfl, iteTb rfl ⟨_, rfl, _, rfl, _, rfl, _, rfl, rfl, hR m _ _ _ hm ⟨a, names, deep - 1, rfl, hp.1, by omega, by omega, by omega, iteTb rfl ?_⟩⟩⟩
    exact ⟨_, rfl, _, rfl, _, rfl, _, rfl, rfl, hR m _ _ _ hm ⟨b, names, deep - 1, rfl, hp.2, by omega, by omega, by omega, h⟩⟩
theorem ok_is_part {a1 : Addr} {t1 : Tok} (F : FunAt K mg "is_part" s_is_part ["part", "names", "deep"]) (B : Blt mg) (D1 : Def P w K mg base "is_number" 1 3 spIsNumber)
    (c1 : mg "PAIRS" = some (.ref a1)) (k1 : KTup K a1 (pairW.map V.str)) (c2 : mg "REST" = some (.int 10007 t1)) : ∀ n : Nat, Def P w K mg base "is_part" (n + 2) 3 (spIsPart n)
  | 0 => part_body F B (Def.never F) D1 (fun m _ _ _ h _ => by omega) c1 k1 c2
  | n + 1 => part_body F B (ok_is_part F B D1 c1 k1 c2 n) D1 (fun m rs S C h q => by
    have e : m = n := by omega
    subst e
    exact q) c1 k1 c2
end
end K05
set_option Elab.async false
set_option linter.all false
set_option maxRecDepth 100000
set_option maxHeartbeats 4000000
namespace K05
open PySem PySem.Spec PyProof.Rows L2 DL PM
local macro_rules | `(tactic| walk_at "dl") => `(tactic| repeat (first | refine ⟨_, rfl, ?_⟩ | refine .inl ⟨_, _, _, by assumption, rfl, ?_⟩ | refine ⟨rfl, _, rfl, ?_⟩ | refine iteT ?_ | refine iteF ?_))
section
variable {P : Program} {w : World} {K : Fg} {mg : Str → Option Value} {base : Heap}
/-! _law_next -/
abbrev s__law_next : Stmt := topS 40
abbrev N__law_next : List Str := ["_law_dice_here", "_law_many", "_law_found", "_law_cell"]
theorem sc__law_next : FnScope N__law_next ["_law_dice_here", "_law_many"] (defScope s__law_next) := ⟨rfl, rfl, rfl, by decide +kernel, rfl, by decide +kernel, by decide +kernel⟩
theorem ok_next0 {k : Nat} (F : FunAt K mg "_law_next" s__law_next ["_law_dice_here", "_law_many"]) (B : Blt mg) : Def P w K mg base "_law_next" (k + 1) 2 spNext0 := by
  refine okF F sc__law_next rfl fun cdv A outer s H E f hr => ⟨_,
    (ss_cons (s_if (t_gt (d_ix (hu_of hr) (dv 0) d_int) d_int)
      (ss_cons (s_set (i := 2) sc__law_next.nd (d_mod (d_ix (hu_of hr) (dv 0) d_int) (dv 1)))
      (ss_cons (s_asg (d_fdiv (d_ix (hu_of hr) (dv 0) d_int) (dv 1)) (g_sub (hu_of hr) (dv 0) d_int))
      (ss_one (s_ret (dv 2)))))
      ss_nil)
      (ss_cons (s_asg (d_add (d_ix (hu_of hr) (dv 0) d_int) d_int) (g_sub (hu_of hr) (dv 0) d_int))
      (ss_cons (s_if (t_le (d_ix (hu_of hr) (dv 0) d_int) (d_len (by rfl) B.len (a_cons (d_ix (hu_of hr) (dv 0) d_int) a_nil)))
      (ss_cons (s_set (i := 3) sc__law_next.nd (d_ix (hu_of hr) (d_ix (hu_of hr) (dv 0) d_int) (d_sub (d_ix (hu_of hr) (dv 0) d_int) d_int)))
      (ss_cons (s_asg (d_if (t_ge (dv 3) (d_pow d_int d_int)) (d_fdiv (dv 3) (dv 1)) d_int) (g_sub (hu_of hr) (dv 0) d_int))
      (ss_one (s_ret (d_mod (dv 3) (dv 1))))))
      ss_nil)
      (ss_cons (s_asg (d_mod (d_mul (d_ix (hu_of hr) (dv 0) d_int) d_int) d_int) (g_sub (hu_of hr) (dv 0) d_int))
      (ss_one (s_ret (d_mod (d_fdiv (d_ix (hu_of hr) (dv 0) d_int) d_int) (dv 1))))))))
    , ?_⟩
  intro rs S C hl h
  obtain ⟨D, n, j, xs, rfl, hj, ⟨ns, at_, mixed, left, rfl, h0, h1, h2⟩, hn, hn2, q⟩ := h
  walk_at "dl"
  refine ite2d (fun hc => ?_) (fun hc => ?_)
  · walk_at "dl"
    refine ⟨hn, ?_⟩
    walk_at "dl"
    refine ⟨cdiv hn hn2, ?_⟩
    walk_at "dl"
    exact q _ _ (Int.emod_nonneg _ (by omega)) (Int.emod_lt_of_pos _ hn) ⟨ns, at_, mixed, _, rfl, h0, h1, h2⟩
  · walk_at "dl"
    have hj1 := getset hj (.lst D [.scr ns, .dat (.int (at_ + 1)), .dat (.int mixed), .dat (.int left)])
    walk_at "dl"
    refine ite2d (fun hc => ?_) (fun hc => ?_)
    · walk_at "dl"
      obtain ⟨z, hz⟩ : ∃ z, atI ns (at_ + 1 - 1) = some z := by
        have e : at_ + 1 - 1 = ((at_.toNat : Nat) : Int) := by omega
        rw [e]
        exact ⟨_, atI_nat (List.getElem?_eq_getElem (by omega))⟩
      refine ⟨z, hz, ?_⟩
      walk_at "dl"
      refine ⟨⟨by decide, by decide, by decide⟩, ?_⟩
      refine ite2d (fun hc => ?_) (fun hc => ?_)
      · walk_at "dl"
        refine ⟨cdiv hn hn2, ?_⟩
        walk_at "dl"
        refine ⟨hn, ?_⟩
        rw [List.set_set]
        exact q _ _ (Int.emod_nonneg _ (by omega)) (Int.emod_lt_of_pos _ hn) ⟨ns, at_ + 1, mixed, _, rfl, by omega, h1, h2⟩
      · walk_at "dl"
        refine ⟨hn, ?_⟩
        rw [List.set_set]
        exact q _ _ (Int.emod_nonneg _ (by omega)) (Int.emod_lt_of_pos _ hn) ⟨ns, at_ + 1, mixed, _, rfl, by omega, h1, h2⟩
    · walk_at "dl"
      refine ⟨cmul (by omega) (by omega) (by decide) (by decide), ?_⟩
      refine ⟨(by show (0 : Int) < 2147483647; decide), ?_⟩
      walk_at "dl"
      have hj2 := getset hj1 (.lst D [.scr ns, .dat (.int (at_ + 1)), .dat (.int (mixed * 48271 % 2147483647)), .dat (.int left)])
      walk_at "dl"
      refine ⟨cdiv (by decide) (by decide), ?_⟩
      walk_at "dl"
      refine ⟨hn, ?_⟩
      rw [List.set_set]
      exact q _ _ (Int.emod_nonneg _ (by omega)) (Int.emod_lt_of_pos _ hn) ⟨ns, at_ + 1, _, _, rfl, by omega, Int.emod_nonneg _ (by decide), Int.emod_lt_of_pos _ (by decide)⟩
theorem ok_next {k : Nat} (F : FunAt K mg "_law_next" s__law_next ["_law_dice_here", "_law_many"]) (B : Blt mg) : Def P w K mg base "_law_next" (k + 1) 2 spNext := next_of (ok_next0 F B)
/-! _law_dice -/
def spDice0 : SpD := fun rs S C => ∃ ns : List Int, rs = [.scr ns] ∧ ns.length ≤ 1000 ∧ ∀ p xs, DiceOk xs → C (.val (.ref p)) (.lst p xs :: S)
def spDice : SpD := fun rs S C => ∃ ns : List Int, rs = [.scr ns] ∧ ns.length ≤ 1000 ∧ ∀ p, C (.val (.ref p)) (dice p :: S)
theorem dice_of {x : Str} {k : Nat} (d : Def P w K mg base x k 1 spDice0) : Def P w K mg base x k 1 spDice := by
  obtain ⟨f, fd, ps, a, b⟩ := d.ex
  refine ⟨f, fd, ps, a.imp fun vs H Q E h => ?_, b⟩
  obtain ⟨hl, F, S, L, rs, C, o, lv, ⟨ns, rfl, hn, q⟩, fin⟩ := h
  refine ⟨hl, F, S, L, _, fun r S' => ∃ p xs, r = .val (.ref p) ∧ DiceOk xs ∧ S' = .lst p xs :: S, o, lv, ⟨ns, rfl, hn, fun p xs hx => ⟨p, xs, rfl, hx, rfl⟩⟩, ?_⟩
  rintro v r S' H' o' ⟨p, xs, rfl, hx, rfl⟩
  have o3 := o'.pack (P := DiceOk) (i := 0) rfl hx
  exact fin v _ (dice p :: S) H' o3 (q p)
abbrev s__law_dice : Stmt := topS 39
abbrev N__law_dice : List Str := ["_law_script", "_law_mixed", "_law_cell"]
theorem sc__law_dice : FnScope N__law_dice ["_law_script"] (defScope s__law_dice) := ⟨rfl, rfl, rfl, by decide +kernel, rfl, by decide +kernel, by decide +kernel⟩
theorem ok_dice {k : Nat} (F : FunAt K mg "_law_dice" s__law_dice ["_law_script"]) (B : Blt mg) : Def P w K mg base "_law_dice" (k + 1) 1 spDice := by
  refine dice_of (okF F sc__law_dice rfl fun cdv A outer s H E f hr => ⟨_,
    (ss_cons (s_set (i := 1) sc__law_dice.nd d_int)
      (ss_cons (s_for (i_src (dv 0)) (g_name (i := 2) sc__law_dice.nd)
      (ss_one (s_set (i := 1) sc__law_dice.nd (d_mod (d_add (d_add (d_mul (dv 1) d_int) (d_mul (d_mod (dv 2) d_int) d_int)) d_int) d_int))))
      (ss_one (s_ret (d_lstC (a_cons (dv 0) (a_cons d_int (a_cons (d_mul (dv 1) (d_intF (by rfl) B.int (a_cons (d_gt (d_len (by rfl) B.len (a_cons (dv 0) a_nil)) d_int) a_nil))) (a_cons d_int a_nil)))))))))
    , ?_⟩)
  intro rs S C hl h
  obtain ⟨ns, rfl, hn, h⟩ := h
  refine ⟨_, rfl, fun i fr S' => S' = S ∧ ∃ (x : Int) (a : Option R), fr = [some (.scr ns), some (.dat (.int x)), a] ∧ 0 ≤ x ∧ x < 2147483647, ⟨rfl, 0, none, rfl, by decide, by decide⟩, ?_, ?_⟩
  · rintro i r fr S' hi ⟨rfl, x, a, rfl, h0, h1⟩
    obtain ⟨z, rfl⟩ : ∃ z, r = .dat (.int z) := by
      rw [List.getElem?_map] at hi
      cases e : ns[i]? with
      | none => rw [e] at hi; cases hi
      | some n => rw [e] at hi; exact ⟨n, (Option.some.inj hi).symm⟩
    have hz0 := Int.emod_nonneg z (show (2147483647 : Int) ≠ 0 by decide)
    have hz1 := Int.emod_lt_of_pos z (show (0 : Int) < 2147483647 by decide)
    refine ⟨_, rfl, cmul (by omega) (by omega) (by decide) (by decide), _, rfl, (by show (0 : Int) < 2147483647; decide), cmul (by omega) (by omega) (by decide) (by decide), (by show (0 : Int) < 2147483647; decide), ?_⟩
    exact ⟨rfl, _, _, rfl, Int.emod_nonneg _ (by decide), Int.emod_lt_of_pos _ (by decide)⟩
  · rintro fr S' ⟨rfl, x, a, rfl, h0, h1⟩
    refine ⟨_, rfl, _, rfl, _, rfl, cmul (by omega) (by omega) ?_ ?_, by simp, fun p => h p _ ⟨ns, 0, _, 0, rfl, by decide, ?_, ?_⟩⟩
    all_goals (by_cases hc : (2 : Int) < ns.length <;> simp [hc] <;> omega)
/-! _law_any_part -/
def spAnyPart (n : Nat) : SpD := fun rs S C => ∃ (D : Addr) (names : Int) (deep j : Nat), rs = [.val (.ref D), .dat (.int names), .dat (.int deep)] ∧ S[j]? = some (dice D) ∧ 1 ≤ names ∧ names ≤ 8 ∧ 1 ≤ deep ∧ deep ≤ n ∧ ∀ p : Part, p.ok names → p.deep ≤ deep → C (.dat p.dat) S
abbrev s__law_any_part : Stmt := topS 42
abbrev N__law_any_part : List Str := ["_law_d", "_law_names", "_law_deep", "_law_way", "_law_one"]
theorem sc__law_any_part : FnScope N__law_any_part ["_law_d", "_law_names", "_law_deep"] (defScope s__law_any_part) := ⟨rfl, rfl, rfl, by decide +kernel, rfl, by decide +kernel, by decide +kernel⟩
theorem any_part_body {n k : Nat} {spR : SpD} (F : FunAt K mg "_law_any_part" s__law_any_part ["_law_d", "_law_names", "_law_deep"]) (B : Blt mg) (D0 : Def P w K mg base "_law_any_part" (k + 1) 3 spR) (D1 : Def P w K mg base "_law_next" 1 2 spNext) (hR : ∀ m rs S C, m + 1 = n → spAnyPart m rs S C → spR rs S C) : Def P w K mg base "_law_any_part" (k + 2) 3 (spAnyPart n) := by
  refine okF F sc__law_any_part rfl fun cdv A outer s H E f hr => ⟨_,
    (ss_cons (s_set (i := 3) sc__law_any_part.nd (d_callF D1 (hr.mono (by omega)) (by rfl) (a_cons (dv 0) (a_cons d_int a_nil))))
      (ss_cons (s_if (PDW.pt (w_and (t_gt (dv 2) d_int) (w_and1 (t_lt (dv 3) d_int))))
      (ss_cons (s_set (i := 4) sc__law_any_part.nd (d_callF D0 (hr.mono (by omega)) (by rfl) (a_cons (dv 0) (a_cons (dv 1) (a_cons (d_sub (dv 2) d_int) a_nil)))))
      (ss_one (s_ret (d_tup (a_cons (d_ix (hu_of hr) (d_lst (a_cons d_str (a_cons d_str (a_cons d_str a_nil)))) (d_callF D1 (hr.mono (by omega)) (by rfl) (a_cons (dv 0) (a_cons d_int a_nil)))) (a_cons (dv 4) (a_cons (d_callF D0 (hr.mono (by omega)) (by rfl) (a_cons (dv 0) (a_cons (dv 1) (a_cons (d_sub (dv 2) d_int) a_nil)))) a_nil)))))))
      ss_nil)
      (ss_cons (s_if (t_lt (dv 3) d_int)
      (ss_one (s_ret (d_tup (a_cons d_str (a_cons (d_callF D1 (hr.mono (by omega)) (by rfl) (a_cons (dv 0) (a_cons (dv 1) a_nil))) a_nil)))))
      ss_nil)
      (ss_one (s_ret (d_tup (a_cons d_str (a_cons (d_ix (hu_of hr) (d_lst (a_cons (d_callF D1 (hr.mono (by omega)) (by rfl) (a_cons (dv 0) (a_cons d_int a_nil))) (a_cons (d_callF D1 (hr.mono (by omega)) (by rfl) (a_cons (dv 0) (a_cons d_int a_nil))) a_nil))) (d_mul (d_mod (dv 3) d_int) (d_callF D1 (hr.mono (by omega)) (by rfl) (a_cons (dv 0) (a_cons d_int a_nil))))) a_nil))))))))
    , ?_⟩
  intro rs S C hl h
  obtain ⟨D, names, deep, j, rfl, hj, hn1, hn8, hd1, hdn, h⟩ := h
  refine dnext (D := D) (j := j) rfl hj (by decide) (by decide) fun way w0 w1 => ?_
  have rest : way < 6 → sSeq (sIf (dTest (dOp fLt (dVar 3) (dC (.dat (.int 4))))) (sRet (dTup (dCons (dC (.dat (.str "name"))) (dCons (dCall 2 spNext (dCons (dVar 0) (dCons (dVar 1) dNil))) dNil)))) sNext)
      (sRet (dTup (dCons (dC (.dat (.str "num"))) (dCons (dOp fIx (dLst (dCons (dCall 2 spNext (dCons (dVar 0) (dCons (dC (.dat (.int 4))) dNil))) (dCons (dCall 2 spNext (dCons (dVar 0) (dCons (dC (.dat (.int 10007))) dNil))) dNil))) (dOp fMul (dOp (fI (fun _ j => 0 < j) fun i j => .int (i % j)) (dVar 3) (dC (.dat (.int 2)))) (dCall 2 spNext (dCons (dVar 0) (dCons (dC (.dat (.int 2))) dNil))))) dNil))))
      { nx := fun _ S => C (.dat .none) S, rt := C } [some (.val (.ref D)), some (.dat (.int names)), some (.dat (.int deep)), some (.dat (.int way)), none] S := by
    intro _
    refine ⟨_, rfl, ite2d (fun hb => ?_) (fun hb => ?_)⟩
    · refine dnextV (D := D) (j := j) (m := 1) rfl rfl hj (by omega) (by omega) fun x x0 x1 => ?_
      exact ⟨by simp, _, rfl, h (.name x) ⟨x0, x1⟩ hd1⟩
    · refine dnext (D := D) (j := j) rfl hj (by decide) (by decide) fun a a0 a1 => ?_
      refine dnext (D := D) (j := j) rfl hj (by decide) (by decide) fun b b0 b1 => ?_
      refine ⟨by simp, _, rfl, _, rfl, (by show (0 : Int) < 2; decide), ?_⟩
      refine dnext (D := D) (j := j) rfl hj (by decide) (by decide) fun z z0 z1 => ?_
      have m0 := Int.emod_nonneg way (show (2 : Int) ≠ 0 by decide)
      have m1 := Int.emod_lt_of_pos way (show (0 : Int) < 2 by decide)
      refine ⟨cmul (by omega) (by omega) (by omega) (by omega), ?_⟩
      have hi : 0 ≤ way % 2 * z ∧ way % 2 * z < 2 := by
        rcases (show way % 2 = 0 ∨ way % 2 = 1 by omega) with e | e <;> rw [e] <;> omega
      obtain ⟨d, e1, md⟩ := pick (ds := [PyData.int a, PyData.int b]) hi.1 hi.2
      refine ⟨d, e1, by simp, ?_⟩
      rcases List.mem_cons.mp md with rfl | md
      · exact ⟨_, rfl, h (.num a) ⟨a0, by omega⟩ hd1⟩
      · cases List.mem_singleton.mp md
        exact ⟨_, rfl, h (.num b) ⟨b0, by omega⟩ hd1⟩
  refine ⟨_, rfl, ite2d (fun hb => ?_) (fun hb => ?_)⟩
  · refine ⟨_, rfl, ite2d (fun hb2 => ?_) (fun hb2 => ?_)⟩
    · obtain ⟨m, hm⟩ : ∃ m, m + 1 = n := ⟨n - 1, by omega⟩
      obtain ⟨dp, rfl⟩ : ∃ dp, deep = dp + 1 := ⟨deep - 1, by omega⟩
      have ed : ((dp + 1 : Nat) : Int) - 1 = (dp : Int) := by omega
      refine ⟨_, rfl, _, rfl, _, rfl, rfl, hR m _ _ _ hm ⟨D, names, dp, j, by dsimp only; rw [ed], hj, hn1, hn8, by omega, by omega, fun p1 ok1 d1 => ?_⟩⟩
      refine ⟨by simp, _, rfl, ?_⟩
      refine dnext (D := D) (j := j) rfl hj (by decide) (by decide) fun o o0 o1 => ?_
      obtain ⟨d, e1, md⟩ := pick (ds := [PyData.str "sum", PyData.str "diff", PyData.str "less"]) o0 o1
      refine ⟨d, e1, _, rfl, _, rfl, _, rfl, _, rfl, rfl, hR m _ _ _ hm ⟨D, names, dp, j, by dsimp only; rw [ed], hj, hn1, hn8, by omega, by omega, fun p2 ok2 d2 => ?_⟩⟩
      obtain ⟨o3, rfl⟩ : ∃ o3 : Op3, d = .str o3.word := by
        rcases List.mem_cons.mp md with rfl | md
        · exact ⟨.sum, rfl⟩
        · rcases List.mem_cons.mp md with rfl | md
          · exact ⟨.diff, rfl⟩
          · cases List.mem_singleton.mp md
            exact ⟨.less, rfl⟩
      exact ⟨by simp, _, rfl, h (.op o3 p1 p2) ⟨ok1, ok2⟩ (by show max p1.deep p2.deep + 1 ≤ dp + 1; omega)⟩
    · exact rest (by omega)
  · exact rest (by omega)
theorem ok_any_part (F : FunAt K mg "_law_any_part" s__law_any_part ["_law_d", "_law_names", "_law_deep"]) (B : Blt mg) (D1 : Def P w K mg base "_law_next" 1 2 spNext) : ∀ n : Nat, Def P w K mg base "_law_any_part" (n + 2) 3 (spAnyPart n)
  | 0 => any_part_body F B (Def.never F) D1 (fun m _ _ _ h _ => by omega)
  | n + 1 => any_part_body F B (ok_any_part F B D1 n) D1 (fun m rs S C h q => by
    have e : m = n := by omega
    subst e
    exact q)
end
end K05
set_option Elab.async false
set_option linter.all false
set_option maxRecDepth 100000
set_option maxHeartbeats 4000000
namespace K05
open PySem PySem.Spec PyProof.Rows L2 DL PM
section
variable {P : Program} {w : World} {K : Fg} {mg : Str → Option Value} {base : Heap}
/-! _law_any_row -/
def spAnyRow : SpD := fun rs S C => ∃ (D : Addr) (names files at_ many : Int) (j : Nat), rs = [.val (.ref D), .dat (.int names), .dat (.int files), .dat (.int at_), .dat (.int many)] ∧ S[j]? = some (dice D) ∧ 1 ≤ names ∧ names ≤ 8 ∧ 1 ≤ files ∧ files ≤ 4 ∧ 0 ≤ at_ ∧ at_ < many ∧ many ≤ 60 ∧ ∀ r : PRow, r.ok names files many → C (.dat r.dat) S
abbrev s__law_any_row : Stmt := topS 43
abbrev N__law_any_row : List Str := ["_law_d", "_law_names", "_law_files", "_law_at", "_law_many", "_law_way", "_law_name", "_law_file", "_law_to"]
theorem sc__law_any_row : FnScope N__law_any_row ["_law_d", "_law_names", "_law_files", "_law_at", "_law_many"] (defScope s__law_any_row) := ⟨rfl, rfl, rfl, by decide +kernel, rfl, by decide +kernel, by decide +kernel⟩
theorem ok_any_row {k : Nat} (F : FunAt K mg "_law_any_row" s__law_any_row ["_law_d", "_law_names", "_law_files", "_law_at", "_law_many"]) (B : Blt mg) (D1 : Def P w K mg base "_law_next" 1 2 spNext) (D2 : Def P w K mg base "_law_any_part" 5 3 (spAnyPart 3)) : Def P w K mg base "_law_any_row" (k + 6) 5 spAnyRow := by
  refine okF F sc__law_any_row rfl fun cdv A outer s H E f hr => ⟨_,
    (ss_cons (s_set (i := 5) sc__law_any_row.nd (d_callF D1 (hr.mono (by omega)) (by rfl) (a_cons (dv 0) (a_cons d_int a_nil))))
      (ss_cons (s_par (i := 6) (j := 7) sc__law_any_row.nd (a_cons (d_callF D1 (hr.mono (by omega)) (by rfl) (a_cons (dv 0) (a_cons (dv 1) a_nil))) (a_cons (d_callF D1 (hr.mono (by omega)) (by rfl) (a_cons (dv 0) (a_cons (dv 2) a_nil))) a_nil)))
      (ss_cons (s_if (t_lt (dv 5) d_int)
      (ss_one (s_ret (d_tup (a_cons d_str (a_cons (dv 6) (a_cons (d_callF D2 (hr.mono (by omega)) (by rfl) (a_cons (dv 0) (a_cons (dv 1) (a_cons d_int a_nil)))) a_nil))))))
      ss_nil)
      (ss_cons (s_if (t_lt (dv 5) d_int)
      (ss_one (s_ret (d_if (t_eq hr.units (dv 5) d_int) (d_tup (a_cons d_str (a_cons (dv 6) a_nil))) (d_tup (a_cons d_str (a_cons (dv 6) (a_cons (dv 7) a_nil)))))))
      ss_nil)
      (ss_cons (s_if (t_lt (dv 5) d_int)
      (ss_one (s_ret (d_tup (a_cons d_str (a_cons (dv 7) (a_cons (d_callF D2 (hr.mono (by omega)) (by rfl) (a_cons (dv 0) (a_cons (dv 1) (a_cons d_int a_nil)))) a_nil))))))
      ss_nil)
      (ss_cons (s_if (t_eq hr.units (dv 5) d_int)
      (ss_one (s_ret (d_tup (a_cons d_str (a_cons (dv 7) (a_cons (d_tup (a_cons d_str (a_cons (d_callF D1 (hr.mono (by omega)) (by rfl) (a_cons (dv 0) (a_cons d_int a_nil))) a_nil))) (a_cons (d_callF D2 (hr.mono (by omega)) (by rfl) (a_cons (dv 0) (a_cons (dv 1) (a_cons d_int a_nil)))) a_nil)))))))
      ss_nil)
      (ss_cons (s_if (t_eq hr.units (dv 5) d_int)
      (ss_one (s_ret (d_tup (a_cons d_str (a_cons (dv 7) (a_cons (d_ix (hu_of hr) (d_lst (a_cons (d_tup (a_cons d_str (a_cons (d_callF D1 (hr.mono (by omega)) (by rfl) (a_cons (dv 0) (a_cons d_int a_nil))) a_nil))) (a_cons (d_callF D2 (hr.mono (by omega)) (by rfl) (a_cons (dv 0) (a_cons (dv 1) (a_cons d_int a_nil)))) a_nil))) (d_callF D1 (hr.mono (by omega)) (by rfl) (a_cons (dv 0) (a_cons d_int a_nil)))) a_nil))))))
      ss_nil)
      (ss_cons (s_if (t_eq hr.units (dv 5) d_int)
      (ss_one (s_ret (d_tup (a_cons d_str (a_cons (dv 6) (a_cons (dv 7) (a_cons (d_tup (a_cons d_str (a_cons (d_callF D1 (hr.mono (by omega)) (by rfl) (a_cons (dv 0) (a_cons d_int a_nil))) a_nil))) a_nil)))))))
      ss_nil)
      (ss_cons (s_if (t_lt (dv 5) d_int)
      (ss_one (s_ret (d_tup (a_cons d_str (a_cons (d_callF D2 (hr.mono (by omega)) (by rfl) (a_cons (dv 0) (a_cons (dv 1) (a_cons d_int a_nil)))) a_nil)))))
      ss_nil)
      (ss_cons (s_if (t_eq hr.units (dv 5) d_int)
      (ss_one (s_ret (d_tup (a_cons d_str a_nil))))
      ss_nil)
      (ss_cons (s_set (i := 8) sc__law_any_row.nd (d_ix (hu_of hr) (d_lst (a_cons (d_min2 (by rfl) B.min (a_cons (dv 4) (a_cons (d_add (d_add (dv 3) d_int) (d_callF D1 (hr.mono (by omega)) (by rfl) (a_cons (dv 0) (a_cons d_int a_nil)))) a_nil))) (a_cons (d_callF D1 (hr.mono (by omega)) (by rfl) (a_cons (dv 0) (a_cons (d_add (dv 4) d_int) a_nil))) a_nil))) (d_fdiv (d_callF D1 (hr.mono (by omega)) (by rfl) (a_cons (dv 0) (a_cons d_int a_nil))) d_int)))
      (ss_one (s_ret (d_if (t_lt (dv 5) d_int) (d_tup (a_cons d_str (a_cons (dv 6) (a_cons (dv 8) a_nil)))) (d_tup (a_cons d_str (a_cons (d_if (t_le (dv 8) (dv 4)) (d_max2 (by rfl) B.max (a_cons (dv 8) (a_cons (d_add (dv 3) d_int) a_nil))) (dv 4)) a_nil)))))))))))))))))
    , ?_⟩
  intro rs S C hl h
  obtain ⟨D, names, files, at_, many, j, rfl, hj, hn1, hn8, hf1, hf4, ha0, ha1, hm, h⟩ := h
  refine dnext (D := D) (j := j) rfl hj (by decide) (by decide) fun way w0 w1 => ?_
  refine dnextV (D := D) (j := j) (m := 1) rfl rfl hj (by omega) (by omega) fun nm n0 n1 => ?_
  refine dnextV (D := D) (j := j) (m := 2) rfl rfl hj (by omega) (by omega) fun fl f0 f1 => ?_
  refine ⟨_, rfl, ite2d (fun hb => ?_) (fun hb => ?_)⟩
  · refine ⟨_, rfl, _, rfl, _, rfl, rfl, D, names, 3, j, rfl, hj, hn1, hn8, by decide, by decide, fun p okp dp => ?_⟩
    exact ⟨by simp, _, rfl, h (.set nm p) ⟨⟨n0, n1⟩, okp, dp⟩⟩
  refine ⟨_, rfl, ite2d (fun hb => ?_) (fun hb => ?_)⟩
  · refine ⟨_, rfl, rfl, ite2b (fun hb2 => ?_) (fun hb2 => ?_)⟩
    · exact ⟨_, rfl, by simp, _, rfl, h (.take nm) ⟨n0, n1⟩⟩
    · exact ⟨_, rfl, _, rfl, by simp, _, rfl, h (.size nm fl) ⟨⟨n0, n1⟩, f0, f1⟩⟩
  refine ⟨_, rfl, ite2d (fun hb => ?_) (fun hb => ?_)⟩
  · refine ⟨_, rfl, _, rfl, _, rfl, rfl, D, names, 2, j, rfl, hj, hn1, hn8, by decide, by decide, fun p okp dp => ?_⟩
    exact ⟨by simp, _, rfl, h (.add fl p) ⟨⟨f0, f1⟩, okp, by omega⟩⟩
  refine ⟨_, rfl, rfl, ite2b (fun hb => ?_) (fun hb => ?_)⟩
  · refine ⟨_, rfl, ?_⟩
    refine dnext (D := D) (j := j) rfl hj (by decide) (by decide) fun x x0 x1 => ?_
    refine ⟨by simp, _, rfl, _, rfl, _, rfl, rfl, D, names, 2, j, rfl, hj, hn1, hn8, by decide, by decide, fun p okp dp => ?_⟩
    exact ⟨by simp, _, rfl, h (.put fl (.num x) p) ⟨⟨f0, f1⟩, ⟨⟨x0, by omega⟩, (by show 1 ≤ 3; decide)⟩, okp, by omega⟩⟩
  refine ⟨_, rfl, rfl, ite2b (fun hb => ?_) (fun hb => ?_)⟩
  · refine ⟨_, rfl, ?_⟩
    refine dnext (D := D) (j := j) rfl hj (by decide) (by decide) fun x x0 x1 => ?_
    refine ⟨by simp, _, rfl, _, rfl, _, rfl, rfl, D, names, 2, j, rfl, hj, hn1, hn8, by decide, by decide, fun p okp dp => ?_⟩
    refine ⟨by simp, _, rfl, ?_⟩
    refine dnext (D := D) (j := j) rfl hj (by decide) (by decide) fun z z0 z1 => ?_
    obtain ⟨d, e1, md⟩ := pick (ds := [(Part.num x).dat, p.dat]) z0 z1
    refine ⟨d, e1, by simp, ?_⟩
    rcases List.mem_cons.mp md with rfl | md
    · exact ⟨_, rfl, h (.cut fl (.num x)) ⟨⟨f0, f1⟩, ⟨x0, by omega⟩, (by show 1 ≤ 3; decide)⟩⟩
    · cases List.mem_singleton.mp md
      exact ⟨_, rfl, h (.cut fl p) ⟨⟨f0, f1⟩, okp, by omega⟩⟩
  refine ⟨_, rfl, rfl, ite2b (fun hb => ?_) (fun hb => ?_)⟩
  · refine ⟨_, rfl, _, rfl, ?_⟩
    refine dnext (D := D) (j := j) rfl hj (by decide) (by decide) fun x x0 x1 => ?_
    exact ⟨by simp, _, rfl, by simp, _, rfl, h (.get nm fl (.num x)) ⟨⟨n0, n1⟩, ⟨f0, f1⟩, ⟨x0, by omega⟩, (by show 1 ≤ 3; decide)⟩⟩
  refine ⟨_, rfl, ite2d (fun hb => ?_) (fun hb => ?_)⟩
  · refine ⟨_, rfl, _, rfl, rfl, D, names, 3, j, rfl, hj, hn1, hn8, by decide, by decide, fun p okp dp => ?_⟩
    exact ⟨by simp, _, rfl, h (.send p) ⟨okp, dp⟩⟩
  refine ⟨_, rfl, rfl, ite2b (fun hb => ?_) (fun hb => ?_)⟩
  · exact ⟨by simp, _, rfl, h .mark True.intro⟩
  refine ⟨_, rfl, _, rfl, ?_⟩
  refine dnext (D := D) (j := j) rfl hj (by decide) (by decide) fun x x0 x1 => ?_
  refine dnextE (D := D) (j := j) (many + 1) rfl hj (fun C' q => ⟨_, rfl, q⟩) (by omega) (by omega) fun y y0 y1 => ?_
  refine ⟨by simp, _, rfl, ?_⟩
  refine dnext (D := D) (j := j) rfl hj (by decide) (by decide) fun z z0 z1 => ?_
  refine ⟨cdiv (by decide) (by decide), ?_⟩
  have hz0 : 0 ≤ z / 2 := by omega
  have hz1 : z / 2 < 2 := by omega
  obtain ⟨d, e1, md⟩ := pick (ds := [PyData.int (if at_ + 2 + x < many then at_ + 2 + x else many), PyData.int y]) hz0 hz1
  refine ⟨d, e1, ?_⟩
  obtain ⟨to, rfl, t0, t1⟩ : ∃ to : Int, d = .int to ∧ 0 ≤ to ∧ to ≤ many := by
    rcases List.mem_cons.mp md with rfl | md
    · refine ⟨_, rfl, ?_, ?_⟩ <;> split <;> omega
    · cases List.mem_singleton.mp md
      exact ⟨y, rfl, y0, by omega⟩
  refine ⟨_, rfl, ite2d (fun hb => ?_) (fun hb => ?_)⟩
  · exact ⟨_, rfl, _, rfl, by simp, _, rfl, h (.unl nm to) ⟨⟨n0, n1⟩, t0, by omega⟩⟩
  · refine ⟨_, rfl, _, rfl, iteTd t1 ⟨_, rfl, _, rfl, ?_⟩⟩
    exact ⟨by simp, _, rfl, h (.go (if at_ + 1 > to then at_ + 1 else to)) ⟨by split <;> omega, by split <;> omega⟩⟩
/-! _law_any_handed -/
def spAnyHanded : SpD := fun rs S C => ∃ (D : Addr) (j : Nat), rs = [.val (.ref D)] ∧ S[j]? = some (dice D) ∧ ∀ hs, HandedOk hs → C (.dat (lstI hs)) S
abbrev s__law_any_handed : Stmt := topS 45
abbrev N__law_any_handed : List Str := ["_law_d", "_law_many", "_law_k"]
theorem sc__law_any_handed : FnScope N__law_any_handed ["_law_d"] (defScope s__law_any_handed) := ⟨rfl, rfl, rfl, by decide +kernel, rfl, by decide +kernel, by decide +kernel⟩
theorem ok_any_handed {k : Nat} (F : FunAt K mg "_law_any_handed" s__law_any_handed ["_law_d"]) (B : Blt mg) (D1 : Def P w K mg base "_law_next" 1 2 spNext) : Def P w K mg base "_law_any_handed" (k + 2) 1 spAnyHanded := by
  refine okF F sc__law_any_handed rfl fun cdv A outer s H E f hr => ⟨_,
    (ss_cons (s_set (i := 1) sc__law_any_handed.nd (d_ix (hu_of hr) (d_lst (a_cons (d_callF D1 (hr.mono (by omega)) (by rfl) (a_cons (dv 0) (a_cons d_int a_nil))) (a_cons d_int a_nil))) (d_callF D1 (hr.mono (by omega)) (by rfl) (a_cons (dv 0) (a_cons d_int a_nil)))))
      (ss_one (s_ret (d_lc sc__law_any_handed.nd (i := 2) (i_r1 (by rfl) B.range (a_cons (dv 1) a_nil)) (blkOk_by (N := N__law_any_handed) (sc := defScope s__law_any_handed) (own := [("_law_k", 2)]) (by decide +kernel)) (fun _ _ _ _ _ => pg_name (i := 2) sc__law_any_handed.nd rfl (Or.inl rfl)) (fun _ _ _ _ _ => ts_nil) (fun _ _ _ _ _ => (d_ix (hu_of hr) (d_lst (a_cons (d_callF D1 (hr.mono (by omega)) (by rfl) (a_cons (dv 0) (a_cons d_int a_nil))) (a_cons (d_callF D1 (hr.mono (by omega)) (by rfl) (a_cons (dv 0) (a_cons d_int a_nil))) a_nil))) (d_callF D1 (hr.mono (by omega)) (by rfl) (a_cons (dv 0) (a_cons d_int a_nil)))))))))
    , ?_⟩
  intro rs S C hl h
  obtain ⟨D, j, rfl, hj, h⟩ := h
  refine dnext (D := D) (j := j) rfl hj (by decide) (by decide) fun x x0 x1 => ?_
  refine ⟨by simp, _, rfl, ?_⟩
  refine dnext (D := D) (j := j) rfl hj (by decide) (by decide) fun z z0 z1 => ?_
  obtain ⟨d, e1, md⟩ := pick (ds := [PyData.int x, PyData.int 40]) z0 z1
  refine ⟨d, e1, ?_⟩
  obtain ⟨many, rfl, t0, t1⟩ : ∃ to : Int, d = .int to ∧ 0 ≤ to ∧ to ≤ 40 := by
    rcases List.mem_cons.mp md with rfl | md
    · exact ⟨x, rfl, x0, by omega⟩
    · cases List.mem_singleton.mp md
      exact ⟨40, rfl, by decide, by decide⟩
  refine ⟨_, rfl, ⟨by omega, by omega⟩, lc_nd (fun y => ∃ i : Int, y = .dat (.int i) ∧ 0 ≤ i ∧ i ≤ 10006) (fun k r hk C' q => ?_) (by rw [rng_len]; omega) fun acc hacc hP => ?_⟩
  · refine dnext (D := D) (j := j) rfl hj (by decide) (by decide) fun a a0 a1 => ?_
    refine dnext (D := D) (j := j) rfl hj (by decide) (by decide) fun b b0 b1 => ?_
    refine ⟨by simp, _, rfl, ?_⟩
    refine dnext (D := D) (j := j) rfl hj (by decide) (by decide) fun z z0 z1 => ?_
    obtain ⟨d, e1, md⟩ := pick (ds := [PyData.int a, PyData.int b]) z0 z1
    refine ⟨d, e1, ?_⟩
    rcases List.mem_cons.mp md with rfl | md
    · exact q _ ⟨a, rfl, a0, by omega⟩
    · cases List.mem_singleton.mp md
      exact q _ ⟨b, rfl, b0, by omega⟩
  obtain ⟨hs, rfl, hb⟩ := ints_of_acc hP
  rw [List.length_map, rng_len] at hacc
  exact ⟨_, dats_ints hs, h hs ⟨by omega, hb⟩⟩
end
end K05
set_option Elab.async false
set_option linter.all false
set_option maxRecDepth 100000
set_option maxHeartbeats 4000000
namespace K05
open PySem PySem.Spec PyProof.Rows L2 DL PM
section
variable {P : Program} {w : World} {K : Fg} {mg : Str → Option Value} {base : Heap}
/-! _law_any_program -/
def rowR (rs : List PRow) : List R := rs.map fun r => R.dat r.dat
theorem rowR_len (rs : List PRow) : (rowR rs).length = rs.length := List.length_map _
theorem rowR_set (rs : List PRow) (m : Nat) (r : PRow) : (rowR rs).set m (.dat r.dat) = rowR (rs.set m r) := by
  unfold rowR; rw [List.map_set]
theorem rowR_app (rs : List PRow) (r : PRow) : rowR rs ++ [.dat r.dat] = rowR (rs ++ [r]) := by simp [rowR]
theorem dats_rowR (rs : List PRow) : dats (rowR rs) = some (rs.map PRow.dat) := by
  have := dats_map (rs.map PRow.dat)
  rw [List.map_map] at this
  exact this
theorem rows_of_acc {names files many : Int} : ∀ {acc : List R}, (∀ y ∈ acc, ∃ r : PRow, y = .dat r.dat ∧ r.ok names files many) → ∃ rs : List PRow, acc = rowR rs ∧ ∀ r ∈ rs, r.ok names files many
  | [], _ => ⟨[], rfl, by simp⟩
  | y :: ys, h => by
    obtain ⟨r, rfl, hr⟩ := h y List.mem_cons_self
    obtain ⟨rs, rfl, hrs⟩ := rows_of_acc fun z hz => h z (List.mem_cons_of_mem _ hz)
    exact ⟨r :: rs, rfl, fun z hz => by
      rcases List.mem_cons.mp hz with rfl | hz
      · exact hr
      · exact hrs z hz⟩
def clip (m : Int) : PRow → PRow
  | .go r => .go (if m < r then m else r)
  | .unl n r => .unl n (if m < r then m else r)
  | r => r
theorem clip_ok {names files many m : Int} (hm : many ≤ m) (h0 : 0 ≤ many) {r : PRow} (h : r.ok names files m) : (clip many r).ok names files many := by
  cases r with
  | go r => exact ⟨by have := h.1; split <;> omega, by split <;> omega⟩
  | unl n r => exact ⟨h.1, by have := h.2.1; split <;> omega, by split <;> omega⟩
  | _ => exact h
theorem ok_mono {names files many m : Int} (hm : many ≤ m) {r : PRow} (h : r.ok names files many) : r.ok names files m := by
  cases r with
  | go r => exact ⟨h.1, by have := h.2; omega⟩
  | unl n r => exact ⟨h.1, h.2.1, by have := h.2.2; omega⟩
  | _ => exact h
theorem set_row {p : Addr} {rs : List PRow} {i : Int} {r : PRow} {S : SH} {C : SH → Prop} (h0 : 0 ≤ i) (h1 : i < rs.length) (q : C (.lst p (rowR (rs.set i.toNat r)) :: S)) : fSet (.val (.ref p)) (.dat (.int i)) (.dat r.dat) (.lst p (rowR rs) :: S) C := by
  refine .inl ⟨0, _, i.toNat, rfl, ?_, ?_⟩
  · unfold ixN
    rw [rowR_len, if_pos h0, if_pos h1]
  · rw [rowR_set]; exact q
theorem lcK_rows {E : List R → SH → CR0 → Prop} {rs : List PRow} {fr : Fr} {S : SH} {C : CR0} {i : Nat} {de : DE} {p : Addr} (g : PRow → PRow) (hm : Cell.lst p (rowR rs) ∈ S)
    (he : ∀ r, r ∈ rs → ∀ C' : CR0, C' (.dat (g r).dat) S → de (fr.set i (some (.dat r.dat))) S C') (hl : rs.length ≤ 100000) (h : E (rowR (rs.map g)) S C) : ∃ items' : List R, Cell.lst p items' ∈ S ∧ ∃ I : Nat → List R → SH → Prop, I 0 [] S ∧ (∀ k acc S, I k acc S → Cell.lst p items' ∈ S) ∧
    (∀ k r acc S, items'[k]? = some r → I k acc S → dYes (fr.set i (some r)) S fun b S2 => if b = true then de (fr.set i (some r)) S2 fun y S3 => acc.length < 100000 ∧ I (k + 1) (acc ++ [y]) S3 else I (k + 1) acc S2) ∧
    ∀ acc S, I items'.length acc S → E acc S C := by
  refine ⟨rowR rs, hm, fun k acc S' => S' = S ∧ acc = rowR ((rs.take k).map g), ⟨rfl, rfl⟩, fun k acc S' z => by rw [z.1]; exact hm, ?_, ?_⟩
  · rintro k r acc S' hk ⟨rfl, rfl⟩
    unfold rowR at hk
    rw [List.getElem?_map] at hk
    cases hk2 : rs[k]? with
    | none => rw [hk2] at hk; cases hk
    | some r0 =>
    rw [hk2] at hk
    cases hk
    have hmem : r0 ∈ rs := List.mem_of_getElem? hk2
    obtain ⟨hlt, _⟩ := List.getElem?_eq_some_iff.mp hk2
    have et : rs.take (k + 1) = rs.take k ++ [r0] := by rw [List.take_add_one, hk2]; rfl
    refine he r0 hmem _ ⟨?_, rfl, ?_⟩
    · rw [rowR_len, List.length_map]
      have h2 := List.length_take_le k rs
      omega
    · rw [et, List.map_append, rowR_app]; rfl
  · rintro acc S' ⟨rfl, rfl⟩
    rw [rowR_len, List.take_length]; exact h
theorem mem_set {α : Type} {xs : List α} {m : Nat} {a b : α} (h : b ∈ xs.set m a) : b = a ∨ b ∈ xs := by
  rcases List.mem_or_eq_of_mem_set h with h | h
  · exact .inr h
  · exact .inl h
def spAnyProgram : SpD := fun rs S C => ∃ (D : Addr) (most : Int) (j : Nat), rs = [.val (.ref D), .dat (.int most)] ∧ S[j]? = some (dice D) ∧ 0 ≤ most ∧ most ≤ 58 ∧ ∀ p : Prog, p.ok → (p.rows.length : Int) ≤ most + 1 → C (.dat p.dat) S
abbrev s__law_any_program : Stmt := topS 44
abbrev N__law_any_program : List Str := ["_law_d", "_law_most", "_law_names", "_law_files", "_law_loop", "_law_many", "_law_rows", "_law_at", "_law_row"]
theorem sc__law_any_program : FnScope N__law_any_program ["_law_d", "_law_most"] (defScope s__law_any_program) := ⟨rfl, rfl, rfl, by decide +kernel, rfl, by decide +kernel, by decide +kernel⟩
theorem ok_any_program {k : Nat} (F : FunAt K mg "_law_any_program" s__law_any_program ["_law_d", "_law_most"]) (B : Blt mg) (D1 : Def P w K mg base "_law_next" 1 2 spNext) (D2 : Def P w K mg base "_law_any_row" 6 5 spAnyRow) : Def P w K mg base "_law_any_program" (k + 7) 2 spAnyProgram := by
  refine okW F sc__law_any_program rfl fun cdv A outer s H E f hr => ⟨_,
    (ss_cons (s_asg (d_tup (a_cons (d_add d_int (d_callF D1 (hr.mono (by omega)) (by rfl) (a_cons (dv 0) (a_cons d_int a_nil)))) (a_cons (d_add d_int (d_callF D1 (hr.mono (by omega)) (by rfl) (a_cons (dv 0) (a_cons d_int a_nil)))) a_nil))) (g_tup (gs_cons (g_name (i := 2) sc__law_any_program.nd) (gs_cons (g_name (i := 3) sc__law_any_program.nd) gs_nil))))
      (ss_cons (s_set (i := 4) sc__law_any_program.nd (d_eq hr.units (d_callF D1 (hr.mono (by omega)) (by rfl) (a_cons (dv 0) (a_cons d_int a_nil))) d_int))
      (ss_cons (s_set (i := 5) sc__law_any_program.nd (d_callF D1 (hr.mono (by omega)) (by rfl) (a_cons (dv 0) (a_cons (d_add (dv 1) d_int) a_nil))))
      (ss_cons (s_lcC (j := 6) sc__law_any_program.nd (i := 7) (i_r1 (by rfl) B.range (a_cons (dv 5) a_nil)) (blkOk_by (N := N__law_any_program) (sc := defScope s__law_any_program) (own := [("_law_at", 7)]) (by decide +kernel)) (fun _ _ _ _ _ => pg_name (i := 7) sc__law_any_program.nd rfl (Or.inl rfl)) (fun _ _ _ _ _ => ts_nil) (fun _ _ _ _ _ => (d_callF D2 (hr.mono (by omega)) (by rfl) (a_cons (dv 0) (a_cons (dv 2) (a_cons (dv 3) (a_cons (dv 7) (a_cons (dv 5) a_nil))))))))
      (ss_cons (s_if (PDW.pt (w_and (t_val (dv 4)) (w_and1 (t_gt (dv 5) d_int))))
      (ss_cons (s_set (i := 7) sc__law_any_program.nd (d_callF D1 (hr.mono (by omega)) (by rfl) (a_cons (dv 0) (a_cons (d_sub (dv 5) d_int) a_nil))))
      (ss_cons (s_asg (d_tup (a_cons d_str (a_cons (d_sub (dv 2) d_int) (a_cons (d_tup (a_cons d_str (a_cons (d_add d_int (d_callF D1 (hr.mono (by omega)) (by rfl) (a_cons (dv 0) (a_cons d_int a_nil)))) a_nil))) a_nil)))) (g_sub (hu_of hr) (dv 6) d_int))
      (ss_cons (s_asg (d_tup (a_cons d_str (a_cons (d_sub (dv 2) d_int) (a_cons (d_tup (a_cons d_str (a_cons (d_tup (a_cons d_str (a_cons (d_sub (dv 2) d_int) a_nil))) (a_cons (d_tup (a_cons d_str (a_cons d_int a_nil))) a_nil)))) a_nil)))) (g_sub (hu_of hr) (dv 6) (d_sub (dv 5) d_int)))
      (ss_cons (s_asg (d_tup (a_cons d_str (a_cons (d_sub (dv 2) d_int) (a_cons (dv 5) a_nil)))) (g_sub (hu_of hr) (dv 6) (d_sub (dv 5) d_int)))
      (ss_cons (s_expr (d_appT (dv 6) (d_tup (a_cons d_str (a_cons (d_add d_int (dv 7)) a_nil)))))
      (ss_cons (s_lcK (j := 6) (fun _ => end_cel) sc__law_any_program.nd (i := 8) (dv 6) (blkOk_by (N := N__law_any_program) (sc := defScope s__law_any_program) (own := [("_law_row", 8)]) (by decide +kernel)) (fun _ _ _ _ _ => pg_name (i := 8) sc__law_any_program.nd rfl (Or.inl rfl)) (fun _ _ _ _ _ => ts_nil) (fun _ _ _ _ _ => (d_if (t_in (d_ix (hu_of hr) (dv 8) d_int) (d_tup (a_cons d_str (a_cons d_str a_nil)))) (d_add (d_slice (dv 8) o_none (o_some (d_neg d_int))) (d_tup (a_cons (d_min2 (by rfl) B.min (a_cons (d_ix (hu_of hr) (dv 8) (d_neg d_int)) (a_cons (d_add (dv 5) d_int) a_nil))) a_nil))) (dv 8))))
      (ss_one (s_asg (d_tup (a_cons d_str (a_cons (d_sub (dv 2) d_int) (a_cons (d_add (dv 5) d_int) a_nil)))) (g_sub (hu_of hr) (dv 6) (d_sub (dv 5) d_int))))))))))
      ss_nil)
      (ss_one (s_ret (d_tup (a_cons (dv 2) (a_cons (dv 3) (a_cons (d_tuple (by rfl) B.tuple (a_cons (dv 6) a_nil)) a_nil)))))))))))
    , ?_⟩
  intro rs S C hl h
  obtain ⟨D, most, j, rfl, hj, hm0, hm1, h⟩ := h
  refine dnext (D := D) (j := j) rfl hj (by decide) (by decide) fun nm n0 n1 => ?_
  refine dnext (D := D) (j := j) rfl hj (by decide) (by decide) fun fl f0 f1 => ?_
  refine ⟨le_ok rfl, _, rfl, ?_⟩
  refine ⟨rfl, ?_⟩
  dsimp only [List.map, gCn, gNl, gnm]
  refine ⟨rfl, ?_⟩
  dsimp only [sSeq, sAsg]
  refine dnext (D := D) (j := j) rfl hj (by decide) (by decide) fun lp l0 l1 => ?_
  refine ⟨rfl, ?_⟩
  refine dnextE (D := D) (j := j) (most + 1) rfl hj (fun C' q => ⟨_, rfl, q⟩) (by omega) (by omega) fun many m0 m1 => ?_
  refine ⟨_, rfl, ⟨by omega, by omega⟩, lc_nd (fun y => ∃ r : PRow, y = .dat r.dat ∧ r.ok (1 + nm) (1 + fl) many) (fun k r hk C' q => ?_) (by rw [rng_len]; omega) fun acc hacc hP p => ?_⟩
  · obtain ⟨k1, rfl⟩ := rng_get hk
    exact ⟨_, rfl, _, rfl, _, rfl, _, rfl, _, rfl, rfl, D, _, _, _, _, j, rfl, hj, by omega, by omega, by omega, by omega, by omega, by omega, by omega, fun r hr => q _ ⟨r, rfl, hr⟩⟩
  obtain ⟨rs, rfl, hrs⟩ := rows_of_acc hP
  rw [rowR_len, rng_len] at hacc
  have hj2 : ∀ xs, (Cell.lst p xs :: S)[j + 1]? = some (dice D) := fun xs => by simpa using hj
  -- the end
  have fin : ∀ (Dn : DEnds) (q : Addr) (T : SH) (rs' : List PRow) (fr : Fr), Dn.rt = WkC C → (rs'.length : Int) ≤ most + 1 → (∀ r ∈ rs', r.ok (1 + nm) (1 + fl) rs'.length) → S.Sublist T → fr[2]? = some (some (.dat (.int (1 + nm)))) → fr[3]? = some (some (.dat (.int (1 + fl)))) → fr[6]? = some (some (.val (.ref q))) →
      sRet (dTup (dCons (dVar 2) (dCons (dVar 3) (dCons (dCB fTuple (dCons (dVar 6) dNil)) dNil)))) Dn fr (.lst q (rowR rs') :: T) := by
    intro Dn q T rs' fr hD hl hok hS e2 e3 e6
    refine ⟨_, e2, _, e3, _, e6, 0, _, _, rfl, dats_rowR rs', le_ok rfl, _, rfl, ?_⟩
    dsimp only
    rw [hD]
    exact ⟨_, S, wkn_sub (List.Perm.refl _) (hS.trans (List.sublist_cons_self _ _)), h ⟨1 + nm, 1 + fl, rs'⟩ ⟨⟨by show 1 ≤ 1 + nm; omega, by show 1 + nm ≤ 8; omega⟩, ⟨by show 1 ≤ 1 + fl; omega, by show 1 + fl ≤ 4; omega⟩, by show rs'.length ≤ 60; omega, hok⟩ hl⟩
  refine ⟨_, rfl, ?_⟩
  refine ite2b (fun hb => ?_) (fun hb => ?_)
  · refine ⟨_, rfl, ite2d (fun hb2 => ?_) (fun hb2 => ?_)⟩
    · refine dnextE (D := D) (j := j + 1) (many - 2) rfl (hj2 _) (fun C' q => ⟨_, rfl, q⟩) (by omega) (by omega) fun at_ a0 a1 => ?_
      refine ⟨_, rfl, ?_⟩
      refine dnext (D := D) (j := j + 1) rfl (hj2 _) (by decide) (by decide) fun x x0 x1 => ?_
      refine ⟨le_ok rfl, _, rfl, le_ok rfl, _, rfl, _, rfl, ?_⟩
      refine set_row (r := .set (1 + nm - 1) (.num (1 + x))) (by omega) (by omega) ?_
      refine ⟨_, rfl, _, rfl, le_ok rfl, _, rfl, le_ok rfl, _, rfl, le_ok rfl, _, rfl, le_ok rfl, _, rfl, _, rfl, _, rfl, ?_⟩
      refine set_row (r := .set (1 + nm - 1) (.op .diff (.name (1 + nm - 1)) (.num 1))) (by omega) (by rw [List.length_set]; omega) ?_
      refine ⟨_, rfl, _, rfl, le_ok rfl, _, rfl, _, rfl, _, rfl, ?_⟩
      refine set_row (r := .unl (1 + nm - 1) many) (by omega) (by rw [List.length_set, List.length_set]; omega) ?_
      refine ⟨_, rfl, ⟨0, _, rfl⟩, _, rfl, le_ok rfl, _, rfl, 0, _, rfl, by rw [rowR_len, List.length_set, List.length_set, List.length_set]; omega, ?_⟩
      generalize hrs1 : ((rs.set (Int.toNat 0) (PRow.set (1 + nm - 1) (Part.num (1 + x)))).set (many - 2).toNat (PRow.set (1 + nm - 1) (Part.op Op3.diff (Part.name (1 + nm - 1)) (Part.num 1)))).set (many - 1).toNat (PRow.unl (1 + nm - 1) many) = rs1
      have hl1 : rs1.length = many.toNat := by rw [← hrs1, List.length_set, List.length_set, List.length_set, hacc]
      have hok1 : ∀ r ∈ rs1, r.ok (1 + nm) (1 + fl) (many + 1) := by
        intro r hr
        rw [← hrs1] at hr
        rcases mem_set hr with rfl | hr
        · exact ⟨⟨by omega, by omega⟩, by omega, by omega⟩
        rcases mem_set hr with rfl | hr
        · exact ⟨⟨by omega, by omega⟩, ⟨⟨by omega, by omega⟩, by decide, by decide⟩, (by show 2 ≤ 3; decide)⟩
        rcases mem_set hr with rfl | hr
        · exact ⟨⟨by omega, by omega⟩, ⟨by omega, by omega⟩, (by show 1 ≤ 3; decide)⟩
        exact ok_mono (by omega) (hrs r hr)
      have e1 : rowR rs1 ++ [R.dat (PRow.go (1 + at_)).dat] = rowR (rs1 ++ [.go (1 + at_)]) := rowR_app _ _
      generalize hrs2 : rs1 ++ [PRow.go (1 + at_)] = rs2 at e1
      have hl2 : rs2.length = many.toNat + 1 := by rw [← hrs2, List.length_append, hl1]; rfl
      have hok2 : ∀ r ∈ rs2, r.ok (1 + nm) (1 + fl) (many + 1) := by
        intro r hr
        rw [← hrs2] at hr
        rcases List.mem_append.mp hr with hr | hr
        · exact hok1 r hr
        · cases List.mem_singleton.mp hr
          exact ⟨by omega, by omega⟩
      have e2 : (Cell.lst p (rowR rs1) :: S).set 0 (Cell.lst p (rowR rs1 ++ [R.dat (PRow.go (1 + at_)).dat])) = Cell.lst p (rowR rs2) :: S := by rw [e1]; rfl
      dsimp only
      have e3 : PyData.tuple [PyData.str "go", PyData.int (1 + at_)] = (PRow.go (1 + at_)).dat := rfl
      rw [e3, e2]
      refine ⟨_, rfl, lcK_rows (rs := rs2) (clip (many + 1)) List.mem_cons_self (fun r hr C' q => ?_) (by omega) fun q => ?_⟩
      · refine ⟨_, rfl, _, at0, le_ok rfl, _, rfl, ?_⟩
        cases r with
        | go r =>
          refine ⟨rfl, rfl, ?_⟩
          refine ⟨_, rfl, ?_⟩
          refine ⟨_, rfl, _, rfl, _, rfl, le_ok rfl, _, rfl, ?_⟩
          exact ⟨le_ok rfl, q⟩
        | unl n r =>
          refine ⟨rfl, rfl, ?_⟩
          refine ⟨_, rfl, ?_⟩
          refine ⟨_, rfl, _, rfl, _, rfl, le_ok rfl, _, rfl, ?_⟩
          exact ⟨le_ok rfl, q⟩
        | set n a => exact ⟨rfl, rfl, _, rfl, q⟩
        | take n => exact ⟨rfl, rfl, _, rfl, q⟩
        | add f a => exact ⟨rfl, rfl, _, rfl, q⟩
        | put f a b => exact ⟨rfl, rfl, _, rfl, q⟩
        | cut f a => exact ⟨rfl, rfl, _, rfl, q⟩
        | get n f a => exact ⟨rfl, rfl, _, rfl, q⟩
        | size n f => exact ⟨rfl, rfl, _, rfl, q⟩
        | send a => exact ⟨rfl, rfl, _, rfl, q⟩
        | mark => exact ⟨rfl, rfl, _, rfl, q⟩
      refine ⟨_, rfl, _, rfl, le_ok rfl, _, rfl, _, rfl, _, rfl, ?_⟩
      refine set_row (r := .unl (1 + nm - 1) (many + 1)) (by omega) (by rw [List.length_map]; omega) ?_
      refine fin _ _ _ _ _ rfl (by rw [List.length_set, List.length_map]; omega) (fun r hr => ?_) (List.sublist_cons_self _ _) rfl rfl rfl
      rw [List.length_set, List.length_map, hl2]
      have e5 : ((many.toNat + 1 : Nat) : Int) = many + 1 := by omega
      rw [e5]
      rcases mem_set hr with rfl | hr
      · exact ⟨⟨by omega, by omega⟩, by omega, by omega⟩
      obtain ⟨r', hr', rfl⟩ := List.mem_map.mp hr
      exact clip_ok (by omega) (by omega) (hok2 r' hr')
    · exact fin _ _ _ rs _ rfl (by rw [hacc]; omega) (fun r hr => by rw [hacc, toNat_cast m0]; exact hrs r hr) (List.Sublist.refl _) rfl rfl rfl
  · exact fin _ _ _ rs _ rfl (by rw [hacc]; omega) (fun r hr => by rw [hacc, toNat_cast m0]; exact hrs r hr) (List.Sublist.refl _) rfl rfl rfl
end
end K05
set_option Elab.async false
set_option linter.all false
set_option maxRecDepth 100000
set_option maxHeartbeats 4000000
namespace K05
open PySem PySem.Spec PyProof.Rows L2 DL PM
section
variable {P : Program} {w : World} {K : Fg} {mg : Str → Option Value} {base : Heap}
/-! shape_of -/
abbrev shapes : List (Str × Str) := [(Str.ofString "set", Str.ofString "nx"), (Str.ofString "take", Str.ofString "n"), (Str.ofString "add", Str.ofString "fx"), (Str.ofString "put", Str.ofString "fxx"), (Str.ofString "cut", Str.ofString "fx"), (Str.ofString "get", Str.ofString "nfx"), (Str.ofString "size", Str.ofString "nf"), (Str.ofString "send", Str.ofString "x")]
abbrev jumps : List (Str × Str) := [(Str.ofString "go", Str.ofString "r"), (Str.ofString "unless", Str.ofString "nr"), (Str.ofString "mark", Str.ofString "")]
def shapeD (z : Str) : PyData := match shapes.lookup z with
  | some v => .str v
  | none => match jumps.lookup z with
    | some v => .str v
    | none => .none
def spShapeOf : SpD := fun rs S C => ∃ z, rs = [.dat (.str z)] ∧ C (.dat (shapeD z)) S
abbrev s_shape_of : Stmt := topS 21
abbrev N_shape_of : List Str := ["word"]
theorem sc_shape_of : FnScope N_shape_of ["word"] (defScope s_shape_of) := ⟨rfl, rfl, rfl, by decide +kernel, rfl, by decide +kernel, by decide +kernel⟩
theorem ok_shape_of {k : Nat} {aS aJ : Addr} (F : FunAt K mg "shape_of" s_shape_of ["word"]) (B : Blt mg) (c1 : mg "SHAPES" = some (.ref aS)) (t1 : KTab K w aS shapes) (c2 : mg "JUMPS" = some (.ref aJ)) (t2 : KTab K w aJ jumps) : Def P w K mg base "shape_of" (k + 1) 1 spShapeOf := by
  refine okF F sc_shape_of rfl fun cdv A outer s H E f hr => ⟨_,
    (ss_one (s_ret (d_kget t1 (by rfl) c1 (dv 0) (d_kget t2 (by rfl) c2 (dv 0) d_non))))
    , ?_⟩
  intro rs S C hl h
  obtain ⟨z, rfl, h⟩ := h
  refine ⟨_, rfl, _, rfl, ?_⟩
  unfold shapeD at h
  show C (match shapes.lookup z with | some v => .dat (.str v) | none => match jumps.lookup z with | some v => .dat (.str v) | none => .dat .none) S
  cases e1 : shapes.lookup z with
  | some v => rw [e1] at h; exact h
  | none =>
    rw [e1] at h
    cases e2 : jumps.lookup z with
    | some v => rw [e2] at h; exact h
    | none => rw [e2] at h; exact h
theorem shape_len (r : PRow) : r.shape.length ≤ 100000 := by cases r <;> exact Nat.le_of_ble_eq_true rfl
theorem shape_row (r : PRow) : shapeD r.word = .str r.shape := by cases r <;> rfl
/-! why_not -/
local macro_rules | `(tactic| walk_at "pair") => `(tactic| refine ⟨rfl, rfl, ?_⟩)
local macro_rules | `(tactic| walk_at "off") => `(tactic| refine ⟨_, rfl, rfl, iteFb rfl (iteFb rfl ?_)⟩)
local macro_rules | `(tactic| walk_at "num") => `(tactic| refine ⟨_, rfl, rfl, iteTb rfl ⟨_, rfl, _, rfl, rfl, _, _, _, rfl, (fun z => nomatch z), iteFb (by simp [isNum]; omega) ?_⟩⟩)
local macro_rules | `(tactic| walk_at "part") => `(tactic| refine ⟨_, rfl, rfl, iteTb rfl ⟨_, rfl, _, rfl, rfl, _, _, _, rfl, by assumption, by omega, by omega, by omega, iteFb rfl ?_⟩⟩)

def spWhyNot : SpD := fun rs S C => ∃ (r : PRow) (names files many : Int), rs = [.dat r.dat, .dat (.int names), .dat (.int files), .dat (.int many)] ∧ r.ok names files many ∧ C (.dat .none) S
abbrev s_why_not : Stmt := topS 22
abbrev N_why_not : List Str := ["row", "names", "files", "many", "shape", "kind", "part"]
theorem sc_why_not : FnScope N_why_not ["row", "names", "files", "many"] (defScope s_why_not) := ⟨rfl, rfl, rfl, by decide +kernel, rfl, by decide +kernel, by decide +kernel⟩
theorem ok_why_not {k : Nat} {t1 : Tok} (F : FunAt K mg "why_not" s_why_not ["row", "names", "files", "many"]) (B : Blt mg) (D1 : Def P w K mg base "is_number" 1 3 spIsNumber) (D2 : Def P w K mg base "is_part" 5 3 (spIsPart 3)) (D3 : Def P w K mg base "shape_of" 1 1 spShapeOf) (c1 : mg "MOST_DEEP" = some (.int 3 t1)) : Def P w K mg base "why_not" (k + 6) 4 spWhyNot := by
  refine okF F sc_why_not rfl fun cdv A outer s H E f hr => ⟨_,
    (ss_cons (s_if (PDW.pt (w_or (t_not (t_val (d_isi kit_tuple (by rfl) B.isinstance (a_cons (dv 0) (a_cons (d_bltn (v := .ty "tuple") (by rfl) B.tuple (by decide +kernel) rfl) a_nil))))) (w_or (t_eq hr.units (dv 0) (d_tup a_nil)) (w_or (t_not (t_val (d_isi kit_str (by rfl) B.isinstance (a_cons (d_ix (hu_of hr) (dv 0) d_int) (a_cons (d_bltn (v := .ty "str") (by rfl) B.str (by decide +kernel) rfl) a_nil))))) (w_or1 (t_isN (d_callF D3 (hr.mono (by omega)) (by rfl) (a_cons (d_ix (hu_of hr) (dv 0) d_int) a_nil)) d_non))))))
      (ss_one (s_ret d_str))
      ss_nil)
      (ss_cons (s_set (i := 4) sc_why_not.nd (d_callF D3 (hr.mono (by omega)) (by rfl) (a_cons (d_ix (hu_of hr) (dv 0) d_int) a_nil)))
      (ss_cons (s_if (t_ne hr.units (d_len (by rfl) B.len (a_cons (dv 0) a_nil)) (d_add (d_len (by rfl) B.len (a_cons (dv 4) a_nil)) d_int))
      (ss_one (s_ret d_str))
      ss_nil)
      (ss_cons (s_for (i_zipS (by rfl) B.zip (a_cons (dv 4) (a_cons (d_slice (dv 0) (o_some d_int) o_none) a_nil))) (g_tup (gs_cons (g_name (i := 5) sc_why_not.nd) (gs_cons (g_name (i := 6) sc_why_not.nd) gs_nil)))
      (ss_cons (s_if (PDW.pt (w_and (t_eq hr.units (dv 5) d_str) (w_and1 (t_not (t_val (d_callF D1 (hr.mono (by omega)) (by rfl) (a_cons (dv 6) (a_cons d_int (a_cons (d_sub (dv 1) d_int) a_nil)))))))))
      (ss_one (s_ret d_str))
      ss_nil)
      (ss_cons (s_if (PDW.pt (w_and (t_eq hr.units (dv 5) d_str) (w_and1 (t_not (t_val (d_callF D1 (hr.mono (by omega)) (by rfl) (a_cons (dv 6) (a_cons d_int (a_cons (d_sub (dv 2) d_int) a_nil)))))))))
      (ss_one (s_ret d_str))
      ss_nil)
      (ss_cons (s_if (PDW.pt (w_and (t_eq hr.units (dv 5) d_str) (w_and1 (t_not (t_val (d_callF D1 (hr.mono (by omega)) (by rfl) (a_cons (dv 6) (a_cons d_int (a_cons (dv 3) a_nil)))))))))
      (ss_one (s_ret d_str))
      ss_nil)
      (ss_one (s_if (PDW.pt (w_and (t_eq hr.units (dv 5) d_str) (w_and1 (t_not (t_val (d_callF D2 (hr.mono (by omega)) (by rfl) (a_cons (dv 6) (a_cons (dv 1) (a_cons (d_globI (by rfl) c1) a_nil)))))))))
      (ss_one (s_ret d_str))
      ss_nil))))))
      (ss_one (s_ret d_non))))))
    , ?_⟩
  intro rs S C hl h
  obtain ⟨r, names, files, many, rfl, ok, h⟩ := h
  have hsh : SeqAt.shaped r.dat = true := shaped_mk r.lay (by have := PRow.depth ok; omega)
  have he : eqOk r.dat (.tuple []) = true := eqOk_mk hsh (by decide)
  have e0 : ∀ (x : PyData) (xs : List PyData), PyData.eqv (.tuple (x :: xs)) (.tuple []) = false := fun x xs => by rw [PyData.eqv, PyData.eqvAll]
  refine ⟨_, rfl, rfl, _, rfl, iteFb rfl ⟨_, rfl, Nat.zero_le _, _, rfl, he, iteFb (e0 _ _) ⟨_, rfl, ⟨_, at0, rfl, _, rfl, iteFb rfl ⟨_, rfl, ⟨_, at0, rfl, _, rfl, ?_⟩⟩⟩⟩⟩⟩
  rw [shape_row]
  dsimp only [dC, fIsN]
  refine iteFb ?_ ?_
  · rfl
  refine ⟨_, rfl, ⟨_, at0, rfl, _, rfl, ?_⟩⟩
  rw [shape_row]
  cases r with
  | set n p =>
    obtain ⟨⟨n1, n2⟩, hp, hd⟩ := ok
    refine ⟨_, rfl, _, rfl, shape_len _, rfl, iteFb rfl ⟨_, rfl, _, rfl, loop_unroll ?_⟩⟩
    walk_at "pair"; walk_at "num"; walk_at "off"; walk_at "off"; walk_at "off"
    walk_at "pair"; walk_at "off"; walk_at "off"; walk_at "off"; walk_at "part"
    exact h
  | take n =>
    obtain ⟨n1, n2⟩ := ok
    refine ⟨_, rfl, _, rfl, shape_len _, rfl, iteFb rfl ⟨_, rfl, _, rfl, loop_unroll ?_⟩⟩
    walk_at "pair"; walk_at "num"; walk_at "off"; walk_at "off"; walk_at "off"
    exact h
  | add n p =>
    obtain ⟨⟨n1, n2⟩, hp, hd⟩ := ok
    refine ⟨_, rfl, _, rfl, shape_len _, rfl, iteFb rfl ⟨_, rfl, _, rfl, loop_unroll ?_⟩⟩
    walk_at "pair"; walk_at "off"; walk_at "num"; walk_at "off"; walk_at "off"
    walk_at "pair"; walk_at "off"; walk_at "off"; walk_at "off"; walk_at "part"
    exact h
  | put n p q =>
    obtain ⟨⟨n1, n2⟩, ⟨hp, hd⟩, hq, he⟩ := ok
    refine ⟨_, rfl, _, rfl, shape_len _, rfl, iteFb rfl ⟨_, rfl, _, rfl, loop_unroll ?_⟩⟩
    walk_at "pair"; walk_at "off"; walk_at "num"; walk_at "off"; walk_at "off"
    walk_at "pair"; walk_at "off"; walk_at "off"; walk_at "off"; walk_at "part"
    walk_at "pair"; walk_at "off"; walk_at "off"; walk_at "off"; walk_at "part"
    exact h
  | cut n p =>
    obtain ⟨⟨n1, n2⟩, hp, hd⟩ := ok
    refine ⟨_, rfl, _, rfl, shape_len _, rfl, iteFb rfl ⟨_, rfl, _, rfl, loop_unroll ?_⟩⟩
    walk_at "pair"; walk_at "off"; walk_at "num"; walk_at "off"; walk_at "off"
    walk_at "pair"; walk_at "off"; walk_at "off"; walk_at "off"; walk_at "part"
    exact h
  | get n f p =>
    obtain ⟨⟨n1, n2⟩, ⟨f1, f2⟩, hp, hd⟩ := ok
    refine ⟨_, rfl, _, rfl, shape_len _, rfl, iteFb rfl ⟨_, rfl, _, rfl, loop_unroll ?_⟩⟩
    walk_at "pair"; walk_at "num"; walk_at "off"; walk_at "off"; walk_at "off"
    walk_at "pair"; walk_at "off"; walk_at "num"; walk_at "off"; walk_at "off"
    walk_at "pair"; walk_at "off"; walk_at "off"; walk_at "off"; walk_at "part"
    exact h
  | size n f =>
    obtain ⟨⟨n1, n2⟩, ⟨f1, f2⟩⟩ := ok
    refine ⟨_, rfl, _, rfl, shape_len _, rfl, iteFb rfl ⟨_, rfl, _, rfl, loop_unroll ?_⟩⟩
    walk_at "pair"; walk_at "num"; walk_at "off"; walk_at "off"; walk_at "off"
    walk_at "pair"; walk_at "off"; walk_at "num"; walk_at "off"; walk_at "off"
    exact h
  | send p =>
    obtain ⟨hp, hd⟩ := ok
    refine ⟨_, rfl, _, rfl, shape_len _, rfl, iteFb rfl ⟨_, rfl, _, rfl, loop_unroll ?_⟩⟩
    walk_at "pair"; walk_at "off"; walk_at "off"; walk_at "off"; walk_at "part"
    exact h
  | go n =>
    obtain ⟨n1, n2⟩ := ok
    refine ⟨_, rfl, _, rfl, shape_len _, rfl, iteFb rfl ⟨_, rfl, _, rfl, loop_unroll ?_⟩⟩
    walk_at "pair"; walk_at "off"; walk_at "off"; walk_at "num"; walk_at "off"
    exact h
  | unl n f =>
    obtain ⟨⟨n1, n2⟩, ⟨f1, f2⟩⟩ := ok
    refine ⟨_, rfl, _, rfl, shape_len _, rfl, iteFb rfl ⟨_, rfl, _, rfl, loop_unroll ?_⟩⟩
    walk_at "pair"; walk_at "num"; walk_at "off"; walk_at "off"; walk_at "off"
    walk_at "pair"; walk_at "off"; walk_at "off"; walk_at "num"; walk_at "off"
    exact h
  | mark =>
    refine ⟨_, rfl, _, rfl, shape_len _, rfl, iteFb rfl ⟨_, rfl, _, rfl, loop_unroll ?_⟩⟩
    exact h
end
end K05
set_option Elab.async false
set_option linter.all false
set_option maxRecDepth 100000
set_option maxHeartbeats 4000000
namespace K05
open PySem PySem.Spec PyProof.Rows L2 DL PM
section
variable {P : Program} {w : World} {K : Fg} {mg : Str → Option Value} {base : Heap}
/-! need_program -/
def spNeedProgram : SpD := fun rs S C => ∃ p : Prog, rs = [.dat p.dat] ∧ p.ok ∧ C (.dat .none) S
abbrev s_need_program : Stmt := topS 23
abbrev N_need_program : List Str := ["program", "names", "files", "rows", "number", "row", "why"]
theorem sc_need_program : FnScope N_need_program ["program"] (defScope s_need_program) := ⟨rfl, rfl, rfl, by decide +kernel, rfl, by decide +kernel, by decide +kernel⟩
theorem ok_need_program {k : Nat} {t1 t2 t3 : Tok} (F : FunAt K mg "need_program" s_need_program ["program"]) (B : Blt mg) (D1 : Def P w K mg base "is_number" 1 3 spIsNumber) (D2 : Def P w K mg base "why_not" 6 4 spWhyNot) (c1 : mg "MOST_NAMES" = some (.int 8 t1)) (c2 : mg "MOST_FILES" = some (.int 4 t2)) (c3 : mg "MOST_ROWS" = some (.int 60 t3)) : Def P w K mg base "need_program" (k + 7) 1 spNeedProgram := by
  refine okF F sc_need_program rfl fun cdv A outer s H E f hr => ⟨_,
    (ss_cons (s_if (PDW.pt (w_or (t_not (t_val (d_isi kit_tuple (by rfl) B.isinstance (a_cons (dv 0) (a_cons (d_bltn (v := .ty "tuple") (by rfl) B.tuple (by decide +kernel) rfl) a_nil))))) (w_or (t_ne hr.units (d_len (by rfl) B.len (a_cons (dv 0) a_nil)) d_int) (w_or1 (t_not (t_val (d_isi kit_tuple (by rfl) B.isinstance (a_cons (d_ix (hu_of hr) (dv 0) d_int) (a_cons (d_bltn (v := .ty "tuple") (by rfl) B.tuple (by decide +kernel) rfl) a_nil)))))))))
      (ss_one s_never)
      ss_nil)
      (ss_cons (s_asg (dv 0) (g_tup (gs_cons (g_name (i := 1) sc_need_program.nd) (gs_cons (g_name (i := 2) sc_need_program.nd) (gs_cons (g_name (i := 3) sc_need_program.nd) gs_nil)))))
      (ss_cons (s_if (t_not (t_val (d_callF D1 (hr.mono (by omega)) (by rfl) (a_cons (dv 1) (a_cons d_int (a_cons (d_globI (by rfl) c1) a_nil))))))
      (ss_one s_never)
      ss_nil)
      (ss_cons (s_if (t_not (t_val (d_callF D1 (hr.mono (by omega)) (by rfl) (a_cons (dv 2) (a_cons d_int (a_cons (d_globI (by rfl) c2) a_nil))))))
      (ss_one s_never)
      ss_nil)
      (ss_one (s_for (i_enumT (by rfl) B.enumerate (a_cons (dv 3) a_nil)) (g_tup (gs_cons (g_name (i := 4) sc_need_program.nd) (gs_cons (g_name (i := 5) sc_need_program.nd) gs_nil)))
      (ss_cons (s_set (i := 6) sc_need_program.nd (d_if (t_ge (dv 4) (d_globI (by rfl) c3)) d_str (d_callF D2 (hr.mono (by omega)) (by rfl) (a_cons (dv 5) (a_cons (dv 1) (a_cons (dv 2) (a_cons (d_len (by rfl) B.len (a_cons (dv 3) a_nil)) a_nil)))))))
      (ss_one (s_if (t_notN (dv 6) d_non)
      (ss_one s_never)
      ss_nil)))))))))
    , ?_⟩
  intro rs S C hl h
  obtain ⟨p, rfl, ok, h⟩ := h
  have hn := ok.n
  have hf := ok.f
  have hl60 := ok.l
  refine ⟨_, rfl, rfl, _, rfl, iteFb rfl ⟨_, rfl, rfl, iteFb rfl ⟨_, rfl, ⟨_, rfl, rfl, _, rfl, iteFb rfl ?_⟩⟩⟩⟩
  refine ⟨_, rfl, rfl, rfl, ?_⟩
  refine ⟨_, rfl, rfl, _, _, _, rfl, (fun z => nomatch z), iteFb (by simp [isNum]; omega) ?_⟩
  refine ⟨_, rfl, rfl, _, _, _, rfl, (fun z => nomatch z), iteFb (by simp [isNum]; omega) ?_⟩
  refine ⟨_, rfl, fun i fr S' => S' = S ∧ ∃ a b c : Option R, fr = [some (.dat p.dat), some (.dat (.int p.names)), some (.dat (.int p.files)), some (.dat (.tuple (p.rows.map PRow.dat))), a, b, c], ⟨rfl, none, none, none, rfl⟩, ?_, ?_⟩
  · rintro i r fr S' hi ⟨rfl, a, b, c, rfl⟩
    obtain ⟨d, hd, rfl⟩ := enum_get hi
    rw [List.getElem?_map] at hd
    cases hx : p.rows[i]? with
    | none => rw [hx] at hd; cases hd
    | some row =>
      rw [hx] at hd
      cases hd
      have hlt := (List.getElem?_eq_some_iff.mp hx).1
      refine ⟨rfl, rfl, _, rfl, iteFd (by omega) ⟨_, rfl, _, rfl, _, rfl, _, rfl, rfl, row, p.names, p.files, _, rfl, ?_, ?_⟩⟩
      · rw [List.length_map]
        exact ok.r row (List.mem_of_getElem? hx)
      · exact ⟨_, rfl, rfl, _, _, _, rfl⟩
  · rintro fr S' ⟨rfl, a, b, c, rfl⟩
    exact h
/-! need_handed -/
def spNeedHanded : SpD := fun rs S C => ∃ (r : R) (hs : List Int), rs = [r] ∧ r = .dat (lstI hs) ∧ HandedOk hs ∧ C (.dat .none) S
abbrev s_need_handed : Stmt := topS 24
abbrev N_need_handed : List Str := ["handed", "one"]
theorem sc_need_handed : FnScope N_need_handed ["handed"] (defScope s_need_handed) := ⟨rfl, rfl, rfl, by decide +kernel, rfl, by decide +kernel, by decide +kernel⟩
theorem ok_need_handed {k : Nat} {t1 t2 : Tok} (F : FunAt K mg "need_handed" s_need_handed ["handed"]) (B : Blt mg) (D1 : Def P w K mg base "is_number" 1 3 spIsNumber) (c1 : mg "MOST_HANDED" = some (.int 40 t1)) (c2 : mg "REST" = some (.int 10007 t2)) : Def P w K mg base "need_handed" (k + 2) 1 spNeedHanded := by
  refine okF F sc_need_handed rfl fun cdv A outer s H E f hr => ⟨_,
    (ss_one (s_if (PDW.pt (w_or (t_gt (d_len (by rfl) B.len (a_cons (dv 0) a_nil)) (d_globI (by rfl) c1)) (w_or1 (t_ne hr.units (d_lc sc_need_handed.nd (i := 1) (i_src (dv 0)) (blkOk_by (N := N_need_handed) (sc := defScope s_need_handed) (own := [("one", 1)]) (by decide +kernel)) (fun _ _ _ _ _ => pg_name (i := 1) sc_need_handed.nd rfl (Or.inl rfl)) (fun _ _ _ _ _ => (ts_one (t_not (t_val (d_callF D1 (hr.mono (by omega)) (by rfl) (a_cons (dv 1) (a_cons d_int (a_cons (d_sub (d_globI (by rfl) c2) d_int) a_nil)))))))) (fun _ _ _ _ _ => (dv 1))) (d_lst a_nil)))))
      (ss_one s_never)
      ss_nil))
    , ?_⟩
  intro rs S C hl h
  obtain ⟨r, hs, rfl, rfl, ok, h⟩ := h
  have h40 := ok.1
  refine ⟨_, rfl, iteFd (by simp; omega) ⟨_, rfl, lc_pure (fun _ => false) id ?_ ?_ (by simp; omega) ?_⟩⟩
  · intro r hr C' q
    obtain ⟨n, hn, rfl⟩ := mem_ints hr
    have := ok.2 n hn
    refine ⟨_, rfl, rfl, _, _, _, rfl, (fun z => nomatch z), ?_⟩
    have e : isNum (.int n) 0 (10007 - 1) = true := isNum_yes (by omega)
    show C' (!isNum (.int n) 0 (10007 - 1)) S
    rw [e]
    exact q
  · intro r hr hp
    cases hp
  · rw [List.filter_eq_nil_iff.mpr (fun _ _ => Bool.false_ne_true)]
    exact ⟨_, rfl, Nat.zero_le _, _, rfl, rfl, iteFb rfl h⟩
/-! worth -/
def spWorth (n : Nat) : SpD := fun rs S C => ∃ (p : Part) (r : R) (ns : List Int), rs = [.dat p.dat, r] ∧ lstR S r (iR ns) ∧ p.ok ns.length ∧ p.deep ≤ n ∧ C (.dat (.int (p.worth ns))) S
abbrev s_worth : Stmt := topS 25
abbrev N_worth : List Str := ["part", "names", "one", "other"]
theorem sc_worth : FnScope N_worth ["part", "names"] (defScope s_worth) := ⟨rfl, rfl, rfl, by decide +kernel, rfl, by decide +kernel, by decide +kernel⟩
theorem worth_body {n k : Nat} {spR : SpD} {t1 : Tok} (F : FunAt K mg "worth" s_worth ["part", "names"]) (B : Blt mg) (D : Def P w K mg base "worth" k 2 spR) (hR : ∀ m rs S C, m + 1 = n → spWorth m rs S C → spR rs S C)
    (c2 : mg "REST" = some (.int 10007 t1)) : Def P w K mg base "worth" (k + 1) 2 (spWorth n) := by
  refine okF F sc_worth rfl fun cdv A outer s H E f hr => ⟨_,
    (ss_cons (s_if (t_eq hr.units (d_ix (hu_of hr) (dv 0) d_int) d_str)
      (ss_one (s_ret (d_ix (hu_of hr) (dv 0) d_int)))
      ss_nil)
      (ss_cons (s_if (t_eq hr.units (d_ix (hu_of hr) (dv 0) d_int) d_str)
      (ss_one (s_ret (d_ix (hu_of hr) (dv 1) (d_ix (hu_of hr) (dv 0) d_int))))
      ss_nil)
      (ss_cons (s_par (i := 2) (j := 3) sc_worth.nd (a_cons (d_callF D (hr.mono (by omega)) (by rfl) (a_cons (d_ix (hu_of hr) (dv 0) d_int) (a_cons (dv 1) a_nil))) (a_cons (d_callF D (hr.mono (by omega)) (by rfl) (a_cons (d_ix (hu_of hr) (dv 0) d_int) (a_cons (dv 1) a_nil))) a_nil)))
      (ss_cons (s_if (t_eq hr.units (d_ix (hu_of hr) (dv 0) d_int) d_str)
      (ss_one (s_ret (d_intF (by rfl) B.int (a_cons (d_lt (dv 2) (dv 3)) a_nil))))
      ss_nil)
      (ss_one (s_ret (d_mod (d_if (t_eq hr.units (d_ix (hu_of hr) (dv 0) d_int) d_str) (d_add (dv 2) (dv 3)) (d_sub (dv 2) (dv 3))) (d_globI (by rfl) c2))))))))
    , ?_⟩
  intro rs S C hl h
  obtain ⟨p, r, ns, rfl, hr', hp, hd, h⟩ := h
  have hpos := p.deep_pos
  cases p with
  | num n => exact ⟨_, rfl, _, rfl, rfl, iteTb rfl ⟨_, rfl, _, rfl, h⟩⟩
  | name n =>
    refine ⟨_, rfl, _, rfl, rfl, iteFb rfl ⟨_, rfl, _, rfl, rfl, iteTb rfl ⟨_, rfl, _, rfl, _, rfl, ?_⟩⟩⟩
    have e := iR_at (ns := ns) (i := n.toNat) (by have := hp.1; have := hp.2; omega)
    rw [toNat_cast hp.1] at e
    exact ix_lstR hr' e h
  | op o a b =>
    obtain ⟨m, hm⟩ : ∃ m, m + 1 = n := ⟨n - 1, by omega⟩
    have hda : a.deep + 1 ≤ (Part.op o a b).deep := by simp only [Part.deep]; omega
    have hdb : b.deep + 1 ≤ (Part.op o a b).deep := by simp only [Part.deep]; omega
    have w1 : PyData.eqv (.str o.word) (.str "num") = false := by cases o <;> rfl
    have w2 : PyData.eqv (.str o.word) (.str "name") = false := by cases o <;> rfl
    refine ⟨_, rfl, _, rfl, rfl, iteFb w1 ⟨_, rfl, _, rfl, rfl, iteFb w2 ?_⟩⟩
    refine ⟨_, rfl, _, rfl, _, rfl, rfl, hR m _ _ _ hm ⟨a, r, ns, rfl, hr', hp.1, by omega, ?_⟩⟩
    refine ⟨_, rfl, _, rfl, _, rfl, rfl, hR m _ _ _ hm ⟨b, r, ns, rfl, hr', hp.2, by omega, ?_⟩⟩
    cases o with
    | less =>
      refine ⟨_, rfl, _, rfl, rfl, iteTb rfl ⟨_, rfl, _, rfl, ?_⟩⟩
      have e : (if decide (a.worth ns < b.worth ns) = true then (1 : Int) else 0) = (Part.op .less a b).worth ns := by simp [Part.worth]
      show C (.dat (.int (if decide (a.worth ns < b.worth ns) = true then (1 : Int) else 0))) S
      rw [e]
      exact h
    | sum =>
      exact ⟨_, rfl, _, rfl, rfl, iteFb rfl ⟨_, rfl, _, rfl, rfl, iteTb rfl ⟨_, rfl, _, rfl, (by show (0 : Int) < 10007; decide), h⟩⟩⟩
    | diff =>
      exact ⟨_, rfl, _, rfl, rfl, iteFb rfl ⟨_, rfl, _, rfl, rfl, iteFb rfl ⟨_, rfl, _, rfl, (by show (0 : Int) < 10007; decide), h⟩⟩⟩
theorem ok_worth {t1 : Tok} (F : FunAt K mg "worth" s_worth ["part", "names"]) (B : Blt mg) (c2 : mg "REST" = some (.int 10007 t1)) : ∀ n : Nat, Def P w K mg base "worth" (n + 1) 2 (spWorth n)
  | 0 => worth_body F B (Def.never F) (fun m _ _ _ h _ => by omega) c2
  | n + 1 => worth_body F B (ok_worth F B c2 n) (fun m rs S C h q => by
    have e : m = n := by omega
    subst e
    exact q) c2
end
end K05
set_option Elab.async false
set_option linter.all false
set_option maxRecDepth 100000
set_option maxHeartbeats 4000000
namespace K05
open PySem PySem.Spec PyProof.Rows L2 DL PM
section
variable {P : Program} {w : World} {K : Fg} {mg : Str → Option Value} {base : Heap} {CE : Addr}
/-! Effect.__init__ -/
def spEffInit (CE : Addr) : SpD := fun rs S C => ∃ (x : Addr) (row taken : Int) (S0 : SH), rs = [.val (.ref x), .dat (.int row), .dat (.int taken)] ∧ S = .ins x CE FE [] :: S0 ∧ C (.dat .none) (.ins x CE FE (eff0 row taken).rs :: S0)
abbrev s_Effect___init__ : Stmt := inClass (topS 27) 0
abbrev N_Effect___init__ : List Str := ["self", "row", "taken"]
theorem sc_Effect___init__ : FnScope N_Effect___init__ ["self", "row", "taken"] (defScope s_Effect___init__) := ⟨rfl, rfl, rfl, by decide +kernel, rfl, by decide +kernel, by decide +kernel⟩
theorem ok_eff_init {k : Nat} (F : FunI K mg "Effect" CE "Effect.__init__" s_Effect___init__ ["self", "row", "taken"]) (TE : Klass K CE FE) : DefI P w K mg base "Effect" CE (k + 1) 3 (spEffInit CE) := by
  refine okI F sc_Effect___init__ rfl fun cdv A outer s H E f hr => ⟨_,
    (ss_cons (s_fld TE 0 (dv 0) (dv 1))
      (ss_cons (s_fld TE 1 (dv 0) (dv 2))
      (ss_cons (s_fld TE 2 (dv 0) d_non)
      (ss_cons (s_fld TE 3 (dv 0) d_non)
      (ss_cons (s_fld TE 4 (dv 0) d_non)
      (ss_cons (s_fld TE 5 (dv 0) d_int)
      (ss_cons (s_fld TE 6 (dv 0) (d_tup a_nil))
      (ss_cons (s_fld TE 7 (dv 0) (d_tup a_nil))
      (ss_cons (s_fld TE 8 (dv 0) d_non)
      (ss_one (s_fld TE 9 (dv 0) d_non)))))))))))
    , ?_⟩
  intro rs S C hl h
  obtain ⟨x, row, taken, S0, rfl, rfl, h⟩ := h
  refine ⟨_, rfl, _, rfl, 0, _, rfl, le_ok rfl, ?_⟩
  refine ⟨_, rfl, _, rfl, 0, _, rfl, le_ok rfl, ?_⟩
  refine ⟨_, rfl, 0, _, rfl, le_ok rfl, ?_⟩
  refine ⟨_, rfl, 0, _, rfl, le_ok rfl, ?_⟩
  refine ⟨_, rfl, 0, _, rfl, le_ok rfl, ?_⟩
  refine ⟨_, rfl, 0, _, rfl, le_ok rfl, ?_⟩
  refine ⟨Nat.zero_le _, _, rfl, _, rfl, 0, _, rfl, le_ok rfl, ?_⟩
  refine ⟨Nat.zero_le _, _, rfl, _, rfl, 0, _, rfl, le_ok rfl, ?_⟩
  refine ⟨_, rfl, 0, _, rfl, le_ok rfl, ?_⟩
  refine ⟨_, rfl, 0, _, rfl, le_ok rfl, ?_⟩
  exact WkC.of h
/-! Effect.change -/
def spChange (CE : Addr) : SpD := fun rs S C => ∃ (x : Addr) (e : Eff) (fl at_ : Int) (h new : List Int) (j : Nat), rs = [.val (.ref x), .dat (.int fl), .dat (lstI h), .dat (.int at_), .dat (tupI new)] ∧ S[j]? = some (.ins x CE FE e.rs) ∧ 0 ≤ at_ ∧
  C (.dat .none) (S.set j (.ins x CE FE (changedE e fl h at_.toNat new).rs))
abbrev s_Effect_change : Stmt := inClass (topS 27) 1
abbrev N_Effect_change : List Str := ["self", "file", "held", "at", "new"]
theorem sc_Effect_change : FnScope N_Effect_change ["self", "file", "held", "at", "new"] (defScope s_Effect_change) := ⟨rfl, rfl, rfl, by decide +kernel, rfl, by decide +kernel, by decide +kernel⟩
theorem ok_change {k : Nat} (F : FunM K CE "change" "Effect.change" s_Effect_change ["self", "file", "held", "at", "new"]) (B : Blt mg) (TE : Klass K CE FE) : DefM P w K mg base CE "change" (k + 1) 5 (spChange CE) := by
  refine okM F sc_Effect_change rfl fun cdv A outer s H E f hr => ⟨_,
    (ss_cons (s_fld TE 4 (dv 0) (dv 1))
      (ss_cons (s_fld TE 5 (dv 0) (dv 3))
      (ss_cons (s_fld TE 6 (dv 0) (d_tuple (by rfl) B.tuple (a_cons (d_slice (dv 2) (o_some (dv 3)) o_none) a_nil)))
      (ss_one (s_fld TE 7 (dv 0) (d_tuple (by rfl) B.tuple (a_cons (dv 4) a_nil)))))))
    , ?_⟩
  intro rs S C hl h
  obtain ⟨x, e, fl, at_, hd, new, j, rfl, hj, h0, h⟩ := h
  refine ⟨_, rfl, _, rfl, j, _, hj, le_ok rfl, ?_⟩
  have hj1 := getset hj (.ins x CE FE (putAt 4 (.dat (.int fl)) e.rs))
  refine ⟨_, rfl, _, rfl, j, _, hj1, le_ok rfl, ?_⟩
  rw [List.set_set]
  have hj2 := getset hj (.ins x CE FE (putAt 5 (.dat (.int at_)) (putAt 4 (.dat (.int fl)) e.rs)))
  refine ⟨_, rfl, _, rfl, _, rfl, j, _, hj2, le_ok rfl, ?_⟩
  rw [List.set_set, cut_from _ h0]
  have hj3 := getset hj (.ins x CE FE (putAt 6 (.dat (.tuple ((hd.map PyData.int).drop at_.toNat))) (putAt 5 (.dat (.int at_)) (putAt 4 (.dat (.int fl)) e.rs))))
  refine ⟨_, rfl, _, rfl, j, _, hj3, le_ok rfl, ?_⟩
  rw [List.set_set]
  refine WkC.of ?_
  have e1 : (putAt 7 (.dat (.tuple (new.map PyData.int))) (putAt 6 (.dat (.tuple ((hd.map PyData.int).drop at_.toNat))) (putAt 5 (.dat (.int at_)) (putAt 4 (.dat (.int fl)) e.rs)))) = (changedE e fl hd at_.toNat new).rs := by
    rw [← List.map_drop]
    unfold changedE Eff.rs
    simp only [toNat_cast h0]
    rfl
  have e2 : S.set j (.ins x CE FE (putAt 7 (.dat (.tuple (new.map PyData.int))) (putAt 6 (.dat (.tuple ((hd.map PyData.int).drop at_.toNat))) (putAt 5 (.dat (.int at_)) (putAt 4 (.dat (.int fl)) e.rs))))) = S.set j (.ins x CE FE (changedE e fl hd at_.toNat new).rs) := by rw [e1]
  exact Eq.mp (congrArg (C (.dat .none)) e2.symm) h
end
end K05
set_option Elab.async false
set_option linter.all false
set_option maxRecDepth 100000
set_option maxHeartbeats 4000000
namespace K05
open PySem PySem.Spec PyProof.Rows L2 DL PM
section
variable {P : Program} {w : World} {K : Fg} {mg : Str → Option Value} {base : Heap} {CE : Addr}
theorem eqL {hd : List Int} {n : Nat} (h : PyData.eqv (.int (((hd.map PyData.int).length : Nat) : Int)) (.int (n : Int)) = true) : hd.length = n := by
  have h' : (((hd.map PyData.int).length : Nat) : Int) = (n : Int) := by simpa [PyData.eqv] using h
  rw [List.length_map] at h'
  omega
theorem neL {hd : List Int} {n : Nat} (h : PyData.eqv (.int (((hd.map PyData.int).length : Nat) : Int)) (.int (n : Int)) = false) : ¬ hd.length = n := fun z => by
  rw [PyData.eqv, List.length_map, z] at h
  simp at h
/-! changed -/
def isChange : PRow → Bool
  | .add _ _ => true | .put _ _ _ => true | .cut _ _ => true | _ => false
def spChanged (CE : Addr) : SpD := fun rs S C => ∃ (x : Addr) (row : PRow) (at_ taken many : Int) (rN rF : R) (ns hs : List Int) (fs : List (List Int)) (j : Nat), rs = [.val (.ref x), .dat row.dat, rN, rF] ∧ isChange row = true ∧ S[j]? = some (.ins x CE FE (eff0 (at_ + 1) taken).rs) ∧
  row.ok ns.length fs.length many ∧ lstR S rN (iR ns) ∧ lstR S rF (fileR fs) ∧ (∀ n ∈ ns, 0 ≤ n) ∧ (∀ f ∈ fs, f.length ≤ 1000) ∧ C (.val (.ref x)) (S.set j (.ins x CE FE (effect row at_ taken ns hs fs).rs))
abbrev s_changed : Stmt := topS 28
abbrev N_changed : List Str := ["found", "row", "names", "files", "held", "first"]
theorem sc_changed : FnScope N_changed ["found", "row", "names", "files"] (defScope s_changed) := ⟨rfl, rfl, rfl, by decide +kernel, rfl, by decide +kernel, by decide +kernel⟩
theorem ok_changed {k : Nat} {t1 : Tok} (F : FunAt K mg "changed" s_changed ["found", "row", "names", "files"]) (B : Blt mg) (TE : Klass K CE FE) (D1 : Def P w K mg base "worth" 4 2 (spWorth 3)) (M1 : DefM P w K mg base CE "change" 1 5 (spChange CE)) (c1 : mg "MOST_FILE" = some (.int 40 t1)) : Def P w K mg base "changed" (k + 5) 4 (spChanged CE) := by
  refine okW F sc_changed rfl fun cdv A outer s H E f hr => ⟨_,
    (ss_cons (s_set (i := 4) sc_changed.nd (d_ix (hu_of hr) (dv 3) (d_ix (hu_of hr) (dv 1) d_int)))
      (ss_cons (s_set (i := 5) sc_changed.nd (d_callF D1 (hr.mono (by omega)) (by rfl) (a_cons (d_ix (hu_of hr) (dv 1) d_int) (a_cons (dv 2) a_nil))))
      (ss_cons (s_if (t_eq hr.units (d_ix (hu_of hr) (dv 1) d_int) d_str)
      (ss_cons (s_if (t_eq hr.units (d_len (by rfl) B.len (a_cons (dv 4) a_nil)) (d_globI (by rfl) c1))
      (ss_one (s_fld TE 9 (dv 0) d_str))
      ss_nil)
      (ss_one (s_expr (d_meth TE M1 (hr.mono (by omega)) (by decide) (dv 0) (a_cons (d_ix (hu_of hr) (dv 1) d_int) (a_cons (dv 4) (a_cons (d_len (by rfl) B.len (a_cons (dv 4) a_nil)) (a_cons (d_tup (a_cons (dv 5) a_nil)) a_nil))))))))
      (ss_one (s_if (t_eq hr.units (d_ix (hu_of hr) (dv 1) d_int) d_str)
      (ss_cons (s_if (t_ge (dv 5) (d_len (by rfl) B.len (a_cons (dv 4) a_nil)))
      (ss_one (s_fld TE 9 (dv 0) d_str))
      ss_nil)
      (ss_one (s_expr (d_meth TE M1 (hr.mono (by omega)) (by decide) (dv 0) (a_cons (d_ix (hu_of hr) (dv 1) d_int) (a_cons (dv 4) (a_cons (dv 5) (a_cons (d_add (d_tup (a_cons (d_callF D1 (hr.mono (by omega)) (by rfl) (a_cons (d_ix (hu_of hr) (dv 1) d_int) (a_cons (dv 2) a_nil))) a_nil)) (d_tuple (by rfl) B.tuple (a_cons (d_slice (dv 4) (o_some (d_add (dv 5) d_int)) o_none) a_nil))) a_nil))))))))
      (ss_one (s_expr (d_meth TE M1 (hr.mono (by omega)) (by decide) (dv 0) (a_cons (d_ix (hu_of hr) (dv 1) d_int) (a_cons (dv 4) (a_cons (d_min2 (by rfl) B.min (a_cons (dv 5) (a_cons (d_len (by rfl) B.len (a_cons (dv 4) a_nil)) a_nil))) (a_cons (d_tup a_nil) a_nil))))))))))
      (ss_one (s_ret (dv 0))))))
    , ?_⟩
  intro rs S C hl h
  obtain ⟨x, row, at_, taken, many, rN, rF, ns, hs, fs, j, rfl, hc, hj, ok, hN, hF, hnn, hfl, h⟩ := h
  have file_len : ∀ fl : Int, (fs.getD fl.toNat []).length ≤ 1000 := fun fl => by
    rw [List.getD_eq_getElem?_getD]
    cases e : fs[fl.toNat]? with
    | none => exact Nat.zero_le _
    | some x => exact hfl x (List.mem_of_getElem? e)
  have file_at : ∀ fl : Int, NumOk fl fs.length → atI (fileR fs) fl = some (.dat (lstI (fs.getD fl.toNat []))) := fun fl hf => by
    have e := fileR_at (fs := fs) (i := fl.toNat) (by have := hf.1; have := hf.2; omega)
    rw [toNat_cast hf.1] at e
    exact e
  cases row with
  | add fl p =>
    obtain ⟨hf, hp, hd⟩ := ok
    have ef : effect (.add fl p) at_ taken ns hs fs = changedE (if (fs.getD fl.toNat []).length = 40 then { eff0 (at_ + 1) taken with fault := some "full" } else eff0 (at_ + 1) taken) fl (fs.getD fl.toNat []) (fs.getD fl.toNat []).length [p.worth ns] := rfl
    rw [ef] at h
    have fa := file_at fl hf
    clear ef
    generalize fs.getD fl.toNat [] = hd at fa h
    refine ⟨_, rfl, _, rfl, _, rfl, ix_lstR hF fa ?_⟩
    refine ⟨_, rfl, _, rfl, _, rfl, rfl, p, rN, ns, rfl, hN, hp, by assumption, ?_⟩
    refine ⟨_, rfl, _, rfl, rfl, iteTb rfl ?_⟩
    refine ⟨_, rfl, rfl, ite2b (fun hb => ?_) (fun hb => ?_)⟩
    · rw [if_pos (eqL hb)] at h
      refine ⟨_, rfl, j, _, hj, le_ok rfl, ?_⟩
      have hj1 := getset hj (.ins x CE FE ({ eff0 (at_ + 1) taken with fault := some "full" } : Eff).rs)
      refine ⟨_, rfl, ⟨j, _, hj1⟩, _, rfl, _, rfl, _, rfl, _, rfl, _, rfl, by simp, _, rfl, rfl, x, { eff0 (at_ + 1) taken with fault := some "full" }, fl, _, hd, [p.worth ns], j, rfl, hj1, by omega, ?_⟩
      refine ⟨_, rfl, WkC.of ?_⟩
      rw [List.set_set, Int.toNat_natCast, List.length_map]
      exact h
    · rw [if_neg (neL hb)] at h
      refine ⟨_, rfl, ⟨j, _, hj⟩, _, rfl, _, rfl, _, rfl, _, rfl, _, rfl, by simp, _, rfl, rfl, x, eff0 (at_ + 1) taken, fl, _, hd, [p.worth ns], j, rfl, hj, by omega, ?_⟩
      refine ⟨_, rfl, WkC.of ?_⟩
      rw [Int.toNat_natCast, List.length_map]
      exact h
  | put fl p q =>
    obtain ⟨hf, ⟨hp, hdp⟩, hq, hdq⟩ := ok
    have h0 := Part.nonneg hnn p hp
    have ef : effect (.put fl p q) at_ taken ns hs fs = changedE (if ((fs.getD fl.toNat []).length : Int) ≤ p.worth ns then { eff0 (at_ + 1) taken with fault := some "place" } else eff0 (at_ + 1) taken) fl (fs.getD fl.toNat []) (p.worth ns).toNat (q.worth ns :: (fs.getD fl.toNat []).drop ((p.worth ns).toNat + 1)) := rfl
    rw [ef] at h
    have fa := file_at fl hf
    have fb := file_len fl
    clear ef
    generalize fs.getD fl.toNat [] = hd at fa fb h
    refine ⟨_, rfl, _, rfl, _, rfl, ix_lstR hF fa ?_⟩
    refine ⟨_, rfl, _, rfl, _, rfl, rfl, p, rN, ns, rfl, hN, hp, by assumption, ?_⟩
    generalize p.worth ns = v at h h0
    have ec : DL.cutD (hd.map PyData.int) (some (v + 1)) none = (hd.drop (v.toNat + 1)).map PyData.int := by
      rw [cut_from _ (by omega), List.map_drop]
      congr 1
      omega
    have el : [PyData.int (q.worth ns)].length + (DL.cutD (hd.map PyData.int) (some (v + 1)) none).length ≤ 100000 := by
      rw [ec, List.length_map, List.length_drop]
      simp
      omega
    have ea : ([.val (.ref x), .dat (.int fl), .dat (lstI hd), .dat (.int v), .dat (.tuple ([PyData.int (q.worth ns)] ++ DL.cutD (hd.map PyData.int) (some (v + 1)) none))] : List R) = [.val (.ref x), .dat (.int fl), .dat (lstI hd), .dat (.int v), .dat (tupI (q.worth ns :: hd.drop (v.toNat + 1)))] := by
      rw [ec]; rfl
    refine ⟨_, rfl, _, rfl, rfl, iteFb rfl ⟨_, rfl, _, rfl, rfl, iteTb rfl ?_⟩⟩
    refine ⟨_, rfl, _, rfl, ite2d (fun hb => ?_) (fun hb => ?_)⟩
    · rw [List.length_map] at hb
      rw [if_pos hb] at h
      refine ⟨_, rfl, j, _, hj, le_ok rfl, ?_⟩
      have hj1 := getset hj (.ins x CE FE ({ eff0 (at_ + 1) taken with fault := some "place" } : Eff).rs)
      refine ⟨_, rfl, ⟨j, _, hj1⟩, _, rfl, _, rfl, _, rfl, _, rfl, _, rfl, _, rfl, _, rfl, rfl, q, rN, ns, rfl, lstR_set hj _ hN, hq, by assumption, by simp, _, rfl, _, rfl, _, rfl, el, rfl, x, { eff0 (at_ + 1) taken with fault := some "place" }, fl, v, hd, q.worth ns :: hd.drop (v.toNat + 1), j, ea, hj1, h0, ?_⟩
      refine ⟨_, rfl, WkC.of ?_⟩
      rw [List.set_set]
      exact h
    · rw [List.length_map] at hb
      rw [if_neg hb] at h
      refine ⟨_, rfl, ⟨j, _, hj⟩, _, rfl, _, rfl, _, rfl, _, rfl, _, rfl, _, rfl, _, rfl, rfl, q, rN, ns, rfl, hN, hq, by assumption, by simp, _, rfl, _, rfl, _, rfl, el, rfl, x, eff0 (at_ + 1) taken, fl, v, hd, q.worth ns :: hd.drop (v.toNat + 1), j, ea, hj, h0, ?_⟩
      exact ⟨_, rfl, WkC.of h⟩
  | cut fl p =>
    obtain ⟨hf, hp, hd⟩ := ok
    have h0 := Part.nonneg hnn p hp
    have ef : effect (.cut fl p) at_ taken ns hs fs = changedE (eff0 (at_ + 1) taken) fl (fs.getD fl.toNat []) (min (p.worth ns).toNat (fs.getD fl.toNat []).length) [] := rfl
    rw [ef] at h
    have fa := file_at fl hf
    clear ef
    generalize fs.getD fl.toNat [] = hd at fa h
    refine ⟨_, rfl, _, rfl, _, rfl, ix_lstR hF fa ?_⟩
    refine ⟨_, rfl, _, rfl, _, rfl, rfl, p, rN, ns, rfl, hN, hp, by assumption, ?_⟩
    generalize p.worth ns = v at h h0
    have em : (if (((hd.map PyData.int).length : Nat) : Int) < v then (((hd.map PyData.int).length : Nat) : Int) else v) = ((min v.toNat hd.length : Nat) : Int) := by
      rw [List.length_map]
      split <;> omega
    refine ⟨_, rfl, _, rfl, rfl, iteFb rfl ⟨_, rfl, _, rfl, rfl, iteFb rfl ?_⟩⟩
    refine ⟨_, rfl, ⟨j, _, hj⟩, _, rfl, _, rfl, _, rfl, _, rfl, _, rfl, Nat.zero_le _, _, rfl, rfl, x, eff0 (at_ + 1) taken, fl, ((min v.toNat hd.length : Nat) : Int), hd, [], j, by rw [em]; rfl, hj, by omega, ?_⟩
    exact ⟨_, rfl, WkC.of h⟩
  | _ => cases hc
end
end K05
set_option Elab.async false
set_option linter.all false
set_option maxRecDepth 100000
set_option maxHeartbeats 4000000
namespace K05
open PySem PySem.Spec PyProof.Rows L2 DL PM
section
variable {P : Program} {w : World} {K : Fg} {mg : Str → Option Value} {base : Heap} {CE : Addr}
/-! named -/
def isNamed : PRow → Bool
  | .set _ _ => true | .size _ _ => true | .take _ => true | .get _ _ _ => true | _ => false
def spNamed (CE : Addr) : SpD := fun rs S C => ∃ (x : Addr) (row : PRow) (at_ taken many : Int) (rN rH rF : R) (ns hs : List Int) (fs : List (List Int)) (j : Nat), rs = [.val (.ref x), .dat row.dat, rN, rH, rF] ∧ isNamed row = true ∧ S[j]? = some (.ins x CE FE (eff0 (at_ + 1) taken).rs) ∧
  row.ok ns.length fs.length many ∧ lstR S rN (iR ns) ∧ lstR S rH (iR hs) ∧ lstR S rF (fileR fs) ∧ (∀ n ∈ ns, 0 ≤ n) ∧ 0 ≤ taken ∧ taken ≤ hs.length ∧ C (.dat .none) (S.set j (.ins x CE FE (effect row at_ taken ns hs fs).rs))
abbrev s_named : Stmt := topS 30
abbrev N_named : List Str := ["found", "row", "names", "handed", "files", "place"]
theorem sc_named : FnScope N_named ["found", "row", "names", "handed", "files"] (defScope s_named) := ⟨rfl, rfl, rfl, by decide +kernel, rfl, by decide +kernel, by decide +kernel⟩
theorem ok_named {k : Nat} (F : FunAt K mg "named" s_named ["found", "row", "names", "handed", "files"]) (B : Blt mg) (TE : Klass K CE FE) (D1 : Def P w K mg base "worth" 4 2 (spWorth 3)) : Def P w K mg base "named" (k + 5) 5 (spNamed CE) := by
  refine okW F sc_named rfl fun cdv A outer s H E f hr => ⟨_,
    (ss_cons (s_fld TE 2 (dv 0) (d_ix (hu_of hr) (dv 1) d_int))
      (ss_one (s_if (t_eq hr.units (d_ix (hu_of hr) (dv 1) d_int) d_str)
      (ss_one (s_fld TE 3 (dv 0) (d_callF D1 (hr.mono (by omega)) (by rfl) (a_cons (d_ix (hu_of hr) (dv 1) d_int) (a_cons (dv 2) a_nil)))))
      (ss_one (s_if (t_eq hr.units (d_ix (hu_of hr) (dv 1) d_int) d_str)
      (ss_one (s_fld TE 3 (dv 0) (d_len (by rfl) B.len (a_cons (d_ix (hu_of hr) (dv 4) (d_ix (hu_of hr) (dv 1) d_int)) a_nil))))
      (ss_one (s_if (t_eq hr.units (d_ix (hu_of hr) (dv 1) d_int) d_str)
      (ss_cons (s_if (t_eq hr.units (d_fld TE 1 (dv 0)) (d_len (by rfl) B.len (a_cons (dv 3) a_nil)))
      (ss_one (s_fld TE 9 (dv 0) d_str))
      (ss_one (s_fld TE 3 (dv 0) (d_ix (hu_of hr) (dv 3) (d_fld TE 1 (dv 0))))))
      (ss_one (s_fld TE 1 (dv 0) (d_add (d_fld TE 1 (dv 0)) d_int))))
      (ss_cons (s_set (i := 5) sc_named.nd (d_callF D1 (hr.mono (by omega)) (by rfl) (a_cons (d_ix (hu_of hr) (dv 1) d_int) (a_cons (dv 2) a_nil))))
      (ss_one (s_if (t_ge (dv 5) (d_len (by rfl) B.len (a_cons (d_ix (hu_of hr) (dv 4) (d_ix (hu_of hr) (dv 1) d_int)) a_nil)))
      (ss_one (s_fld TE 9 (dv 0) d_str))
      (ss_one (s_fld TE 3 (dv 0) (d_ix (hu_of hr) (d_ix (hu_of hr) (dv 4) (d_ix (hu_of hr) (dv 1) d_int)) (dv 5))))))))))))))
    , ?_⟩
  intro rs S C hl h
  obtain ⟨x, row, at_, taken, many, rN, rH, rF, ns, hs, fs, j, rfl, hc, hj, ok, hN, hH, hF, hnn, ht0, ht1, h⟩ := h
  have file_at : ∀ fl : Int, NumOk fl fs.length → atI (fileR fs) fl = some (.dat (lstI (fs.getD fl.toNat []))) := fun fl hf => by
    have e := fileR_at (fs := fs) (i := fl.toNat) (by have := hf.1; have := hf.2; omega)
    rw [toNat_cast hf.1] at e
    exact e
  cases row with
  | set n p =>
    obtain ⟨hn, hp, hd⟩ := ok
    refine ⟨_, rfl, _, rfl, _, rfl, j, _, hj, le_ok rfl, ?_⟩
    have hj1 := getset hj (.ins x CE FE ({ eff0 (at_ + 1) taken with name := some n } : Eff).rs)
    refine ⟨_, rfl, _, rfl, rfl, iteTb rfl ?_⟩
    refine ⟨_, rfl, _, rfl, _, rfl, rfl, p, rN, ns, rfl, lstR_set hj _ hN, hp, hd, _, rfl, j, _, hj1, le_ok rfl, ?_⟩
    rw [List.set_set]
    exact WkC.of h
  | size n fl =>
    obtain ⟨hn, hf⟩ := ok
    have ef : effect (.size n fl) at_ taken ns hs fs = { eff0 (at_ + 1) taken with name := some n, number := some ((fs.getD fl.toNat []).length : Int) } := rfl
    rw [ef] at h
    have fa := file_at fl hf
    clear ef
    generalize fs.getD fl.toNat [] = hd at fa h
    refine ⟨_, rfl, _, rfl, _, rfl, j, _, hj, le_ok rfl, ?_⟩
    have hj1 := getset hj (.ins x CE FE ({ eff0 (at_ + 1) taken with name := some n } : Eff).rs)
    refine ⟨_, rfl, _, rfl, rfl, iteFb rfl ⟨_, rfl, _, rfl, rfl, iteTb rfl ?_⟩⟩
    refine ⟨_, rfl, _, rfl, _, rfl, ix_lstR (lstR_set hj _ hF) fa ⟨_, rfl, j, _, hj1, le_ok rfl, ?_⟩⟩
    rw [List.set_set, List.length_map]
    exact WkC.of h
  | take n =>
    refine ⟨_, rfl, _, rfl, _, rfl, j, _, hj, le_ok rfl, ?_⟩
    have hj1 := getset hj (.ins x CE FE ({ eff0 (at_ + 1) taken with name := some n } : Eff).rs)
    refine ⟨_, rfl, _, rfl, rfl, iteFb rfl ⟨_, rfl, _, rfl, rfl, iteFb rfl ⟨_, rfl, _, rfl, rfl, iteTb rfl ?_⟩⟩⟩
    refine ⟨_, rfl, j, _, _, hj1, rfl, ?_⟩
    refine dlen_lstR (i := 3) rfl (lstR_set hj _ hH) ⟨rfl, ite2b (fun hb => ?_) (fun hb => ?_)⟩
    · replace hb : PyData.eqv (.int taken) (.int (((iR hs).length : Nat) : Int)) = true := hb
      have hb' : taken = hs.length := by
        have h2 : taken = (((iR hs).length : Nat) : Int) := by simpa [PyData.eqv] using hb
        rw [iR_len] at h2
        exact h2
      have ef : effect (.take n) at_ taken ns hs fs = { eff0 (at_ + 1) taken with name := some n, fault := some "none", taken := taken + 1 } := if_pos hb'
      rw [ef] at h
      refine ⟨_, rfl, j, _, hj1, le_ok rfl, ?_⟩
      rw [List.set_set]
      have hj2 := getset hj (.ins x CE FE ({ eff0 (at_ + 1) taken with name := some n, fault := some "none" } : Eff).rs)
      refine ⟨_, rfl, j, _, _, hj2, rfl, _, rfl, j, _, hj2, le_ok rfl, ?_⟩
      rw [List.set_set]
      exact WkC.of h
    · replace hb : PyData.eqv (.int taken) (.int (((iR hs).length : Nat) : Int)) = false := hb
      have hb' : ¬ taken = hs.length := fun z => by
        rw [PyData.eqv, iR_len, ← z] at hb
        simp at hb
      have ef : effect (.take n) at_ taken ns hs fs = { eff0 (at_ + 1) taken with name := some n, number := some (hs.getD taken.toNat 0), taken := taken + 1 } := if_neg hb'
      rw [ef] at h
      have ha := iR_at (ns := hs) (i := taken.toNat) (by omega)
      rw [toNat_cast ht0] at ha
      refine ⟨_, rfl, _, rfl, j, _, _, hj1, rfl, ix_lstR (lstR_set hj _ hH) ha ⟨_, rfl, j, _, hj1, le_ok rfl, ?_⟩⟩
      rw [List.set_set]
      have hj2 := getset hj (.ins x CE FE ({ eff0 (at_ + 1) taken with name := some n, number := some (hs.getD taken.toNat 0) } : Eff).rs)
      refine ⟨_, rfl, j, _, _, hj2, rfl, _, rfl, j, _, hj2, le_ok rfl, ?_⟩
      rw [List.set_set]
      exact WkC.of h
  | get n fl p =>
    obtain ⟨hn, hf, hp, hd⟩ := ok
    have h0 := Part.nonneg hnn p hp
    have ef : effect (.get n fl p) at_ taken ns hs fs = if ((fs.getD fl.toNat []).length : Int) ≤ p.worth ns then { eff0 (at_ + 1) taken with name := some n, fault := some "place" } else { eff0 (at_ + 1) taken with name := some n, number := some ((fs.getD fl.toNat []).getD (p.worth ns).toNat 0) } := rfl
    rw [ef] at h
    have fa := file_at fl hf
    clear ef
    generalize fs.getD fl.toNat [] = hd at fa h
    refine ⟨_, rfl, _, rfl, _, rfl, j, _, hj, le_ok rfl, ?_⟩
    have hj1 := getset hj (.ins x CE FE ({ eff0 (at_ + 1) taken with name := some n } : Eff).rs)
    refine ⟨_, rfl, _, rfl, rfl, iteFb rfl ⟨_, rfl, _, rfl, rfl, iteFb rfl ⟨_, rfl, _, rfl, rfl, iteFb rfl ?_⟩⟩⟩
    refine ⟨_, rfl, _, rfl, _, rfl, rfl, p, rN, ns, rfl, lstR_set hj _ hN, hp, by assumption, ?_⟩
    generalize p.worth ns = v at h h0
    refine ⟨_, rfl, _, rfl, _, rfl, _, rfl, ix_lstR (lstR_set hj _ hF) fa (ite2d (fun hb => ?_) (fun hb => ?_))⟩
    · rw [List.length_map] at hb
      rw [if_pos hb] at h
      refine ⟨_, rfl, j, _, hj1, le_ok rfl, ?_⟩
      rw [List.set_set]
      exact WkC.of h
    · rw [List.length_map] at hb
      rw [if_neg hb] at h
      have ha : atI (hd.map PyData.int) v = some (.int (hd.getD v.toNat 0)) := by
        have e : (hd.map PyData.int)[v.toNat]? = some (.int (hd.getD v.toNat 0)) := by
          rw [List.getElem?_map, List.getD_eq_getElem?_getD, List.getElem?_eq_getElem (by omega)]
          rfl
        have e2 := atI_nat e
        rw [toNat_cast h0] at e2
        exact e2
      refine ⟨_, rfl, _, rfl, _, rfl, ix_lstR (lstR_set hj _ hF) fa ⟨_, rfl, _, ha, _, rfl, j, _, hj1, le_ok rfl, ?_⟩⟩
      rw [List.set_set]
      exact WkC.of h
  | _ => cases hc
/-! effect -/
def spEffect (CE : Addr) : SpD := fun rs S C => ∃ (rows : List PRow) (row : PRow) (at_ : Nat) (taken many : Int) (rN rH rF : R) (ns hs : List Int) (fs : List (List Int)), rs = [.dat (.tuple (rows.map PRow.dat)), .dat (.int at_), rN, .dat (.int taken), rH, rF] ∧ rows[at_]? = some row ∧
  row.ok ns.length fs.length many ∧ lstR S rN (iR ns) ∧ lstR S rH (iR hs) ∧ lstR S rF (fileR fs) ∧ (∀ n ∈ ns, 0 ≤ n) ∧ (∀ f ∈ fs, f.length ≤ 1000) ∧ 0 ≤ taken ∧ taken ≤ hs.length ∧ C (.obj CE FE (effect row at_ taken ns hs fs).rs) S
abbrev s_effect : Stmt := topS 29
abbrev N_effect : List Str := ["rows", "at", "names", "taken", "handed", "files", "row", "word", "found"]
theorem sc_effect : FnScope N_effect ["rows", "at", "names", "taken", "handed", "files"] (defScope s_effect) := ⟨rfl, rfl, rfl, by decide +kernel, rfl, by decide +kernel, by decide +kernel⟩
theorem ok_effect {k : Nat} {a1 : Addr} (F : FunAt K mg "effect" s_effect ["rows", "at", "names", "taken", "handed", "files"]) (B : Blt mg) (TE : Klass K CE FE) (I1 : DefI P w K mg base "Effect" CE 1 3 (spEffInit CE)) (D1 : Def P w K mg base "worth" 4 2 (spWorth 3)) (D2 : Def P w K mg base "changed" 5 4 (spChanged CE)) (D3 : Def P w K mg base "named" 5 5 (spNamed CE))
    (c1 : mg "CHANGES" = some (.ref a1)) (k1 : KTup K a1 (changeW.map V.str)) : Def P w K mg base "effect" (k + 6) 6 (spEffect CE) := by
  refine okW F sc_effect rfl fun cdv A outer s H E f hr => ⟨_,
    (ss_cons (s_set (i := 6) sc_effect.nd (d_ix (hu_of hr) (dv 0) (dv 1)))
      (ss_cons (s_set (i := 7) sc_effect.nd (d_ix (hu_of hr) (dv 6) d_int))
      (ss_cons (s_set (i := 8) sc_effect.nd (d_make FE I1 (hr.mono (by omega)) (by rfl) (a_cons (d_add (dv 1) d_int) (a_cons (dv 3) a_nil))))
      (ss_cons (s_if (t_in (dv 7) (d_globT (ns := changeW) (by rfl) c1 k1))
      (ss_one (s_ret (d_callF D2 (hr.mono (by omega)) (by rfl) (a_cons (dv 8) (a_cons (dv 6) (a_cons (dv 2) (a_cons (dv 5) a_nil)))))))
      ss_nil)
      (ss_cons (s_if (t_eq hr.units (dv 7) d_str)
      (ss_one (s_fld TE 8 (dv 8) (d_callF D1 (hr.mono (by omega)) (by rfl) (a_cons (d_ix (hu_of hr) (dv 6) d_int) (a_cons (dv 2) a_nil)))))
      (ss_one (s_if (t_eq hr.units (dv 7) d_str)
      (ss_one (s_fld TE 0 (dv 8) (d_ix (hu_of hr) (dv 6) d_int)))
      (ss_one (s_if (t_eq hr.units (dv 7) d_str)
      (ss_one (s_fld TE 0 (dv 8) (d_if (t_eq hr.units (d_ix (hu_of hr) (dv 2) (d_ix (hu_of hr) (dv 6) d_int)) d_int) (d_ix (hu_of hr) (dv 6) d_int) (d_add (dv 1) d_int))))
      (ss_one (s_if (t_ne hr.units (dv 7) d_str)
      (ss_one (s_expr (d_callF D3 (hr.mono (by omega)) (by rfl) (a_cons (dv 8) (a_cons (dv 6) (a_cons (dv 2) (a_cons (dv 4) (a_cons (dv 5) a_nil))))))))
      ss_nil)))))))
      (ss_one (s_ret (dv 8))))))))
    , ?_⟩
  intro rs S C hl h
  obtain ⟨rows, row, at_, taken, many, rN, rH, rF, ns, hs, fs, rfl, hrow, ok, hN, hH, hF, hnn, hfl, ht0, ht1, h⟩ := h
  have ha : atI (rows.map PRow.dat) (at_ : Int) = some row.dat := atI_nat (by rw [List.getElem?_map, hrow]; rfl)
  refine ⟨_, rfl, _, rfl, _, ha, ?_⟩
  refine ⟨_, rfl, _, at0, ?_⟩
  refine ⟨_, rfl, _, rfl, rfl, fun x => ⟨x, _, _, S, rfl, rfl, rfl, ?_⟩⟩
  refine ⟨_, rfl, rfl, rfl, ?_⟩
  have fin : ∀ e : Eff, e = effect row at_ taken ns hs fs → WkC C (.val (.ref x)) (.ins x CE FE e.rs :: S) := fun e he => by
    rw [he]
    exact ⟨_, _, wkn_obj rfl, h⟩
  clear h
  have hN' := lstR_cons (.ins x CE FE (eff0 ((at_ : Int) + 1) taken).rs) hN
  have hH' := lstR_cons (.ins x CE FE (eff0 ((at_ : Int) + 1) taken).rs) hH
  have hF' := lstR_cons (.ins x CE FE (eff0 ((at_ : Int) + 1) taken).rs) hF
  cases row with
  | add fl p => exact iteTb rfl ⟨_, rfl, _, rfl, _, rfl, _, rfl, rfl, x, .add fl p, at_, taken, many, rN, rF, ns, hs, fs, 0, rfl, rfl, rfl, ok, hN', hF', hnn, hfl, fin _ rfl⟩
  | put fl p q => exact iteTb rfl ⟨_, rfl, _, rfl, _, rfl, _, rfl, rfl, x, .put fl p q, at_, taken, many, rN, rF, ns, hs, fs, 0, rfl, rfl, rfl, ok, hN', hF', hnn, hfl, fin _ rfl⟩
  | cut fl p => exact iteTb rfl ⟨_, rfl, _, rfl, _, rfl, _, rfl, rfl, x, .cut fl p, at_, taken, many, rN, rF, ns, hs, fs, 0, rfl, rfl, rfl, ok, hN', hF', hnn, hfl, fin _ rfl⟩
  | send p =>
    refine iteFb rfl ⟨_, rfl, rfl, iteTb rfl ?_⟩
    refine ⟨_, rfl, _, rfl, _, rfl, rfl, p, rN, ns, rfl, hN', ok.1, ok.2, _, rfl, 0, _, rfl, le_ok rfl, ?_⟩
    exact ⟨_, rfl, fin _ rfl⟩
  | go r =>
    refine iteFb rfl ⟨_, rfl, rfl, iteFb rfl ⟨_, rfl, rfl, iteTb rfl ?_⟩⟩
    refine ⟨_, rfl, _, rfl, _, rfl, 0, _, rfl, le_ok rfl, ?_⟩
    exact ⟨_, rfl, fin _ rfl⟩
  | unl n r =>
    obtain ⟨hn, hr2⟩ := ok
    have hi := iR_at (ns := ns) (i := n.toNat) (by have := hn.1; have := hn.2; omega)
    rw [toNat_cast hn.1] at hi
    refine iteFb rfl ⟨_, rfl, rfl, iteFb rfl ⟨_, rfl, rfl, iteFb rfl ⟨_, rfl, rfl, iteTb rfl ?_⟩⟩⟩
    refine ⟨_, rfl, _, rfl, _, rfl, ix_lstR hN' hi ⟨rfl, ite2b (fun hb => ?_) (fun hb => ?_)⟩⟩
    · have hb' : ns.getD n.toNat 0 = 0 := by
        rw [PyData.eqv] at hb
        exact eq_of_beq hb
      refine ⟨_, rfl, _, rfl, _, rfl, 0, _, rfl, le_ok rfl, ?_⟩
      exact ⟨_, rfl, fin _ (if_pos hb').symm⟩
    · have hb' : ¬ ns.getD n.toNat 0 = 0 := fun z => by
        rw [PyData.eqv, z] at hb
        cases hb
      refine ⟨_, rfl, _, rfl, 0, _, rfl, le_ok rfl, ?_⟩
      exact ⟨_, rfl, fin _ (if_neg hb').symm⟩
  | mark =>
    refine iteFb rfl ⟨_, rfl, rfl, iteFb rfl ⟨_, rfl, rfl, iteFb rfl ⟨_, rfl, rfl, iteFb rfl ⟨_, rfl, rfl, iteFb rfl ?_⟩⟩⟩⟩
    exact ⟨_, rfl, fin _ rfl⟩
  | set n p =>
    refine iteFb rfl ⟨_, rfl, rfl, iteFb rfl ⟨_, rfl, rfl, iteFb rfl ⟨_, rfl, rfl, iteFb rfl ⟨_, rfl, rfl, iteTb rfl ?_⟩⟩⟩⟩
    exact ⟨_, rfl, _, rfl, _, rfl, _, rfl, _, rfl, rfl, x, .set n p, at_, taken, many, rN, rH, rF, ns, hs, fs, 0, rfl, rfl, rfl, ok, hN', hH', hF', hnn, ht0, ht1, _, rfl, fin _ rfl⟩
  | size n fl =>
    refine iteFb rfl ⟨_, rfl, rfl, iteFb rfl ⟨_, rfl, rfl, iteFb rfl ⟨_, rfl, rfl, iteFb rfl ⟨_, rfl, rfl, iteTb rfl ?_⟩⟩⟩⟩
    exact ⟨_, rfl, _, rfl, _, rfl, _, rfl, _, rfl, rfl, x, .size n fl, at_, taken, many, rN, rH, rF, ns, hs, fs, 0, rfl, rfl, rfl, ok, hN', hH', hF', hnn, ht0, ht1, _, rfl, fin _ rfl⟩
  | take n =>
    refine iteFb rfl ⟨_, rfl, rfl, iteFb rfl ⟨_, rfl, rfl, iteFb rfl ⟨_, rfl, rfl, iteFb rfl ⟨_, rfl, rfl, iteTb rfl ?_⟩⟩⟩⟩
    exact ⟨_, rfl, _, rfl, _, rfl, _, rfl, _, rfl, rfl, x, .take n, at_, taken, many, rN, rH, rF, ns, hs, fs, 0, rfl, rfl, rfl, ok, hN', hH', hF', hnn, ht0, ht1, _, rfl, fin _ rfl⟩
  | get n fl p =>
    refine iteFb rfl ⟨_, rfl, rfl, iteFb rfl ⟨_, rfl, rfl, iteFb rfl ⟨_, rfl, rfl, iteFb rfl ⟨_, rfl, rfl, iteTb rfl ?_⟩⟩⟩⟩
    exact ⟨_, rfl, _, rfl, _, rfl, _, rfl, _, rfl, rfl, x, .get n fl p, at_, taken, many, rN, rH, rF, ns, hs, fs, 0, rfl, rfl, rfl, ok, hN', hH', hF', hnn, ht0, ht1, _, rfl, fin _ rfl⟩
end
end K05
set_option Elab.async false
set_option linter.all false
set_option maxRecDepth 100000
set_option maxHeartbeats 4000000
/-! The works as plain states, and how they lie in cells. -/
namespace PM
open PySem PySem.Spec PyProof.Rows L2 DL

structure MarkS where
  row : Int
  names : List Int
  taken : Int
  passed : Int
  letters : Int
structure InnerS where
  row : Int
  names : List Int
  taken : Int
  passed : Int
  letters : Int
  since : Int
  noted : Option Eff
  out : Bool
  again : Int
structure WorkS where
  rows : List PRow
  handed : List Int
  way : Str
  often : Int
  held : List (List Int)
  letters : List Int
  mark : MarkS
  jots : List Eff
  made : Int
  over : PyData
  inner : Option InnerS
  count : Int
abbrev backW : Str := "back"
abbrev onW : Str := "on"
/-! ### what the methods do -/
def putFile (held : List (List Int)) (f : Option Int) (pos : Int) (new : List Int) : List (List Int) := match f with
  | none => held
  | some f => held.set f.toNat ((held.getD f.toNat []).take pos.toNat ++ new)
def putName (ns : List Int) (e : Eff) : List Int := match e.name, e.number with
  | some n, some v => ns.set n.toNat v
  | _, _ => ns
def one (b : Bool) : Int := if b then 1 else 0
def takeOver (e : Eff) (i : InnerS) : InnerS := { i with names := putName i.names e, letters := i.letters + one e.letter.isSome, row := e.row, taken := e.taken, passed := i.passed + 1, since := i.since + 1 }
def told1 (w : Str) : PyData := .tuple [.str w]
def told2 (w : Str) (n : Int) : PyData := .tuple [.str w, .int n]
def keepW (st : WorkS) (i : InnerS) : PyData × WorkS := (told2 "marks" i.row, { st with mark := ⟨i.row, i.names, i.taken, i.passed, i.letters⟩, jots := [], made := 0, inner := some { i with since := 0 } })
def endsW (st : WorkS) (how : PyData) : PyData × WorkS := (.tuple [.str "ends", how], { st with over := how })
def sendsW (st : WorkS) (i : InnerS) (v : Int) : PyData × WorkS :=
  if i.letters < st.letters.length then (told2 "skips" i.row, { st with inner := some { i with out := true } })
  else (told2 "sends" i.row, { st with inner := some { i with out := true }, letters := st.letters ++ [v] })
def doesW (st : WorkS) (i : InnerS) (e : Eff) : PyData × WorkS :=
  (told2 "does" i.row, { st with held := putFile st.held e.file e.pos e.new, made := st.jots.length, inner := some (takeOver e { i with noted := none, out := false }), count := st.count + 1 })
def doneW (st : WorkS) (i : InnerS) (e : Eff) : PyData × WorkS := match e.letter, i.out with
  | some v, false => sendsW st i v
  | _, _ => doesW st i e
def isMark : PRow → Bool
  | .mark => true | _ => false
def changes : PRow → Bool
  | .add _ _ => true | .put _ _ _ => true | .cut _ _ => true | _ => false
def rowAt (rows : List PRow) (i : Int) : PRow := rows.getD i.toNat .mark
def effAt (st : WorkS) (i : InnerS) : Eff := effect (rowAt st.rows i.row) i.row i.taken i.names st.handed st.held
def beginW (st : WorkS) (i : InnerS) : PyData × WorkS :=
  if i.row = st.rows.length then endsW st (told1 "end")
  else if i.passed = 1000 then endsW st (told1 "long")
  else if 0 < st.often ∧ st.often ≤ i.since then keepW st i
  else match (effAt st i).fault with
    | some f => endsW st (.tuple [.str "fault", .str f])
    | none =>
      if isMark (rowAt st.rows i.row) = true then keepW { st with count := st.count + 1 } (takeOver (effAt st i) i)
      else if st.way = onW ∨ changes (rowAt st.rows i.row) = true then (told2 "notes" i.row, { st with jots := st.jots ++ [effAt st i], inner := some { i with noted := some (effAt st i) } })
      else doneW { st with inner := some { i with noted := some (effAt st i) } } { i with noted := some (effAt st i) } (effAt st i)
def mkInner (m : MarkS) (again : Int) : InnerS := ⟨m.row, m.names, m.taken, m.passed, m.letters, 0, none, false, again⟩
def riseW (st : WorkS) : PyData × WorkS := match st.jots.getLast? with
  | some e => if st.way = backW then (told2 "back" (e.file.getD 0), { st with jots := st.jots.dropLast, held := putFile st.held e.file e.pos e.old })
    else (told2 "rises" st.mark.row, { st with inner := some (mkInner st.mark st.jots.length) })
  | none => (told2 "rises" st.mark.row, { st with inner := some (mkInner st.mark st.jots.length) })
def goW (st : WorkS) (i : InnerS) : PyData × WorkS :=
  let place := (st.jots.length : Int) - i.again
  let e := st.jots.getD place.toNat (eff0 0 0)
  if place = st.made then (told2 "again" i.row, { st with inner := some { i with again := i.again - 1, noted := some e } })
  else (told2 "again" i.row, { st with inner := some (takeOver e { i with again := i.again - 1 }) })
def isOver (st : WorkS) : Bool := match st.over with
  | .none => false
  | _ => true
def moveW (st : WorkS) : PyData × WorkS :=
  if isOver st = true then (told1 "rests", st) else match st.inner with
    | none => riseW st
    | some i => if 0 < i.again then goW st i else match i.noted with
      | some e => doneW st i e
      | none => beginW st i
def fallW (st : WorkS) : WorkS := { st with inner := none }
def newW (p : Prog) (hs : List Int) (way : Str) (often : Int) : WorkS :=
  { rows := p.rows, handed := hs, way := way, often := often, held := List.replicate p.files.toNat [], letters := [], mark := ⟨0, List.replicate p.names.toNat 0, 0, 0, 0⟩, jots := [], made := 0, over := .none,
    inner := some (mkInner ⟨0, List.replicate p.names.toNat 0, 0, 0, 0⟩ 0), count := 0 }
/-! ### what is known of states -/
def NN (ns : List Int) : Prop := ∀ n ∈ ns, 0 ≤ n
structure EffOk (nN nF hl many : Nat) (e : Eff) : Prop where
  row : 0 ≤ e.row ∧ e.row ≤ many
  taken : 0 ≤ e.taken ∧ e.taken ≤ hl
  name : ∀ n, e.name = some n → NumOk n nN ∧ ∃ v, e.number = some v ∧ 0 ≤ v
  file : ∀ f, e.file = some f → NumOk f nF
  pos : 0 ≤ e.pos
  old : e.pos + e.old.length ≤ 40 ∧ NN e.old
  new : e.pos + e.new.length ≤ 40 ∧ NN e.new
structure NamesOk (nN : Nat) (ns : List Int) : Prop where
  len : ns.length = nN
  nn : NN ns
structure MarkOk (nN hl many : Nat) (m : MarkS) : Prop where
  row : 0 ≤ m.row ∧ m.row ≤ many
  names : NamesOk nN m.names
  taken : 0 ≤ m.taken ∧ m.taken ≤ hl
structure InnerOk (nN nF hl many jl : Nat) (i : InnerS) : Prop where
  row : 0 ≤ i.row ∧ i.row ≤ many
  names : NamesOk nN i.names
  taken : 0 ≤ i.taken ∧ i.taken ≤ hl
  noted : ∀ e, i.noted = some e → EffOk nN nF hl many e
  again : 0 ≤ i.again ∧ i.again ≤ jl
structure WorkOk (nN nF : Nat) (st : WorkS) : Prop where
  rows : ∀ r ∈ st.rows, r.ok nN nF st.rows.length
  handed : NN st.handed
  held : st.held.length = nF ∧ ∀ f ∈ st.held, f.length ≤ 40 ∧ NN f
  mark : MarkOk nN st.handed.length st.rows.length st.mark
  jots : ∀ e ∈ st.jots, EffOk nN nF st.handed.length st.rows.length e
  back : st.way = backW → ∀ e ∈ st.jots, ∃ f, e.file = some f
  inner : ∀ i, st.inner = some i → InnerOk nN nF st.handed.length st.rows.length st.jots.length i
def filesD (held : List (List Int)) : PyData := .list (held.map lstI)
/-! ### how a work lies in cells -/
structure Cs where
  E : Addr
  M : Addr
  I : Addr
  W : Addr
structure As where
  h : Addr
  l : Addr
  j : Addr
  i : Addr
  n : Addr
def effR (c : Cs) (e : Eff) : R := .obj c.E FE e.rs
def notedR (c : Cs) : Option Eff → R
  | none => .dat .none
  | some e => effR c e
def MarkS.rs (m : MarkS) : List R := [.dat (.int m.row), .dat (tupI m.names), .dat (.int m.taken), .dat (.int m.passed), .dat (.int m.letters)]
def InnerS.rs (c : Cs) (n : Addr) (i : InnerS) : List R := [.dat (.int i.row), .val (.ref n), .dat (.int i.taken), .dat (.int i.passed), .dat (.int i.letters), .dat (.int i.since), notedR c i.noted, .dat (.bool i.out), .dat (.int i.again)]
def inR (a : As) : Option InnerS → R
  | none => .dat .none
  | some _ => .val (.ref a.i)
def inC (c : Cs) (a : As) : Option InnerS → SH
  | none => []
  | some i => [.ins a.i c.I FI (i.rs c a.n), .lst a.n (iR i.names)]
def WorkS.rs (c : Cs) (a : As) (st : WorkS) : List R := [.dat (.tuple (st.rows.map PRow.dat)), .dat (lstI st.handed), .dat (.str st.way), .dat (.int st.often), .val (.ref a.h), .val (.ref a.l), .obj c.M FM st.mark.rs, .val (.ref a.j), .dat (.int st.made), .dat st.over, inR a st.inner, .dat (.int st.count)]
def wC (c : Cs) (w : Addr) (a : As) (st : WorkS) : SH := [.ins w c.W FW (st.rs c a), .lst a.h (fileR st.held), .lst a.l (iR st.letters), .lst a.j (st.jots.map (effR c))] ++ inC c a st.inner
/-- a method's promise: what it tells, what it leaves -/
def spM (c : Cs) (f : WorkS → PyData × WorkS) (ok : WorkS → Prop) : SpD := fun rs S C => ∃ (w : Addr) (a : As) (st : WorkS), rs = [.val (.ref w)] ∧ S = wC c w a st ∧ ok st ∧ ∀ a', C (.dat (f st).1) (wC c w a' (f st).2)
theorem ixN_of {l : Nat} {n : Int} (h : NumOk n l) : ixN l n = some n.toNat := by
  unfold ixN
  rw [if_pos h.1, if_pos h.2]
/-! ### the frame -/
def framed (sp : SpD) : SpD := fun rs S C => ∃ S0 T, S.Perm (S0 ++ T) ∧ sp rs S0 fun r S' => C r (S' ++ T)
theorem toSp_frame {K : Fg} {n : Nat} {sp : SpD} : ∀ vs H Q E, toSp K n (framed sp) vs H Q E → toSp K n sp vs H Q E := fun vs H Q E ⟨hl, F, S, L, rs, C, o, lv, ⟨S0, T, hp, hs⟩, q⟩ =>
  ⟨hl, T ++ F, S0, L, rs, fun r S' => C r (S' ++ T), (by
    have o2 := o.perm (hp.append_right F)
    rw [List.append_assoc] at o2
    exact o2), lv, hs, fun v r S' H' o' h' => q v r (S' ++ T) H' (by
    have o3 : Ok K H' (S' ++ (T ++ F)) ((v, r) :: L) := o'
    rw [← List.append_assoc] at o3
    exact o3) h'⟩
section
variable {P : Program} {w : World} {K : Fg} {mg : Str → Option Value} {base : Heap} {C : Addr} {m x : Str} {k n : Nat} {sp : SpD}
theorem frameM (d : DefM P w K mg base C m k n sp) : DefM P w K mg base C m k n (framed sp) := by
  obtain ⟨f, fd, ps, a, b⟩ := d.ex
  exact ⟨f, fd, ps, a.imp toSp_frame, b⟩
theorem frameI (d : DefI P w K mg base x C k n sp) : DefI P w K mg base x C k n (framed sp) := by
  obtain ⟨f, fd, ps, a, b⟩ := d.ex
  exact ⟨f, fd, ps, a.imp toSp_frame, b⟩
theorem frameF (d : Def P w K mg base x k n sp) : Def P w K mg base x k n (framed sp) := by
  obtain ⟨f, fd, ps, a, b⟩ := d.ex
  exact ⟨f, fd, ps, a.imp toSp_frame, b⟩
end
end PM
set_option Elab.async false
set_option linter.all false
set_option maxRecDepth 100000
set_option maxHeartbeats 4000000
namespace K05
open PySem PySem.Spec PyProof.Rows L2 DL PM
section
variable {P : Program} {w : World} {K : Fg} {mg : Str → Option Value} {base : Heap} {c : Cs}
theorem iR_eq (ns : List Int) : (ns.map PyData.int).map R.dat = iR ns := by unfold iR; rw [List.map_map]; rfl
theorem dats_iR (ns : List Int) : dats (iR ns) = some (ns.map PyData.int) := by rw [← iR_eq]; exact dats_map _
theorem sub4 {α : Type} (a b c d : α) (T : List α) : [a, b, c, d].Sublist (a :: b :: c :: d :: T) := .cons₂ a (.cons₂ b (.cons₂ c (.cons₂ d (List.nil_sublist T))))
/-! Mark.__init__, Inner.__init__ -/
def spMarkInit (c : Cs) : SpD := fun rs S C => ∃ (x : Addr) (r1 r2 r3 r4 r5 : R) (S0 : SH), rs = [.val (.ref x), r1, r2, r3, r4, r5] ∧ S = .ins x c.M FM [] :: S0 ∧ C (.dat .none) (.ins x c.M FM [r1, r2, r3, r4, r5] :: S0)
abbrev s_Mark___init__ : Stmt := inClass (topS 35) 0
abbrev N_Mark___init__ : List Str := ["self", "row", "names", "taken", "passed", "letters"]
theorem sc_Mark___init__ : FnScope N_Mark___init__ ["self", "row", "names", "taken", "passed", "letters"] (defScope s_Mark___init__) := ⟨rfl, rfl, rfl, by decide +kernel, rfl, by decide +kernel, by decide +kernel⟩
theorem ok_mark_init {k : Nat} (F : FunI K mg "Mark" c.M "Mark.__init__" s_Mark___init__ ["self", "row", "names", "taken", "passed", "letters"]) (TM : Klass K c.M FM) : DefI P w K mg base "Mark" c.M (k + 1) 6 (spMarkInit c) := by
  refine okI F sc_Mark___init__ rfl fun cdv A outer s H E f hr => ⟨_,
    (ss_cons (s_fld TM 0 (dv 0) (dv 1))
      (ss_cons (s_fld TM 1 (dv 0) (dv 2))
      (ss_cons (s_fld TM 2 (dv 0) (dv 3))
      (ss_cons (s_fld TM 3 (dv 0) (dv 4))
      (ss_one (s_fld TM 4 (dv 0) (dv 5)))))))
    , ?_⟩
  intro rs S C hl h
  obtain ⟨x, r1, r2, r3, r4, r5, S0, rfl, rfl, h⟩ := h
  refine ⟨_, rfl, _, rfl, 0, _, rfl, le_ok rfl, ?_⟩
  refine ⟨_, rfl, _, rfl, 0, _, rfl, le_ok rfl, ?_⟩
  refine ⟨_, rfl, _, rfl, 0, _, rfl, le_ok rfl, ?_⟩
  refine ⟨_, rfl, _, rfl, 0, _, rfl, le_ok rfl, ?_⟩
  refine ⟨_, rfl, _, rfl, 0, _, rfl, le_ok rfl, ?_⟩
  exact WkC.of h
def spInnerInit (c : Cs) : SpD := fun rs S C => ∃ (x : Addr) (m : MarkS) (again : Int) (S0 : SH), rs = [.val (.ref x), .obj c.M FM m.rs, .dat (.int again)] ∧ S = .ins x c.I FI [] :: S0 ∧ ∀ n, C (.dat .none) (.lst n (iR m.names) :: .ins x c.I FI ((mkInner m again).rs c n) :: S0)
abbrev s_Inner___init__ : Stmt := inClass (topS 36) 0
abbrev N_Inner___init__ : List Str := ["self", "mark", "again"]
theorem sc_Inner___init__ : FnScope N_Inner___init__ ["self", "mark", "again"] (defScope s_Inner___init__) := ⟨rfl, rfl, rfl, by decide +kernel, rfl, by decide +kernel, by decide +kernel⟩
theorem ok_inner_init {k : Nat} (F : FunI K mg "Inner" c.I "Inner.__init__" s_Inner___init__ ["self", "mark", "again"]) (B : Blt mg) (TM : Klass K c.M FM) (TI : Klass K c.I FI) : DefI P w K mg base "Inner" c.I (k + 1) 3 (spInnerInit c) := by
  refine okI F sc_Inner___init__ rfl fun cdv A outer s H E f hr => ⟨_,
    (ss_cons (s_fld TI 0 (dv 0) (d_fld TM 0 (dv 1)))
      (ss_cons (s_fld TI 1 (dv 0) (d_listC (by rfl) B.list (a_cons (d_fld TM 1 (dv 1)) a_nil)))
      (ss_cons (s_fld TI 2 (dv 0) (d_fld TM 2 (dv 1)))
      (ss_cons (s_fld TI 3 (dv 0) (d_fld TM 3 (dv 1)))
      (ss_cons (s_fld TI 4 (dv 0) (d_fld TM 4 (dv 1)))
      (ss_cons (s_fld TI 5 (dv 0) d_int)
      (ss_cons (s_fld TI 6 (dv 0) d_non)
      (ss_cons (s_fld TI 7 (dv 0) d_bl)
      (ss_one (s_fld TI 8 (dv 0) (dv 2)))))))))))
    , ?_⟩
  intro rs S C hl h
  obtain ⟨x, m, again, S0, rfl, rfl, h⟩ := h
  refine ⟨_, rfl, rfl, rfl, _, rfl, _, rfl, 0, _, rfl, le_ok rfl, ?_⟩
  refine ⟨_, rfl, rfl, rfl, _, rfl, fun n => ⟨_, rfl, 1, _, rfl, le_ok rfl, ?_⟩⟩
  refine ⟨_, rfl, rfl, rfl, _, rfl, _, rfl, 1, _, rfl, le_ok rfl, ?_⟩
  refine ⟨_, rfl, rfl, rfl, _, rfl, _, rfl, 1, _, rfl, le_ok rfl, ?_⟩
  refine ⟨_, rfl, rfl, rfl, _, rfl, _, rfl, 1, _, rfl, le_ok rfl, ?_⟩
  refine ⟨_, rfl, 1, _, rfl, le_ok rfl, ?_⟩
  refine ⟨_, rfl, 1, _, rfl, le_ok rfl, ?_⟩
  refine ⟨_, rfl, 1, _, rfl, le_ok rfl, ?_⟩
  refine ⟨_, rfl, _, rfl, 1, _, rfl, le_ok rfl, ?_⟩
  have h2 := h n
  rw [← iR_eq] at h2
  exact WkC.of h2
/-! fall, what is told -/
abbrev s_Work_fall : Stmt := inClass (topS 37) 1
abbrev N_Work_fall : List Str := ["self"]
theorem sc_Work_fall : FnScope N_Work_fall ["self"] (defScope s_Work_fall) := ⟨rfl, rfl, rfl, by decide +kernel, rfl, by decide +kernel, by decide +kernel⟩
theorem ok_fall {k : Nat} (F : FunM K c.W "fall" "Work.fall" s_Work_fall ["self"]) (TW : Klass K c.W FW) : DefM P w K mg base c.W "fall" (k + 1) 1 (spM c (fun st => (.none, fallW st)) fun _ => True) := by
  refine okM F sc_Work_fall rfl fun cdv A outer s H E f hr => ⟨_,
    (ss_one (s_fld TW 10 (dv 0) d_non))
    , ?_⟩
  intro rs S C hl h
  obtain ⟨wa, a, ⟨rows, handed, way, often, held, letters, mark, jots, made, over, inner, count⟩, rfl, rfl, ok, h⟩ := h
  refine ⟨_, rfl, 0, _, rfl, le_ok rfl, ?_⟩
  exact ⟨_, _, wkn_sub (List.Perm.refl _) (sub4 _ _ _ _ _), h a⟩
abbrev s_Work_files : Stmt := inClass (topS 37) 11
abbrev N_Work_files : List Str := ["self", "file"]
theorem sc_Work_files : FnScope N_Work_files ["self"] (defScope s_Work_files) := ⟨rfl, rfl, rfl, by decide +kernel, rfl, by decide +kernel, by decide +kernel⟩
theorem ok_files {k : Nat} (F : FunM K c.W "files" "Work.files" s_Work_files ["self"]) (B : Blt mg) (TW : Klass K c.W FW) : DefM P w K mg base c.W "files" (k + 1) 1 (spM c (fun st => (filesD st.held, st)) fun st => st.held.length ≤ 1000) := by
  refine okM F sc_Work_files rfl fun cdv A outer s H E f hr => ⟨_,
    (ss_one (s_ret (d_lcK (fun _ => end_dat) sc_Work_files.nd (i := 1) (d_fld TW 4 (dv 0)) (blkOk_by (N := N_Work_files) (sc := defScope s_Work_files) (own := [("file", 1)]) (by decide +kernel)) (fun _ _ _ _ _ => pg_name (i := 1) sc_Work_files.nd rfl (Or.inl rfl)) (fun _ _ _ _ _ => ts_nil) (fun _ _ _ _ _ => (d_list (by rfl) B.list (a_cons (dv 1) a_nil))))))
    , ?_⟩
  intro rs S C hl h
  obtain ⟨wa, a, st, rfl, rfl, ok, h⟩ := h
  refine ⟨_, rfl, 0, _, _, rfl, rfl, fileR st.held, List.mem_of_getElem? (i := 1) rfl, fun i acc S' => S' = wC c wa a st ∧ acc = (fileR st.held).take i, ⟨rfl, rfl⟩, ?_, ?_, ?_⟩
  · rintro i acc S' ⟨rfl, _⟩
    exact List.mem_of_getElem? (i := 1) rfl
  · rintro i r acc S' hi ⟨rfl, rfl⟩
    have hlt := (List.getElem?_eq_some_iff.mp hi).1
    have et : (fileR st.held).take (i + 1) = (fileR st.held).take i ++ [r] := by rw [List.take_add_one, hi]; rfl
    obtain ⟨f, rfl⟩ : ∃ f, r = .dat (lstI f) := by
      unfold fileR at hi
      rw [List.getElem?_map] at hi
      cases e : st.held[i]? with
      | none => rw [e] at hi; cases hi
      | some f => rw [e] at hi; exact ⟨f, (Option.some.inj hi).symm⟩
    refine ⟨_, rfl, ?_⟩
    have h1 := List.length_take_le i (fileR st.held)
    rw [fileR_len] at hlt
    exact ⟨by omega, rfl, et.symm⟩
  · rintro acc S' ⟨rfl, rfl⟩
    rw [List.take_length]
    refine ⟨st.held.map lstI, ?_, WkC.of (h a)⟩
    have e : fileR st.held = (st.held.map lstI).map R.dat := by unfold fileR; rw [List.map_map]; rfl
    rw [e]
    exact dats_map _
abbrev s_Work_sent : Stmt := inClass (topS 37) 12
abbrev N_Work_sent : List Str := ["self"]
theorem sc_Work_sent : FnScope N_Work_sent ["self"] (defScope s_Work_sent) := ⟨rfl, rfl, rfl, by decide +kernel, rfl, by decide +kernel, by decide +kernel⟩
theorem ok_sent {k : Nat} (F : FunM K c.W "sent" "Work.sent" s_Work_sent ["self"]) (B : Blt mg) (TW : Klass K c.W FW) : DefM P w K mg base c.W "sent" (k + 1) 1 (spM c (fun st => (lstI st.letters, st)) fun _ => True) := by
  refine okM F sc_Work_sent rfl fun cdv A outer s H E f hr => ⟨_,
    (ss_one (s_ret (d_list (by rfl) B.list (a_cons (d_fld TW 5 (dv 0)) a_nil))))
    , ?_⟩
  intro rs S C hl h
  obtain ⟨wa, a, st, rfl, rfl, ok, h⟩ := h
  exact ⟨_, rfl, 0, _, _, rfl, rfl, 2, _, _, rfl, dats_iR _, WkC.of (h a)⟩
def standsD (st : WorkS) : PyData := match st.inner with
  | none => .none
  | some i => .tuple [.int i.row, lstI i.names]
abbrev s_Work_stands : Stmt := inClass (topS 37) 13
abbrev N_Work_stands : List Str := ["self"]
theorem sc_Work_stands : FnScope N_Work_stands ["self"] (defScope s_Work_stands) := ⟨rfl, rfl, rfl, by decide +kernel, rfl, by decide +kernel, by decide +kernel⟩
theorem ok_stands {k : Nat} (F : FunM K c.W "stands" "Work.stands" s_Work_stands ["self"]) (B : Blt mg) (TW : Klass K c.W FW) (TI : Klass K c.I FI) : DefM P w K mg base c.W "stands" (k + 1) 1 (spM c (fun st => (standsD st, st)) fun _ => True) := by
  refine okM F sc_Work_stands rfl fun cdv A outer s H E f hr => ⟨_,
    (ss_one (s_ret (d_if (t_isN (d_fld TW 10 (dv 0)) d_non) d_non (d_tup (a_cons (d_fld TI 0 (d_fld TW 10 (dv 0))) (a_cons (d_list (by rfl) B.list (a_cons (d_fld TI 1 (d_fld TW 10 (dv 0))) a_nil)) a_nil))))))
    , ?_⟩
  intro rs S C hl h
  obtain ⟨wa, a, ⟨rows, handed, way, often, held, letters, mark, jots, made, over, inner, count⟩, rfl, rfl, ok, h⟩ := h
  cases inner with
  | none => exact ⟨_, rfl, 0, _, _, rfl, rfl, WkC.of (h a)⟩
  | some i => exact ⟨_, rfl, 0, _, _, rfl, rfl, _, rfl, 0, _, _, rfl, rfl, 4, _, _, rfl, rfl, _, rfl, 0, _, _, rfl, rfl, 4, _, _, rfl, rfl, 5, _, _, rfl, dats_iR _, by simp, _, rfl, WkC.of (h a)⟩
abbrev s_Work_kept : Stmt := inClass (topS 37) 14
abbrev N_Work_kept : List Str := ["self"]
theorem sc_Work_kept : FnScope N_Work_kept ["self"] (defScope s_Work_kept) := ⟨rfl, rfl, rfl, by decide +kernel, rfl, by decide +kernel, by decide +kernel⟩
theorem ok_kept {k : Nat} (F : FunM K c.W "kept" "Work.kept" s_Work_kept ["self"]) (B : Blt mg) (TW : Klass K c.W FW) (TM : Klass K c.M FM) : DefM P w K mg base c.W "kept" (k + 1) 1 (spM c (fun st => (.tuple [.int st.mark.row, .int (st.jots.length : Int)], st)) fun _ => True) := by
  refine okM F sc_Work_kept rfl fun cdv A outer s H E f hr => ⟨_,
    (ss_one (s_ret (d_tup (a_cons (d_fld TM 0 (d_fld TW 6 (dv 0))) (a_cons (d_len (by rfl) B.len (a_cons (d_fld TW 7 (dv 0)) a_nil)) a_nil)))))
    , ?_⟩
  intro rs S C hl h
  obtain ⟨wa, a, st, rfl, rfl, ok, h⟩ := h
  refine ⟨_, rfl, 0, _, _, rfl, rfl, rfl, rfl, _, rfl, _, rfl, 0, _, _, rfl, rfl, 3, _, rfl, by simp, _, rfl, ?_⟩
  have h2 := h a
  refine WkC.of ?_
  rw [List.length_map]
  exact h2
abbrev s_Work_end : Stmt := inClass (topS 37) 15
abbrev N_Work_end : List Str := ["self"]
theorem sc_Work_end : FnScope N_Work_end ["self"] (defScope s_Work_end) := ⟨rfl, rfl, rfl, by decide +kernel, rfl, by decide +kernel, by decide +kernel⟩
theorem ok_end {k : Nat} (F : FunM K c.W "end" "Work.end" s_Work_end ["self"]) (TW : Klass K c.W FW) : DefM P w K mg base c.W "end" (k + 1) 1 (spM c (fun st => (st.over, st)) fun _ => True) := by
  refine okM F sc_Work_end rfl fun cdv A outer s H E f hr => ⟨_,
    (ss_one (s_ret (d_fld TW 9 (dv 0))))
    , ?_⟩
  intro rs S C hl h
  obtain ⟨wa, a, st, rfl, rfl, ok, h⟩ := h
  exact ⟨_, rfl, 0, _, _, rfl, rfl, WkC.of (h a)⟩
abbrev s_Work_steps : Stmt := inClass (topS 37) 16
abbrev N_Work_steps : List Str := ["self"]
theorem sc_Work_steps : FnScope N_Work_steps ["self"] (defScope s_Work_steps) := ⟨rfl, rfl, rfl, by decide +kernel, rfl, by decide +kernel, by decide +kernel⟩
theorem ok_steps {k : Nat} (F : FunM K c.W "steps" "Work.steps" s_Work_steps ["self"]) (TW : Klass K c.W FW) : DefM P w K mg base c.W "steps" (k + 1) 1 (spM c (fun st => (.int st.count, st)) fun _ => True) := by
  refine okM F sc_Work_steps rfl fun cdv A outer s H E f hr => ⟨_,
    (ss_one (s_ret (d_fld TW 11 (dv 0))))
    , ?_⟩
  intro rs S C hl h
  obtain ⟨wa, a, st, rfl, rfl, ok, h⟩ := h
  exact ⟨_, rfl, 0, _, _, rfl, rfl, WkC.of (h a)⟩
end
end K05
set_option Elab.async false
set_option linter.all false
set_option maxRecDepth 100000
set_option maxHeartbeats 4000000
namespace K05
open PySem PySem.Spec PyProof.Rows L2 DL PM
section
variable {P : Program} {w : World} {K : Fg} {mg : Str → Option Value} {base : Heap} {c : Cs}
/-! take_over -/
theorem putName_set {ns : List Int} {e : Eff} {n v : Int} (h1 : e.name = some n) (h2 : e.number = some v) : putName ns e = ns.set n.toNat v := by
  unfold putName; rw [h1, h2]
theorem iR_set (ns : List Int) (i : Nat) (v : Int) : (iR ns).set i (.dat (.int v)) = iR (ns.set i v) := by
  unfold iR; rw [List.map_set]
/-- with an effect handed in -/
def spT (c : Cs) (f : WorkS → InnerS → Eff → PyData × WorkS) (ok : WorkS → InnerS → Eff → Prop) : SpD := fun rs S C => ∃ (w : Addr) (a : As) (st : WorkS) (i : InnerS) (e : Eff), rs = [.val (.ref w), effR c e] ∧ S = wC c w a st ∧ st.inner = some i ∧ ok st i e ∧ ∀ a', C (.dat (f st i e).1) (wC c w a' (f st i e).2)
def nameFits (i : InnerS) (e : Eff) : Prop := ∀ n, e.name = some n → NumOk n i.names.length ∧ ∃ v, e.number = some v
abbrev s_Work_take_over : Stmt := inClass (topS 37) 5
abbrev N_Work_take_over : List Str := ["self", "told"]
theorem sc_Work_take_over : FnScope N_Work_take_over ["self", "told"] (defScope s_Work_take_over) := ⟨rfl, rfl, rfl, by decide +kernel, rfl, by decide +kernel, by decide +kernel⟩
theorem ok_take_over {k : Nat} (F : FunM K c.W "take_over" "Work.take_over" s_Work_take_over ["self", "told"]) (B : Blt mg) (TW : Klass K c.W FW) (TI : Klass K c.I FI) (TE : Klass K c.E FE) :
    DefM P w K mg base c.W "take_over" (k + 1) 2 (spT c (fun st i e => (.none, { st with inner := some (takeOver e i) })) fun _ i e => nameFits i e) := by
  refine okM F sc_Work_take_over rfl fun cdv A outer s H E f hr => ⟨_,
    (ss_cons (s_if (t_notN (d_fld TE 2 (dv 1)) d_non)
      (ss_one (s_asg (d_fld TE 3 (dv 1)) (g_sub (hu_of hr) (d_fld TI 1 (d_fld TW 10 (dv 0))) (d_fld TE 2 (dv 1)))))
      ss_nil)
      (ss_cons (s_fld TI 4 (d_fld TW 10 (dv 0)) (d_add (d_fld TI 4 (d_fld TW 10 (dv 0))) (d_intF (by rfl) B.int (a_cons (d_notN (d_fld TE 8 (dv 1)) d_non) a_nil))))
      (ss_cons (s_fld TI 0 (d_fld TW 10 (dv 0)) (d_fld TE 0 (dv 1)))
      (ss_cons (s_fld TI 2 (d_fld TW 10 (dv 0)) (d_fld TE 1 (dv 1)))
      (ss_cons (s_fld TI 3 (d_fld TW 10 (dv 0)) (d_add (d_fld TI 3 (d_fld TW 10 (dv 0))) d_int))
      (ss_one (s_fld TI 5 (d_fld TW 10 (dv 0)) (d_add (d_fld TI 5 (d_fld TW 10 (dv 0))) d_int))))))))
    , ?_⟩
  intro rs S C hl h
  obtain ⟨wa, a, ⟨rows, handed, way, often, held, letters, mark, jots, made, over, inner, count⟩, i, e, rfl, rfl, hin, ok, h⟩ := h
  cases (show inner = some i from hin)
  obtain ⟨irow, inames, itaken, ipassed, iletters, isince, inoted, iout, iagain⟩ := i
  obtain ⟨erow, etaken, ename, enumber, efile, epos, eold, enew, eletter, efault⟩ := e
  refine ⟨_, rfl, rfl, rfl, _, rfl, ?_⟩
  cases ename with
  | none =>
    cases eletter with
    | none =>
      refine ⟨_, rfl, 0, _, _, rfl, rfl, 4, _, _, rfl, rfl, _, rfl, rfl, rfl, _, rfl, _, rfl, 0, _, _, rfl, rfl, 4, _, rfl, le_ok rfl, ?_⟩
      refine ⟨_, rfl, rfl, rfl, _, rfl, _, rfl, 0, _, _, rfl, rfl, 4, _, rfl, le_ok rfl, ?_⟩
      refine ⟨_, rfl, rfl, rfl, _, rfl, _, rfl, 0, _, _, rfl, rfl, 4, _, rfl, le_ok rfl, ?_⟩
      refine ⟨_, rfl, 0, _, _, rfl, rfl, 4, _, _, rfl, rfl, _, rfl, 0, _, _, rfl, rfl, 4, _, rfl, le_ok rfl, ?_⟩
      refine ⟨_, rfl, 0, _, _, rfl, rfl, 4, _, _, rfl, rfl, _, rfl, 0, _, _, rfl, rfl, 4, _, rfl, le_ok rfl, ?_⟩
      exact WkC.of (h a)
    | some l =>
      refine ⟨_, rfl, 0, _, _, rfl, rfl, 4, _, _, rfl, rfl, _, rfl, rfl, rfl, _, rfl, _, rfl, 0, _, _, rfl, rfl, 4, _, rfl, le_ok rfl, ?_⟩
      refine ⟨_, rfl, rfl, rfl, _, rfl, _, rfl, 0, _, _, rfl, rfl, 4, _, rfl, le_ok rfl, ?_⟩
      refine ⟨_, rfl, rfl, rfl, _, rfl, _, rfl, 0, _, _, rfl, rfl, 4, _, rfl, le_ok rfl, ?_⟩
      refine ⟨_, rfl, 0, _, _, rfl, rfl, 4, _, _, rfl, rfl, _, rfl, 0, _, _, rfl, rfl, 4, _, rfl, le_ok rfl, ?_⟩
      refine ⟨_, rfl, 0, _, _, rfl, rfl, 4, _, _, rfl, rfl, _, rfl, 0, _, _, rfl, rfl, 4, _, rfl, le_ok rfl, ?_⟩
      exact WkC.of (h a)
  | some n =>
    obtain ⟨hn, v, ev⟩ := ok n rfl
    cases (show enumber = some v from ev)
    refine ⟨_, rfl, rfl, rfl, _, rfl, _, rfl, 0, _, _, rfl, rfl, 4, _, _, rfl, rfl, _, rfl, rfl, rfl, _, rfl, .inl ⟨5, _, n.toNat, rfl, by rw [iR_len]; exact ixN_of hn, ?_⟩⟩
    dsimp only [optI]
    rw [iR_set]
    cases eletter with
    | none =>
      refine ⟨_, rfl, 0, _, _, rfl, rfl, 4, _, _, rfl, rfl, _, rfl, rfl, rfl, _, rfl, _, rfl, 0, _, _, rfl, rfl, 4, _, rfl, le_ok rfl, ?_⟩
      refine ⟨_, rfl, rfl, rfl, _, rfl, _, rfl, 0, _, _, rfl, rfl, 4, _, rfl, le_ok rfl, ?_⟩
      refine ⟨_, rfl, rfl, rfl, _, rfl, _, rfl, 0, _, _, rfl, rfl, 4, _, rfl, le_ok rfl, ?_⟩
      refine ⟨_, rfl, 0, _, _, rfl, rfl, 4, _, _, rfl, rfl, _, rfl, 0, _, _, rfl, rfl, 4, _, rfl, le_ok rfl, ?_⟩
      refine ⟨_, rfl, 0, _, _, rfl, rfl, 4, _, _, rfl, rfl, _, rfl, 0, _, _, rfl, rfl, 4, _, rfl, le_ok rfl, ?_⟩
      exact WkC.of (h a)
    | some l =>
      refine ⟨_, rfl, 0, _, _, rfl, rfl, 4, _, _, rfl, rfl, _, rfl, rfl, rfl, _, rfl, _, rfl, 0, _, _, rfl, rfl, 4, _, rfl, le_ok rfl, ?_⟩
      refine ⟨_, rfl, rfl, rfl, _, rfl, _, rfl, 0, _, _, rfl, rfl, 4, _, rfl, le_ok rfl, ?_⟩
      refine ⟨_, rfl, rfl, rfl, _, rfl, _, rfl, 0, _, _, rfl, rfl, 4, _, rfl, le_ok rfl, ?_⟩
      refine ⟨_, rfl, 0, _, _, rfl, rfl, 4, _, _, rfl, rfl, _, rfl, 0, _, _, rfl, rfl, 4, _, rfl, le_ok rfl, ?_⟩
      refine ⟨_, rfl, 0, _, _, rfl, rfl, 4, _, _, rfl, rfl, _, rfl, 0, _, _, rfl, rfl, 4, _, rfl, le_ok rfl, ?_⟩
      exact WkC.of (h a)
end
end K05
set_option Elab.async false
set_option linter.all false
set_option maxRecDepth 100000
set_option maxHeartbeats 4000000
namespace K05
open PySem PySem.Spec PyProof.Rows L2 DL PM
section
variable {P : Program} {w : World} {K : Fg} {mg : Str → Option Value} {base : Heap} {c : Cs}
/-! keep -/
def spIn (c : Cs) (f : WorkS → InnerS → PyData × WorkS) (ok : WorkS → InnerS → Prop) : SpD := fun rs S C => ∃ (w : Addr) (a : As) (st : WorkS) (i : InnerS), rs = [.val (.ref w)] ∧ S = wC c w a st ∧ st.inner = some i ∧ ok st i ∧ ∀ a', C (.dat (f st i).1) (wC c w a' (f st i).2)
abbrev s_Work_keep : Stmt := inClass (topS 37) 6
abbrev N_Work_keep : List Str := ["self", "inner"]
theorem sc_Work_keep : FnScope N_Work_keep ["self"] (defScope s_Work_keep) := ⟨rfl, rfl, rfl, by decide +kernel, rfl, by decide +kernel, by decide +kernel⟩
theorem ok_keep {k : Nat} (F : FunM K c.W "keep" "Work.keep" s_Work_keep ["self"]) (B : Blt mg) (TW : Klass K c.W FW) (TI : Klass K c.I FI) (TM : Klass K c.M FM) (I1 : DefI P w K mg base "Mark" c.M 1 6 (spMarkInit c)) :
    DefM P w K mg base c.W "keep" (k + 3) 1 (spIn c keepW fun _ _ => True) := by
  refine okM F sc_Work_keep rfl fun cdv A outer s H E f hr => ⟨_,
    (ss_cons (s_set (i := 1) sc_Work_keep.nd (d_fld TW 10 (dv 0)))
      (ss_cons (s_fld TW 6 (dv 0) (d_makeF FM I1 (hr.mono (by omega)) (by rfl) (a_cons (d_fld TI 0 (dv 1)) (a_cons (d_tuple (by rfl) B.tuple (a_cons (d_fld TI 1 (dv 1)) a_nil)) (a_cons (d_fld TI 2 (dv 1)) (a_cons (d_fld TI 3 (dv 1)) (a_cons (d_fld TI 4 (dv 1)) a_nil)))))))
      (ss_cons (s_fld TW 7 (dv 0) (d_lstC a_nil))
      (ss_cons (s_fld TW 8 (dv 0) d_int)
      (ss_cons (s_fld TI 5 (dv 1) d_int)
      (ss_one (s_ret (d_tup (a_cons d_str (a_cons (d_fld TI 0 (dv 1)) a_nil))))))))))
    , ?_⟩
  intro rs S C hl h
  obtain ⟨wa, a, ⟨rows, handed, way, often, held, letters, mark, jots, made, over, inner, count⟩, i, rfl, rfl, hin, ok, h⟩ := h
  cases (show inner = some i from hin)
  refine ⟨_, rfl, 0, _, _, rfl, rfl, ?_⟩
  refine ⟨_, rfl, 4, _, _, rfl, rfl, _, rfl, 4, _, _, rfl, rfl, 5, _, _, rfl, dats_iR _, _, rfl, 4, _, _, rfl, rfl, _, rfl, 4, _, _, rfl, rfl, _, rfl, 4, _, _, rfl, rfl, rfl, fun x => ⟨x, _, _, _, _, _, _, rfl, rfl, rfl, _, _, rfl, rfl, ?_⟩⟩
  refine ⟨_, rfl, 0, _, rfl, le_ok rfl, ?_⟩
  refine ⟨Nat.zero_le _, fun p => ⟨_, rfl, 1, _, rfl, le_ok rfl, ?_⟩⟩
  refine ⟨_, rfl, 1, _, rfl, le_ok rfl, ?_⟩
  refine ⟨_, rfl, 5, _, rfl, le_ok rfl, ?_⟩
  refine ⟨_, rfl, 5, _, _, rfl, rfl, by simp, _, rfl, ?_⟩
  refine ⟨_, _, wkn_sub (List.perm_middle (l₁ := [_, _, _]) (a := _)).symm (.cons₂ _ (.cons₂ _ (.cons₂ _ (.cons₂ _ (.cons _ (List.Sublist.refl _)))))), h { a with j := p }⟩
/-! ends -/
def spEnds (c : Cs) : SpD := fun rs S C => ∃ (w : Addr) (a : As) (st : WorkS) (how : PyData), rs = [.val (.ref w), .dat how] ∧ S = wC c w a st ∧ ∀ a', C (.dat (endsW st how).1) (wC c w a' (endsW st how).2)
abbrev s_Work_ends : Stmt := inClass (topS 37) 7
abbrev N_Work_ends : List Str := ["self", "how"]
theorem sc_Work_ends : FnScope N_Work_ends ["self", "how"] (defScope s_Work_ends) := ⟨rfl, rfl, rfl, by decide +kernel, rfl, by decide +kernel, by decide +kernel⟩
theorem ok_ends {k : Nat} (F : FunM K c.W "ends" "Work.ends" s_Work_ends ["self", "how"]) (TW : Klass K c.W FW) : DefM P w K mg base c.W "ends" (k + 1) 2 (spEnds c) := by
  refine okM F sc_Work_ends rfl fun cdv A outer s H E f hr => ⟨_,
    (ss_cons (s_fld TW 9 (dv 0) (dv 1))
      (ss_one (s_ret (d_tup (a_cons d_str (a_cons (dv 1) a_nil))))))
    , ?_⟩
  intro rs S C hl h
  obtain ⟨wa, a, ⟨rows, handed, way, often, held, letters, mark, jots, made, over, inner, count⟩, how, rfl, rfl, h⟩ := h
  refine ⟨_, rfl, _, rfl, 0, _, rfl, le_ok rfl, ?_⟩
  exact ⟨_, rfl, by simp, _, rfl, WkC.of (h a)⟩
/-! sends -/
def spSends (c : Cs) : SpD := fun rs S C => ∃ (w : Addr) (a : As) (st : WorkS) (i : InnerS) (e : Eff) (v : Int), rs = [.val (.ref w), effR c e, .dat (.int i.row)] ∧ S = wC c w a st ∧ st.inner = some i ∧ e.letter = some v ∧ st.letters.length < 10000 ∧ ∀ a', C (.dat (sendsW st i v).1) (wC c w a' (sendsW st i v).2)
abbrev s_Work_sends : Stmt := inClass (topS 37) 10
abbrev N_Work_sends : List Str := ["self", "told", "row"]
theorem sc_Work_sends : FnScope N_Work_sends ["self", "told", "row"] (defScope s_Work_sends) := ⟨rfl, rfl, rfl, by decide +kernel, rfl, by decide +kernel, by decide +kernel⟩
theorem ok_sends {k : Nat} (F : FunM K c.W "sends" "Work.sends" s_Work_sends ["self", "told", "row"]) (B : Blt mg) (TW : Klass K c.W FW) (TI : Klass K c.I FI) (TE : Klass K c.E FE) : DefM P w K mg base c.W "sends" (k + 1) 3 (spSends c) := by
  refine okM F sc_Work_sends rfl fun cdv A outer s H E f hr => ⟨_,
    (ss_cons (s_fld TI 7 (d_fld TW 10 (dv 0)) d_bl)
      (ss_cons (s_if (t_lt (d_fld TI 4 (d_fld TW 10 (dv 0))) (d_len (by rfl) B.len (a_cons (d_fld TW 5 (dv 0)) a_nil)))
      (ss_one (s_ret (d_tup (a_cons d_str (a_cons (dv 2) a_nil)))))
      ss_nil)
      (ss_cons (s_expr (d_appT (d_fld TW 5 (dv 0)) (d_fld TE 8 (dv 1))))
      (ss_one (s_ret (d_tup (a_cons d_str (a_cons (dv 2) a_nil))))))))
    , ?_⟩
  intro rs S C hl h
  obtain ⟨wa, a, ⟨rows, handed, way, often, held, letters, mark, jots, made, over, inner, count⟩, i, e, v, rfl, rfl, hin, hv, hlen, h⟩ := h
  cases (show inner = some i from hin)
  obtain ⟨irow, inames, itaken, ipassed, iletters, isince, inoted, iout, iagain⟩ := i
  obtain ⟨erow, etaken, ename, enumber, efile, epos, eold, enew, eletter, efault⟩ := e
  cases (show eletter = some v from hv)
  refine ⟨_, rfl, 0, _, _, rfl, rfl, 4, _, rfl, le_ok rfl, ?_⟩
  refine ⟨_, rfl, 0, _, _, rfl, rfl, 4, _, _, rfl, rfl, _, rfl, 0, _, _, rfl, rfl, 2, _, rfl, ite2d (fun hb => ?_) (fun hb => ?_)⟩
  · rw [iR_len] at hb
    have e : sendsW ⟨rows, handed, way, often, held, letters, mark, jots, made, over, some ⟨irow, inames, itaken, ipassed, iletters, isince, inoted, iout, iagain⟩, count⟩ ⟨irow, inames, itaken, ipassed, iletters, isince, inoted, iout, iagain⟩ v = _ := if_pos hb
    rw [e] at h
    exact ⟨_, rfl, by simp, _, rfl, WkC.of (h a)⟩
  · rw [iR_len] at hb
    have e : sendsW ⟨rows, handed, way, often, held, letters, mark, jots, made, over, some ⟨irow, inames, itaken, ipassed, iletters, isince, inoted, iout, iagain⟩, count⟩ ⟨irow, inames, itaken, ipassed, iletters, isince, inoted, iout, iagain⟩ v = _ := if_neg hb
    rw [e] at h
    have e2 : iR letters ++ [.dat (.int v)] = iR (letters ++ [v]) := by unfold iR; rw [List.map_append]; rfl
    refine ⟨_, rfl, 0, _, _, rfl, rfl, ⟨2, _, rfl⟩, _, rfl, rfl, rfl, _, rfl, 2, _, rfl, ?_, ?_⟩
    · rw [iR_len]
      show letters.length < 100000
      have : letters.length < 10000 := hlen
      omega
    · dsimp only [optI]
      rw [e2]
      exact ⟨_, rfl, by simp, _, rfl, WkC.of (h a)⟩
end
end K05
set_option Elab.async false
set_option linter.all false
set_option maxRecDepth 100000
set_option maxHeartbeats 4000000
namespace K05
open PySem PySem.Spec PyProof.Rows L2 DL PM
section
variable {P : Program} {w : World} {K : Fg} {mg : Str → Option Value} {base : Heap} {c : Cs}
/-! done -/
theorem fileR_put {held : List (List Int)} {fl pos : Int} {new : List Int} (h0 : 0 ≤ pos) : (fileR held).set fl.toNat (.dat (.list (DL.cutD ((held.getD fl.toNat []).map PyData.int) none (some pos) ++ new.map PyData.int))) = fileR (putFile held (some fl) pos new) := by
  rw [cut_to _ h0]
  unfold putFile fileR
  rw [List.map_set]
  congr 1
  unfold lstI
  rw [List.map_append, List.map_take]
structure DoneOk (st : WorkS) (i : InnerS) (e : Eff) : Prop where
  name : nameFits i e
  file : ∀ f, e.file = some f → NumOk f st.held.length
  pos : 0 ≤ e.pos
  new : e.new.length ≤ 1000
  held : ∀ f ∈ st.held, f.length ≤ 1000
  letters : st.letters.length < 10000
theorem held_len {held : List (List Int)} (h : ∀ f ∈ held, f.length ≤ 1000) (i : Nat) : (held.getD i []).length ≤ 1000 := by
  rw [List.getD_eq_getElem?_getD]
  cases e : held[i]? with
  | none => exact Nat.zero_le _
  | some x => exact h x (List.mem_of_getElem? e)
theorem file_at {held : List (List Int)} {fl : Int} (hf : NumOk fl held.length) : atI (fileR held) fl = some (.dat (lstI (held.getD fl.toNat []))) := by
  have e := fileR_at (fs := held) (i := fl.toNat) (by have := hf.1; have := hf.2; omega)
  rw [toNat_cast hf.1] at e
  exact e
abbrev s_Work_done : Stmt := inClass (topS 37) 9
abbrev N_Work_done : List Str := ["self", "told", "row"]
theorem sc_Work_done : FnScope N_Work_done ["self", "told"] (defScope s_Work_done) := ⟨rfl, rfl, rfl, by decide +kernel, rfl, by decide +kernel, by decide +kernel⟩
theorem ok_done {k : Nat} (F : FunM K c.W "done" "Work.done" s_Work_done ["self", "told"]) (B : Blt mg) (TW : Klass K c.W FW) (TI : Klass K c.I FI) (TE : Klass K c.E FE) (M1 : DefM P w K mg base c.W "sends" 1 3 (spSends c))
    (M2 : DefM P w K mg base c.W "take_over" 1 2 (spT c (fun st i e => (.none, { st with inner := some (takeOver e i) })) fun _ i e => nameFits i e)) :
    DefM P w K mg base c.W "done" (k + 2) 2 (spT c doneW DoneOk) := by
  refine okM F sc_Work_done rfl fun cdv A outer s H E f hr => ⟨_,
    (ss_cons (s_set (i := 2) sc_Work_done.nd (d_fld TI 0 (d_fld TW 10 (dv 0))))
      (ss_cons (s_if (PDW.pt (w_and (t_notN (d_fld TE 8 (dv 1)) d_non) (w_and1 (t_not (t_val (d_fld TI 7 (d_fld TW 10 (dv 0))))))))
      (ss_one (s_ret (d_meth TW M1 (hr.mono (by omega)) (by decide) (dv 0) (a_cons (dv 1) (a_cons (dv 2) a_nil)))))
      ss_nil)
      (ss_cons (s_if (t_notN (d_fld TE 4 (dv 1)) d_non)
      (ss_one (s_asg (d_add (d_slice (d_ix (hu_of hr) (d_fld TW 4 (dv 0)) (d_fld TE 4 (dv 1))) o_none (o_some (d_fld TE 5 (dv 1)))) (d_list (by rfl) B.list (a_cons (d_fld TE 7 (dv 1)) a_nil))) (g_sub (hu_of hr) (d_fld TW 4 (dv 0)) (d_fld TE 4 (dv 1)))))
      ss_nil)
      (ss_cons (s_fld TI 6 (d_fld TW 10 (dv 0)) d_non)
      (ss_cons (s_fld TI 7 (d_fld TW 10 (dv 0)) d_bl)
      (ss_cons (s_fld TW 8 (dv 0) (d_len (by rfl) B.len (a_cons (d_fld TW 7 (dv 0)) a_nil)))
      (ss_cons (s_expr (d_meth TW M2 (hr.mono (by omega)) (by decide) (dv 0) (a_cons (dv 1) a_nil)))
      (ss_cons (s_fld TW 11 (dv 0) (d_add (d_fld TW 11 (dv 0)) d_int))
      (ss_one (s_ret (d_tup (a_cons d_str (a_cons (dv 2) a_nil)))))))))))))
    , ?_⟩
  intro rs S C hl h
  obtain ⟨wa, a, ⟨rows, handed, way, often, held, letters, mark, jots, made, over, inner, count⟩, i, e, rfl, rfl, hin, ok, h⟩ := h
  cases (show inner = some i from hin)
  obtain ⟨irow, inames, itaken, ipassed, iletters, isince, inoted, iout, iagain⟩ := i
  obtain ⟨erow, etaken, ename, enumber, efile, epos, eold, enew, eletter, efault⟩ := e
  have lt : (((jots.map (effR c)).length : Nat) : Int) = (jots.length : Int) := by rw [List.length_map]
  have tail : ∀ held' fr, held' = putFile held efile epos enew → fr = [some (.val (.ref wa)), some (effR c ⟨erow, etaken, ename, enumber, efile, epos, eold, enew, eletter, efault⟩), some (.dat (.int irow))] →
      (∀ a', C (.dat (told2 "does" irow)) (wC c wa a' (doesW ⟨rows, handed, way, often, held, letters, mark, jots, made, over, some ⟨irow, inames, itaken, ipassed, iletters, isince, inoted, iout, iagain⟩, count⟩ ⟨irow, inames, itaken, ipassed, iletters, isince, inoted, iout, iagain⟩ ⟨erow, etaken, ename, enumber, efile, epos, eold, enew, eletter, efault⟩).2)) →
      sSeq (sFldD c.I FI 6 (dFld c.W FW 10 (dVar 0)) (dC (.dat .none))) (sSeq (sFldD c.I FI 7 (dFld c.W FW 10 (dVar 0)) (dC (.dat (.bool false)))) (sSeq (sFldD c.W FW 8 (dVar 0) (dCB fLen (dCons (dFld c.W FW 7 (dVar 0)) dNil)))
        (sSeq (sDrop (dMeth c.W FW 2 (spT c (fun st i e => (.none, { st with inner := some (takeOver e i) })) fun _ i e => nameFits i e) (dVar 0) (dCons (dVar 1) dNil)))
          (sSeq (sFldD c.W FW 11 (dVar 0) (dOp fAdd (dFld c.W FW 11 (dVar 0)) (dC (.dat (.int 1))))) (sRet (dTup (dCons (dC (.dat (.str "does"))) (dCons (dVar 2) dNil))))))))
        { nx := fun _ S => WkC C (.dat .none) S, rt := WkC C } fr (wC c wa a ⟨rows, handed, way, often, held', letters, mark, jots, made, over, some ⟨irow, inames, itaken, ipassed, iletters, isince, inoted, iout, iagain⟩, count⟩) := by
    rintro held' fr rfl rfl h'
    refine ⟨_, rfl, 0, _, _, rfl, rfl, 4, _, rfl, le_ok rfl, ?_⟩
    refine ⟨_, rfl, 0, _, _, rfl, rfl, 4, _, rfl, le_ok rfl, ?_⟩
    refine ⟨_, rfl, 0, _, _, rfl, rfl, 3, _, rfl, _, rfl, 0, _, rfl, le_ok rfl, ?_⟩
    refine ⟨_, rfl, ⟨0, _, rfl⟩, _, rfl, rfl, wa, a, ⟨rows, handed, way, often, putFile held efile epos enew, letters, mark, jots, (((jots.map (effR c)).length : Nat) : Int), over, some ⟨irow, inames, itaken, ipassed, iletters, isince, none, false, iagain⟩, count⟩, ⟨irow, inames, itaken, ipassed, iletters, isince, none, false, iagain⟩, ⟨erow, etaken, ename, enumber, efile, epos, eold, enew, eletter, efault⟩, rfl, rfl, rfl, ok.name, fun a' => ?_⟩
    refine ⟨_, rfl, 0, _, _, rfl, rfl, _, rfl, 0, _, rfl, le_ok rfl, ?_⟩
    refine ⟨_, rfl, by simp, _, rfl, WkC.of ?_⟩
    have h2 := h' a'
    show C (.dat (told2 "does" irow)) (wC c wa a' ⟨rows, handed, way, often, putFile held efile epos enew, letters, mark, jots, (((jots.map (effR c)).length : Nat) : Int), over, some (takeOver ⟨erow, etaken, ename, enumber, efile, epos, eold, enew, eletter, efault⟩ ⟨irow, inames, itaken, ipassed, iletters, isince, none, false, iagain⟩), count + 1⟩)
    rw [lt]
    exact h2
  have mid : ∀ fr, fr = [some (.val (.ref wa)), some (effR c ⟨erow, etaken, ename, enumber, efile, epos, eold, enew, eletter, efault⟩), some (.dat (.int irow))] →
      (∀ a', C (.dat (told2 "does" irow)) (wC c wa a' (doesW ⟨rows, handed, way, often, held, letters, mark, jots, made, over, some ⟨irow, inames, itaken, ipassed, iletters, isince, inoted, iout, iagain⟩, count⟩ ⟨irow, inames, itaken, ipassed, iletters, isince, inoted, iout, iagain⟩ ⟨erow, etaken, ename, enumber, efile, epos, eold, enew, eletter, efault⟩).2)) →
      sSeq (sIf (dTest (dOp fNotN (dFld c.E FE 4 (dVar 1)) (dC (.dat .none)))) (sAsg (dOp fAdd (dSl fSl (dOp fIx (dFld c.W FW 4 (dVar 0)) (dFld c.E FE 4 (dVar 1))) dNoPart (dPart (dFld c.E FE 5 (dVar 1)))) (dCB fList (dCons (dFld c.E FE 7 (dVar 1)) dNil))) (gSb (dFld c.W FW 4 (dVar 0)) (dFld c.E FE 4 (dVar 1)) fSet)) sNext)
      (sSeq (sFldD c.I FI 6 (dFld c.W FW 10 (dVar 0)) (dC (.dat .none))) (sSeq (sFldD c.I FI 7 (dFld c.W FW 10 (dVar 0)) (dC (.dat (.bool false)))) (sSeq (sFldD c.W FW 8 (dVar 0) (dCB fLen (dCons (dFld c.W FW 7 (dVar 0)) dNil)))
        (sSeq (sDrop (dMeth c.W FW 2 (spT c (fun st i e => (.none, { st with inner := some (takeOver e i) })) fun _ i e => nameFits i e) (dVar 0) (dCons (dVar 1) dNil)))
          (sSeq (sFldD c.W FW 11 (dVar 0) (dOp fAdd (dFld c.W FW 11 (dVar 0)) (dC (.dat (.int 1))))) (sRet (dTup (dCons (dC (.dat (.str "does"))) (dCons (dVar 2) dNil)))))))))
        { nx := fun _ S => WkC C (.dat .none) S, rt := WkC C } fr (wC c wa a ⟨rows, handed, way, often, held, letters, mark, jots, made, over, some ⟨irow, inames, itaken, ipassed, iletters, isince, inoted, iout, iagain⟩, count⟩) := by
    intro fr hfr h'
    cases efile with
    | none =>
      subst hfr
      exact ⟨_, rfl, rfl, rfl, _, rfl, tail held _ rfl rfl h'⟩
    | some fl =>
      have hf := ok.file fl rfl
      have fa := file_at hf
      subst hfr
      refine ⟨_, rfl, rfl, rfl, _, rfl, ?_⟩
      refine ⟨_, rfl, 0, _, _, rfl, rfl, _, rfl, rfl, rfl, _, rfl, .inl ⟨1, _, _, rfl, fa, _, rfl, rfl, rfl, _, rfl, _, rfl, rfl, rfl, _, rfl, ?_, _, rfl, 0, _, _, rfl, rfl, _, rfl, rfl, rfl, _, rfl, .inl ⟨1, _, fl.toNat, rfl, by rw [fileR_len]; exact ixN_of hf, ?_⟩⟩⟩
      · have h1 := held_len ok.held fl.toNat
        have h2 := ok.new
        rw [cut_to _ ok.pos, List.length_take, List.length_map, List.length_map]
        have h3 : (held.getD fl.toNat []).length ≤ 1000 := h1
        have h4 : enew.length ≤ 1000 := h2
        omega
      · rw [fileR_put ok.pos]
        exact tail _ _ rfl rfl h'
  refine ⟨_, rfl, 0, _, _, rfl, rfl, 4, _, _, rfl, rfl, ?_⟩
  cases eletter with
  | some v =>
    cases iout with
    | false =>
      refine ⟨_, rfl, rfl, rfl, _, rfl, ?_⟩
      refine ⟨_, rfl, 0, _, _, rfl, rfl, 4, _, _, rfl, rfl, ?_⟩
      refine ⟨_, rfl, ⟨0, _, rfl⟩, _, rfl, _, rfl, rfl, wa, a, _, _, _, v, rfl, rfl, rfl, rfl, ok.letters, fun a' => WkC.of (h a')⟩
    | true =>
      refine ⟨_, rfl, rfl, rfl, _, rfl, ?_⟩
      refine ⟨_, rfl, 0, _, _, rfl, rfl, 4, _, _, rfl, rfl, ?_⟩
      exact mid _ rfl h
  | none =>
    refine ⟨_, rfl, rfl, rfl, _, rfl, ?_⟩
    exact mid _ rfl h
end
end K05
set_option Elab.async false
set_option linter.all false
set_option maxRecDepth 100000
set_option maxHeartbeats 4000000
/-! What is known of an effect, of the states behind a move. -/
namespace PM
open PySem PySem.Spec PyProof.Rows L2 DL

theorem and_pure {t u : DT} {fr : Fr} {S : SH} {C : Bool → SH → Prop} {b1 b2 : Bool} (h1 : ∀ C' : Bool → SH → Prop, C' b1 S → t fr S C') (h2 : ∀ C' : Bool → SH → Prop, C' b2 S → u fr S C') (h : C (b1 && b2) S) : dAnd t u fr S C := by
  refine h1 _ ?_
  cases b1 with
  | true => exact h2 _ h
  | false => exact h
theorem or_pure {t u : DT} {fr : Fr} {S : SH} {C : Bool → SH → Prop} {b1 b2 : Bool} (h1 : ∀ C' : Bool → SH → Prop, C' b1 S → t fr S C') (h2 : ∀ C' : Bool → SH → Prop, C' b2 S → u fr S C') (h : C (b1 || b2) S) : dOr t u fr S C := by
  refine h1 _ ?_
  cases b1 with
  | true => exact h
  | false => exact h2 _ h
theorem getD_mem {α : Type} {xs : List α} {i : Nat} {d : α} (h : i < xs.length) : xs.getD i d ∈ xs := by
  rw [List.getD_eq_getElem?_getD, List.getElem?_eq_getElem h]
  exact List.getElem_mem h
theorem getD_nn {xs : List Int} (h : NN xs) (i : Nat) : 0 ≤ xs.getD i 0 := by
  rw [List.getD_eq_getElem?_getD]
  cases e : xs[i]? with
  | none => exact Int.le_refl _
  | some x => exact h x (List.mem_of_getElem? e)
theorem NN.drop {xs : List Int} (h : NN xs) (k : Nat) : NN (xs.drop k) := fun x hx => h x (List.mem_of_mem_drop hx)
theorem NN.take {xs : List Int} (h : NN xs) (k : Nat) : NN (xs.take k) := fun x hx => h x (List.mem_of_mem_take hx)
theorem NN.app {xs ys : List Int} (h : NN xs) (g : NN ys) : NN (xs ++ ys) := fun x hx => (List.mem_append.mp hx).elim (h x) (g x)
theorem NN.set {xs : List Int} (h : NN xs) {v : Int} (hv : 0 ≤ v) (i : Nat) : NN (xs.set i v) := fun x hx => by
  rcases List.mem_or_eq_of_mem_set hx with hx | rfl
  · exact h x hx
  · exact hv
theorem NN.cons {xs : List Int} (h : NN xs) {v : Int} (hv : 0 ≤ v) : NN (v :: xs) := fun x hx => by
  rcases List.mem_cons.mp hx with rfl | hx
  · exact hv
  · exact h x hx
theorem NN.nil : NN [] := fun x hx => nomatch hx
theorem effect_ok {nN nF : Nat} {many : Nat} {row : PRow} {at_ taken : Int} {ns hs : List Int} {fs : List (List Int)} (hr : row.ok nN nF many) (hn : NamesOk nN ns) (hh : NN hs) (hf : fs.length = nF ∧ ∀ f ∈ fs, f.length ≤ 40 ∧ NN f)
    (ha : 0 ≤ at_ ∧ at_ < many) (ht : 0 ≤ taken ∧ taken ≤ hs.length) (hz : (effect row at_ taken ns hs fs).fault = none) : EffOk nN nF hs.length many (effect row at_ taken ns hs fs) := by
  have file : ∀ fl : Int, NumOk fl nF → (fs.getD fl.toNat []).length ≤ 40 ∧ NN (fs.getD fl.toNat []) := fun fl h => hf.2 _ (getD_mem (by have := h.1; have := h.2; have := hf.1; omega))
  have wn : ∀ p : Part, p.ok nN → 0 ≤ p.worth ns := fun p hp => Part.nonneg hn.nn p hp
  have len : ((hs.length : Nat) : Int) = hs.length := rfl
  cases row with
  | set n p => exact ⟨⟨by show 0 ≤ at_ + 1; omega, by show at_ + 1 ≤ many; omega⟩, ht, (fun m e => by cases e; exact ⟨hr.1, _, rfl, wn p hr.2.1⟩), (fun m e => nomatch e), Int.le_refl _, ⟨by show (0 : Int) + ((([] : List Int).length : Nat) : Int) ≤ 40; decide, NN.nil⟩, ⟨by show (0 : Int) + ((([] : List Int).length : Nat) : Int) ≤ 40; decide, NN.nil⟩⟩
  | size n fl => exact ⟨⟨by show 0 ≤ at_ + 1; omega, by show at_ + 1 ≤ many; omega⟩, ht, (fun m e => by cases e; exact ⟨hr.1, _, rfl, by omega⟩), (fun m e => nomatch e), Int.le_refl _, ⟨by show (0 : Int) + ((([] : List Int).length : Nat) : Int) ≤ 40; decide, NN.nil⟩, ⟨by show (0 : Int) + ((([] : List Int).length : Nat) : Int) ≤ 40; decide, NN.nil⟩⟩
  | take n =>
    by_cases e : taken = (hs.length : Int)
    · have e2 : effect (.take n) at_ taken ns hs fs = _ := if_pos e
      rw [e2] at hz
      cases hz
    · have e2 : effect (.take n) at_ taken ns hs fs = _ := if_neg e
      rw [e2]
      exact ⟨⟨by show 0 ≤ at_ + 1; omega, by show at_ + 1 ≤ many; omega⟩, ⟨by show 0 ≤ taken + 1; omega, by show taken + 1 ≤ hs.length; omega⟩, (fun m e => by cases e; exact ⟨hr, _, rfl, getD_nn hh _⟩), (fun m e => nomatch e), Int.le_refl _, ⟨by show (0 : Int) + ((([] : List Int).length : Nat) : Int) ≤ 40; decide, NN.nil⟩, ⟨by show (0 : Int) + ((([] : List Int).length : Nat) : Int) ≤ 40; decide, NN.nil⟩⟩
  | get n fl p =>
    by_cases e : ((fs.getD fl.toNat []).length : Int) ≤ p.worth ns
    · have e2 : effect (.get n fl p) at_ taken ns hs fs = _ := if_pos e
      rw [e2] at hz
      cases hz
    · have e2 : effect (.get n fl p) at_ taken ns hs fs = _ := if_neg e
      rw [e2]
      exact ⟨⟨by show 0 ≤ at_ + 1; omega, by show at_ + 1 ≤ many; omega⟩, ht, (fun m e => by cases e; exact ⟨hr.1, _, rfl, getD_nn (file fl hr.2.1).2 _⟩), (fun m e => nomatch e), Int.le_refl _, ⟨by show (0 : Int) + ((([] : List Int).length : Nat) : Int) ≤ 40; decide, NN.nil⟩, ⟨by show (0 : Int) + ((([] : List Int).length : Nat) : Int) ≤ 40; decide, NN.nil⟩⟩
  | add fl p =>
    obtain ⟨f1, f2⟩ := file fl hr.1
    have hw := wn p hr.2.1
    have e2 : effect (.add fl p) at_ taken ns hs fs = changedE (if (fs.getD fl.toNat []).length = 40 then { eff0 (at_ + 1) taken with fault := some "full" } else eff0 (at_ + 1) taken) fl (fs.getD fl.toNat []) (fs.getD fl.toNat []).length [p.worth ns] := rfl
    rw [e2] at hz ⊢
    generalize fs.getD fl.toNat [] = hd at f1 f2 hz ⊢
    by_cases e : hd.length = 40
    · rw [if_pos e] at hz
      cases hz
    · rw [if_neg e]
      refine ⟨⟨by show 0 ≤ at_ + 1; omega, by show at_ + 1 ≤ many; omega⟩, ht, (fun m e => nomatch e), (fun m e => by cases e; exact hr.1), by show (0 : Int) ≤ hd.length; omega, ⟨?_, f2.drop _⟩, ⟨?_, NN.nil.cons hw⟩⟩
      · show (hd.length : Int) + ((hd.drop hd.length).length : Int) ≤ 40
        rw [List.length_drop]; omega
      · show (hd.length : Int) + (([p.worth ns].length : Nat) : Int) ≤ 40
        simp; omega
  | put fl p q =>
    obtain ⟨f1, f2⟩ := file fl hr.1
    have hw := wn p hr.2.1.1
    have hv := wn q hr.2.2.1
    have e2 : effect (.put fl p q) at_ taken ns hs fs = changedE (if ((fs.getD fl.toNat []).length : Int) ≤ p.worth ns then { eff0 (at_ + 1) taken with fault := some "place" } else eff0 (at_ + 1) taken) fl (fs.getD fl.toNat []) (p.worth ns).toNat (q.worth ns :: (fs.getD fl.toNat []).drop ((p.worth ns).toNat + 1)) := rfl
    rw [e2] at hz ⊢
    generalize fs.getD fl.toNat [] = hd at f1 f2 hz ⊢
    generalize p.worth ns = v at hw hz ⊢
    by_cases e : ((hd.length : Nat) : Int) ≤ v
    · rw [if_pos e] at hz
      cases hz
    · rw [if_neg e]
      refine ⟨⟨by show 0 ≤ at_ + 1; omega, by show at_ + 1 ≤ many; omega⟩, ht, (fun m e => nomatch e), (fun m e => by cases e; exact hr.1), by show (0 : Int) ≤ (v.toNat : Int); omega, ⟨?_, f2.drop _⟩, ⟨?_, (f2.drop _).cons hv⟩⟩
      · show ((v.toNat : Nat) : Int) + ((hd.drop v.toNat).length : Int) ≤ 40
        rw [List.length_drop]; omega
      · show ((v.toNat : Nat) : Int) + (((q.worth ns :: hd.drop (v.toNat + 1)).length : Nat) : Int) ≤ 40
        rw [List.length_cons, List.length_drop]; omega
  | cut fl p =>
    obtain ⟨f1, f2⟩ := file fl hr.1
    have hw := wn p hr.2.1
    have e2 : effect (.cut fl p) at_ taken ns hs fs = changedE (eff0 (at_ + 1) taken) fl (fs.getD fl.toNat []) (min (p.worth ns).toNat (fs.getD fl.toNat []).length) [] := rfl
    rw [e2]
    generalize fs.getD fl.toNat [] = hd at f1 f2 ⊢
    generalize p.worth ns = v at hw ⊢
    refine ⟨⟨by show 0 ≤ at_ + 1; omega, by show at_ + 1 ≤ many; omega⟩, ht, (fun m e => nomatch e), (fun m e => by cases e; exact hr.1), by show (0 : Int) ≤ ((min v.toNat hd.length : Nat) : Int); omega, ⟨?_, f2.drop _⟩, ⟨?_, NN.nil⟩⟩
    · show ((min v.toNat hd.length : Nat) : Int) + ((hd.drop (min v.toNat hd.length)).length : Int) ≤ 40
      rw [List.length_drop]; omega
    · show ((min v.toNat hd.length : Nat) : Int) + ((([] : List Int).length : Nat) : Int) ≤ 40
      simp; omega
  | send p => exact ⟨⟨by show 0 ≤ at_ + 1; omega, by show at_ + 1 ≤ many; omega⟩, ht, (fun m e => nomatch e), (fun m e => nomatch e), Int.le_refl _, ⟨by show (0 : Int) + ((([] : List Int).length : Nat) : Int) ≤ 40; decide, NN.nil⟩, ⟨by show (0 : Int) + ((([] : List Int).length : Nat) : Int) ≤ 40; decide, NN.nil⟩⟩
  | go r =>
    obtain ⟨r1, r2⟩ := hr
    exact ⟨⟨r1, by show r ≤ many; omega⟩, ht, (fun m e => nomatch e), (fun m e => nomatch e), Int.le_refl _, ⟨by show (0 : Int) + ((([] : List Int).length : Nat) : Int) ≤ 40; decide, NN.nil⟩, ⟨by show (0 : Int) + ((([] : List Int).length : Nat) : Int) ≤ 40; decide, NN.nil⟩⟩
  | unl n r =>
    obtain ⟨_, r1, r2⟩ := hr
    by_cases e : ns.getD n.toNat 0 = 0
    · have e2 : effect (.unl n r) at_ taken ns hs fs = _ := if_pos e
      rw [e2]
      exact ⟨⟨r1, by show r ≤ many; omega⟩, ht, (fun m e => nomatch e), (fun m e => nomatch e), Int.le_refl _, ⟨by show (0 : Int) + ((([] : List Int).length : Nat) : Int) ≤ 40; decide, NN.nil⟩, ⟨by show (0 : Int) + ((([] : List Int).length : Nat) : Int) ≤ 40; decide, NN.nil⟩⟩
    · have e2 : effect (.unl n r) at_ taken ns hs fs = _ := if_neg e
      rw [e2]
      exact ⟨⟨by show 0 ≤ at_ + 1; omega, by show at_ + 1 ≤ many; omega⟩, ht, (fun m e => nomatch e), (fun m e => nomatch e), Int.le_refl _, ⟨by show (0 : Int) + ((([] : List Int).length : Nat) : Int) ≤ 40; decide, NN.nil⟩, ⟨by show (0 : Int) + ((([] : List Int).length : Nat) : Int) ≤ 40; decide, NN.nil⟩⟩
  | mark => exact ⟨⟨by show 0 ≤ at_ + 1; omega, by show at_ + 1 ≤ many; omega⟩, ht, (fun m e => nomatch e), (fun m e => nomatch e), Int.le_refl _, ⟨by show (0 : Int) + ((([] : List Int).length : Nat) : Int) ≤ 40; decide, NN.nil⟩, ⟨by show (0 : Int) + ((([] : List Int).length : Nat) : Int) ≤ 40; decide, NN.nil⟩⟩
end PM
set_option Elab.async false
set_option linter.all false
set_option maxRecDepth 100000
set_option maxHeartbeats 4000000
namespace K05
open PySem PySem.Spec PyProof.Rows L2 DL PM
section
variable {P : Program} {w : World} {K : Fg} {mg : Str → Option Value} {base : Heap} {c : Cs}
/-! rise -/
structure RiseOk (st : WorkS) : Prop where
  inner : st.inner = none
  back : st.way = backW → ∀ e ∈ st.jots, ∃ f, e.file = some f
  file : ∀ e ∈ st.jots, ∀ f, e.file = some f → NumOk f st.held.length
  pos : ∀ e ∈ st.jots, 0 ≤ e.pos ∧ e.old.length ≤ 1000
  held : ∀ f ∈ st.held, f.length ≤ 1000
theorem str_eqv {x y : Str} (h : PyData.eqv (.str x) (.str y) = true) : x = y := by
  rw [PyData.eqv] at h
  exact eq_of_beq h
theorem str_nev {x y : Str} (h : PyData.eqv (.str x) (.str y) = false) : ¬ x = y := fun e => by
  rw [PyData.eqv, e] at h
  simp at h
abbrev s_Work_rise : Stmt := inClass (topS 37) 3
abbrev N_Work_rise : List Str := ["self", "told"]
theorem sc_Work_rise : FnScope N_Work_rise ["self"] (defScope s_Work_rise) := ⟨rfl, rfl, rfl, by decide +kernel, rfl, by decide +kernel, by decide +kernel⟩
theorem ok_rise {k : Nat} {t1 : Tok} (F : FunM K c.W "rise" "Work.rise" s_Work_rise ["self"]) (B : Blt mg) (TW : Klass K c.W FW) (TI : Klass K c.I FI) (TM : Klass K c.M FM) (TE : Klass K c.E FE) (I1 : DefI P w K mg base "Inner" c.I 1 3 (spInnerInit c)) (c1 : mg "BACK" = some (.str "back" t1)) :
    DefM P w K mg base c.W "rise" (k + 3) 1 (spM c riseW RiseOk) := by
  refine okM F sc_Work_rise rfl fun cdv A outer s H E f hr => ⟨_,
    (ss_cons (s_if (PDW.pt (w_and (t_eq hr.units (d_fld TW 2 (dv 0)) (d_globS (by rfl) c1)) (w_and1 (t_neE hr.units (d_fld TW 7 (dv 0)) (d_lst a_nil)))))
      (ss_cons (s_set (i := 1) sc_Work_rise.nd (d_pop (d_fld TW 7 (dv 0))))
      (ss_cons (s_asg (d_add (d_slice (d_ix (hu_of hr) (d_fld TW 4 (dv 0)) (d_fld TE 4 (dv 1))) o_none (o_some (d_fld TE 5 (dv 1)))) (d_list (by rfl) B.list (a_cons (d_fld TE 6 (dv 1)) a_nil))) (g_sub (hu_of hr) (d_fld TW 4 (dv 0)) (d_fld TE 4 (dv 1))))
      (ss_one (s_ret (d_tup (a_cons d_str (a_cons (d_fld TE 4 (dv 1)) a_nil)))))))
      ss_nil)
      (ss_cons (s_fld TW 10 (dv 0) (d_make FI I1 (hr.mono (by omega)) (by rfl) (a_cons (d_fld TW 6 (dv 0)) (a_cons (d_len (by rfl) B.len (a_cons (d_fld TW 7 (dv 0)) a_nil)) a_nil))))
      (ss_one (s_ret (d_tup (a_cons d_str (a_cons (d_fld TM 0 (d_fld TW 6 (dv 0))) a_nil)))))))
    , ?_⟩
  intro rs S C hl h
  obtain ⟨wa, a, ⟨rows, handed, way, often, held, letters, mark, jots, made, over, inner, count⟩, rfl, rfl, ok, h⟩ := h
  cases (show inner = none from ok.inner)
  have tail : ∀ fr, fr[0]? = some (some (.val (.ref wa))) → (∀ a', C (.dat (told2 "rises" mark.row)) (wC c wa a' ⟨rows, handed, way, often, held, letters, mark, jots, made, over, some (mkInner mark jots.length), count⟩)) →
      sSeq (sFldD c.W FW 10 (dVar 0) (dMake c.I FI 3 (spInnerInit c) (dCons (dFld c.W FW 6 (dVar 0)) (dCons (dCB fLen (dCons (dFld c.W FW 7 (dVar 0)) dNil)) dNil)))) (sRet (dTup (dCons (dC (.dat (.str "rises"))) (dCons (dFld c.M FM 0 (dFld c.W FW 6 (dVar 0))) dNil))))
        { nx := fun _ S => WkC C (.dat .none) S, rt := WkC C } fr (wC c wa a ⟨rows, handed, way, often, held, letters, mark, jots, made, over, none, count⟩) := by
    intro fr hfr h'
    have lt : (((jots.map (effR c)).length : Nat) : Int) = (jots.length : Int) := by rw [List.length_map]
    refine ⟨_, hfr, 0, _, _, rfl, rfl, _, hfr, 0, _, _, rfl, rfl, 3, _, rfl, rfl, fun x => ⟨x, mark, _, _, rfl, rfl, fun n => ⟨rfl, ?_⟩⟩⟩
    refine ⟨_, hfr, 2, _, rfl, le_ok rfl, ?_⟩
    refine ⟨_, hfr, 2, _, _, rfl, rfl, rfl, rfl, _, rfl, by simp, _, rfl, ?_⟩
    have h2 := h' { a with i := x, n := n }
    rw [← lt] at h2
    refine ⟨_, _, wkn_sub ((List.perm_append_comm (l₁ := [_, _]) (l₂ := [_, _, _, _])).trans (List.Perm.append_left [_, _, _, _] (List.Perm.swap _ _ []))) (List.Sublist.refl _), h2⟩
  refine ⟨_, rfl, 0, _, _, rfl, rfl, rfl, ite2b (fun hb => ?_) (fun hb => ?_)⟩
  · have hw : way = backW := str_eqv hb
    rcases List.eq_nil_or_concat jots with e | ⟨init, e, ej⟩
    · subst e
      exact ⟨_, rfl, 0, _, _, rfl, rfl, Nat.zero_le _, _, rfl, 3, _, rfl, tail _ rfl h⟩
    · rw [List.concat_eq_append] at ej
      subst ej
      have me : e ∈ init ++ [e] := List.mem_append_right _ (List.mem_singleton.mpr rfl)
      obtain ⟨fl, hfl⟩ := ok.back hw e me
      have hf := ok.file e me fl hfl
      obtain ⟨hp, ho⟩ := ok.pos e me
      have eR : riseW ⟨rows, handed, way, often, held, letters, mark, init ++ [e], made, over, none, count⟩ = (told2 "back" fl, ⟨rows, handed, way, often, putFile held (some fl) e.pos e.old, letters, mark, init, made, over, none, count⟩) := by
        unfold riseW
        rw [List.getLast?_concat]
        show (if way = backW then _ else _) = _
        rw [if_pos hw, List.dropLast_concat, hfl]
        rfl
      rw [eR] at h
      obtain ⟨erow, etaken, ename, enumber, efile, epos, eold, enew, eletter, efault⟩ := e
      cases (show efile = some fl from hfl)
      have ne : ((init ++ [(⟨erow, etaken, ename, enumber, some fl, epos, eold, enew, eletter, efault⟩ : Eff)]).map (effR c)).isEmpty = false := by simp
      have em : (init ++ [(⟨erow, etaken, ename, enumber, some fl, epos, eold, enew, eletter, efault⟩ : Eff)]).map (effR c) = init.map (effR c) ++ [effR c ⟨erow, etaken, ename, enumber, some fl, epos, eold, enew, eletter, efault⟩] := by rw [List.map_append]; rfl
      refine ⟨_, rfl, 0, _, _, rfl, rfl, Nat.zero_le _, _, rfl, 3, _, rfl, iteTb (by rw [ne]; rfl) ?_⟩
      refine ⟨_, rfl, 0, _, _, rfl, rfl, 3, init.map (effR c), _, congrArg (fun z => some (Cell.lst a.j z)) em, ?_⟩
      have fa := file_at hf
      refine ⟨_, rfl, 0, _, _, rfl, rfl, _, rfl, rfl, rfl, _, rfl, .inl ⟨1, _, _, rfl, fa, _, rfl, rfl, rfl, _, rfl, _, rfl, rfl, rfl, _, rfl, ?_, _, rfl, 0, _, _, rfl, rfl, _, rfl, rfl, rfl, _, rfl, .inl ⟨1, _, fl.toNat, rfl, by rw [fileR_len]; exact ixN_of hf, ?_⟩⟩⟩
      · have h1 := held_len ok.held fl.toNat
        rw [cut_to _ hp, List.length_take, List.length_map, List.length_map]
        have h3 : (held.getD fl.toNat []).length ≤ 1000 := h1
        have h4 : eold.length ≤ 1000 := ho
        omega
      · rw [fileR_put hp]
        refine ⟨_, rfl, rfl, rfl, _, rfl, by simp, _, rfl, ?_⟩
        exact WkC.of (h a)
  · have hw : ¬ way = backW := str_nev hb
    have eR : riseW ⟨rows, handed, way, often, held, letters, mark, jots, made, over, none, count⟩ = (told2 "rises" mark.row, ⟨rows, handed, way, often, held, letters, mark, jots, made, over, some (mkInner mark jots.length), count⟩) := by
      unfold riseW
      show (match jots.getLast? with | some e => if way = backW then _ else _ | none => _) = _
      cases jots.getLast? with
      | none => rfl
      | some e =>
        show (if way = backW then _ else _) = _
        rw [if_neg hw]
    rw [eR] at h
    exact tail _ rfl h
end
end K05
set_option Elab.async false
set_option linter.all false
set_option maxRecDepth 100000
set_option maxHeartbeats 4000000
namespace K05
open PySem PySem.Spec PyProof.Rows L2 DL PM
section
variable {P : Program} {w : World} {K : Fg} {mg : Str → Option Value} {base : Heap} {c : Cs}
/-! go_through -/
structure GoOk (st : WorkS) (i : InnerS) : Prop where
  again : 0 < i.again ∧ i.again ≤ st.jots.length
  name : ∀ e ∈ st.jots, nameFits i e
theorem jots_at {c : Cs} {jots : List Eff} {p : Int} (h : NumOk p jots.length) : atI (jots.map (effR c)) p = some (effR c (jots.getD p.toNat (eff0 0 0))) := by
  have hl : p.toNat < jots.length := by have := h.1; have := h.2; omega
  have e : (jots.map (effR c))[p.toNat]? = some (effR c (jots.getD p.toNat (eff0 0 0))) := by
    rw [List.getElem?_map, List.getElem?_eq_getElem hl, List.getD_eq_getElem?_getD, List.getElem?_eq_getElem hl]
    rfl
  have e2 := atI_nat e
  rw [toNat_cast h.1] at e2
  exact e2
theorem int_eqv {x y : Int} (h : PyData.eqv (.int x) (.int y) = true) : x = y := by
  rw [PyData.eqv] at h
  exact eq_of_beq h
theorem int_nev {x y : Int} (h : PyData.eqv (.int x) (.int y) = false) : ¬ x = y := fun e => by
  rw [PyData.eqv, e] at h
  simp at h
abbrev s_Work_go_through : Stmt := inClass (topS 37) 4
abbrev N_Work_go_through : List Str := ["self", "place", "told", "row"]
theorem sc_Work_go_through : FnScope N_Work_go_through ["self"] (defScope s_Work_go_through) := ⟨rfl, rfl, rfl, by decide +kernel, rfl, by decide +kernel, by decide +kernel⟩
theorem ok_go_through {k : Nat} (F : FunM K c.W "go_through" "Work.go_through" s_Work_go_through ["self"]) (B : Blt mg) (TW : Klass K c.W FW) (TI : Klass K c.I FI)
    (M2 : DefM P w K mg base c.W "take_over" 1 2 (spT c (fun st i e => (.none, { st with inner := some (takeOver e i) })) fun _ i e => nameFits i e)) :
    DefM P w K mg base c.W "go_through" (k + 2) 1 (spIn c goW GoOk) := by
  refine okM F sc_Work_go_through rfl fun cdv A outer s H E f hr => ⟨_,
    (ss_cons (s_set (i := 1) sc_Work_go_through.nd (d_sub (d_len (by rfl) B.len (a_cons (d_fld TW 7 (dv 0)) a_nil)) (d_fld TI 8 (d_fld TW 10 (dv 0)))))
      (ss_cons (s_set (i := 2) sc_Work_go_through.nd (d_ix (hu_of hr) (d_fld TW 7 (dv 0)) (dv 1)))
      (ss_cons (s_fld TI 8 (d_fld TW 10 (dv 0)) (d_sub (d_fld TI 8 (d_fld TW 10 (dv 0))) d_int))
      (ss_cons (s_set (i := 3) sc_Work_go_through.nd (d_fld TI 0 (d_fld TW 10 (dv 0))))
      (ss_cons (s_if (t_eq hr.units (dv 1) (d_fld TW 8 (dv 0)))
      (ss_cons (s_fld TI 6 (d_fld TW 10 (dv 0)) (dv 2))
      (ss_one (s_ret (d_tup (a_cons d_str (a_cons (dv 3) a_nil))))))
      ss_nil)
      (ss_cons (s_expr (d_meth TW M2 (hr.mono (by omega)) (by decide) (dv 0) (a_cons (dv 2) a_nil)))
      (ss_one (s_ret (d_tup (a_cons d_str (a_cons (dv 3) a_nil)))))))))))
    , ?_⟩
  intro rs S C hl h
  obtain ⟨wa, a, ⟨rows, handed, way, often, held, letters, mark, jots, made, over, inner, count⟩, i, rfl, rfl, hin, ok, h⟩ := h
  cases (show inner = some i from hin)
  obtain ⟨irow, inames, itaken, ipassed, iletters, isince, inoted, iout, iagain⟩ := i
  obtain ⟨ha1, ha2⟩ := (show 0 < iagain ∧ iagain ≤ (jots.length : Int) from ok.again)
  have lt : (((jots.map (effR c)).length : Nat) : Int) = (jots.length : Int) := by rw [List.length_map]
  have hp : NumOk ((jots.length : Int) - iagain) jots.length := ⟨by omega, by omega⟩
  have hat := jots_at (c := c) hp
  have hmem : jots.getD ((jots.length : Int) - iagain).toNat (eff0 0 0) ∈ jots := getD_mem (by have := hp.1; have := hp.2; omega)
  have hname := ok.name _ hmem
  have eg : goW ⟨rows, handed, way, often, held, letters, mark, jots, made, over, some ⟨irow, inames, itaken, ipassed, iletters, isince, inoted, iout, iagain⟩, count⟩ ⟨irow, inames, itaken, ipassed, iletters, isince, inoted, iout, iagain⟩ =
    if (jots.length : Int) - iagain = made then (told2 "again" irow, ⟨rows, handed, way, often, held, letters, mark, jots, made, over, some ⟨irow, inames, itaken, ipassed, iletters, isince, some (jots.getD ((jots.length : Int) - iagain).toNat (eff0 0 0)), iout, iagain - 1⟩, count⟩)
    else (told2 "again" irow, ⟨rows, handed, way, often, held, letters, mark, jots, made, over, some (takeOver (jots.getD ((jots.length : Int) - iagain).toNat (eff0 0 0)) ⟨irow, inames, itaken, ipassed, iletters, isince, inoted, iout, iagain - 1⟩), count⟩) := rfl
  rw [eg] at h
  clear eg
  generalize jots.getD ((jots.length : Int) - iagain).toNat (eff0 0 0) = e at hat hmem hname h
  refine ⟨_, rfl, 0, _, _, rfl, rfl, 3, _, rfl, _, rfl, 0, _, _, rfl, rfl, 4, _, _, rfl, rfl, ?_⟩
  dsimp only
  rw [lt]
  refine ⟨_, rfl, 0, _, _, rfl, rfl, _, rfl, .inl ⟨3, _, _, rfl, hat, ?_⟩⟩
  refine ⟨_, rfl, 0, _, _, rfl, rfl, 4, _, _, rfl, rfl, _, rfl, 0, _, _, rfl, rfl, 4, _, rfl, le_ok rfl, ?_⟩
  refine ⟨_, rfl, 0, _, _, rfl, rfl, 4, _, _, rfl, rfl, ?_⟩
  refine ⟨_, rfl, _, rfl, 0, _, _, rfl, rfl, rfl, ite2b (fun hb => ?_) (fun hb => ?_)⟩
  · have hb' : (jots.length : Int) - iagain = made := int_eqv hb
    rw [if_pos hb'] at h
    refine ⟨_, rfl, _, rfl, 0, _, _, rfl, rfl, 4, _, rfl, le_ok rfl, ?_⟩
    exact ⟨_, rfl, by simp, _, rfl, WkC.of (h a)⟩
  · have hb' : ¬ (jots.length : Int) - iagain = made := int_nev hb
    rw [if_neg hb'] at h
    refine ⟨_, rfl, ⟨0, _, rfl⟩, _, rfl, rfl, wa, a, ⟨rows, handed, way, often, held, letters, mark, jots, made, over, some ⟨irow, inames, itaken, ipassed, iletters, isince, inoted, iout, iagain - 1⟩, count⟩, ⟨irow, inames, itaken, ipassed, iletters, isince, inoted, iout, iagain - 1⟩, e, rfl, rfl, rfl, hname, fun a' => ?_⟩
    exact ⟨_, rfl, by simp, _, rfl, WkC.of (h a')⟩
/-! begin -/
structure BeginOk (nN nF : Nat) (st : WorkS) (i : InnerS) : Prop where
  rows : ∀ r ∈ st.rows, r.ok nN nF st.rows.length
  handed : NN st.handed
  held : st.held.length = nF ∧ ∀ f ∈ st.held, f.length ≤ 40 ∧ NN f
  row : 0 ≤ i.row ∧ i.row ≤ st.rows.length
  names : NamesOk nN i.names
  taken : 0 ≤ i.taken ∧ i.taken ≤ st.handed.length
  letters : st.letters.length < 10000
  jots : st.jots.length < 10000
theorem fits_of {nN nF hl many : Nat} {e : Eff} {i : InnerS} (h : EffOk nN nF hl many e) (hn : i.names.length = nN) : nameFits i e := fun n en => by
  obtain ⟨h1, v, h2, _⟩ := h.name n en
  exact ⟨by rw [hn]; exact h1, v, h2⟩
theorem done_of {nN nF hl many : Nat} {e : Eff} {st : WorkS} {i : InnerS} (h : EffOk nN nF hl many e) (hn : i.names.length = nN) (hf : st.held.length = nF ∧ ∀ f ∈ st.held, f.length ≤ 40 ∧ NN f) (hl : st.letters.length < 10000) : DoneOk st i e :=
  ⟨fits_of h hn, fun f e => by rw [hf.1]; exact h.file f e, h.pos, by have := h.new.1; have := h.pos; omega, fun f hm => by have := (hf.2 f hm).1; omega, hl⟩
theorem word_mark (r : PRow) : PyData.eqv (.str r.word) (.str "mark") = isMark r := by cases r <;> rfl
theorem word_change (r : PRow) : inD (.str r.word) (changeW.map PyData.str) = changes r := by cases r <;> rfl
abbrev s_Work_begin : Stmt := inClass (topS 37) 8
abbrev N_Work_begin : List Str := ["self", "inner", "told", "word"]
theorem sc_Work_begin : FnScope N_Work_begin ["self"] (defScope s_Work_begin) := ⟨rfl, rfl, rfl, by decide +kernel, rfl, by decide +kernel, by decide +kernel⟩
def BeginE (st : WorkS) (i : InnerS) : Prop := ∃ nN nF, BeginOk nN nF st i
theorem ok_begin {k : Nat} {a1 : Addr} {t1 t2 : Tok} (F : FunM K c.W "begin" "Work.begin" s_Work_begin ["self"]) (B : Blt mg) (TW : Klass K c.W FW) (TI : Klass K c.I FI) (TE : Klass K c.E FE)
    (D1 : Def P w K mg base "effect" 6 6 (spEffect c.E)) (M1 : DefM P w K mg base c.W "ends" 1 2 (spEnds c)) (M2 : DefM P w K mg base c.W "keep" 3 1 (spIn c keepW fun _ _ => True))
    (M3 : DefM P w K mg base c.W "take_over" 1 2 (spT c (fun st i e => (.none, { st with inner := some (takeOver e i) })) fun _ i e => nameFits i e)) (M4 : DefM P w K mg base c.W "done" 2 2 (spT c doneW DoneOk))
    (c1 : mg "MOST_STEPS" = some (.int 1000 t1)) (c2 : mg "ON" = some (.str "on" t2)) (c3 : mg "CHANGES" = some (.ref a1)) (k3 : KTup K a1 (changeW.map V.str)) :
    DefM P w K mg base c.W "begin" (k + 7) 1 (spIn c beginW BeginE) := by
  refine okM F sc_Work_begin rfl fun cdv A outer s H E f hr => ⟨_,
    (ss_cons (s_set (i := 1) sc_Work_begin.nd (d_fld TW 10 (dv 0)))
      (ss_cons (s_if (t_eq hr.units (d_fld TI 0 (dv 1)) (d_len (by rfl) B.len (a_cons (d_fld TW 0 (dv 0)) a_nil)))
      (ss_one (s_ret (d_meth TW M1 (hr.mono (by omega)) (by decide) (dv 0) (a_cons (d_tup (a_cons d_str a_nil)) a_nil))))
      ss_nil)
      (ss_cons (s_if (t_eq hr.units (d_fld TI 3 (dv 1)) (d_globI (by rfl) c1))
      (ss_one (s_ret (d_meth TW M1 (hr.mono (by omega)) (by decide) (dv 0) (a_cons (d_tup (a_cons d_str a_nil)) a_nil))))
      ss_nil)
      (ss_cons (s_if (PDW.pt (w_and (t_gt (d_fld TW 3 (dv 0)) d_int) (w_and1 (t_ge (d_fld TI 5 (dv 1)) (d_fld TW 3 (dv 0))))))
      (ss_one (s_ret (d_meth0 TW M2 (hr.mono (by omega)) (by decide) (dv 0))))
      ss_nil)
      (ss_cons (s_set (i := 2) sc_Work_begin.nd (d_callF D1 (hr.mono (by omega)) (by rfl) (a_cons (d_fld TW 0 (dv 0)) (a_cons (d_fld TI 0 (dv 1)) (a_cons (d_fld TI 1 (dv 1)) (a_cons (d_fld TI 2 (dv 1)) (a_cons (d_fld TW 1 (dv 0)) (a_cons (d_fld TW 4 (dv 0)) a_nil))))))))
      (ss_cons (s_if (t_notN (d_fld TE 9 (dv 2)) d_non)
      (ss_one (s_ret (d_meth TW M1 (hr.mono (by omega)) (by decide) (dv 0) (a_cons (d_tup (a_cons d_str (a_cons (d_fld TE 9 (dv 2)) a_nil))) a_nil))))
      ss_nil)
      (ss_cons (s_set (i := 3) sc_Work_begin.nd (d_ix (hu_of hr) (d_ix (hu_of hr) (d_fld TW 0 (dv 0)) (d_fld TI 0 (dv 1))) d_int))
      (ss_cons (s_if (t_eq hr.units (dv 3) d_str)
      (ss_cons (s_expr (d_meth TW M3 (hr.mono (by omega)) (by decide) (dv 0) (a_cons (dv 2) a_nil)))
      (ss_cons (s_fld TW 11 (dv 0) (d_add (d_fld TW 11 (dv 0)) d_int))
      (ss_one (s_ret (d_meth0 TW M2 (hr.mono (by omega)) (by decide) (dv 0))))))
      ss_nil)
      (ss_cons (s_if (PDW.pt (w_or (t_eq hr.units (d_fld TW 2 (dv 0)) (d_globS (by rfl) c2)) (w_or1 (t_in (dv 3) (d_globT (ns := changeW) (by rfl) c3 k3)))))
      (ss_cons (s_expr (d_appT (d_fld TW 7 (dv 0)) (dv 2)))
      (ss_cons (s_fld TI 6 (dv 1) (dv 2))
      (ss_one (s_ret (d_tup (a_cons d_str (a_cons (d_fld TI 0 (dv 1)) a_nil)))))))
      ss_nil)
      (ss_cons (s_fld TI 6 (dv 1) (dv 2))
      (ss_one (s_ret (d_meth TW M4 (hr.mono (by omega)) (by decide) (dv 0) (a_cons (dv 2) a_nil))))))))))))))
    , ?_⟩
  intro rs S C hl h
  obtain ⟨wa, a, ⟨rows, handed, way, often, held, letters, mark, jots, made, over, inner, count⟩, i, rfl, rfl, hin, ⟨nN, nF, ok⟩, h⟩ := h
  cases (show inner = some i from hin)
  obtain ⟨irow, inames, itaken, ipassed, iletters, isince, inoted, iout, iagain⟩ := i
  have lt : (((rows.map PRow.dat).length : Nat) : Int) = (rows.length : Int) := by rw [List.length_map]
  obtain ⟨hr0, hr1⟩ := (show 0 ≤ irow ∧ irow ≤ (rows.length : Int) from ok.row)
  have hheld : held.length = nF ∧ ∀ f ∈ held, f.length ≤ 40 ∧ NN f := ok.held
  have hnames : NamesOk nN inames := ok.names
  refine ⟨_, rfl, 0, _, _, rfl, rfl, ?_⟩
  refine ⟨_, rfl, 4, _, _, rfl, rfl, _, rfl, 0, _, _, rfl, rfl, rfl, ite2b (fun hb => ?_) (fun hb => ?_)⟩
  · have hb' : irow = (rows.length : Int) := by rw [← lt]; exact int_eqv hb
    have e : beginW ⟨rows, handed, way, often, held, letters, mark, jots, made, over, some ⟨irow, inames, itaken, ipassed, iletters, isince, inoted, iout, iagain⟩, count⟩ ⟨irow, inames, itaken, ipassed, iletters, isince, inoted, iout, iagain⟩ = _ := if_pos hb'
    rw [e] at h
    exact ⟨_, rfl, ⟨0, _, rfl⟩, by simp, _, rfl, rfl, wa, a, _, _, rfl, rfl, fun a' => WkC.of (h a')⟩
  have hb1 : ¬ irow = (rows.length : Int) := fun z => int_nev hb (by rw [z, ← lt])
  refine ⟨_, rfl, 4, _, _, rfl, rfl, rfl, ite2b (fun hb => ?_) (fun hb => ?_)⟩
  · have hb' : ipassed = 1000 := int_eqv hb
    have e : beginW ⟨rows, handed, way, often, held, letters, mark, jots, made, over, some ⟨irow, inames, itaken, ipassed, iletters, isince, inoted, iout, iagain⟩, count⟩ ⟨irow, inames, itaken, ipassed, iletters, isince, inoted, iout, iagain⟩ = _ := (if_neg hb1).trans (if_pos hb')
    rw [e] at h
    exact ⟨_, rfl, ⟨0, _, rfl⟩, by simp, _, rfl, rfl, wa, a, _, _, rfl, rfl, fun a' => WkC.of (h a')⟩
  have hb2 : ¬ ipassed = 1000 := int_nev hb
  dsimp only [sNext, sSeq, sIf]
  refine and_pure (b1 := decide (0 < often)) (b2 := decide (often ≤ isince)) ?_ ?_ ?_
  · exact fun C' q => ⟨_, rfl, 0, _, _, rfl, rfl, q⟩
  · exact fun C' q => ⟨_, rfl, 4, _, _, rfl, rfl, _, rfl, 0, _, _, rfl, rfl, q⟩
  refine ite2b (fun hb => ?_) (fun hb => ?_)
  · have hb' : 0 < often ∧ often ≤ isince := by simpa using hb
    have e : beginW ⟨rows, handed, way, often, held, letters, mark, jots, made, over, some ⟨irow, inames, itaken, ipassed, iletters, isince, inoted, iout, iagain⟩, count⟩ ⟨irow, inames, itaken, ipassed, iletters, isince, inoted, iout, iagain⟩ = _ := (if_neg hb1).trans ((if_neg hb2).trans (if_pos hb'))
    rw [e] at h
    exact ⟨_, rfl, ⟨0, _, rfl⟩, rfl, wa, a, _, _, rfl, rfl, rfl, True.intro, fun a' => WkC.of (h a')⟩
  have hb3 : ¬ (0 < often ∧ often ≤ isince) := by
    intro z
    simp [z.1, z.2] at hb
  have er := toNat_cast hr0
  have hlt : irow.toNat < rows.length := by omega
  obtain ⟨row, hrow⟩ : ∃ row, rows[irow.toNat]? = some row := ⟨_, List.getElem?_eq_getElem hlt⟩
  have erow : rowAt rows irow = row := by
    unfold rowAt
    rw [List.getD_eq_getElem?_getD, hrow]; rfl
  have hrok : row.ok nN nF rows.length := ok.rows row (List.mem_of_getElem? hrow)
  have e : beginW ⟨rows, handed, way, often, held, letters, mark, jots, made, over, some ⟨irow, inames, itaken, ipassed, iletters, isince, inoted, iout, iagain⟩, count⟩ ⟨irow, inames, itaken, ipassed, iletters, isince, inoted, iout, iagain⟩ = _ := (if_neg hb1).trans ((if_neg hb2).trans (if_neg hb3))
  rw [e] at h
  clear e
  have eE : effAt ⟨rows, handed, way, often, held, letters, mark, jots, made, over, some ⟨irow, inames, itaken, ipassed, iletters, isince, inoted, iout, iagain⟩, count⟩ ⟨irow, inames, itaken, ipassed, iletters, isince, inoted, iout, iagain⟩ = effect row irow itaken inames handed held := by
    unfold effAt
    rw [show rowAt rows irow = row from erow]
  rw [eE] at h
  dsimp only at h
  rw [erow] at h
  have hEok := effect_ok (at_ := irow) (taken := itaken) (hs := handed) (fs := held) hrok hnames ok.handed hheld ⟨hr0, by omega⟩ ok.taken
  refine ⟨_, rfl, 0, _, _, rfl, rfl, _, rfl, 4, _, _, rfl, rfl, _, rfl, 4, _, _, rfl, rfl, _, rfl, 4, _, _, rfl, rfl, _, rfl, 0, _, _, rfl, rfl, _, rfl, 0, _, _, rfl, rfl, rfl, rows, row, irow.toNat, itaken, rows.length, .val (.ref a.n), .dat (lstI handed), .val (.ref a.h), inames, handed, held, by rw [er], hrow, by rw [hnames.len, hheld.1]; exact hrok, ⟨5, rfl⟩, (iR_eq handed).symm, ⟨1, rfl⟩, hnames.nn, fun f hf => by have := (hheld.2 f hf).1; omega, ok.taken.1, ok.taken.2, ?_⟩
  rw [er]
  generalize effect row irow itaken inames handed held = ef at h hEok
  obtain ⟨frow, ftaken, fname, fnumber, ffile, fpos, fold, fnew, fletter, ffault⟩ := ef
  cases ffault with
  | some z =>
    refine ⟨_, rfl, rfl, rfl, _, rfl, ?_⟩
    exact ⟨_, rfl, ⟨0, _, rfl⟩, _, rfl, rfl, rfl, _, rfl, by simp, _, rfl, rfl, wa, a, _, _, rfl, rfl, fun a' => WkC.of (h a')⟩
  | none =>
    have hE := hEok rfl
    refine ⟨_, rfl, rfl, rfl, _, rfl, ?_⟩
    have ha : atI (rows.map PRow.dat) irow = some row.dat := by
      have e1 : (rows.map PRow.dat)[irow.toNat]? = some row.dat := by rw [List.getElem?_map, hrow]; rfl
      have e2 := atI_nat e1
      rw [er] at e2
      exact e2
    refine ⟨_, rfl, 0, _, _, rfl, rfl, _, rfl, 4, _, _, rfl, rfl, _, ha, _, at0, ?_⟩
    dsimp only at h
    refine ⟨_, rfl, rfl, ite2b (fun hb => ?_) (fun hb => ?_)⟩
    · have hm : isMark row = true := by rw [← word_mark]; exact hb
      rw [if_pos hm] at h
      refine ⟨_, rfl, ⟨0, _, rfl⟩, _, rfl, rfl, wa, a, ⟨rows, handed, way, often, held, letters, mark, jots, made, over, some ⟨irow, inames, itaken, ipassed, iletters, isince, inoted, iout, iagain⟩, count⟩, ⟨irow, inames, itaken, ipassed, iletters, isince, inoted, iout, iagain⟩, ⟨frow, ftaken, fname, fnumber, ffile, fpos, fold, fnew, fletter, none⟩, rfl, rfl, rfl, fits_of hE hnames.len, fun a' => ?_⟩
      refine ⟨_, rfl, 0, _, _, rfl, rfl, _, rfl, 0, _, rfl, le_ok rfl, ?_⟩
      exact ⟨_, rfl, ⟨0, _, rfl⟩, rfl, wa, a', ⟨rows, handed, way, often, held, letters, mark, jots, made, over, some (takeOver ⟨frow, ftaken, fname, fnumber, ffile, fpos, fold, fnew, fletter, none⟩ ⟨irow, inames, itaken, ipassed, iletters, isince, inoted, iout, iagain⟩), count + 1⟩, takeOver ⟨frow, ftaken, fname, fnumber, ffile, fpos, fold, fnew, fletter, none⟩ ⟨irow, inames, itaken, ipassed, iletters, isince, inoted, iout, iagain⟩, rfl, rfl, rfl, True.intro, fun a'' => WkC.of (h a'')⟩
    · have hm : ¬ isMark row = true := by
        rw [← word_mark]
        show ¬ PyData.eqv (.str row.word) (.str "mark") = true
        rw [show PyData.eqv (.str row.word) (.str "mark") = false from hb]
        exact Bool.false_ne_true
      rw [if_neg hm] at h
      dsimp only [sNext, sSeq, sIf]
      refine or_pure (b1 := PyData.eqv (.str way) (.str "on")) (b2 := changes row) ?_ ?_ ?_
      · exact fun C' q => ⟨_, rfl, 0, _, _, rfl, rfl, rfl, q⟩
      · exact fun C' q => ⟨_, rfl, rfl, rfl, by
          show C' (inD (.str row.word) (changeW.map PyData.str)) _
          rw [word_change]; exact q⟩
      have ec : (PyData.eqv (.str way) (.str "on") || changes row) = true ↔ way = onW ∨ changes row = true := by
        rw [Bool.or_eq_true_iff]
        constructor
        · rintro (z | z)
          · exact .inl (str_eqv z)
          · exact .inr z
        · rintro (z | z)
          · rw [z]; exact .inl rfl
          · exact .inr z
      refine ite2b (fun hb2 => ?_) (fun hb2 => ?_)
      · rw [if_pos (ec.mp hb2)] at h
        have hj : jots.length < 10000 := ok.jots
        have em : jots.map (effR c) ++ [effR c ⟨frow, ftaken, fname, fnumber, ffile, fpos, fold, fnew, fletter, none⟩] = (jots ++ [(⟨frow, ftaken, fname, fnumber, ffile, fpos, fold, fnew, fletter, none⟩ : Eff)]).map (effR c) := by rw [List.map_append]; rfl
        refine ⟨_, rfl, 0, _, _, rfl, rfl, ⟨3, _, rfl⟩, _, rfl, 3, _, rfl, by rw [List.length_map]; show jots.length < 100000; omega, ?_⟩
        dsimp only [effR] at em
        refine ⟨_, rfl, _, rfl, 4, _, rfl, le_ok rfl, ?_⟩
        refine ⟨_, rfl, 4, _, _, rfl, rfl, by simp, _, rfl, WkC.of ?_⟩
        have h2 := h a
        unfold wC WorkS.rs at h2
        dsimp only at h2
        rw [← em] at h2
        exact h2
      · rw [if_neg (fun z => by rw [ec.mpr z] at hb2; cases hb2)] at h
        refine ⟨_, rfl, _, rfl, 4, _, rfl, le_ok rfl, ?_⟩
        exact ⟨_, rfl, ⟨0, _, rfl⟩, _, rfl, rfl, wa, a, ⟨rows, handed, way, often, held, letters, mark, jots, made, over, some ⟨irow, inames, itaken, ipassed, iletters, isince, some ⟨frow, ftaken, fname, fnumber, ffile, fpos, fold, fnew, fletter, none⟩, iout, iagain⟩, count⟩, ⟨irow, inames, itaken, ipassed, iletters, isince, some ⟨frow, ftaken, fname, fnumber, ffile, fpos, fold, fnew, fletter, none⟩, iout, iagain⟩, ⟨frow, ftaken, fname, fnumber, ffile, fpos, fold, fnew, fletter, none⟩, rfl, rfl, rfl, done_of hE hnames.len hheld ok.letters, fun a' => WkC.of (h a')⟩
end
end K05
set_option Elab.async false
set_option linter.all false
set_option maxRecDepth 100000
set_option maxHeartbeats 4000000
namespace K05
open PySem PySem.Spec PyProof.Rows L2 DL PM
section
variable {P : Program} {w : World} {K : Fg} {mg : Str → Option Value} {base : Heap} {c : Cs}
/-! move -/
structure MoveOk (nN nF : Nat) (st : WorkS) : Prop where
  ok : WorkOk nN nF st
  letters : st.letters.length < 10000
  jots : st.jots.length < 10000
def MoveE (st : WorkS) : Prop := ∃ nN nF, MoveOk nN nF st
abbrev s_Work_move : Stmt := inClass (topS 37) 2
abbrev N_Work_move : List Str := ["self"]
theorem sc_Work_move : FnScope N_Work_move ["self"] (defScope s_Work_move) := ⟨rfl, rfl, rfl, by decide +kernel, rfl, by decide +kernel, by decide +kernel⟩
theorem ok_move {k : Nat} (F : FunM K c.W "move" "Work.move" s_Work_move ["self"]) (TW : Klass K c.W FW) (TI : Klass K c.I FI)
    (M1 : DefM P w K mg base c.W "rise" 3 1 (spM c riseW RiseOk)) (M2 : DefM P w K mg base c.W "go_through" 2 1 (spIn c goW GoOk)) (M3 : DefM P w K mg base c.W "done" 2 2 (spT c doneW DoneOk)) (M4 : DefM P w K mg base c.W "begin" 7 1 (spIn c beginW BeginE)) :
    DefM P w K mg base c.W "move" (k + 8) 1 (spM c moveW MoveE) := by
  refine okM F sc_Work_move rfl fun cdv A outer s H E f hr => ⟨_,
    (ss_cons (s_if (t_notN (d_fld TW 9 (dv 0)) d_non)
      (ss_one (s_ret (d_tup (a_cons d_str a_nil))))
      ss_nil)
      (ss_cons (s_if (t_isN (d_fld TW 10 (dv 0)) d_non)
      (ss_one (s_ret (d_meth0 TW M1 (hr.mono (by omega)) (by decide) (dv 0))))
      ss_nil)
      (ss_cons (s_if (t_gt (d_fld TI 8 (d_fld TW 10 (dv 0))) d_int)
      (ss_one (s_ret (d_meth0 TW M2 (hr.mono (by omega)) (by decide) (dv 0))))
      ss_nil)
      (ss_cons (s_if (t_notN (d_fld TI 6 (d_fld TW 10 (dv 0))) d_non)
      (ss_one (s_ret (d_meth TW M3 (hr.mono (by omega)) (by decide) (dv 0) (a_cons (d_fld TI 6 (d_fld TW 10 (dv 0))) a_nil))))
      ss_nil)
      (ss_one (s_ret (d_meth0 TW M4 (hr.mono (by omega)) (by decide) (dv 0))))))))
    , ?_⟩
  intro rs S C hl h
  obtain ⟨wa, a, ⟨rows, handed, way, often, held, letters, mark, jots, made, over, inner, count⟩, rfl, rfl, ⟨nN, nF, ok, hle, hjo⟩, h⟩ := h
  have hheld : held.length = nF ∧ ∀ f ∈ held, f.length ≤ 40 ∧ NN f := ok.held
  have fin : over ≠ .none → ∀ a', C (.dat (told1 "rests")) (wC c wa a' ⟨rows, handed, way, often, held, letters, mark, jots, made, over, inner, count⟩) := fun hne a' => by
    have e : moveW ⟨rows, handed, way, often, held, letters, mark, jots, made, over, inner, count⟩ = (told1 "rests", ⟨rows, handed, way, often, held, letters, mark, jots, made, over, inner, count⟩) := by
      have ho : isOver ⟨rows, handed, way, often, held, letters, mark, jots, made, over, inner, count⟩ = true := by
        cases over <;> first | rfl | exact absurd rfl hne
      exact if_pos ho
    have h2 := h a'
    rw [e] at h2
    exact h2
  cases over with
  | none =>
    refine ⟨_, rfl, 0, _, _, rfl, rfl, ?_⟩
    cases inner with
    | none =>
      refine ⟨_, rfl, 0, _, _, rfl, rfl, ?_⟩
      refine ⟨_, rfl, ⟨0, _, rfl⟩, rfl, wa, a, ⟨rows, handed, way, often, held, letters, mark, jots, made, .none, none, count⟩, rfl, rfl, ⟨rfl, ok.back, fun e he f hf => by rw [hheld.1]; exact (ok.jots e he).file f hf, fun e he => ⟨(ok.jots e he).pos, by have := (ok.jots e he).old.1; have := (ok.jots e he).pos; omega⟩, fun f hf => by have := (hheld.2 f hf).1; omega⟩, fun a' => WkC.of (h a')⟩
    | some i =>
      have hi := ok.inner i rfl
      obtain ⟨irow, inames, itaken, ipassed, iletters, isince, inoted, iout, iagain⟩ := i
      refine ⟨_, rfl, 0, _, _, rfl, rfl, ?_⟩
      refine ⟨_, rfl, 0, _, _, rfl, rfl, 4, _, _, rfl, rfl, ite2d (fun hb => ?_) (fun hb => ?_)⟩
      · have e : moveW ⟨rows, handed, way, often, held, letters, mark, jots, made, .none, some ⟨irow, inames, itaken, ipassed, iletters, isince, inoted, iout, iagain⟩, count⟩ = goW ⟨rows, handed, way, often, held, letters, mark, jots, made, .none, some ⟨irow, inames, itaken, ipassed, iletters, isince, inoted, iout, iagain⟩, count⟩ ⟨irow, inames, itaken, ipassed, iletters, isince, inoted, iout, iagain⟩ := if_pos hb
        rw [e] at h
        exact ⟨_, rfl, ⟨0, _, rfl⟩, rfl, wa, a, _, _, rfl, rfl, rfl, ⟨⟨hb, hi.again.2⟩, fun e he => fits_of (ok.jots e he) hi.names.len⟩, fun a' => WkC.of (h a')⟩
      · cases inoted with
        | some e =>
          have e2 : moveW ⟨rows, handed, way, often, held, letters, mark, jots, made, .none, some ⟨irow, inames, itaken, ipassed, iletters, isince, some e, iout, iagain⟩, count⟩ = doneW ⟨rows, handed, way, often, held, letters, mark, jots, made, .none, some ⟨irow, inames, itaken, ipassed, iletters, isince, some e, iout, iagain⟩, count⟩ ⟨irow, inames, itaken, ipassed, iletters, isince, some e, iout, iagain⟩ e := if_neg hb
          rw [e2] at h
          refine ⟨_, rfl, 0, _, _, rfl, rfl, 4, _, _, rfl, rfl, ?_⟩
          exact ⟨_, rfl, ⟨0, _, rfl⟩, _, rfl, 0, _, _, rfl, rfl, 4, _, _, rfl, rfl, rfl, wa, a, _, _, e, rfl, rfl, rfl, done_of (hi.noted e rfl) hi.names.len hheld hle, fun a' => WkC.of (h a')⟩
        | none =>
          have e2 : moveW ⟨rows, handed, way, often, held, letters, mark, jots, made, .none, some ⟨irow, inames, itaken, ipassed, iletters, isince, none, iout, iagain⟩, count⟩ = beginW ⟨rows, handed, way, often, held, letters, mark, jots, made, .none, some ⟨irow, inames, itaken, ipassed, iletters, isince, none, iout, iagain⟩, count⟩ ⟨irow, inames, itaken, ipassed, iletters, isince, none, iout, iagain⟩ := if_neg hb
          rw [e2] at h
          refine ⟨_, rfl, 0, _, _, rfl, rfl, 4, _, _, rfl, rfl, ?_⟩
          exact ⟨_, rfl, ⟨0, _, rfl⟩, rfl, wa, a, _, _, rfl, rfl, rfl, ⟨nN, nF, ok.rows, ok.handed, hheld, hi.row, hi.names, hi.taken, hle, hjo⟩, fun a' => WkC.of (h a')⟩
  | _ => exact ⟨_, rfl, 0, _, _, rfl, rfl, by simp, _, rfl, WkC.of (fin (fun z => nomatch z) a)⟩
end
end K05
set_option Elab.async false
set_option linter.all false
set_option maxRecDepth 100000
set_option maxHeartbeats 4000000
namespace K05
open PySem PySem.Spec PyProof.Rows L2 DL PM
section
variable {P : Program} {w : World} {K : Fg} {mg : Str → Option Value} {base : Heap} {c : Cs}
/-! Work.__init__ -/
def spWorkInit (c : Cs) : SpD := fun rs S C => ∃ (x : Addr) (p : Prog) (hs : List Int) (way : Str) (often : Int) (S0 : SH), rs = [.val (.ref x), .dat p.dat, .dat (lstI hs), .dat (.str way), .dat (.int often)] ∧ S = .ins x c.W FW [] :: S0 ∧ p.ok ∧ HandedOk hs ∧ (way = backW ∨ way = onW) ∧ 0 ≤ often ∧ often ≤ 99 ∧
  ∀ a, C (.dat .none) (wC c x a (newW p hs way often) ++ S0)
theorem rep_flat (n : Nat) : (List.replicate n [PyData.int 0]).flatten = (List.replicate n (0 : Int)).map PyData.int := by
  induction n with
  | zero => rfl
  | succ n ih => rw [List.replicate_succ, List.replicate_succ, List.flatten_cons, ih]; rfl
theorem rng_const (lo : Int) (n : Nat) : (rng lo n).map (fun _ => R.dat (.list [])) = fileR (List.replicate n []) := by
  unfold rng fileR
  rw [List.map_map]
  apply List.ext_getElem
  · simp
  · intro i h1 h2
    simp [lstI]
abbrev s_Work___init__ : Stmt := inClass (topS 37) 0
abbrev N_Work___init__ : List Str := ["self", "program", "handed", "way", "often", "file"]
theorem sc_Work___init__ : FnScope N_Work___init__ ["self", "program", "handed", "way", "often"] (defScope s_Work___init__) := ⟨rfl, rfl, rfl, by decide +kernel, rfl, by decide +kernel, by decide +kernel⟩
theorem ok_work_init {k : Nat} {t1 t2 t3 : Tok} (F : FunI K mg "Work" c.W "Work.__init__" s_Work___init__ ["self", "program", "handed", "way", "often"]) (B : Blt mg) (TW : Klass K c.W FW) (D1 : Def P w K mg base "need_program" 7 1 spNeedProgram) (D2 : Def P w K mg base "need_handed" 2 1 spNeedHanded) (D3 : Def P w K mg base "is_number" 1 3 spIsNumber)
    (I1 : DefI P w K mg base "Mark" c.M 1 6 (spMarkInit c)) (I2 : DefI P w K mg base "Inner" c.I 1 3 (spInnerInit c)) (c1 : mg "BACK" = some (.str "back" t1)) (c2 : mg "ON" = some (.str "on" t2)) (c3 : mg "MOST_OFTEN" = some (.int 99 t3)) :
    DefI P w K mg base "Work" c.W (k + 8) 5 (spWorkInit c) := by
  refine okI F sc_Work___init__ rfl fun cdv A outer s H E f hr => ⟨_,
    (ss_cons (s_expr (d_callF D1 (hr.mono (by omega)) (by rfl) (a_cons (dv 1) a_nil)))
      (ss_cons (s_expr (d_callF D2 (hr.mono (by omega)) (by rfl) (a_cons (dv 2) a_nil)))
      (ss_cons (s_if (PDW.pt (w_or (t_not (t_val (d_isi kit_str (by rfl) B.isinstance (a_cons (dv 3) (a_cons (d_bltn (v := .ty "str") (by rfl) B.str (by decide +kernel) rfl) a_nil))))) (w_or1 (t_notIn (dv 3) (d_tup (a_cons (d_globS (by rfl) c1) (a_cons (d_globS (by rfl) c2) a_nil)))))))
      (ss_one s_never)
      ss_nil)
      (ss_cons (s_if (t_not (t_val (d_callF D3 (hr.mono (by omega)) (by rfl) (a_cons (dv 4) (a_cons d_int (a_cons (d_globI (by rfl) c3) a_nil))))))
      (ss_one s_never)
      ss_nil)
      (ss_cons (s_fld TW 0 (dv 0) (d_ix (hu_of hr) (dv 1) d_int))
      (ss_cons (s_fld TW 1 (dv 0) (d_list (by rfl) B.list (a_cons (dv 2) a_nil)))
      (ss_cons (s_fld TW 2 (dv 0) (dv 3))
      (ss_cons (s_fld TW 3 (dv 0) (dv 4))
      (ss_cons (s_fld TW 4 (dv 0) (d_lcC sc_Work___init__.nd (i := 5) (i_r1 (by rfl) B.range (a_cons (d_ix (hu_of hr) (dv 1) d_int) a_nil)) (blkOk_by (N := N_Work___init__) (sc := defScope s_Work___init__) (own := [("file", 5)]) (by decide +kernel)) (fun _ _ _ _ _ => pg_name (i := 5) sc_Work___init__.nd rfl (Or.inl rfl)) (fun _ _ _ _ _ => ts_nil) (fun _ _ _ _ _ => (d_lst a_nil))))
      (ss_cons (s_fld TW 5 (dv 0) (d_lstC a_nil))
      (ss_cons (s_fld TW 6 (dv 0) (d_makeF FM I1 (hr.mono (by omega)) (by rfl) (a_cons d_int (a_cons (d_mulT (d_tup (a_cons d_int a_nil)) (d_ix (hu_of hr) (dv 1) d_int)) (a_cons d_int (a_cons d_int (a_cons d_int a_nil)))))))
      (ss_cons (s_fld TW 7 (dv 0) (d_lstC a_nil))
      (ss_cons (s_fld TW 8 (dv 0) d_int)
      (ss_cons (s_fld TW 9 (dv 0) d_non)
      (ss_cons (s_fld TW 10 (dv 0) (d_make FI I2 (hr.mono (by omega)) (by rfl) (a_cons (d_fld TW 6 (dv 0)) (a_cons d_int a_nil))))
      (ss_one (s_fld TW 11 (dv 0) d_int)))))))))))))))))
    , ?_⟩
  intro rs S C hl h
  obtain ⟨x, p, hs, way, often, S0, rfl, rfl, hp, hh, hw, ho0, ho1, h⟩ := h
  have hn := hp.n
  have hf := hp.f
  refine ⟨_, rfl, rfl, p, rfl, hp, ?_⟩
  refine ⟨_, rfl, rfl, _, hs, rfl, rfl, hh, ?_⟩
  have hin : inD (.str way) [.str "back", .str "on"] = true := by rcases hw with e | e <;> (rw [e]; rfl)
  refine ⟨_, rfl, rfl, _, rfl, iteFb rfl ⟨_, rfl, by simp, _, rfl, rfl, rfl, iteFb (by show (!inD (.str way) [.str "back", .str "on"]) = false; rw [hin]; rfl) ?_⟩⟩
  refine ⟨_, rfl, rfl, _, _, _, rfl, (fun z => nomatch z), iteFb (by simp [isNum]; omega) ?_⟩
  refine ⟨_, rfl, _, rfl, _, rfl, 0, _, rfl, le_ok rfl, ?_⟩
  refine ⟨_, rfl, _, rfl, 0, _, rfl, le_ok rfl, ?_⟩
  refine ⟨_, rfl, _, rfl, 0, _, rfl, le_ok rfl, ?_⟩
  refine ⟨_, rfl, _, rfl, 0, _, rfl, le_ok rfl, ?_⟩
  refine ⟨_, rfl, _, rfl, ⟨by omega, by omega⟩, lc_map (fun _ => .dat (.list [])) ?_ (by rw [rng_len]; omega) ?_⟩
  · exact fun r hr C' q => ⟨Nat.zero_le _, _, rfl, q⟩
  rw [rng_const]
  intro ah
  refine ⟨_, rfl, 1, _, rfl, le_ok rfl, ?_⟩
  refine ⟨Nat.zero_le _, fun al => ⟨_, rfl, 2, _, rfl, le_ok rfl, ?_⟩⟩
  refine ⟨by simp, _, rfl, _, rfl, _, rfl, by simp, by omega, by omega, by simp, ?_⟩
  dsimp only
  rw [rep_flat]
  refine ⟨rfl, fun xm => ⟨xm, _, _, _, _, _, _, rfl, rfl, rfl, _, _, rfl, rfl, ?_⟩⟩
  refine ⟨_, rfl, 2, _, rfl, le_ok rfl, ?_⟩
  refine ⟨Nat.zero_le _, fun aj => ⟨_, rfl, 3, _, rfl, le_ok rfl, ?_⟩⟩
  refine ⟨_, rfl, 3, _, rfl, le_ok rfl, ?_⟩
  refine ⟨_, rfl, 3, _, rfl, le_ok rfl, ?_⟩
  refine ⟨_, rfl, 3, _, _, rfl, rfl, rfl, fun xi => ⟨xi, ⟨0, List.replicate p.names.toNat 0, 0, 0, 0⟩, 0, _, rfl, rfl, fun xn => ⟨rfl, ?_⟩⟩⟩
  refine ⟨_, rfl, 5, _, rfl, le_ok rfl, ?_⟩
  refine ⟨_, rfl, 5, _, rfl, le_ok rfl, ?_⟩
  have h2 := h ⟨ah, al, aj, xi, xn⟩
  exact ⟨_, _, wkn_sub ((List.reverse_perm [_, _, _, _, _, _]).symm.append_right S0) (List.Sublist.refl _), h2⟩
end
end K05
set_option Elab.async false
set_option linter.all false
set_option maxRecDepth 100000
set_option maxHeartbeats 4000000
/-! DL: the end: the law's own def, what the head tells. -/
namespace DL
open PySem PySem.Spec PyProof.Rows L2
/-- the law's def and its promise, its text known -/
structure DefL (P : Program) (w : World) (K : Fg) (mg : Str → Option Value) (base : Heap) (x : Str) (st : Stmt) (ps : List Str) (k n : Nat) (sp : SpD) : Prop where
  ex : ∃ f fd, Fun K x x st f fd ∧ mg x = some (.ref f) ∧ FnOk P w K mg base CX0 k f fd ps (toSp K n sp)
section
variable {P : Program} {w : World} {K : Fg} {mg : Str → Option Value} {base : Heap}
theorem okL {x : Str} {st : Stmt} {N ps : List Str} {k n : Nat} {sp : SpD} (Fn : FunAt K mg x st ps) (Sc : FnScope N ps (defScope st)) (hn : ps.length = n)
    (hbody : ∀ (cdv : Value) (A : Around) (outer : List Env) (s : Shared) (H : Hp) (E : XK) (f : Addr), Room k (A.deeper (envOfC x (defScope st) s.heap.objs.size f cdv)) →
      ∃ ds, PDSs (cxOf CX0 P w K mg base N x (defScope st) f cdv A outer s H E).nox (defBody st) ds ∧ ∀ rs S C, rs.length = n → sp rs S C → ds { nx := fun _ S => C (.dat .none) S, rt := C } (startF N rs) S) : DefL P w K mg base x st ps (k + 1) n sp := by
  obtain ⟨f, fd, Fu, hm, hb⟩ := Fn.ex
  exact ⟨f, fd, Fu, hm, okD Fu Sc hn fun cdv A outer s H E hr => hbody cdv A outer s H E f hr⟩
theorem funAt_mk {x : Str} {st : Stmt} {ps : List Str} {f : Addr} {fd : FuncData} (F : FunD K x x (defArgs st) (defBody st) (defScope st) [] [] f fd) (hm : mg x = some (.ref f))
    (h : ∀ (kV doc pm : Value) (an : Option Addr) (cdv ct : Value) (us : List Value), us.length = ps.length → bindArgs (PySem.W.fnOf x x (defArgs st) (defBody st) (defScope st) .none kV doc pm an cdv ct) ⟨us, []⟩ = pure (ps.zip us)) : FunAt K mg x st ps := by
  have hb := F.bindsN h
  obtain ⟨oc, od, dV, kV, doc, pm, an, cdv, ct, osl, e, lk, hcd, hD, hK⟩ := F.ex
  rcases hD with ⟨_, rfl⟩ | ⟨z, _⟩
  · exact ⟨f, fd, ⟨⟨oc, od, kV, doc, pm, an, cdv, ct, osl, e, lk, hcd⟩, F.kp⟩, hm, hb⟩
  · exact absurd rfl z
/-- the promise that a law's end asks -/
theorem law_sp {sp : SpD} {H : Hp} {a : Addr} {ns : List Int} {m : Nat} (hl : ns.length ≤ m) (hO : Only H) (hS : SqL K H a (ns.map V.int)) (h : ∀ C : CR0, (∀ S', C (.dat (.bool true)) S') → sp [.scr ns] [] C) : toSp K 1 sp [.ref a] H (fun v _ => v = .bl true) fun _ _ _ => False := by
  refine ⟨rfl, [], [], [(.ref a, .scr ns)], [.scr ns], fun r _ => r = .dat (.bool true), ⟨List.nodup_nil, (fun c hc => nomatch hc), fun e he => ?_⟩, .cons List.mem_cons_self .nil, h _ fun _ => rfl, ?_⟩
  · cases List.mem_singleton.mp he
    exact ⟨a, rfl, ScrAt.of hO hS⟩
  · rintro v r S' H' o rfl
    exact rep_bool_inv (o.dat List.mem_cons_self)
end
end DL
set_option Elab.async false
set_option linter.all false
set_option maxRecDepth 100000
set_option maxHeartbeats 4000000
/-! DL: what the head tells of classes, methods, written tables. -/
namespace DL
open PySem PySem.Spec PyProof.Rows L2
section
variable {K : Fg} {mg : Str → Option Value} {w : World}
theorem funM_mk {x m qual : Str} {st : Stmt} {ps : List Str} {fd : FuncData} (F : FunD K m qual (defArgs st) (defBody st) (defScope st) [] [] (He.fAd K (x, some m)) fd) (M : Meth K (He.ga K x) m (He.ma K (He.ga K x) m))
    (h : ∀ (kV doc pm : Value) (an : Option Addr) (cdv ct : Value) (us : List Value), us.length = ps.length → bindArgs (PySem.W.fnOf m qual (defArgs st) (defBody st) (defScope st) .none kV doc pm an cdv ct) ⟨us, []⟩ = pure (ps.zip us)) : FunM K (He.ga K x) m qual st ps := by
  have hb := F.bindsN h
  obtain ⟨oc, od, dV, kV, doc, pm, an, cdv, ct, osl, e, lk, hcd, hD, hK⟩ := F.ex
  rcases hD with ⟨_, rfl⟩ | ⟨z, _⟩
  · exact ⟨_, fd, ⟨⟨oc, od, kV, doc, pm, an, cdv, ct, osl, e, lk, hcd⟩, F.kp⟩, M, hb⟩
  · exact absurd rfl z
theorem funI_mk {x qual : Str} {st : Stmt} {ps : List Str} {fd : FuncData} (F : FunD K "__init__" qual (defArgs st) (defBody st) (defScope st) [] [] (He.fAd K (x, some "__init__")) fd) (M : Mk K (He.ga K x) (He.ma K (He.ga K x) "__init__")) (hm : mg x = some (.ref (He.ga K x)))
    (h : ∀ (kV doc pm : Value) (an : Option Addr) (cdv ct : Value) (us : List Value), us.length = ps.length → bindArgs (PySem.W.fnOf "__init__" qual (defArgs st) (defBody st) (defScope st) .none kV doc pm an cdv ct) ⟨us, []⟩ = pure (ps.zip us)) : FunI K mg x (He.ga K x) qual st ps := by
  have hb := F.bindsN h
  obtain ⟨oc, od, dV, kV, doc, pm, an, cdv, ct, osl, e, lk, hcd, hD, hK⟩ := F.ex
  rcases hD with ⟨_, rfl⟩ | ⟨z, _⟩
  · exact ⟨_, fd, ⟨⟨oc, od, kV, doc, pm, an, cdv, ct, osl, e, lk, hcd⟩, F.kp⟩, M, hb, hm⟩
  · exact absurd rfl z
theorem kTup_mk {x : Str} {vs : List He.Dv} (h : He.tupB K x vs = true) : KTup K (He.ga K x) (vs.map (He.Dv.v K)) := by
  have z := He.tupB_ok h (fun _ => none)
  rcases z with (z | ⟨o, z⟩) | z
  · cases (show (none : Option HO) = some (.tup (vs.map (He.Dv.v K))) from z)
  · cases (show (none : Option HO) = some (.frz o (.tup (vs.map (He.Dv.v K)))) from z)
  · exact z
theorem noneK {n : Nat} {e : DictEntry} {x z : Str} {t : Tok} (hx : x ≠ z) (ek : e.key = .str x t) : ¬ (e.key.isStr z = true) ∧ e.refKey = false := by
  unfold DictEntry.refKey
  rw [ek]
  exact ⟨fun q => hx (eq_of_beq (show (x == z) = true from q)), rfl⟩
/-- the keys of a written dict -/
theorem keys_mem {P : Params} : ∀ {l : List DictEntry} {ks : List Str}, l.map He.keyOf = He.keysIn P ks → ∀ e ∈ l, ∃ x ∈ ks, ∃ t, e.key = .str x t
  | [], _, _, e, he => by cases he
  | e :: r, [], h, _, _ => by cases h
  | e :: r, k :: ks, h, e', he => by
    have h1 : He.keyOf e :: r.map He.keyOf = some (k, PyData.keyHash P k) :: He.keysIn P ks := h
    injection h1 with h2 h3
    rcases List.mem_cons.mp he with rfl | he
    · unfold He.keyOf at h2
      split at h2
      · rename_i x t q
        obtain ⟨h5, h6⟩ := Prod.mk.inj (Option.some.inj h2)
        subst h5
        exact ⟨_, List.mem_cons_self, t, q⟩
      · cases h2
    · obtain ⟨x, hx, t, q⟩ := keys_mem h3 e' he
      exact ⟨x, List.mem_cons_of_mem _ hx, t, q⟩
theorem dicW_none {P : Params} {a : Addr} {ks : List Str} {z : Str} (h : He.dicW K a = some (He.keysIn P ks)) (hz : ∀ x ∈ ks, x ≠ z) : PySem.W.nsIn K a z = some none := by
  unfold He.dicW at h
  unfold PySem.W.nsIn
  cases q : K.lookup a with
  | none => rw [q] at h; cases h
  | some o =>
    obtain ⟨oc, od, dt, osl⟩ := o
    rw [q] at h
    cases oc with
    | type c =>
      cases od with
      | none =>
        cases dt with
        | dict es n =>
          have h1 : (match decide (c = "dict") && (osl.isEmpty && !(a == sysModules)) with
            | true => some (es.toList.map He.keyOf)
            | false => none) = some (He.keysIn P ks) := h
          cases zz : decide (c = "dict") && (osl.isEmpty && !(a == sysModules)) with
          | false => rw [zz] at h1; cases h1
          | true =>
            rw [zz] at h1
            have km := keys_mem (Option.some.inj h1)
            have f1 : es.toList.find? (·.key.isStr z) = none := by
              rw [List.find?_eq_none]
              intro e he
              obtain ⟨x, hx, t, ek⟩ := km e he
              exact (noneK (n := 0) (hz x hx) ek).1
            have f2 : es.toList.any (·.refKey) = false := by
              rw [List.any_eq_false]
              intro e he
              obtain ⟨x, hx, t, ek⟩ := km e he
              rw [(noneK (n := 0) (hz x hx) ek).2]
              exact Bool.false_ne_true
            show (match es.toList.find? (·.key.isStr z) with
              | some e => some (some e.val)
              | none => if es.toList.any (·.refKey) then none else some none) = some none
            rw [f1, f2]; rfl
        | _ => cases h
      | some b => cases dt <;> cases h
    | _ => cases od <;> cases dt <;> cases h
end
section
variable {K : Fg} {mg : Str → Option Value} {w : World}
theorem lookup_some {kvs : List (Str × Str)} {z s : Str} (hl : kvs.lookup z = some s) : (z, s) ∈ kvs := by
  induction kvs with
  | nil => cases hl
  | cons q r ih =>
    obtain ⟨k, v⟩ := q
    rw [List.lookup_cons] at hl
    cases e : (z == k) with
    | true =>
      rw [e] at hl
      cases hl
      rw [eq_of_beq e]; exact List.mem_cons_self
    | false =>
      rw [e] at hl
      exact List.mem_cons_of_mem _ (ih hl)
theorem lookup_none {kvs : List (Str × Str)} {z : Str} (hl : kvs.lookup z = none) : ∀ x ∈ kvs.map (·.1), x ≠ z := by
  induction kvs with
  | nil => exact fun x hx => by cases hx
  | cons q r ih =>
    obtain ⟨k, v⟩ := q
    rw [List.lookup_cons] at hl
    cases e : (z == k) with
    | true => rw [e] at hl; cases hl
    | false =>
      rw [e] at hl
      intro x hx
      rcases List.mem_cons.mp hx with hx | hx
      · subst hx
        intro q
        rw [← q, beq_self_eq_true] at e
        cases e
      · exact ih hl x hx
theorem kTab_mk {a : Addr} {kvs : List (Str × Str)} (h : He.dicW K a = some (He.keysIn w.params (kvs.map (·.1)))) (hv : He.valsB K a (kvs.map fun q => (q.1, He.Dv.str q.2)) = true) : KTab K w a kvs := by
  refine ⟨He.dicW_ok h, fun z => ?_⟩
  cases hl : kvs.lookup z with
  | some s =>
    obtain ⟨u, e1, e2⟩ := He.valsB_ok hv (q := (z, He.Dv.str s)) (List.mem_map.mpr ⟨_, lookup_some hl, rfl⟩)
    exact ⟨some u, e1, u, rfl, e2⟩
  | none => exact ⟨none, dicW_none h (lookup_none hl), rfl⟩
theorem saysT_tab {fa : List He.Fa} {fn : List He.DefD} {ts : List He.Tab} (c : He.SaysT fa fn ts w K) (i : Nat) {t : He.Tab} (h : ts[i]? = some t) : He.dicW K (t.1 K) = some (He.keysIn w.params t.2) := by
  have e : ts.map (fun t => He.dicW K (t.1 K)) = ts.map fun t => some (He.keysIn w.params t.2) := congrArg (fun z : He.AlT => z.2) c
  have e2 : (ts.map fun t => He.dicW K (t.1 K))[i]? = (ts.map fun t => some (He.keysIn w.params t.2))[i]? := by rw [e]
  rw [List.getElem?_map, List.getElem?_map, h] at e2
  exact Option.some.inj e2
theorem klass_mk {x : Str} {ks : List Str} (h1 : (He.Fa.cls x).ok K = true) (h2 : ∀ f ∈ ks, (He.Fa.noat x f).ok K = true) (nd : ks.Nodup) (few : ks.length < 1000) : Klass K (He.ga K x) ks :=
  ⟨He.cls_ok h1, fun f hf => He.noat_ok (h2 f hf), nd, few⟩
end
end DL
set_option Elab.async false
set_option linter.all false
set_option maxRecDepth 100000
set_option maxHeartbeats 4000000
namespace K05
open PySem PySem.Spec PyProof.Rows L2 DL PM
def spLaw : SpD := fun rs S C => ∃ ns : List Int, rs = [.scr ns] ∧ ns.length ≤ 63 ∧ ∀ S2, C (.dat (.bool true)) S2
/-- all that a law leans on -/
structure Walk (P : Program) (w : World) (K : Fg) (mg : Str → Option Value) (base : Heap) (c : Cs) : Prop where
  B : Blt mg
  TW : Klass K c.W FW
  dice : Def P w K mg base "_law_dice" 1 1 spDice
  next : Def P w K mg base "_law_next" 1 2 spNext
  prog : Def P w K mg base "_law_any_program" 7 2 spAnyProgram
  hand : Def P w K mg base "_law_any_handed" 2 1 spAnyHanded
  init : DefI P w K mg base "Work" c.W 8 5 (spWorkInit c)
  move : DefM P w K mg base c.W "move" 8 1 (framed (spM c moveW MoveE))
  fall : DefM P w K mg base c.W "fall" 1 1 (framed (spM c (fun st => (.none, fallW st)) fun _ => True))
  files : DefM P w K mg base c.W "files" 1 1 (framed (spM c (fun st => (filesD st.held, st)) fun st => st.held.length ≤ 1000))
  sent : DefM P w K mg base c.W "sent" 1 1 (framed (spM c (fun st => (lstI st.letters, st)) fun _ => True))
  end_ : DefM P w K mg base c.W "end" 1 1 (framed (spM c (fun st => (st.over, st)) fun _ => True))
  stands : DefM P w K mg base c.W "stands" 1 1 (framed (spM c (fun st => (standsD st, st)) fun _ => True))
  kept : DefM P w K mg base c.W "kept" 1 1 (framed (spM c (fun st => (.tuple [.int st.mark.row, .int (st.jots.length : Int)], st)) fun _ => True))
  steps : DefM P w K mg base c.W "steps" 1 1 (framed (spM c (fun st => (.int st.count, st)) fun _ => True))
theorem mid_get {D : Addr} (T S : SH) : (T ++ dice D :: S)[T.length]? = some (dice D) := by simp
theorem meth_read {fr : Fr} {c : Cs} {x : Addr} {a : As} {st : WorkS} {T : SH} {f : WorkS → PyData × WorkS} {ok : WorkS → Prop} {i : Nat} {Q : CR0} (hi : fr[i]? = some (some (.val (.ref x)))) (hk : ok st) (q : ∀ a', Q (.dat (f st).1) (wC c x a' (f st).2 ++ T)) : dMeth c.W FW 1 (framed (spM c f ok)) (dVar i) dNil fr (wC c x a st ++ T) Q :=
  ⟨_, hi, ⟨0, _, rfl⟩, rfl, wC c x a st, T, List.Perm.refl _, x, a, st, rfl, rfl, hk, q⟩
/-- what stands behind a statement is told once -/
theorem seq_cut {t u : DS} {D : DEnds} {fr : Fr} {S : SH} (X : (Fr → SH → Prop) → Prop) (h1 : X (u D)) (h2 : ∀ N, X N → t { D with nx := N } fr S) : sSeq t u D fr S := h2 (u D) h1
end K05
set_option Elab.async false
set_option linter.all false
set_option maxRecDepth 100000
set_option maxHeartbeats 4000000
/-! DL: x in t, x not in t: data of any depth within a tuple. -/
namespace DL
open PySem PySem.Spec PyProof.Rows L2
def rInT (K : Fg) (neg : Bool) : R2 := fun x y H Q => ∃ d ds, Dp K H x d ∧ Dp K H y (.tuple ds) ∧ d.canLay0 = true ∧ d.depth ≤ 60 ∧ PyData.canLayAll0 ds = true ∧ Q (.bl (if neg then !inD d ds else inD d ds)) H
section
variable {X : Cx} {K : Fg}
theorem op_inT (hu : X.A.units + 64 < cLine) : OpR X (compareOp .In) (rInT X.K false) := by
  intro pins s σ H x y v u Q I rx ry h
  obtain ⟨d, ds, hd, he, sd, dd, se, q⟩ := h
  obtain ⟨as, r1⟩ := Dp.reads I d x v hd rx
  obtain ⟨bs, r2⟩ := Dp.reads I (.tuple ds) y u he ry
  exact SeqAt.in_tuple_reads r2 r1 se sd (by omega) ⟨.bl _, H, I, rfl, q⟩
theorem op_notInT (hu : X.A.units + 64 < cLine) : OpR X (compareOp .NotIn) (rInT X.K true) := by
  intro pins s σ H x y v u Q I rx ry h
  obtain ⟨d, ds, hd, he, sd, dd, se, q⟩ := h
  obtain ⟨as, r1⟩ := Dp.reads I d x v hd rx
  obtain ⟨bs, r2⟩ := Dp.reads I (.tuple ds) y u he ry
  exact SeqAt.notIn_tuple_reads r2 r1 se sd (by omega) ⟨.bl _, H, I, rfl, q⟩
def fInT (neg : Bool) : F2 := fun a b S C => match a, b with
  | .dat d, .dat (.tuple ds) => d.canLay0 = true ∧ d.depth ≤ 60 ∧ PyData.canLayAll0 ds = true ∧ C (.dat (.bool (if neg then !inD d ds else inD d ds))) S
  | _, _ => False
theorem opd_inT {neg : Bool} : OpD K (rInT K neg) (fInT neg) := OpD.flat fun A x y a b H S C Q hx hy hf q => by
  unfold fInT at hf
  split at hf
  · obtain ⟨h1, h2, h3, h⟩ := hf
    exact ⟨_, _, hx.dp, hy.dp, h1, h2, h3, q _ (.dat _) (Rep.bl _) h⟩
  · exact hf.elim
end
section
variable {X : Cx} {a b : Expr} {da db : DE} {pos : Pos}
theorem d_inT (hu : X.A.units + 64 < cLine) (ha : PD X a da) (hb : PD X b db) (hm : behindInMarks .In b = false := by rfl) : PD X (.Compare a [.In] [b] pos) (dOp (fInT false) da db) := d_cmpG (op_inT hu) opd_inT ha hb hm
theorem d_notInT (hu : X.A.units + 64 < cLine) (ha : PD X a da) (hb : PD X b db) (hm : behindInMarks .NotIn b = false := by rfl) : PD X (.Compare a [.NotIn] [b] pos) (dOp (fInT true) da db) := d_cmpG (op_notInT hu) opd_inT ha hb hm
theorem t_inT (hu : X.A.units + 64 < cLine) (ha : PD X a da) (hb : PD X b db) (hm : behindInMarks .In b = false := by rfl) : PDT X (.Compare a [.In] [b] pos) (dTest (dOp (fInT false) da db)) := t_cmpG (op_inT hu) opd_inT ha hb hm
theorem t_notInT (hu : X.A.units + 64 < cLine) (ha : PD X a da) (hb : PD X b db) (hm : behindInMarks .NotIn b = false := by rfl) : PDT X (.Compare a [.NotIn] [b] pos) (dTest (dOp (fInT true) da db)) := t_cmpG (op_notInT hu) opd_inT ha hb hm
end
end DL
set_option Elab.async false
set_option linter.all false
set_option maxRecDepth 100000
set_option maxHeartbeats 4000000
/-! DL: xs.count(x) of data; a slice of a list that is a cell. -/
namespace DL
open PySem PySem.Spec PyProof.Rows L2
def rCntD (K : Fg) : V → List V → Hp → VK → Prop := fun x xs H Q => ∃ (p : Addr) (y : V) (ds : List PyData) (d : PyData), x = .ref p ∧ xs = [y] ∧ Dp K H (.ref p) (.list ds) ∧ Dp K H y d ∧ PyData.plainAll ds = true ∧ d.plain = true ∧ d.depth ≤ 60 ∧ Q (.int ((ds.countP fun z => PyData.eqv z d : Nat) : Int)) H
section
variable {X : Cx} {K : Fg}
theorem mt_cntD (hu : X.A.units + 64 < cLine) : MtR X "list.count" (rCntD X.K) := by
  intro pins s σ H x xs v us Q I rx rxs h
  obtain ⟨p, y, ds, d, rfl, rfl, hl, hy, h1, h2, h3, q⟩ := h
  cases rx
  cases rxs with
  | cons ry rt =>
    rename_i uy ut
    cases rt
    obtain ⟨bs, r1⟩ := Dp.reads I d y uy hy ry
    cases hl with
    | lst hs ha =>
      obtain ⟨its, rv, ⟨⟨cls, dd, data, sls⟩, n, ho, hc, hdn, hdt⟩, hlen⟩ := I.list hs
      simp only at hc hdt
      subst hc hdt
      obtain ⟨as, h4⟩ := Dp.readsAll I ds _ its ha rv
      refine SeqAt.count_list_data (vs := its.toArray) ⟨_, ho, rfl, _, rfl⟩ h4 r1 h1 h2 (by omega) ?_
      exact ⟨.int _, H, I.tok _, ⟨_, rfl⟩, q⟩
def dCnt (da de : DE) : DE := fun fr S C => da fr S fun a S1 => match a with
  | .dat (.list ds) => de fr S1 fun b S2 => match b with
    | .dat d => PyData.plainAll ds = true ∧ d.plain = true ∧ d.depth ≤ 60 ∧ C (.dat (.int ((ds.countP fun z => PyData.eqv z d : Nat) : Int))) S2
    | _ => False
  | _ => False
theorem lift_count {to te : TE} {da de : DE} (la : Lift K to da) (le : Lift K te de) : Lift K (tBM K "list" (rCntD K) to (tCons te tNil)) (dCnt da de) := by
  intro F H σ fr S L fo o C Q hd q
  refine la F H σ fr S L fo o _ _ hd fun x a S1 H1 o1 h1 => ?_
  split at h1
  · rename_i ds
    have hx := o1.dat List.mem_cons_self
    cases hx with | lst e1 n1 q1 =>
    refine ⟨.inl ⟨rfl, _, SqL.of e1⟩, ?_⟩
    refine le F H1 σ fr S1 _ (fo.mono tl_mem) o1 _ _ h1 fun v r S2 H2 o2 h2 => ?_
    split at h2
    · obtain ⟨z1, z2, z3, h⟩ := h2
      have hl := o2.dat (List.mem_cons_of_mem _ List.mem_cons_self)
      have hv := o2.dat List.mem_cons_self
      exact ⟨_, v, ds, _, rfl, rfl, hl.dp, hv.dp, z1, z2, z3, q _ _ S2 H2 ((o2.sub fun e he => List.mem_cons_of_mem _ (List.mem_cons_of_mem _ he)).pd (.int _)) h⟩
    · exact h2.elim
  · exact h1.elim
/-! a slice of a cell -/
def fSlC (lo hi : Option Int) : F1 := fun a S C => match a with
  | .val (.ref p) => ∃ (j : Nat) (xs : List R) (ds : List PyData), S[j]? = some (.lst p xs) ∧ dats xs = some ds ∧ C (.dat (.list (cutD ds lo hi))) S
  | _ => False
theorem sld_cel : SlD K (rSlAll K) fSlC := by
  intro F x lo hi a H S L C Q o hx hf q
  replace hx := o.live _ hx
  unfold fSlC at hf
  split at hf
  · rename_i p
    cases (show x = V.ref p from hx)
    obtain ⟨j, xs, ds, hj, hd, h⟩ := hf
    obtain ⟨vs, e1, q1⟩ := o.cells _ (at_split (in_app hj))
    exact .inl ⟨_, _, rfl, SqL.of e1, fun p hp => q _ _ S _ (o.lst hp (cut_all (reps_all q1 hd) lo hi)) h⟩
  · exact hf.elim
end
section
variable {X : Cx} {a e : Expr} {da de : DE} {dl dh : DO} {pos apos : Pos}
theorem d_sliceC {lo hi : Option Expr} {p2 : Pos} (ha : PD X a da) (hl : PDO X lo dl) (hh : PDO X hi dh) : PD X (.Subscript a (.Slice lo hi none p2) pos) (dSl fSlC da dl dh) := by
  obtain ⟨_, p, l⟩ := ha.ex
  obtain ⟨_, p2, l2⟩ := hl.ex
  obtain ⟨_, p3, l3⟩ := hh.ex
  exact ⟨_, pe_slice sl_all p p2 p3, lift_sl sld_cel l l2 l3⟩
theorem d_cnt (hu : X.A.units + 64 < cLine) (ha : PD X a da) (he : PD X e de) (hbase : attributeBase a "count" X.env (eval a X.env) = eval a X.env := by rfl)
    (hfew : ((backTo pos (starEach [e] X.env)).all (fun x => !x.1) && (backToKw pos (keywordEach [] X.env)).all (fun x => x.1.isSome)
      && decide (([e] : List Expr).length + ([] : List Keyword).length + (if ([] : List Keyword).isEmpty then 0 else 1) < 30)) = true := by rfl)
    (hline : (apos.endLine == pos.line) = true := by rfl) (hs : starEach [e] X.env = [(false, eval e X.env)] := by rfl) : PD X (.Call (.Attribute a "count" apos) [e] [] pos) (dCnt da de) := by
  obtain ⟨_, p, l⟩ := ha.ex
  obtain ⟨_, p2, l2⟩ := he.ex
  exact ⟨_, pe_bm PySem.F.plainAttrs_list PySem.F.slot_list_count PySem.F.type_list_count (mt_cntD hu) p (pa_cons p2 pa_nil hs) hbase hfew hline hs rfl, lift_count l l2⟩
end
/-! weakenings of a frame -/
theorem wkf_perm {fr : Fr} {S S' : SH} (hp : S.Perm S') : WkF fr S fr S' := fun K F H σ L f o => ⟨L, f, o.perm (hp.append_right F), fun _ h => h⟩
theorem list_set_same {α : Type} {l : List α} {i : Nat} {x : α} (h : l[i]? = some x) : l.set i x = l := by
  apply List.ext_getElem?
  intro j
  rw [List.getElem?_set]
  split
  · rename_i e
    subst e
    obtain ⟨hl, _⟩ := List.getElem?_eq_some_iff.mp h
    rw [if_pos hl, h]
  · rfl
theorem wkf_frz {fr : Fr} {i : Nat} {p : Addr} {ds : List PyData} {S S1 : SH} (hi : fr[i]? = some (some (.val (.ref p)))) (hp : S.Perm (.lst p (ds.map R.dat) :: S1)) : WkF fr S (fr.set i (some (.dat (.list ds)))) S1 := fun K F H σ L f o => by
  have o1 : Ok K H (.lst p (ds.map R.dat) :: (S1 ++ F)) L := o.perm (hp.append_right F)
  obtain ⟨v, hv, hm⟩ := f.at_ i _ hi
  have ev : v = .ref p := o.val hm
  subst ev
  have o2 := Ok.frz (i := 0) o1 rfl (dats_map ds)
  refine ⟨(.ref p, .dat (.list ds)) :: L, ?_, o2, tl_mem⟩
  have q := (f.mono (L' := (V.ref p, R.dat (.list ds)) :: L) tl_mem).set (v := .ref p) (r := .dat (.list ds)) List.mem_cons_self i
  rw [list_set_same hv] at q
  exact q
end DL
set_option Elab.async false
set_option linter.all false
set_option maxRecDepth 100000
set_option maxHeartbeats 4000000
namespace K05
open PySem PySem.Spec PyProof.Rows L2 DL PM
local macro_rules | `(tactic| walk_at "dl") => `(tactic| repeat (first | refine ⟨_, rfl, ?_⟩ | refine ⟨rfl, _, by assumption, ?_⟩ | refine iteT ?_ | refine iteF ?_))
section
variable {P : Program} {w : World} {K : Fg} {mg : Str → Option Value} {base : Heap}
/-! _law_like -/
theorem kd_view {S : SH} {r : R} {d : PyData} {k : Kd} (h : View S r d) (hk : kdOf d = some k) : kdR S r k := by
  cases h with
  | dat d => exact hk
  | cel hj q => cases hk; exact ⟨rfl, _, _, hj⟩
  | tp q => cases hk; rfl
theorem len_view {S : SH} {r : R} {ds : List PyData} {C : CR0} (h : View S r (.list ds) ∨ View S r (.tuple ds)) (q : C (.dat (.int ds.length)) S) : fLen [r] S C := by
  rcases h with h | h
  · cases h with
    | dat d => exact q
    | cel hj v => exact ⟨_, _, hj, by rw [v.length]; exact q⟩
  · cases h with
    | dat d => exact q
    | tp v => show C _ S; rw [v.length]; exact q
theorem dlen_view {S : SH} {fr : Fr} {i : Nat} {r : R} {ds : List PyData} {C : CR0} (hi : fr[i]? = some (some r)) (h : View S r (.list ds) ∨ View S r (.tuple ds)) (q : C (.dat (.int ds.length)) S) : dCB fLen (dCons (dVar i) dNil) fr S C := ⟨r, hi, len_view h q⟩
theorem ix_view {S : SH} {r : R} {ds : List PyData} {i : Nat} {d : PyData} {C : CR0} (h : View S r (.list ds) ∨ View S r (.tuple ds)) (e : ds[i]? = some d) (q : ∀ r', View S r' d → C r' S) : fIx r (.dat (.int (i : Int))) S C := by
  rcases h with h | h
  · cases h with
    | dat _ => exact ⟨d, atI_nat e, q _ (.dat d)⟩
    | cel hj v =>
      obtain ⟨r', e', v'⟩ := v.get' e
      exact .inl ⟨_, _, r', hj, atI_nat e', q _ v'⟩
  · cases h with
    | dat _ => exact ⟨d, atI_nat e, q _ (.dat d)⟩
    | tp v =>
      obtain ⟨r', e', v'⟩ := v.get' e
      exact ⟨r', atI_nat e', q _ v'⟩
theorem dix_view {S : SH} {fr : Fr} {i j : Nat} {r : R} {ds : List PyData} {m : Nat} {d : PyData} {C : CR0} (hi : fr[i]? = some (some r)) (hj : fr[j]? = some (some (.dat (.int (m : Int))))) (h : View S r (.list ds) ∨ View S r (.tuple ds)) (e : ds[m]? = some d) (q : ∀ r', View S r' d → C r' S) : dOp fIx (dVar i) (dVar j) fr S C := ⟨r, hi, _, hj, ix_view h e q⟩
mutual
def noDict : PyData → Bool
  | .dict _ => false
  | .list xs => decide (xs.length ≤ 100000) && noDicts xs
  | .tuple xs => decide (xs.length ≤ 100000) && noDicts xs
  | _ => true
def noDicts : List PyData → Bool
  | [] => true
  | x :: xs => noDict x && noDicts xs
end
theorem noDicts_at : ∀ {xs : List PyData} {i : Nat} {d : PyData}, noDicts xs = true → xs[i]? = some d → noDict d = true
  | [], _, _, _, e => by simp at e
  | x :: xs, 0, _, h, e => by
    rw [noDicts] at h
    simp at e
    subst e
    exact (Bool.and_eq_true_iff.mp h).1
  | x :: xs, i + 1, _, h, e => by
    rw [noDicts] at h
    exact noDicts_at (Bool.and_eq_true_iff.mp h).2 (by simpa using e)
theorem depth_at : ∀ {xs : List PyData} {i : Nat} {d : PyData}, xs[i]? = some d → d.depth ≤ PyData.depthAll xs
  | [], _, _, e => by simp at e
  | x :: xs, 0, _, e => by
    rw [PyData.depthAll]
    simp at e
    subst e
    exact Nat.le_max_left _ _
  | x :: xs, i + 1, _, e => by
    rw [PyData.depthAll]
    exact Nat.le_trans (depth_at (xs := xs) (i := i) (by simpa using e)) (Nat.le_max_right _ _)
def spLike (n : Nat) : SpD := fun rs S C => ∃ a b d, rs = [a, b] ∧ View S a d ∧ View S b d ∧ d.depth ≤ n ∧ noDict d = true ∧ C (.dat (.bool true)) S
abbrev s__law_like : Stmt := topS 41
abbrev N__law_like : List Str := ["_law_found", "_law_due_here", "_law_k"]
theorem sc__law_like : FnScope N__law_like ["_law_found", "_law_due_here"] (defScope s__law_like) := ⟨rfl, rfl, rfl, by decide +kernel, rfl, by decide +kernel, by decide +kernel⟩
theorem isNone_view {S : SH} {r : R} {d : PyData} (h : View S r d) (hd : d ≠ .none) : isNone r = false := by
  cases h with
  | dat d => cases d <;> first | rfl | exact absurd rfl hd
  | cel hj q => rfl
  | tp q => rfl
theorem eqv_refl_scal {d : PyData} (h : scalD d d = true) : PyData.eqv d d = true := by
  cases d <;> first | rfl | (simp [PyData.eqv]; done) | (exfalso; revert h; simp [scalD]; done)
theorem eqk (b : Bool) : (!PyData.eqv (.bool b) (.bool b)) = false := by cases b <;> rfl
theorem eqn (i : Int) : (!PyData.eqv (.int i) (.int i)) = false := by simp [PyData.eqv]
theorem like_body {n k : Nat} {spR : SpD} (F : FunAt K mg "_law_like" s__law_like ["_law_found", "_law_due_here"]) (B : Blt mg) (D : Def P w K mg base "_law_like" k 2 spR) (hR : ∀ m rs S C, m + 1 = n → spLike m rs S C → spR rs S C) : Def P w K mg base "_law_like" (k + 1) 2 (spLike n) := by
  refine okF F sc__law_like rfl fun cdv A outer s H E f hr => ⟨_,
    (ss_cons (s_if (t_val (d_isi kit_bool (by rfl) B.isinstance (a_cons (dv 1) (a_cons (d_bltn (v := .ty "bool") (by rfl) B.bool (by decide +kernel) rfl) a_nil))))
      (ss_one (s_ret (d_and (d_isi kit_bool (by rfl) B.isinstance (a_cons (dv 0) (a_cons (d_bltn (v := .ty "bool") (by rfl) B.bool (by decide +kernel) rfl) a_nil))) (d_one (d_eq hr.units (dv 0) (dv 1))))))
      ss_nil)
      (ss_cons (s_if (t_val (d_isi kit_str (by rfl) B.isinstance (a_cons (dv 1) (a_cons (d_bltn (v := .ty "str") (by rfl) B.str (by decide +kernel) rfl) a_nil))))
      (ss_one (s_ret (d_and (d_isi kit_str (by rfl) B.isinstance (a_cons (dv 0) (a_cons (d_bltn (v := .ty "str") (by rfl) B.str (by decide +kernel) rfl) a_nil))) (d_one (d_eq hr.units (dv 0) (dv 1))))))
      ss_nil)
      (ss_cons (s_if (t_val (d_isi kit_int (by rfl) B.isinstance (a_cons (dv 1) (a_cons (d_bltn (v := .ty "int") (by rfl) B.int (by decide +kernel) rfl) a_nil))))
      (ss_one (s_ret (d_and (d_isi kit_int (by rfl) B.isinstance (a_cons (dv 0) (a_cons (d_bltn (v := .ty "int") (by rfl) B.int (by decide +kernel) rfl) a_nil))) (d_and (d_not (d_isi kit_bool (by rfl) B.isinstance (a_cons (dv 0) (a_cons (d_bltn (v := .ty "bool") (by rfl) B.bool (by decide +kernel) rfl) a_nil)))) (d_one (d_eq hr.units (dv 0) (dv 1)))))))
      ss_nil)
      (ss_cons (s_if (t_isN (dv 1) d_non)
      (ss_one (s_ret (d_isN (dv 0) d_non)))
      ss_nil)
      (ss_cons (s_if (PDW.pt (w_or (t_ne hr.units (d_isi kit_tuple (by rfl) B.isinstance (a_cons (dv 1) (a_cons (d_bltn (v := .ty "tuple") (by rfl) B.tuple (by decide +kernel) rfl) a_nil))) (d_isi kit_tuple (by rfl) B.isinstance (a_cons (dv 0) (a_cons (d_bltn (v := .ty "tuple") (by rfl) B.tuple (by decide +kernel) rfl) a_nil)))) (w_or1 (t_ne hr.units (d_isi kit_list (by rfl) B.isinstance (a_cons (dv 1) (a_cons (d_bltn (v := .ty "list") (by rfl) B.list (by decide +kernel) rfl) a_nil))) (d_isi kit_list (by rfl) B.isinstance (a_cons (dv 0) (a_cons (d_bltn (v := .ty "list") (by rfl) B.list (by decide +kernel) rfl) a_nil)))))))
      (ss_one (s_ret d_bl))
      ss_nil)
      (ss_cons (s_if (t_ne hr.units (d_len (by rfl) B.len (a_cons (dv 0) a_nil)) (d_len (by rfl) B.len (a_cons (dv 1) a_nil)))
      (ss_one (s_ret d_bl))
      ss_nil)
      (ss_cons (s_for (i_r1 (by rfl) B.range (a_cons (d_len (by rfl) B.len (a_cons (dv 1) a_nil)) a_nil)) (g_name (i := 2) sc__law_like.nd)
      (ss_one (s_if (t_not (t_val (d_callF D (hr.mono (by omega)) (by rfl) (a_cons (d_ix (hu_of hr) (dv 0) (dv 2)) (a_cons (d_ix (hu_of hr) (dv 1) (dv 2)) a_nil)))))
      (ss_one (s_ret d_bl))
      ss_nil)))
      (ss_one (s_ret d_bl)))))))))
    , ?_⟩
  intro rs S C hl h
  obtain ⟨a, b, d, rfl, va, vb, hd, nd, h⟩ := h
  have seqc : ∀ ds : List PyData, (View S a (.list ds) ∧ View S b (.list ds)) ∨ (View S a (.tuple ds) ∧ View S b (.tuple ds)) → PyData.depthAll ds + 1 ≤ n → (decide (ds.length ≤ 100000) && noDicts ds) = true → (d = .list ds ∨ d = .tuple ds) →
      sSeq (sIf (dTest (dOp fNe (dCB fLen (dCons (dVar 0) dNil)) (dCB fLen (dCons (dVar 1) dNil)))) (sRet (dC (R.dat (PyData.bool false)))) sNext)
        (sSeq (sFor (iR1 (dCons (dCB fLen (dCons (dVar 1) dNil)) dNil)) (gnm 2)
            (sIf (dNot (dTest (dCall 2 spR (dCons (dOp fIx (dVar 0) (dVar 2)) (dCons (dOp fIx (dVar 1) (dVar 2)) dNil))))) (sRet (dC (R.dat (PyData.bool false)))) sNext))
          (sRet (dC (R.dat (PyData.bool true))))) { nx := fun x S => C (R.dat PyData.none) S, rt := C } (startF N__law_like [a, b]) S := by
    intro ds vs hdd hnd _
    have v1 : View S a (.list ds) ∨ View S a (.tuple ds) := vs.imp And.left And.left
    have v2 : View S b (.list ds) ∨ View S b (.tuple ds) := vs.imp And.right And.right
    obtain ⟨hl1, hnd⟩ := Bool.and_eq_true_iff.mp hnd
    have hl2 := of_decide_eq_true hl1
    have hlen : (ds.length : Int) < 2 ^ 62 := by omega
    refine dlen_view (i := 0) rfl v1 ?_
    refine dlen_view (i := 1) rfl v2 ?_
    refine ⟨rfl, iteFb (eqn _) ?_⟩
    refine dlen_view (i := 1) rfl v2 ?_
    refine ⟨⟨by omega, hlen⟩, ?_⟩
    refine ⟨fun i fr S' => S' = S ∧ ∃ c, fr = [some a, some b, c], ⟨rfl, none, rfl⟩, ?_, ?_⟩
    · rintro i r fr S' hi ⟨rfl, c, rfl⟩
      obtain ⟨hlt, rfl⟩ := rng_get hi
      have hi' : i < ds.length := by omega
      have e0 : (0 : Int) + (i : Int) = (i : Int) := Int.zero_add _
      rw [e0]
      have ed : ds[i]? = some ds[i] := List.getElem?_eq_getElem hi'
      refine dix_view (i := 0) (j := 2) rfl rfl v1 ed fun r1 w1 => ?_
      refine dix_view (i := 1) (j := 2) rfl rfl v2 ed fun r2 w2 => ⟨rfl, ?_⟩
      obtain ⟨m, hm⟩ : ∃ m, m + 1 = n := ⟨n - 1, by omega⟩
      have hde := depth_at ed
      refine hR m _ _ _ hm ⟨r1, r2, ds[i], rfl, w1, w2, by omega, noDicts_at hnd ed, ?_⟩
      exact ⟨rfl, _, rfl⟩
    · rintro fr S' ⟨rfl, c, rfl⟩
      exact h
  have ka : ∀ k, kdOf d = some k → kdR S a k := fun k hk => kd_view va hk
  have kb : ∀ k, kdOf d = some k → kdR S b k := fun k hk => kd_view vb hk
  cases d with
  | none =>
    have k1 := ka _ rfl
    have k2 := kb _ rfl
    cases va
    cases vb
    walk_at "dl"
    exact h
  | bool x =>
    have k1 := ka _ rfl
    have k2 := kb _ rfl
    cases va
    cases vb
    walk_at "dl"
    have e := eqv_refl_scal (d := .bool x) rfl
    refine ⟨rfl, ?_⟩
    rw [e]
    exact h
  | int x =>
    have k1 := ka _ rfl
    have k2 := kb _ rfl
    cases va
    cases vb
    walk_at "dl"
    have e := eqv_refl_scal (d := .int x) rfl
    refine ⟨rfl, ?_⟩
    rw [e]
    exact h
  | str x =>
    have k1 := ka _ rfl
    have k2 := kb _ rfl
    cases va
    cases vb
    walk_at "dl"
    have e := eqv_refl_scal (d := .str x) rfl
    refine ⟨rfl, ?_⟩
    rw [e]
    exact h
  | list ds =>
    have k1 := ka _ rfl
    have k2 := kb _ rfl
    have en := isNone_view vb (fun z => nomatch z)
    walk_at "dl"
    refine iteFb en ?_
    walk_at "dl"
    refine ⟨rfl, iteFb (eqk _) ?_⟩
    walk_at "dl"
    refine ⟨rfl, iteFb (eqk _) ?_⟩
    refine seqc ds (.inl ⟨va, vb⟩) (by rw [PyData.depth] at hd; exact hd) (by rw [noDict] at nd; exact nd) (.inl rfl)
  | tuple ds =>
    have k1 := ka _ rfl
    have k2 := kb _ rfl
    have en := isNone_view vb (fun z => nomatch z)
    walk_at "dl"
    refine iteFb en ?_
    walk_at "dl"
    refine ⟨rfl, iteFb (eqk _) ?_⟩
    walk_at "dl"
    refine ⟨rfl, iteFb (eqk _) ?_⟩
    refine seqc ds (.inr ⟨va, vb⟩) (by rw [PyData.depth] at hd; exact hd) (by rw [noDict] at nd; exact nd) (.inr rfl)
  | dict kvs => cases nd
theorem ok_like (F : FunAt K mg "_law_like" s__law_like ["_law_found", "_law_due_here"]) (B : Blt mg) : ∀ n : Nat, Def P w K mg base "_law_like" (n + 1) 2 (spLike n)
  | 0 => like_body F B (Def.never F) fun m _ _ _ h _ => by omega
  | n + 1 => like_body F B (ok_like F B n) fun m rs S C h q => by
    have e : m = n := by omega
    subst e
    exact q
end
end K05
set_option Elab.async false
set_option linter.all false
set_option maxRecDepth 100000
set_option maxHeartbeats 4000000
/-! DL: xs.clear() of a cell. -/
namespace DL
open PySem PySem.Spec PyProof.Rows L2
section
variable {X : Cx} {K : Fg} {a : Expr} {da : DE} {pos apos : Pos}
def dClear (da : DE) : DE := fun fr S Q => da fr S fun a S1 => match a with
  | .val (.ref p) => ∃ (j : Nat) (xs : List R), S1[j]? = some (.lst p xs) ∧ Q (.dat .none) (S1.set j (.lst p []))
  | _ => False
theorem lift_clear {to : TE} {da : DE} (la : Lift K to da) : Lift K (tBM0 K "list" rClear to) (dClear da) := by
  intro F H σ fr S L fo o C Q hd q
  refine la F H σ fr S L fo o _ _ hd fun x a S1 H1 o1 h1 => ?_
  split at h1
  · rename_i p
    obtain ⟨j, xs, hj, h⟩ := h1
    cases o1.val List.mem_cons_self
    obtain ⟨us, e1, q1⟩ := o1.cells _ (at_split (in_app hj))
    refine ⟨.inl ⟨rfl, _, SqL.of e1⟩, p, _, rfl, rfl, e1, ?_⟩
    have o3 := o1.putL (ys := []) (us := []) (in_app hj) .nil
    rw [set_app hj] at o3
    exact q _ _ _ _ ((o3.sub tl_mem).pd .non) h
  · exact h1.elim
theorem d_clear (ha : PD X a da) (hbase : attributeBase a "clear" X.env (eval a X.env) = eval a X.env := by rfl) (hline : (apos.endLine == pos.line) = true := by rfl) : PD X (.Call (.Attribute a "clear" apos) [] [] pos) (dClear da) := by
  obtain ⟨_, p, l⟩ := ha.ex
  exact ⟨_, pe_bm0 PySem.F.plainAttrs_list PySem.F.slot_list_clear PySem.F.type_list_clear mt_clear p hbase hline, lift_clear l⟩
end
/-! list(range(n)) -/
def ups (n : Int) : List Int := (List.range n.toNat).map fun i => ((i : Nat) : Int)
def dLRg (da : DE) : DE := fun fr S C => da fr S fun a S1 => match a with
  | .dat (.int n) => 0 ≤ n ∧ n ≤ 16777216 ∧ C (.dat (.list ((ups n).map PyData.int))) S1
  | _ => False
theorem rgV_ups (n : Int) : rgV 0 n = (ups n).map V.int := by
  unfold rgV ups
  rw [List.map_map, Int.sub_zero]
  apply List.map_congr_left
  intro i _
  show V.int (0 + (i : Int)) = V.int (i : Int)
  rw [Int.zero_add]
theorem lift_lrg {K : Fg} {ta : TE} {da : DE} (la : Lift K ta da) : Lift K (tLstRg (tRg1 ta)) (dLRg da) := by
  intro F H σ fr S L fo o C Q hd q
  refine la F H σ fr S L fo o _ _ hd fun x a S1 H1 o1 h1 => ?_
  split at h1
  · rename_i n
    obtain ⟨h0, h2, h⟩ := h1
    cases rep_int_inv (o1.dat List.mem_cons_self)
    refine ⟨n, rfl, RgOk.of_le (by decide) h2 (by decide) h0, fun p hp => ?_⟩
    rw [rgV_ups]
    exact q _ _ S1 _ ((o1.sub tl_mem).lst hp (RepAll.ints _)) h
  · exact h1.elim
theorem d_lrg {X : Cx} {a : Expr} {da : DE} {p pos p1 pos1 : Pos} (hg : Gl X "list") (hm : X.mg "list" = none) (hg1 : Gl X "range") (hm1 : X.mg "range" = none) (ha : PD X a da) (hc : X.calm = true := by rfl) (na : starEach [a] X.env = (false, eval a X.env) :: starEach [] X.env := by rfl)
    (nb : starEach [Expr.Call (.Name "range" p1) [a] [] pos1] X.env = (false, eval (.Call (.Name "range" p1) [a] [] pos1) X.env) :: starEach [] X.env := by rfl) : PD X (.Call (.Name "list" p) [.Call (.Name "range" p1) [a] [] pos1] [] pos) (dLRg da) := by
  obtain ⟨_, pa, la⟩ := ha.ex
  exact ⟨_, pe_listRg hc hg hm (prg_1 hg1 hm1 pa na) nb, lift_lrg la⟩
end DL
set_option Elab.async false
set_option linter.all false
set_option maxRecDepth 100000
set_option maxHeartbeats 4000000
namespace K05
open PySem PySem.Spec PyProof.Rows L2 DL PM
section
variable {P : Program} {w : World} {K : Fg} {mg : Str → Option Value} {base : Heap} {c : Cs}
/-! need_handed, the numbers lying in a cell -/
def spNeedHandedC : SpD := fun rs S C => ∃ (q : Addr) (hs : List Int) (j : Nat), rs = [.val (.ref q)] ∧ S[j]? = some (.lst q (iR hs)) ∧ HandedOk hs ∧ C (.dat .none) S
theorem ok_need_handedC {k : Nat} {t1 t2 : Tok} (F : FunAt K mg "need_handed" s_need_handed ["handed"]) (B : Blt mg) (D1 : Def P w K mg base "is_number" 1 3 spIsNumber) (c1 : mg "MOST_HANDED" = some (.int 40 t1)) (c2 : mg "REST" = some (.int 10007 t2)) : Def P w K mg base "need_handed" (k + 2) 1 spNeedHandedC := by
  refine okF F sc_need_handed rfl fun cdv A outer s H E f hr => ⟨_,
    (ss_one (s_if (PDW.pt (w_or (t_gt (d_len (by rfl) B.len (a_cons (dv 0) a_nil)) (d_globI (by rfl) c1)) (w_or1 (t_ne hr.units (d_lcK (fun _ => end_dat) sc_need_handed.nd (i := 1) (dv 0) (blkOk_by (N := N_need_handed) (sc := defScope s_need_handed) (own := [("one", 1)]) (by decide +kernel)) (fun _ _ _ _ _ => pg_name (i := 1) sc_need_handed.nd rfl (Or.inl rfl)) (fun _ _ _ _ _ => (ts_one (t_not (t_val (d_callF D1 (hr.mono (by omega)) (by rfl) (a_cons (dv 1) (a_cons d_int (a_cons (d_sub (d_globI (by rfl) c2) d_int) a_nil)))))))) (fun _ _ _ _ _ => (dv 1))) (d_lst a_nil)))))
      (ss_one s_never)
      ss_nil))
    , ?_⟩
  intro rs S C hl h
  obtain ⟨q, hs, j, rfl, hj, ok, h⟩ := h
  have h40 := ok.1
  refine ⟨_, rfl, j, _, hj, iteFd (by rw [iR_len]; show ¬ ((hs.length : Int) > 40); omega) ?_⟩
  refine ⟨_, rfl, iR hs, List.mem_of_getElem? hj, fun k acc S' => S' = S ∧ acc = [], ⟨rfl, rfl⟩, fun k acc S' z => by rw [z.1]; exact List.mem_of_getElem? hj, ?_, ?_⟩
  · rintro k r acc S' hk ⟨rfl, rfl⟩
    unfold iR at hk
    rw [List.getElem?_map] at hk
    cases hk2 : hs[k]? with
    | none => rw [hk2] at hk; cases hk
    | some n =>
    rw [hk2] at hk
    cases hk
    have := ok.2 n (List.mem_of_getElem? hk2)
    refine ⟨_, rfl, rfl, _, _, _, rfl, (fun z => nomatch z), ?_⟩
    have e : isNum (.int n) 0 (10007 - 1) = true := isNum_yes (by omega)
    exact iteFb (by show (!isNum (.int n) 0 (10007 - 1)) = false; rw [e]; rfl) ⟨rfl, rfl⟩
  · rintro acc S' ⟨rfl, rfl⟩
    exact ⟨_, rfl, Nat.zero_le _, _, rfl, rfl, iteFb rfl h⟩
/-! Work.__init__, likewise -/
def spWorkInitC (c : Cs) : SpD := fun rs S C => ∃ (x q : Addr) (p : Prog) (hs : List Int) (way : Str) (often : Int) (S0 : SH) (j : Nat), rs = [.val (.ref x), .dat p.dat, .val (.ref q), .dat (.str way), .dat (.int often)] ∧ S = .ins x c.W FW [] :: S0 ∧ S0[j]? = some (.lst q (iR hs)) ∧ p.ok ∧ HandedOk hs ∧ (way = backW ∨ way = onW) ∧ 0 ≤ often ∧ often ≤ 99 ∧
  ∀ a, C (.dat .none) (wC c x a (newW p hs way often) ++ S0)
theorem ok_work_initC {k : Nat} {t1 t2 t3 : Tok} (F : FunI K mg "Work" c.W "Work.__init__" s_Work___init__ ["self", "program", "handed", "way", "often"]) (B : Blt mg) (TW : Klass K c.W FW) (D1 : Def P w K mg base "need_program" 7 1 spNeedProgram) (D2 : Def P w K mg base "need_handed" 2 1 spNeedHandedC) (D3 : Def P w K mg base "is_number" 1 3 spIsNumber)
    (I1 : DefI P w K mg base "Mark" c.M 1 6 (spMarkInit c)) (I2 : DefI P w K mg base "Inner" c.I 1 3 (spInnerInit c)) (c1 : mg "BACK" = some (.str "back" t1)) (c2 : mg "ON" = some (.str "on" t2)) (c3 : mg "MOST_OFTEN" = some (.int 99 t3)) :
    DefI P w K mg base "Work" c.W (k + 8) 5 (spWorkInitC c) := by
  refine okI F sc_Work___init__ rfl fun cdv A outer s H E f hr => ⟨_,
    (ss_cons (s_expr (d_callF D1 (hr.mono (by omega)) (by rfl) (a_cons (dv 1) a_nil)))
      (ss_cons (s_expr (d_callF D2 (hr.mono (by omega)) (by rfl) (a_cons (dv 2) a_nil)))
      (ss_cons (s_if (PDW.pt (w_or (t_not (t_val (d_isi kit_str (by rfl) B.isinstance (a_cons (dv 3) (a_cons (d_bltn (v := .ty "str") (by rfl) B.str (by decide +kernel) rfl) a_nil))))) (w_or1 (t_notIn (dv 3) (d_tup (a_cons (d_globS (by rfl) c1) (a_cons (d_globS (by rfl) c2) a_nil)))))))
      (ss_one s_never)
      ss_nil)
      (ss_cons (s_if (t_not (t_val (d_callF D3 (hr.mono (by omega)) (by rfl) (a_cons (dv 4) (a_cons d_int (a_cons (d_globI (by rfl) c3) a_nil))))))
      (ss_one s_never)
      ss_nil)
      (ss_cons (s_fld TW 0 (dv 0) (d_ix (hu_of hr) (dv 1) d_int))
      (ss_cons (s_fld TW 1 (dv 0) (d_list (by rfl) B.list (a_cons (dv 2) a_nil)))
      (ss_cons (s_fld TW 2 (dv 0) (dv 3))
      (ss_cons (s_fld TW 3 (dv 0) (dv 4))
      (ss_cons (s_fld TW 4 (dv 0) (d_lcC sc_Work___init__.nd (i := 5) (i_r1 (by rfl) B.range (a_cons (d_ix (hu_of hr) (dv 1) d_int) a_nil)) (blkOk_by (N := N_Work___init__) (sc := defScope s_Work___init__) (own := [("file", 5)]) (by decide +kernel)) (fun _ _ _ _ _ => pg_name (i := 5) sc_Work___init__.nd rfl (Or.inl rfl)) (fun _ _ _ _ _ => ts_nil) (fun _ _ _ _ _ => (d_lst a_nil))))
      (ss_cons (s_fld TW 5 (dv 0) (d_lstC a_nil))
      (ss_cons (s_fld TW 6 (dv 0) (d_makeF FM I1 (hr.mono (by omega)) (by rfl) (a_cons d_int (a_cons (d_mulT (d_tup (a_cons d_int a_nil)) (d_ix (hu_of hr) (dv 1) d_int)) (a_cons d_int (a_cons d_int (a_cons d_int a_nil)))))))
      (ss_cons (s_fld TW 7 (dv 0) (d_lstC a_nil))
      (ss_cons (s_fld TW 8 (dv 0) d_int)
      (ss_cons (s_fld TW 9 (dv 0) d_non)
      (ss_cons (s_fld TW 10 (dv 0) (d_make FI I2 (hr.mono (by omega)) (by rfl) (a_cons (d_fld TW 6 (dv 0)) (a_cons d_int a_nil))))
      (ss_one (s_fld TW 11 (dv 0) d_int)))))))))))))))))
    , ?_⟩
  intro rs S C hl h
  obtain ⟨x, q, p, hs, way, often, S0, j, rfl, rfl, hj, hp, hh, hw, ho0, ho1, h⟩ := h
  have hn := hp.n
  have hf := hp.f
  have hj1 : ∀ (cl : Cell), (cl :: S0)[j + 1]? = some (.lst q (iR hs)) := fun cl => by simpa using hj
  refine ⟨_, rfl, rfl, p, rfl, hp, ?_⟩
  refine ⟨_, rfl, rfl, q, hs, j + 1, rfl, hj1 _, hh, ?_⟩
  have hin : inD (.str way) [.str "back", .str "on"] = true := by rcases hw with e | e <;> (rw [e]; rfl)
  refine ⟨_, rfl, rfl, _, rfl, iteFb rfl ⟨_, rfl, by simp, _, rfl, rfl, rfl, iteFb (by show (!inD (.str way) [.str "back", .str "on"]) = false; rw [hin]; rfl) ?_⟩⟩
  refine ⟨_, rfl, rfl, _, _, _, rfl, (fun z => nomatch z), iteFb (by simp [isNum]; omega) ?_⟩
  refine ⟨_, rfl, _, rfl, _, rfl, 0, _, rfl, le_ok rfl, ?_⟩
  refine ⟨_, rfl, j + 1, _, _, hj1 _, dats_iR hs, _, rfl, 0, _, rfl, le_ok rfl, ?_⟩
  refine ⟨_, rfl, _, rfl, 0, _, rfl, le_ok rfl, ?_⟩
  refine ⟨_, rfl, _, rfl, 0, _, rfl, le_ok rfl, ?_⟩
  refine ⟨_, rfl, _, rfl, ⟨by omega, by omega⟩, lc_map (fun _ => .dat (.list [])) ?_ (by rw [rng_len]; omega) ?_⟩
  · exact fun r hr C' q => ⟨Nat.zero_le _, _, rfl, q⟩
  rw [rng_const]
  intro ah
  refine ⟨_, rfl, 1, _, rfl, le_ok rfl, ?_⟩
  refine ⟨Nat.zero_le _, fun al => ⟨_, rfl, 2, _, rfl, le_ok rfl, ?_⟩⟩
  refine ⟨by simp, _, rfl, _, rfl, _, rfl, by simp, by omega, by omega, by simp, ?_⟩
  dsimp only
  rw [rep_flat]
  refine ⟨rfl, fun xm => ⟨xm, _, _, _, _, _, _, rfl, rfl, rfl, _, _, rfl, rfl, ?_⟩⟩
  refine ⟨_, rfl, 2, _, rfl, le_ok rfl, ?_⟩
  refine ⟨Nat.zero_le _, fun aj => ⟨_, rfl, 3, _, rfl, le_ok rfl, ?_⟩⟩
  refine ⟨_, rfl, 3, _, rfl, le_ok rfl, ?_⟩
  refine ⟨_, rfl, 3, _, rfl, le_ok rfl, ?_⟩
  refine ⟨_, rfl, 3, _, _, rfl, rfl, rfl, fun xi => ⟨xi, ⟨0, List.replicate p.names.toNat 0, 0, 0, 0⟩, 0, _, rfl, rfl, fun xn => ⟨rfl, ?_⟩⟩⟩
  refine ⟨_, rfl, 5, _, rfl, le_ok rfl, ?_⟩
  refine ⟨_, rfl, 5, _, rfl, le_ok rfl, ?_⟩
  have h2 := h ⟨ah, al, aj, xi, xn⟩
  exact ⟨_, _, wkn_sub ((List.reverse_perm [_, _, _, _, _, _]).symm.append_right S0) (List.Sublist.refl _), h2⟩
end
end K05
set_option Elab.async false
set_option linter.all false
set_option maxRecDepth 100000
set_option maxHeartbeats 4000000
/-! DL: written dicts with texts as keys, d.update(e), xs.pop(i). -/
namespace DL
open PySem PySem.Spec PyProof.Rows L2
def mergeR (kvs more : List (Key × R)) : List (Key × R) := more.foldl (fun acc kv => putR acc kv.1 kv.2) kvs
theorem merge_kv {P : V → R → Prop} : ∀ {more : List (Key × V)} {moreR : List (Key × R)} {kws : List (Key × V)} {kvs : List (Key × R)}, Paired (fun (a : Key × V) (b : Key × R) => a.1 = b.1 ∧ P a.2 b.2) more moreR → Paired (fun (a : Key × V) (b : Key × R) => a.1 = b.1 ∧ P a.2 b.2) kws kvs →
    Paired (fun (a : Key × V) (b : Key × R) => a.1 = b.1 ∧ P a.2 b.2) (mergeK kws more) (mergeR kvs moreR)
  | _, _, _, _, .nil, q => q
  | (k, v) :: more, (k', r) :: moreR, kws, kvs, .cons h t, q => by
    obtain ⟨e, hp⟩ := h
    cases (show k = k' from e)
    show Paired _ (mergeK (putK kws k v) more) (mergeR (putR kvs k r) moreR)
    exact merge_kv t (put_kv k hp q)
def keyed (ks : List Str) (rs : List R) : List (Key × R) := (ks.map fun k => (Sum.inr k : Key)).zip rs
def keyedV (ks : List Str) (vs : List V) : List (Key × V) := (ks.map fun k => (Sum.inr k : Key)).zip vs
theorem keyed_kv {P : V → R → Prop} : ∀ {ks : List Str} {vs : List V} {rs : List R}, Paired P vs rs → Paired (fun (a : Key × V) (b : Key × R) => a.1 = b.1 ∧ P a.2 b.2) (keyedV ks vs) (keyed ks rs)
  | [], _, _, _ => .nil
  | _ :: _, _, _, .nil => .nil
  | k :: ks, _, _, .cons h t => .cons ⟨rfl, h⟩ (keyed_kv t)
theorem keyedV_vv : ∀ {ks : List Str} {vs : List V}, ((ks.map V.str).zip vs) = (keyedV ks vs).map fun kv => (kV kv.1, kv.2)
  | [], _ => rfl
  | _ :: _, [] => rfl
  | k :: ks, v :: vs => by
    show (V.str k, v) :: (ks.map V.str).zip vs = (kV (Sum.inr k), v) :: (keyedV ks vs).map _
    rw [keyedV_vv]; rfl
def LiftP (K : Fg) (trs : List (TE × TE)) (ks : List Str) (da : DA) : Prop := ∀ (F : SH) (H : Hp) (σ : L2.St) (fr : Fr) (S : SH) (L : Live), FrOk σ fr L → OkF K F H S L → ∀ (C : List R → SH → Prop) (Q : List (V × V) → Hp → Prop), da fr S C →
  (∀ vs rs S' H' L', OkF K F H' S' L' → (∀ e ∈ L, e ∈ L') → Lives L' vs rs → C rs S' → Q ((ks.map V.str).zip vs) H') → tPairs trs σ H Q
structure PDP (X : Cx) (pos : Pos) (keys : List (Option Expr)) (values : List Expr) (ks : List Str) (da : DA) : Prop where
  ex : ∃ trs, PPs X pos keys values trs ∧ LiftP X.K trs ks da ∧ keys.length = ks.length
theorem p_nil {X : Cx} {pos : Pos} : PDP X pos [] [] [] dNil := ⟨[], pps_nil, fun F H σ fr S L f o C Q h q => q [] [] S H L o (fun _ z => z) .nil h, rfl⟩
theorem p_cons {X : Cx} {pos p2 : Pos} {k : Str} {j : Nat} {v : Expr} {ks : List (Option Expr)} {vs : List Expr} {names : List Str} {dv : DE} {da : DA} (hv : PD X v dv) (hr : PDP X pos ks vs names da) :
    PDP X pos (some (.Constant (.str k) j p2) :: ks) (v :: vs) (k :: names) (dCons dv da) := by
  obtain ⟨tv, pv, lv⟩ := hv.ex
  obtain ⟨trs, pr, lr, hl⟩ := hr.ex
  refine ⟨_, pps_cons pe_str pv pr, fun F H σ fr S L f o C Q h q => ?_, by rw [List.length_cons, List.length_cons, hl]⟩
  refine lv F H σ fr S L f o _ _ h fun y r S1 H1 o1 h1 => ?_
  refine lr F H1 σ fr S1 _ (f.mono tl_mem) o1 _ _ h1 fun us rs S2 H2 L2 o2 s2 l2 h2 => ?_
  exact q (y :: us) (r :: rs) S2 H2 L2 o2 (fun e he => s2 e (List.mem_cons_of_mem _ he)) (.cons (s2 _ List.mem_cons_self) l2) h2
/-- {k: v, ..}: the new dict stands empty while the values are made -/
def dDisp (ks : List Str) (da : DA) : DE := fun fr S C => ∀ p, da fr (.dct p [] :: S) fun rs S2 => ∃ j, S2[j]? = some (.dct p []) ∧ C (.val (.ref p)) (S2.set j (.dct p (mergeR [] (keyed ks rs))))
theorem zip_len_le {α β : Type} : ∀ (xs : List α) (ys : List β), (xs.zip ys).length ≤ xs.length := fun xs ys => by rw [List.length_zip]; exact Nat.min_le_left _ _
theorem d_disp {X : Cx} {pos : Pos} {keys : List (Option Expr)} {values : List Expr} {ks : List Str} {da : DA} (h : PDP X pos keys values ks da) (hall : keys.all (·.isSome) = true := by rfl) (hl : keys.length = values.length := by rfl) (h0 : keys ≠ [] := by exact fun z => nomatch z)
    (h15 : keys.length ≤ 15 := by decide) : PD X (.Dict keys values pos) (dDisp ks da) := by
  obtain ⟨trs, pr, lr, hkl⟩ := h.ex
  refine ⟨_, pe_disp pr hall hl h0 h15, fun F H σ fr S L f o C Q hd q p hp => ?_⟩
  have o1 : OkF X.K F (upd H p (.dK [])) (.dct p [] :: S) L := o.cell (c := .dct p []) rfl hp ⟨[], upd_same, .nil⟩
  refine lr F _ σ fr _ L f o1 _ _ (hd p) fun vs rs S2 H2 L2 o2 s2 l2 h2 => ?_
  obtain ⟨j, hj, hc⟩ := h2
  obtain ⟨kws, e1, q1⟩ := o2.cells _ (at_split (in_app hj))
  cases q1
  refine ⟨e1, keyedV ks vs, keyedV_vv, ?_, ?_⟩
  · have := zip_len_le (ks.map fun k => (Sum.inr k : Key)) vs
    rw [List.length_map] at this
    show ((ks.map fun k => (Sum.inr k : Key)).zip vs).length ≤ 15
    omega
  have rel := keyed_kv (ks := ks) (o2.reps l2)
  have o3 := o2.put (u := .dK (mergeK [] (keyedV ks vs))) (c' := .dct p (mergeR [] (keyed ks rs))) (in_app hj) rfl rfl e1 True.intro ⟨_, upd_same, Paired.mapP (merge_kv rel .nil) fun _ _ z => ⟨z.1, z.2.stp (stp_upd e1 (pt_at (in_app hj)) True.intro)⟩⟩
  rw [set_app hj] at o3
  exact q _ _ _ _ ((o3.push (r := .val (.ref p)) rfl).sub (sub_cons s2)) hc
/-! d.update(e) -/
def tDUpd (to te : TE) : TE := fun σ H Q => to σ H fun x H1 => ∃ d kvs0, x = .ref d ∧ H1 d = some (.dK kvs0) ∧ te σ H1 fun y H2 => ∃ o kvs more, y = .ref o ∧ d ≠ o ∧ H2 d = some (.dK kvs) ∧ H2 o = some (.dK more) ∧ kvs.length + more.length ≤ 1000 ∧ Q .non (upd H2 d (.dK (mergeK kvs more)))
theorem pe_dupd {X : Cx} {o e : Expr} {to te : TE} {apos cpos : Pos} (ho : PE X o to) (he : PE X e te) (m : M1 X o "update" apos e cpos) : PE X (.Call (.Attribute o "update" apos) [e] [] cpos) (tDUpd to te) := by
  refine ⟨fun pins s σ H Q I h => ?_⟩
  refine wpAny_Call_method m.base m.few m.line PySem.F.plainAttrs_dict PySem.F.slot_dict_update PySem.F.type_dict_update (thn (ho.run pins s σ H _ I h) fun u s1 ⟨x, H1, I1, rx, a, kvs0, ex, e0, q1⟩ => ?_)
  subst ex
  obtain rfl : u = Value.ref a := rx
  obtain ⟨t1, t2, _⟩ := isD_at I1 (.inl ⟨kvs0, .inl e0⟩)
  refine ⟨t1, t2, ?_⟩
  rw [m.trees]
  refine Calls.callWith_builtin rfl (Calls.evalArgs_plain (Calls.spliced_cons (thn (he.run pins s1 σ H1 _ I1 q1) fun iv s2 ⟨y, H2, I2, ry, ob, kvs, more, ey, hne, e1, e2, hsz, q2⟩ => Calls.spliced_nil ?_)))
  subst ey
  obtain rfl : iv = Value.ref ob := ry
  obtain ⟨z1, hd1, vs1, r1, dd1⟩ := dk_of I2.hok e1
  obtain ⟨z2, hd2, vs2, r2, dd2⟩ := dk_of I2.hok e2
  have l1 : vs1.length = kvs.length := (paired_len r1).symm
  have l2 : vs2.length = more.length := (paired_len r2).symm
  have hsl := sizeLine_eq
  refine call_meetsIn PySem.F.slot_dict_update dd1.typeIs PySem.F.entry_dict_update (PySem.F.args_dict_update_2 _ _) (meets_dict_update (mixKind X.prog X.w) a ob hne hd2) ⟨vs1, vs2, dd1, dd2, by omega, fun h' dd' _ hs => ⟨.non, _, ?_, rfl, q2⟩⟩
  have hz : (mergeK kvs more).length ≤ sizeLine := by
    have := length_mergeK more kvs
    omega
  have hg : ∃ q, h'.get? a = some q := let ⟨q, _, _, hq, _⟩ := dd'; ⟨q, hq⟩
  exact d_write I2 (by rw [e1]; exact True.intro) hs hg (dk_new hz hd1 (r2.merge r1) dd')
def dUpd (da de : DE) : DE := fun fr S C => da fr S fun a S1 => match a with
  | .val (.ref p) => (∃ (j : Nat) (kvs : List (Key × R)), S1[j]? = some (.dct p kvs)) ∧ de fr S1 fun b S2 => match b with
    | .val (.ref o) => ∃ (j i : Nat) (kvs more : List (Key × R)), j ≠ i ∧ S2[j]? = some (.dct p kvs) ∧ S2[i]? = some (.dct o more) ∧ kvs.length + more.length ≤ 1000 ∧ C (.dat .none) (S2.set j (.dct p (mergeR kvs more)))
    | _ => False
  | _ => False
theorem lift_upd {K : Fg} {to te : TE} {da de : DE} (la : Lift K to da) (le : Lift K te de) : Lift K (tDUpd to te) (dUpd da de) := by
  intro F H σ fr S L fo o C Q hd q
  refine la F H σ fr S L fo o _ _ hd fun x a S1 H1 o1 h1 => ?_
  split at h1
  · rename_i p
    obtain ⟨⟨j, kvs, hj⟩, h1⟩ := h1
    cases o1.val List.mem_cons_self
    obtain ⟨kws, e1, _⟩ := o1.cells _ (at_split (in_app hj))
    refine ⟨p, kws, rfl, e1, ?_⟩
    refine le F H1 σ fr S1 _ (fo.mono tl_mem) o1 _ _ h1 fun v r S2 H2 o2 h2 => ?_
    split at h2
    · rename_i ob
      obtain ⟨j2, i2, kvs2, more, hne, hj2, hi2, hsz, hc⟩ := h2
      cases o2.val List.mem_cons_self
      obtain ⟨kw2, f1, q1⟩ := o2.cells _ (at_split (in_app hj2))
      obtain ⟨mw, f2, q2⟩ := o2.cells _ (at_split (in_app hi2))
      have hne : p ≠ ob := fun z => hne (by
        have g1 : ((S2 ++ F).map Cell.pt)[j2]? = some p := by rw [List.getElem?_map, in_app hj2]; rfl
        have g2 : ((S2 ++ F).map Cell.pt)[i2]? = some p := by rw [List.getElem?_map, in_app hi2, z]; rfl
        exact nd_ix o2.nd g1 g2)
      refine ⟨ob, kw2, mw, rfl, hne, f1, f2, by rw [paired_len q1, paired_len q2]; exact hsz, ?_⟩
      have o3 := o2.put (u := .dK (mergeK kw2 mw)) (c' := .dct p (mergeR kvs2 more)) (in_app hj2) rfl rfl f1 True.intro ⟨_, upd_same, Paired.mapP (merge_kv q2 q1) fun _ _ z => ⟨z.1, z.2.stp (stp_upd f1 (pt_at (in_app hj2)) True.intro)⟩⟩
      rw [set_app hj2] at o3
      exact q _ _ _ _ ((o3.sub fun e he => List.mem_cons_of_mem _ (List.mem_cons_of_mem _ he)).pd .non) hc
    · exact h2.elim
  · exact h1.elim
theorem d_upd {X : Cx} {a e : Expr} {da de : DE} {apos pos : Pos} (ha : PD X a da) (he : PD X e de) (hbase : attributeBase a "update" X.env (eval a X.env) = eval a X.env := by rfl)
    (hfew : ((backTo pos (starEach [e] X.env)).all (fun x => !x.1) && (backToKw pos (keywordEach [] X.env)).all (fun x => x.1.isSome)
      && decide (([e] : List Expr).length + ([] : List Keyword).length + (if ([] : List Keyword).isEmpty then 0 else 1) < 30)) = true := by rfl)
    (hline : (apos.endLine == pos.line) = true := by rfl) (hs : backTo pos (starEach [e] X.env) = [(false, eval e X.env)] := by rfl) : PD X (.Call (.Attribute a "update" apos) [e] [] pos) (dUpd da de) := by
  obtain ⟨_, p, l⟩ := ha.ex
  obtain ⟨_, p2, l2⟩ := he.ex
  exact ⟨_, pe_dupd p p2 ⟨hbase, hfew, hline, hs⟩, lift_upd l l2⟩
/-! xs.pop(i) -/
def dPopA (da de : DE) : DE := fun fr S Q => da fr S fun a S1 => match a with
  | .val (.ref p) => (∃ (j : Nat) (xs : List R), S1[j]? = some (.lst p xs)) ∧ de fr S1 fun b S2 => match b with
    | .dat (.int i) => ∃ (j : Nat) (xs : List R) (r : R), S2[j]? = some (.lst p xs) ∧ 0 ≤ i ∧ i < 100000 ∧ xs[i.toNat]? = some r ∧ Q r (S2.set j (.lst p (xs.eraseIdx i.toNat)))
    | _ => False
  | _ => False
theorem paired_erase {α β : Type} {P : α → β → Prop} : ∀ {xs : List α} {ys : List β} (n : Nat), Paired P xs ys → Paired P (xs.eraseIdx n) (ys.eraseIdx n)
  | _, _, _, .nil => .nil
  | _, _, 0, .cons _ t => t
  | _, _, n + 1, .cons h t => .cons h (paired_erase n t)
theorem seqIx_nat {i : Int} {n : Nat} (h0 : 0 ≤ i) (h1 : i.toNat < n) : seqIndex? i n = some i.toNat := by
  have e0 : (if i < 0 then i + (n : Int) else i) = i := if_neg (by omega)
  have e : seqIndex? i n = if (decide (0 ≤ (if i < 0 then i + (n : Int) else i)) && decide ((if i < 0 then i + (n : Int) else i) < n)) = true then some (if i < 0 then i + (n : Int) else i).toNat else none := rfl
  rw [e, e0, decide_eq_true h0, decide_eq_true (show i < (n : Int) by omega), Bool.and_self, if_pos rfl]
theorem lift_popA {K : Fg} {to te : TE} {da de : DE} (la : Lift K to da) (le : Lift K te de) : Lift K (tBM K "list" rPopAt to (tCons te tNil)) (dPopA da de) := by
  intro F H σ fr S L fo o C Q hd q
  refine la F H σ fr S L fo o _ _ hd fun x a S1 H1 o1 h1 => ?_
  split at h1
  · rename_i p
    obtain ⟨⟨j, xs, hj⟩, h1⟩ := h1
    cases o1.val List.mem_cons_self
    obtain ⟨us, e1, _⟩ := o1.cells _ (at_split (in_app hj))
    refine ⟨.inl ⟨rfl, _, SqL.of e1⟩, ?_⟩
    refine le F H1 σ fr S1 _ (fo.mono tl_mem) o1 _ _ h1 fun v r S2 H2 o2 h2 => ?_
    split at h2
    · rename_i i
      obtain ⟨j2, ys, y, hj2, h0, hb, hy, hc⟩ := h2
      cases rep_int_inv (o2.dat List.mem_cons_self)
      obtain ⟨ws, f1, q1⟩ := o2.cells _ (at_split (in_app hj2))
      obtain ⟨u, eu, ru⟩ := paired_get' q1 hy
      have hlt : i.toNat < ws.length := (List.getElem?_eq_some_iff.mp eu).1
      refine ⟨p, ws, i, i.toNat, u, rfl, rfl, f1, by omega, by omega, seqIx_nat h0 hlt, eu, ?_⟩
      have o3 := (o2.push ru).putL (in_app hj2) (paired_erase i.toNat q1)
      rw [set_app hj2] at o3
      exact q _ _ _ _ (o3.sub (sub_cons fun e he => List.mem_cons_of_mem _ (List.mem_cons_of_mem _ he))) hc
    · exact h2.elim
  · exact h1.elim
theorem d_popA {X : Cx} {a e : Expr} {da de : DE} {apos pos : Pos} (ha : PD X a da) (he : PD X e de) (hbase : attributeBase a "pop" X.env (eval a X.env) = eval a X.env := by rfl)
    (hfew : ((backTo pos (starEach [e] X.env)).all (fun x => !x.1) && (backToKw pos (keywordEach [] X.env)).all (fun x => x.1.isSome)
      && decide (([e] : List Expr).length + ([] : List Keyword).length + (if ([] : List Keyword).isEmpty then 0 else 1) < 30)) = true := by rfl)
    (hline : (apos.endLine == pos.line) = true := by rfl) (hs : starEach [e] X.env = [(false, eval e X.env)] := by rfl) : PD X (.Call (.Attribute a "pop" apos) [e] [] pos) (dPopA da de) := by
  obtain ⟨_, p, l⟩ := ha.ex
  obtain ⟨_, p2, l2⟩ := he.ex
  exact ⟨_, pe_bm PySem.F.plainAttrs_list PySem.F.slot_list_pop PySem.F.type_list_pop mt_popAt p (pa_cons p2 pa_nil hs) hbase hfew hline hs rfl, lift_popA l l2⟩
/-! list(range(n)) as a cell -/
def dLRgC (da : DE) : DE := fun fr S C => da fr S fun a S1 => match a with
  | .dat (.int n) => 0 ≤ n ∧ n ≤ 16777216 ∧ ∀ p, C (.val (.ref p)) (.lst p ((ups n).map fun i => R.dat (.int i)) :: S1)
  | _ => False
theorem lift_lrgC {K : Fg} {ta : TE} {da : DE} (la : Lift K ta da) : Lift K (tLstRg (tRg1 ta)) (dLRgC da) := by
  intro F H σ fr S L fo o C Q hd q
  refine la F H σ fr S L fo o _ _ hd fun x a S1 H1 o1 h1 => ?_
  split at h1
  · rename_i n
    obtain ⟨h0, h2, h⟩ := h1
    cases rep_int_inv (o1.dat List.mem_cons_self)
    refine ⟨n, rfl, RgOk.of_le (by decide) h2 (by decide) h0, fun p hp => ?_⟩
    rw [rgV_ups]
    have e : ((ups n).map fun i => R.dat (.int i)) = ((ups n).map PyData.int).map R.dat := by rw [List.map_map]; rfl
    have hh := h p
    rw [e] at hh
    exact q _ _ _ _ (((o1.sub tl_mem).lstC hp (all_reps (RepAll.ints _))).push (r := .val (.ref p)) rfl) hh
  · exact h1.elim
theorem d_lrgC {X : Cx} {a : Expr} {da : DE} {p pos p1 pos1 : Pos} (hg : Gl X "list") (hm : X.mg "list" = none) (hg1 : Gl X "range") (hm1 : X.mg "range" = none) (ha : PD X a da) (hc : X.calm = true := by rfl) (na : starEach [a] X.env = (false, eval a X.env) :: starEach [] X.env := by rfl)
    (nb : starEach [Expr.Call (.Name "range" p1) [a] [] pos1] X.env = (false, eval (.Call (.Name "range" p1) [a] [] pos1) X.env) :: starEach [] X.env := by rfl) : PD X (.Call (.Name "list" p) [.Call (.Name "range" p1) [a] [] pos1] [] pos) (dLRgC da) := by
  obtain ⟨_, pa, la⟩ := ha.ex
  exact ⟨_, pe_listRg hc hg hm (prg_1 hg1 hm1 pa na) nb, lift_lrgC la⟩
end DL
set_option Elab.async false
set_option linter.all false
set_option maxRecDepth 100000
set_option maxHeartbeats 4000000
/-! DL: a, b, c = a list. -/
namespace DL
open PySem PySem.Spec PyProof.Rows L2
section
variable {prog : Program} {w : World} {A : Around} {E : Value → Shared → Prop}
theorem draw_walk {I : Addr} {fp wr : List Addr} {n : Nat} {Pv : Nat → Value → Prop} {St : Nat → Heap → Prop} (W : Walks prog w A I fp wr n Pv St) : ∀ (k i : Nat) (s : Shared) (Q : List Value → Shared → Prop), i + k = n → St i s.heap →
    (∀ vs h' tk, vs.length = k → (∀ j v, vs[j]? = some v → Pv (i + j) v) → St n h' → (∀ b o, b ∉ wr → s.heap.get? b = some o → h'.get? b = some o) → Q vs { s with heap := h', toks := tk }) → wpAny (model prog w) A (draw (.ref I) k) Q E s
  | 0, i, s, Q, hi, st, h => by
    show wpAny _ _ (pure []) Q E s
    have e : i = n := by omega
    subst e
    exact wpAny_pure (h [] s.heap s.toks rfl (fun j v e => by simp at e) st fun b o _ e => e)
  | k + 1, i, s, Q, hi, st, h => by
    show wpAny _ _ (pyNext (.ref I) >>= _) Q E s
    refine wpAny_bind (W.item i s _ _ (by omega) st fun v h1 tk1 hv st1 k1 => ?_)
    refine wpAny_bind (wpAny_holding (draw_walk W k (i + 1) { s with heap := h1, toks := tk1 } _ (by omega) st1 fun vs h2 tk2 hl hp st2 k2 => wpAny_pure ?_))
    refine h (v :: vs) h2 tk2 (by simp [hl]) (fun j u e => ?_) st2 fun b o hb e => k2 b o hb (k1 b o hb e)
    cases j with
    | zero => simp at e; subst e; exact hv
    | succ j =>
      have := hp j u (by simpa using e)
      rw [show i + 1 + j = i + (j + 1) from by omega] at this
      exact this
theorem unpack_list {s : Shared} {l : Addr} {items : Array Value} {Q : List Value → Shared → Prop} (hh : A.handled = none) (hl : s.heap.IsList l items)
    (hQ : ∀ h' tk, (∀ b o, s.heap.get? b = some o → h'.get? b = some o) → Q items.toList { s with heap := h', toks := tk }) : wpAny (model prog w) A (unpackItems (.ref l) items.size none) Q E s := by
  have hlt : l < s.heap.objs.size := by obtain ⟨o, ho, _⟩ := hl; exact Heap.lt_size ho
  unfold unpackItems
  refine wpAny_bind ?_
  unfold notIterableAtAll
  refine wpAny_bind (wpAny_specialOf hl.typeIs PySem.F.slot_list_iter.lookup ?_)
  refine wpAny_pure ?_
  simp only [Bool.false_eq_true, if_false]
  refine wpAny_bind (wpAny_holding (wpAny_pyIter_list hl ?_))
  have W := Walks.list (prog := prog) (w := w) (A := A) hh s.heap.objs.size l (Nat.ne_of_lt hlt) items
  refine wpAny_bind (wpAny_holding (draw_walk W items.size 0 _ _ (by omega) ⟨⟨_, Heap.get?_push_size _ rfl, rfl, rfl⟩, hl.push _⟩ fun vs h1 tk1 hlen hp st1 k1 => ?_))
  have ev : vs = items.toList := by
    apply List.ext_getElem?
    intro j
    cases e : vs[j]? with
    | none =>
      have := List.getElem?_eq_none_iff.mp e
      rw [List.getElem?_eq_none (by simp; omega)]
    | some v =>
      have := hp j v e
      rw [Nat.zero_add] at this
      rw [Array.getElem?_toList, this]
  subst ev
  rw [if_neg (by simp)]
  refine wpAny_bind (wpAny_holding (W.done { s with heap := h1, toks := tk1 } _ _ st1 fun h2 tk2 k2 => ?_))
  simp only [Option.isSome_none, Bool.false_eq_true, if_false]
  refine wpAny_pure (hQ h2 tk2 fun b o e => ?_)
  have hb : b ∉ [s.heap.objs.size] := by
    have := Heap.lt_size e
    simp only [List.mem_singleton]
    exact Nat.ne_of_lt this
  exact k2 b o hb (k1 b o hb (Heap.get?_push_of_some _ e))
end
section
variable {X : Cx} {K : Fg} {pos : Pos}
/-- (a, b, ..) = a list of that length -/
def gTupL (K : Fg) (n : Nat) (t : TGs) : TG := fun v σ H Q => ∃ a xs, v = .ref a ∧ SqL K H a xs ∧ xs.length = n ∧ t xs σ H Q
theorem pg_tupL {es : List Expr} {k : Nat} {t : TGs} {n : Nat} (hc : X.calm = true) (h : PGs X es t)
    (hn : (assignEach es X.env).length = n := by rfl) (hst : (assignEach es X.env).findIdx? (·.1) = none := by rfl) : PG X (.Tuple es k pos) (gTupL X.K n t) := by
  refine ⟨fun pins s σ H v u Q I r hw => ?_⟩
  obtain ⟨a, xs, e1, hq, hl, hw⟩ := hw
  subst e1
  cases r
  obtain ⟨its, rv, ht, hz⟩ := I.list hq
  rw [assign_Tuple]
  refine wpAny_bind (wpAny_standAt ?_)
  unfold unpack
  have en : (assignEach es X.env).length = its.toArray.size := by simp [hn, ← hl, rv.length]
  rw [en, hst]
  refine wpAny_bind (wpAny_holding (unpack_list (I.ok.hd hc) ht.isList fun h' tk kp => ?_))
  have I1 : Inv X pins σ H { s with heap := h', toks := tk } := I.kept (t' := tk) kp
  exact h.run pins _ σ H xs _ Q I1 (by simpa using rv) hw
def gTpL (n : Nat) (t : DGs) : DG := fun r fr S C => match r with
  | .dat (.list ds) => ds.length = n ∧ t (ds.map R.dat) fr S C
  | _ => False
theorem lift_gtupL {n : Nat} {t : TGs} {dt : DGs} (l : LiftGs K t dt) : LiftG K (gTupL K n t) (gTpL n dt) := fun F H σ fr S L v r f o m C Q h q => by
  unfold gTpL at h
  split at h
  · obtain ⟨hn, h⟩ := h
    have hr := o.dat m
    cases hr with | lst h1 n1 q1 =>
    obtain ⟨L', o', s', lv⟩ := push_all o q1
    refine ⟨_, _, rfl, SqL.of h1, q1.length.trans hn, ?_⟩
    exact l F H σ fr S L' _ _ (f.mono s') o' lv _ _ h fun σ1 fr1 S1 H1 L1 f1 o1 s1 h1 => q σ1 fr1 S1 H1 L1 f1 o1 (fun e he => s1 e (s' e he)) h1
  · exact h.elim
theorem g_tupL {es : List Expr} {dgs : DGs} {k n : Nat} (h : PDGs X es dgs) (hc : X.calm = true := by rfl) (hn : (assignEach es X.env).length = n := by rfl) (hst : (assignEach es X.env).findIdx? (·.1) = none := by rfl) : PDG X (.Tuple es k pos) (gTpL n dgs) := by
  obtain ⟨_, p, l⟩ := h.ex
  exact ⟨_, pg_tupL hc p hn hst, lift_gtupL l⟩
end
end DL
set_option Elab.async false
set_option linter.all false
set_option maxRecDepth 100000
set_option maxHeartbeats 4000000
/-! DL: comprehensions over known lists; a dict frozen; two promises of one def. -/
namespace DL
open PySem PySem.Spec PyProof.Rows L2
def lcGo (E : List R → SH → CR0 → Prop) (C : CR0) (fr : Fr) (i : Nat) (dt : DT) (de : DE) : List R → List R → SH → Prop
  | [], acc, S => E acc S C
  | r :: rs, acc, S => dt (fr.set i (some r)) S fun b S2 => if b = true then de (fr.set i (some r)) S2 fun y S3 => acc.length < 100000 ∧ lcGo E C fr i dt de rs (acc ++ [y]) S3 else lcGo E C fr i dt de rs acc S2
theorem lc_unroll {E : List R → SH → CR0 → Prop} {items : List R} {fr : Fr} {S : SH} {C : CR0} {i : Nat} {dt : DT} {de : DE} (h : lcGo E C fr i dt de items [] S) : ∃ I : Nat → List R → SH → Prop, I 0 [] S ∧
  (∀ k r acc S, items[k]? = some r → I k acc S → dt (fr.set i (some r)) S fun b S2 => if b = true then de (fr.set i (some r)) S2 fun y S3 => acc.length < 100000 ∧ I (k + 1) (acc ++ [y]) S3 else I (k + 1) acc S2) ∧
  ∀ acc S, I items.length acc S → E acc S C := by
  refine ⟨fun k acc S => lcGo E C fr i dt de (items.drop k) acc S, h, fun k r acc S hk hI => ?_, fun acc S hI => ?_⟩
  · have e : items.drop k = r :: items.drop (k + 1) := by
      obtain ⟨hl, e⟩ := List.getElem?_eq_some_iff.mp hk
      rw [List.drop_eq_getElem_cons hl, e]
    have hI' : lcGo E C fr i dt de (items.drop k) acc S := hI
    rw [e] at hI'
    exact hI'
  · have hI' : lcGo E C fr i dt de (items.drop items.length) acc S := hI
    rw [List.drop_length] at hI'
    exact hI'
/-- a dict's cell is frozen -/
theorem wkn_dic {p : Addr} {kvs : List (Key × R)} {S : SH} : Wkn (.val (.ref p)) (.dct p kvs :: S) (.dic (kvs.map fun x : Key × R => x.1) (kvs.map fun x : Key × R => x.2)) S := fun K F H L v o => by
  have e := o.val List.mem_cons_self
  subst e
  exact ((Ok.frzD (i := 0) o rfl)).sub (sub_cons tl_mem)
theorem wkf_dic {fr : Fr} {i : Nat} {p : Addr} {kvs : List (Key × R)} {S S1 : SH} (hi : fr[i]? = some (some (.val (.ref p)))) (hp : S.Perm (.dct p kvs :: S1)) : WkF fr S (fr.set i (some (.dic (kvs.map fun x : Key × R => x.1) (kvs.map fun x : Key × R => x.2)))) S1 := fun K F H σ L f o => by
  have o1 : Ok K H (.dct p kvs :: (S1 ++ F)) L := o.perm (hp.append_right F)
  obtain ⟨v, hv, hm⟩ := f.at_ i _ hi
  have ev : v = .ref p := o.val hm
  subst ev
  have o2 := Ok.frzD (i := 0) o1 rfl
  refine ⟨(.ref p, .dic (kvs.map fun x : Key × R => x.1) (kvs.map fun x : Key × R => x.2)) :: L, ?_, o2, tl_mem⟩
  have q := (f.mono (L' := (V.ref p, R.dic (kvs.map fun x : Key × R => x.1) (kvs.map fun x : Key × R => x.2)) :: L) tl_mem).set (v := .ref p) (r := .dic (kvs.map fun x : Key × R => x.1) (kvs.map fun x : Key × R => x.2)) List.mem_cons_self i
  rw [list_set_same hv] at q
  exact q
theorem wkf_sub {fr : Fr} {S S1 S' : SH} (hp : S.Perm S1) (hs : S'.Sublist S1) : WkF fr S fr S' := fun K F H σ L f o => ⟨L, f, (o.perm (hp.append_right F)).less (hs.append (List.Sublist.refl F)), fun _ h => h⟩
theorem WkF.trans {fr fr' fr'' : Fr} {S S' S'' : SH} (h : WkF fr S fr' S') (g : WkF fr' S' fr'' S'') : WkF fr S fr'' S'' := fun K F H σ L f o => by
  obtain ⟨L1, f1, o1, s1⟩ := h K F H σ L f o
  obtain ⟨L2, f2, o2, s2⟩ := g K F H σ L1 f1 o1
  exact ⟨L2, f2, o2, fun e he => s2 e (s1 e he)⟩
section
variable {X : Cx} {sts : List Stmt} {d1 d2 : DS}
theorem ss_or (h1 : PDSs X sts d1) (h2 : PDSs X sts d2) : PDSs X sts (fun D fr S => d1 D fr S ∨ d2 D fr S) := by
  obtain ⟨t1, p1, l1⟩ := h1.ex
  obtain ⟨t2, p2, l2⟩ := h2.ex
  refine ⟨fun D σ H => t1 D σ H ∨ t2 D σ H, ⟨fun pins s σ H D I h => ?_⟩, fun F H σ fr S L f o D D' e h => ?_⟩
  · rcases h with h | h
    · exact p1.run pins s σ H D I h
    · exact p2.run pins s σ H D I h
  · rcases h with h | h
    · exact .inl (l1 F H σ fr S L f o D D' e h)
    · exact .inr (l2 F H σ fr S L f o D D' e h)
end
/-! what is told is let go of, all its cells with it -/
section
variable {K : Fg} {A A' : Addr → Prop} {H : Hp} {T : SH}
mutual
theorem View.rep (s : Stp A A' H H) (hc : ∀ c ∈ T, CellOk K A H c) (hn : ∀ c ∈ T, ¬ A' c.pt) : ∀ {r : R} {d : PyData} {v : V}, View T r d → RepR K A H v r → Rep K A' H v d
  | _, _, _, .dat d, h => Rep.stp s h
  | _, _, v, .cel (p := p) hj q, h => by
    cases (show v = V.ref p from h)
    have hm := List.mem_of_getElem? hj
    obtain ⟨vs, e, qs⟩ := hc _ hm
    exact .lst e (hn _ hm) (Views.rep s hc hn q qs)
  | _, _, v, .tp (rs := rs) q, h => by
    obtain ⟨a, vs, rfl, e, qs⟩ := (show ∃ a vs, v = .ref a ∧ (H a = some (.tup vs) ∨ KTup K a vs) ∧ RepRl K _ H vs rs from h)
    exact .tup e (Views.rep s hc hn q qs.pair)
theorem Views.rep (s : Stp A A' H H) (hc : ∀ c ∈ T, CellOk K A H c) (hn : ∀ c ∈ T, ¬ A' c.pt) : ∀ {rs : List R} {ds : List PyData} {vs : List V}, Views T rs ds → RepRs K A H vs rs → RepAll K A' H vs ds
  | _, _, _, .nil, .nil => .nil
  | _, _, _, .cons v t, .cons r u => .cons (View.rep s hc hn v r) (Views.rep s hc hn t u)
end
end
theorem off_of_nodup {T S : SH} (h : ((T ++ S).map Cell.pt).Nodup) : ∀ c ∈ T, ¬ Av S c.pt := fun c hc z => by
  rw [List.map_append] at h
  exact (List.nodup_append.mp h).2.2 _ (List.mem_map_of_mem hc) _ z rfl
theorem wkn_view {T S0 : SH} {r : R} {d : PyData} (h : View T r d) : Wkn r (T ++ S0) (.dat d) S0 := fun K F H L v o => by
  have o0 : Ok K H (T ++ (S0 ++ F)) ((v, r) :: L) := by rw [← List.append_assoc]; exact o
  have hs : ∀ a, Av (S0 ++ F) a → Av (T ++ (S0 ++ F)) a := fun a z => by
    unfold Av at z ⊢
    rw [List.map_append]
    exact List.mem_append_right _ z
  have o1 : Ok K H (S0 ++ F) ((v, r) :: L) := o0.less (List.sublist_append_right T _)
  refine Ok.push (o1.sub tl_mem) ?_
  exact h.rep (stp_less hs) (fun c hc => o0.cells c (List.mem_append_left _ hc)) (off_of_nodup o0.nd) (o0.live _ List.mem_cons_self)
/-! a slice of a list, a cell or data -/
def fSlA (lo hi : Option Int) : F1 := fun a S C => ∃ (xs : List R) (ds : List PyData), lstR S a xs ∧ dats xs = some ds ∧ C (.dat (.list (cutD ds lo hi))) S
theorem sld_any {K : Fg} : SlD K (rSlAll K) fSlA := by
  intro F x lo hi a H S L C Q o hx hf q
  obtain ⟨xs, ds, hl, hd, h⟩ := hf
  obtain ⟨p, vs, rfl, e1, q1⟩ := lstR_at o (o.live _ hx) hl
  exact .inl ⟨_, _, rfl, SqL.of e1, fun p hp => q _ _ S _ (o.lst hp (cut_all (reps_all q1 hd) lo hi)) h⟩
theorem d_sliceA {X : Cx} {a : Expr} {da : DE} {dl dh : DO} {pos : Pos} {lo hi : Option Expr} {p2 : Pos} (ha : PD X a da) (hl : PDO X lo dl) (hh : PDO X hi dh) : PD X (.Subscript a (.Slice lo hi none p2) pos) (dSl fSlA da dl dh) := by
  obtain ⟨_, p, l⟩ := ha.ex
  obtain ⟨_, p2, l2⟩ := hl.ex
  obtain ⟨_, p3, l3⟩ := hh.ex
  exact ⟨_, pe_slice sl_all p p2 p3, lift_sl sld_any l l2 l3⟩
/-- a name of the frame, read through, its cells let go -/
theorem wkf_view {fr : Fr} {i : Nat} {r : R} {d : PyData} {T S S0 : SH} (hi : fr[i]? = some (some r)) (hp : S.Perm (T ++ S0)) (h : View T r d) : WkF fr S (fr.set i (some (.dat d))) S0 := fun K F H σ L f o => by
  obtain ⟨v, hv, hm⟩ := f.at_ i _ hi
  have o1 : OkF K F H (T ++ S0) L := o.perm (hp.append_right F)
  have o2 : OkF K F H (T ++ S0) ((v, r) :: L) := Ok.push o1 (o1.live _ hm)
  have o3 := wkn_view (S0 := S0) h K F H L v o2
  refine ⟨(v, .dat d) :: L, ?_, o3, tl_mem⟩
  have q := (f.mono (L' := (v, R.dat d) :: L) tl_mem).set (v := v) (r := .dat d) List.mem_cons_self i
  rw [list_set_same hv] at q
  exact q
/-! dict(d): a copy -/
def fDictC : FA := fun rs S C => match rs with
  | [.val (.ref q)] => ∃ (j : Nat) (kvs : List (Key × R)), S[j]? = some (.dct q kvs) ∧ ∀ p, C (.val (.ref p)) (.dct p kvs :: S)
  | [.dic ks rs] => ∀ p, C (.val (.ref p)) (.dct p (ks.zip rs) :: S)
  | _ => False
theorem cd_dictC {K : Fg} : CallD K (fun xs H Q => ∃ (a : Addr) (kvs : List (Key × V)), xs = [.ref a] ∧ Rd H a (.dK kvs) ∧ ∀ p, H p = none → Q (.ref p) (upd H p (.dK kvs))) fDictC := by
  intro F vs rs H S L C Q o lv hf q
  unfold fDictC at hf
  split at hf
  · rename_i q0
    cases lv with | cons m t =>
    cases t
    cases o.val m
    obtain ⟨j, kvs, hj, h⟩ := hf
    obtain ⟨kws, e1, q1⟩ := o.cells _ (at_split (in_app hj))
    refine ⟨q0, kws, rfl, .inl e1, fun p hp => ?_⟩
    have o2 : OkF K F (upd H p (.dK kws)) (.dct p kvs :: S) L := o.cell (c := .dct p kvs) (u := .dK kws) rfl hp ⟨kws, upd_same, Paired.mapP q1 fun _ _ z => ⟨z.1, z.2.stp (stp_cell rfl hp)⟩⟩
    exact q _ _ _ _ (Ok.push (r := .val (.ref p)) o2 rfl) (h p)
  · rename_i ks rs
    cases lv with | cons m t =>
    cases t
    rename_i v
    obtain ⟨a, vs, rfl, e1, _, el, q1⟩ := (show ∃ a vs, v = .ref a ∧ H a = some (.dK (ks.zip vs)) ∧ ¬ _ ∧ vs.length = ks.length ∧ RepRl K _ H vs rs from o.live _ m)
    refine ⟨a, _, rfl, .inl e1, fun p hp => ?_⟩
    have o2 : OkF K F (upd H p (.dK (ks.zip vs))) (.dct p (ks.zip rs) :: S) L := o.cell (c := .dct p (ks.zip rs)) (u := .dK (ks.zip vs)) rfl hp ⟨_, upd_same, Paired.mapP (zip_kv q1.pair) fun _ _ z => ⟨z.1, z.2.stp (stp_cell rfl hp)⟩⟩
    exact q _ _ _ _ (Ok.push (r := .val (.ref p)) o2 rfl) (hf p)
  · exact hf.elim
theorem d_dictC {X : Cx} {e : Expr} {dA : DA} {p pos : Pos} (hg : Gl X "dict") (hm : X.mg "dict" = none) (ha : PDA X [e] dA) (he : starEach [e] X.env = [(false, eval e X.env)] := by rfl) : PD X (.Call (.Name "dict" p) [e] [] pos) (dCB fDictC dA) := d_callTy call_dictD cd_dictC hg hm (by decide +kernel) ha (by decide) (by decide) he (by rfl)
end DL
set_option Elab.async false
set_option linter.all false
set_option maxRecDepth 100000
set_option maxHeartbeats 4000000
/-! Works that never fall, as a plain function. -/
namespace PM
open PySem PySem.Spec PyProof.Rows L2 DL

structure RunS where
  row : Int
  taken : Int
  names : List Int
  files : List (List Int)
  sent : List Int
def putSent (s : List Int) (e : Eff) : List Int := match e.letter with
  | none => s
  | some v => s ++ [v]
def runEff (rows : List PRow) (hs : List Int) (r : RunS) : Eff := effect (rowAt rows r.row) r.row r.taken r.names hs r.files
def runNext (e : Eff) (r : RunS) : RunS := ⟨e.row, e.taken, putName r.names e, putFile r.files e.file e.pos e.new, putSent r.sent e⟩
/-- how it ends, what stands then, how many rows are left of the thousand -/
def runFrom (rows : List PRow) (hs : List Int) : Nat → RunS → PyData × RunS × Nat
  | n, r => if ¬ r.row < rows.length then (told1 "end", r, n) else match n with
    | 0 => (told1 "long", r, 0)
    | n + 1 => match (runEff rows hs r).fault with
      | some f => (.tuple [.str "fault", .str f], r, n + 1)
      | none => runFrom rows hs n (runNext (runEff rows hs r) r)
def run0 (p : Prog) : RunS := ⟨0, 0, List.replicate p.names.toNat 0, List.replicate p.files.toNat [], []⟩
def runW (p : Prog) (hs : List Int) : PyData × RunS × Nat := runFrom p.rows hs 1000 (run0 p)
def runD (x : PyData × RunS × Nat) : PyData := .tuple [filesD x.2.1.files, lstI x.2.1.sent, x.1, lstI x.2.1.names, .int (1000 - (x.2.2 : Int))]
structure RunOk (nN nF hl many : Nat) (r : RunS) : Prop where
  row : 0 ≤ r.row ∧ r.row ≤ many
  taken : 0 ≤ r.taken ∧ r.taken ≤ hl
  names : NamesOk nN r.names
  files : r.files.length = nF ∧ ∀ f ∈ r.files, f.length ≤ 40 ∧ NN f
theorem putName_ok {nN nF hl many : Nat} {e : Eff} {ns : List Int} (he : EffOk nN nF hl many e) (h : NamesOk nN ns) : NamesOk nN (putName ns e) := by
  unfold putName
  cases en : e.name with
  | none => exact h
  | some n =>
    obtain ⟨_, v, ev, hv⟩ := he.name n en
    rw [ev]
    exact ⟨by rw [List.length_set]; exact h.len, h.nn.set hv _⟩
theorem putFile_ok {nF : Nat} {fs : List (List Int)} {f : Option Int} {pos : Int} {new : List Int} (h : fs.length = nF ∧ ∀ f ∈ fs, f.length ≤ 40 ∧ NN f) (hp : 0 ≤ pos) (hn : pos + new.length ≤ 40 ∧ NN new) : (putFile fs f pos new).length = nF ∧ ∀ f' ∈ putFile fs f pos new, f'.length ≤ 40 ∧ NN f' := by
  cases f with
  | none => exact h
  | some f =>
    refine ⟨by unfold putFile; rw [List.length_set]; exact h.1, fun f' hf' => ?_⟩
    rcases List.mem_or_eq_of_mem_set hf' with hm | rfl
    · exact h.2 f' hm
    · refine ⟨?_, ?_⟩
      · rw [List.length_append, List.length_take]
        have := hn.1
        omega
      · refine NN.app (NN.take ?_ _) hn.2
        rw [List.getD_eq_getElem?_getD]
        cases e : fs[f.toNat]? with
        | none => exact NN.nil
        | some x => exact (h.2 x (List.mem_of_getElem? e)).2
theorem runNext_ok {nN nF hl many : Nat} {e : Eff} {r : RunS} (he : EffOk nN nF hl many e) (h : RunOk nN nF hl many r) : RunOk nN nF hl many (runNext e r) :=
  ⟨he.row, he.taken, putName_ok he h.names, putFile_ok h.files he.pos he.new⟩
theorem rowAt_ok {nN nF : Nat} {rows : List PRow} (h : ∀ r ∈ rows, r.ok nN nF rows.length) {i : Int} (h0 : 0 ≤ i) (h1 : i < rows.length) : (rowAt rows i).ok nN nF rows.length := h _ (getD_mem (by omega))
theorem runEff_ok {nN nF : Nat} {rows : List PRow} {hs : List Int} (hr : ∀ r ∈ rows, r.ok nN nF rows.length) (hh : NN hs) {r : RunS} (h : RunOk nN nF hs.length rows.length r) (hlt : r.row < rows.length) (hz : (runEff rows hs r).fault = none) : EffOk nN nF hs.length rows.length (runEff rows hs r) :=
  effect_ok (rowAt_ok hr h.row.1 hlt) h.names hh h.files ⟨h.row.1, hlt⟩ h.taken hz
/-- three lists, a tuple of them and data: frozen -/
theorem wkn_run {pf ps pn : Addr} {fs : List (List Int)} {ss ns : List Int} {e : PyData} {k : Int} {S : SH} : Wkn (.tp [.val (.ref pf), .val (.ref ps), .dat e, .val (.ref pn), .dat (.int k)]) (.lst ps (iR ss) :: .lst pf (fileR fs) :: .lst pn (iR ns) :: S) (.dat (.tuple [filesD fs, lstI ss, e, lstI ns, .int k])) S := by
  intro K F H L v o
  have d1 : dats (iR ss) = some (ss.map PyData.int) := by
    have : iR ss = (ss.map PyData.int).map R.dat := by unfold iR; rw [List.map_map]; rfl
    rw [this]; exact dats_map _
  have d2 : dats (iR ns) = some (ns.map PyData.int) := by
    have : iR ns = (ns.map PyData.int).map R.dat := by unfold iR; rw [List.map_map]; rfl
    rw [this]; exact dats_map _
  have d3 : dats (fileR fs) = some (fs.map lstI) := by
    have : fileR fs = (fs.map lstI).map R.dat := by unfold fileR; rw [List.map_map]; rfl
    rw [this]; exact dats_map _
  have o1 := Ok.frz (i := 0) o rfl d1
  have o2 := Ok.frz (i := 0) o1 rfl d3
  have o3 : Ok K H (S ++ F) ((V.ref pn, R.dat (.list (ns.map PyData.int))) :: (V.ref pf, R.dat (.list (fs.map lstI))) :: (V.ref ps, R.dat (.list (ss.map PyData.int))) :: (v, .tp [.val (.ref pf), .val (.ref ps), .dat e, .val (.ref pn), .dat (.int k)]) :: L) := Ok.frz (i := 0) o2 rfl d2
  have hn := o3.dat (v := .ref pn) List.mem_cons_self
  have hf := o3.dat (v := .ref pf) (List.mem_cons_of_mem _ List.mem_cons_self)
  have hs := o3.dat (v := .ref ps) (List.mem_cons_of_mem _ (List.mem_cons_of_mem _ List.mem_cons_self))
  have hv := o3.live (v, .tp [.val (.ref pf), .val (.ref ps), .dat e, .val (.ref pn), .dat (.int k)]) (List.mem_cons_of_mem _ (List.mem_cons_of_mem _ (List.mem_cons_of_mem _ List.mem_cons_self)))
  obtain ⟨a, vs, rfl, ha, hq⟩ := (show ∃ a vs, v = .ref a ∧ (H a = some (.tup vs) ∨ KTup K a vs) ∧ RepRl K _ H vs _ from hv)
  have o4 : Ok K H (S ++ F) L := o3.sub fun z hz => List.mem_cons_of_mem _ (List.mem_cons_of_mem _ (List.mem_cons_of_mem _ (List.mem_cons_of_mem _ hz)))
  refine o4.pd (.tup ha ?_)
  have hq' := hq.pair
  cases hq' with | cons q1 t => cases t with | cons q2 t => cases t with | cons q3 t => cases t with | cons q4 t => cases t with | cons q5 t =>
  cases t
  cases q1
  cases q2
  cases q4
  exact .cons hf (.cons hs (.cons q3 (.cons hn (.cons q5 .nil))))
end PM
set_option Elab.async false
set_option linter.all false
set_option maxRecDepth 100000
set_option maxHeartbeats 4000000
/-! The mathematics of works: a run's states one by one, and where a work stands in it. -/
namespace PM
open PySem PySem.Spec PyProof.Rows L2 DL

/-! ### a run, row by row -/
def trj (rows : List PRow) (hs : List Int) (r0 : RunS) : Nat → RunS
  | 0 => r0
  | k + 1 => runNext (runEff rows hs (trj rows hs r0 k)) (trj rows hs r0 k)
def stopAt (rows : List PRow) (hs : List Int) (k : Nat) (r : RunS) : Option PyData :=
  if ¬ r.row < rows.length then some (told1 "end") else if k = 1000 then some (told1 "long") else (runEff rows hs r).fault.map fun f => .tuple [.str "fault", .str f]
structure Rn where
  rows : List PRow
  hs : List Int
  r0 : RunS
  N : Nat
  how : PyData
  nN : Nat
  nF : Nat
namespace Rn
def T (Z : Rn) (k : Nat) : RunS := trj Z.rows Z.hs Z.r0 k
def E (Z : Rn) (k : Nat) : Eff := runEff Z.rows Z.hs (Z.T k)
structure Ok (Z : Rn) : Prop where
  le : Z.N ≤ 1000
  before : ∀ k, k < Z.N → stopAt Z.rows Z.hs k (Z.T k) = none
  at_ : stopAt Z.rows Z.hs Z.N (Z.T Z.N) = some Z.how
  rok : ∀ r ∈ Z.rows, r.ok Z.nN Z.nF Z.rows.length
  hh : NN Z.hs
  r0ok : RunOk Z.nN Z.nF Z.hs.length Z.rows.length Z.r0
  s0 : Z.r0.sent = []
theorem T_succ (Z : Rn) (k : Nat) : Z.T (k + 1) = runNext (Z.E k) (Z.T k) := rfl
end Rn
theorem run_ends (rows : List PRow) (hs : List Int) (r0 : RunS) : ∀ (n k : Nat), k + n = 1000 → (∀ j, j < k → stopAt rows hs j (trj rows hs r0 j) = none) →
    ∃ N how, N ≤ 1000 ∧ (∀ j, j < N → stopAt rows hs j (trj rows hs r0 j) = none) ∧ stopAt rows hs N (trj rows hs r0 N) = some how ∧ runFrom rows hs n (trj rows hs r0 k) = (how, trj rows hs r0 N, 1000 - N)
  | n, k, hk, hb => by
    by_cases h1 : (trj rows hs r0 k).row < rows.length
    · cases n with
      | zero =>
        refine ⟨k, told1 "long", by omega, hb, ?_, ?_⟩
        · unfold stopAt
          rw [if_neg (by exact fun z => z h1), if_pos (by omega)]
        · unfold runFrom
          rw [if_neg (by exact fun z => z h1)]
          have : 1000 - k = 0 := by omega
          rw [this]
      | succ n =>
        cases h2 : (runEff rows hs (trj rows hs r0 k)).fault with
        | some f =>
          refine ⟨k, .tuple [.str "fault", .str f], by omega, hb, ?_, ?_⟩
          · unfold stopAt
            rw [if_neg (by exact fun z => z h1), if_neg (by omega), h2]; rfl
          · unfold runFrom
            rw [if_neg (by exact fun z => z h1)]
            simp only [h2]
            have : 1000 - k = n + 1 := by omega
            rw [this]
        | none =>
          obtain ⟨N, how, a, b, c, d⟩ := run_ends rows hs r0 n (k + 1) (by omega) (fun j hj => by
            by_cases e : j = k
            · subst e
              unfold stopAt
              rw [if_neg (by exact fun z => z h1), if_neg (by omega), h2]; rfl
            · exact hb j (by omega))
          refine ⟨N, how, a, b, c, ?_⟩
          rw [← d]
          conv => lhs; unfold runFrom
          rw [if_neg (by exact fun z => z h1)]
          simp only [h2]
          rfl
    · refine ⟨k, told1 "end", by omega, hb, ?_, ?_⟩
      · unfold stopAt
        rw [if_pos h1]
      · unfold runFrom
        rw [if_pos h1]
        have : 1000 - k = n := by omega
        rw [this]
namespace Rn
variable {Z : Rn}
theorem Ok.alive (h : Z.Ok) {k : Nat} (hk : k < Z.N) : (Z.T k).row < Z.rows.length ∧ k ≠ 1000 ∧ (Z.E k).fault = none := by
  have e := h.before k hk
  unfold stopAt at e
  by_cases h1 : (Z.T k).row < Z.rows.length
  · rw [if_neg (by exact fun z => z h1)] at e
    have h2 : k ≠ 1000 := by have := h.le; omega
    rw [if_neg h2] at e
    refine ⟨h1, h2, ?_⟩
    unfold E
    cases ef : (runEff Z.rows Z.hs (Z.T k)).fault with
    | none => rfl
    | some f => rw [ef] at e; cases e
  · rw [if_pos h1] at e; cases e
theorem Ok.tok (h : Z.Ok) : ∀ {k : Nat}, k ≤ Z.N → RunOk Z.nN Z.nF Z.hs.length Z.rows.length (Z.T k)
  | 0, _ => h.r0ok
  | k + 1, hk => by
    have ih := h.tok (k := k) (by omega)
    obtain ⟨a, _, b⟩ := h.alive (k := k) (by omega)
    exact runNext_ok (runEff_ok h.rok h.hh ih a b) ih
theorem Ok.eok (h : Z.Ok) {k : Nat} (hk : k < Z.N) : EffOk Z.nN Z.nF Z.hs.length Z.rows.length (Z.E k) := by
  obtain ⟨a, _, b⟩ := h.alive hk
  exact runEff_ok h.rok h.hh (h.tok (by omega)) a b
theorem sent_succ (Z : Rn) (k : Nat) : (Z.T (k + 1)).sent = putSent (Z.T k).sent (Z.E k) := rfl
theorem sent_pre (Z : Rn) (k : Nat) : ∀ d, (Z.T k).sent <+: (Z.T (k + d)).sent
  | 0 => List.prefix_refl _
  | d + 1 => by
    refine (sent_pre Z k d).trans ?_
    rw [← Nat.add_assoc, sent_succ]
    unfold putSent
    cases (Z.E (k + d)).letter with
    | none => exact List.prefix_refl _
    | some v => exact List.prefix_append _ _
theorem sent_le (Z : Rn) {k l : Nat} (h : k ≤ l) : (Z.T k).sent <+: (Z.T l).sent := by
  have := sent_pre Z k (l - k)
  rwa [Nat.add_sub_cancel' h] at this
end Rn
/-! ### where a work stands -/
structure At (Z : Rn) (k : Nat) (i : InnerS) : Prop where
  row : i.row = (Z.T k).row
  names : i.names = (Z.T k).names
  taken : i.taken = (Z.T k).taken
  passed : i.passed = k
  letters : i.letters = (Z.T k).sent.length
def markAt (Z : Rn) (m : Nat) : MarkS := ⟨(Z.T m).row, (Z.T m).names, (Z.T m).taken, m, (Z.T m).sent.length⟩
/-- all is put back, the last first -/
def undo : List Eff → List (List Int) → List (List Int)
  | [], fs => fs
  | e :: es, fs => putFile (undo es fs) e.file e.pos e.old
theorem undo_app : ∀ (xs ys : List Eff) (fs : List (List Int)), undo (xs ++ ys) fs = undo xs (undo ys fs)
  | [], _, _ => rfl
  | x :: xs, ys, fs => by rw [List.cons_append, undo, undo, undo_app xs ys fs]
/-- the work is at a row's beginning (noted none), or has noted it -/
structure AtRow (Z : Rn) (way : Str) (m k : Nat) (st : WorkS) (i : InnerS) : Prop where
  held : st.held = (Z.T k).files
  again : i.again = 0
  on : way = onW → st.made = (k : Int) - m ∧ (i.noted = none → (st.jots.length : Int) = k - m)
  back : way = backW → (i.noted = none → (st.jots.length : Int) ≤ k - m)
  nil_ : i.noted = none → i.out = false
  got : ∀ e, i.noted = some e → e = Z.E k ∧ k < Z.N ∧ (way = onW → (st.jots.length : Int) = k - m + 1) ∧ (way = backW → (st.jots.length : Int) ≤ k - m + 1 ∧ ∀ f, e.file = some f → st.jots.getLast? = some e) ∧
    (i.out = true → (∃ v, e.letter = some v) ∧ (Z.T k).sent.length + 1 ≤ st.letters.length)
structure Inv (Z : Rn) (way : Str) (often : Int) (m : Nat) (st : WorkS) : Prop where
  rows : st.rows = Z.rows
  handed : st.handed = Z.hs
  wayE : st.way = way
  oftenE : st.often = often
  mN : m ≤ Z.N
  mark : st.mark = markAt Z m
  sent : st.letters <+: (Z.T Z.N).sent
  sentm : (Z.T m).sent.length ≤ st.letters.length
  hok : st.held.length = Z.nF ∧ ∀ f ∈ st.held, f.length ≤ 40 ∧ NN f
  jl : (st.jots.length : Int) ≤ Z.N - m
  back : way = backW → undo st.jots st.held = (Z.T m).files ∧ ∀ e ∈ st.jots, ∃ k, m ≤ k ∧ k < Z.N ∧ e = Z.E k ∧ ∃ f, e.file = some f
  on : way = onW → ∃ q : Nat, st.made = q ∧ m + q ≤ Z.N ∧ st.held = (Z.T (m + q)).files ∧ (st.jots.length = q ∨ st.jots.length = q + 1 ∧ m + q < Z.N) ∧ (∀ j, j < st.jots.length → st.jots[j]? = some (Z.E (m + j))) ∧ (Z.T (m + q)).sent.length ≤ st.letters.length
  inner : ∀ i, st.inner = some i → ∃ k : Nat, m ≤ k ∧ k ≤ Z.N ∧ At Z k i ∧ i.since = (k : Int) - m ∧ (Z.T k).sent.length ≤ st.letters.length ∧
    ((way = onW ∧ 0 < i.again ∧ i.again ≤ st.jots.length ∧ i.noted = none ∧ i.out = false ∧ (k : Int) = m + (st.jots.length - i.again)) ∨ AtRow Z way m k st i)
  over : st.over = .none ∨ st.over = Z.how ∧ st.held = (Z.T Z.N).files ∧ st.letters = (Z.T Z.N).sent ∧ ∀ i, st.inner = some i → At Z Z.N i ∧ AtRow Z way m Z.N st i ∧ i.noted = none
theorem inv_fall {Z : Rn} {way : Str} {often : Int} {m : Nat} {st : WorkS} (h : Inv Z way often m st) : Inv Z way often m (fallW st) :=
  { h with inner := (fun i e => nomatch e), over := h.over.imp id fun ⟨a, b, c, _⟩ => ⟨a, b, c, (fun i e => nomatch e)⟩ }
theorem mkInner_at (Z : Rn) (m : Nat) (again : Int) : At Z m (mkInner (markAt Z m) again) := ⟨rfl, rfl, rfl, rfl, rfl⟩
theorem At.next {Z : Rn} {k : Nat} {i : InnerS} (h : At Z k i) : At Z (k + 1) (takeOver (Z.E k) i) := by
  refine ⟨rfl, ?_, rfl, ?_, ?_⟩
  · show putName i.names (Z.E k) = putName (Z.T k).names (Z.E k)
    rw [h.names]
  · show i.passed + 1 = ((k + 1 : Nat) : Int)
    rw [h.passed]; omega
  · show i.letters + one (Z.E k).letter.isSome = ((putSent (Z.T k).sent (Z.E k)).length : Int)
    rw [h.letters]
    unfold putSent
    cases (Z.E k).letter with
    | none => simp [one]
    | some v => simp [one]
theorem At.eff {Z : Rn} {k : Nat} {i : InnerS} {st : WorkS} (h : At Z k i) (e1 : st.rows = Z.rows) (e2 : st.handed = Z.hs) (e3 : st.held = (Z.T k).files) : effAt st i = Z.E k := by
  unfold effAt Rn.E runEff
  rw [e1, e2, e3, h.row, h.names, h.taken]
theorem At.upd {Z : Rn} {k : Nat} {i j : InnerS} (h : At Z k i) (e1 : j.row = i.row) (e2 : j.names = i.names) (e3 : j.taken = i.taken) (e4 : j.passed = i.passed) (e5 : j.letters = i.letters) : At Z k j := ⟨e1.trans h.row, e2.trans h.names, e3.trans h.taken, e4.trans h.passed, e5.trans h.letters⟩
/-- a mark is kept -/
theorem inv_keep {Z : Rn} {way : Str} {often : Int} {k : Nat} {st : WorkS} {i : InnerS} (e1 : st.rows = Z.rows) (e2 : st.handed = Z.hs) (e3 : st.way = way) (e4 : st.often = often) (hk : k ≤ Z.N) (ha : At Z k i) (hh : st.held = (Z.T k).files)
    (h1 : i.again = 0) (h2 : i.noted = none) (h3 : i.out = false) (hs : st.letters <+: (Z.T Z.N).sent) (hl : (Z.T k).sent.length ≤ st.letters.length) (ho : st.over = .none) (z : Z.Ok) : Inv Z way often k (keepW st i).2 where
  rows := e1
  handed := e2
  wayE := e3
  oftenE := e4
  mN := hk
  mark := by
    show MarkS.mk i.row i.names i.taken i.passed i.letters = markAt Z k
    unfold markAt
    rw [ha.row, ha.names, ha.taken, ha.passed, ha.letters]
  sent := hs
  sentm := hl
  hok := by
    have := (z.tok hk).files
    rw [← hh] at this
    exact this
  jl := by show ((([] : List Eff).length : Nat) : Int) ≤ _; simp; omega
  back := fun _ => ⟨hh, fun e he => nomatch he⟩
  on := fun _ => ⟨0, rfl, hk, hh, .inl rfl, (fun j hj => absurd hj (Nat.not_lt_zero _)), hl⟩
  inner := fun j ej => by
    cases ej
    refine ⟨k, Nat.le_refl _, hk, ha.upd rfl rfl rfl rfl rfl, by show (0 : Int) = _; omega, hl, .inr ⟨hh, h1, fun _ => ⟨by show (0 : Int) = _; omega, fun _ => by show ((([] : List Eff).length : Nat) : Int) = _; simp⟩, fun _ _ => by show ((([] : List Eff).length : Nat) : Int) ≤ _; simp, fun _ => h3, fun e he => ?_⟩⟩
    have : i.noted = some e := he
    rw [h2] at this
    cases this
  over := .inl ho
/-- it rises, or puts back -/
theorem inv_rise {Z : Rn} {way : Str} {often : Int} {m : Nat} {st : WorkS} (z : Z.Ok) (hw : way = backW ∨ way = onW) (h : Inv Z way often m st) (ho : st.over = .none) (hin : st.inner = none) : Inv Z way often m (riseW st).2 := by
  have bo : backW ≠ onW := by decide
  have rise : (st.way = onW ∨ st.jots = []) → Inv Z way often m { st with inner := some (mkInner st.mark st.jots.length) } := fun hc =>
    { h with
      inner := fun i e => by
        cases e
        rw [h.mark]
        refine ⟨m, Nat.le_refl _, h.mN, mkInner_at Z m _, by show (0 : Int) = _; omega, h.sentm, ?_⟩
        by_cases hj : st.jots = []
        · refine .inr ⟨?_, by show ((st.jots.length : Nat) : Int) = 0; rw [hj]; rfl, fun hw' => ?_, fun _ _ => by show ((st.jots.length : Nat) : Int) ≤ _; rw [hj]; simp, fun _ => rfl, fun e he => nomatch he⟩
          · rcases hw with rfl | rfl
            · have := (h.back rfl).1
              rw [hj] at this
              exact this
            · obtain ⟨q, a, b, c, d, _⟩ := h.on rfl
              rw [hj] at d
              rcases d with d | ⟨d, _⟩
              · cases d; exact c
              · cases d
          · obtain ⟨q, a, b, c, d, _⟩ := h.on hw'
            rw [hj] at d
            rcases d with d | ⟨d, _⟩
            · have d' : q = 0 := d.symm
              subst d'
              refine ⟨by show st.made = _; rw [a]; omega, fun _ => by show ((st.jots.length : Nat) : Int) = _; rw [hj]; simp⟩
            · cases d
        · have hpos : 0 < st.jots.length := List.length_pos_iff.mpr hj
          refine .inl ⟨?_, by show (0 : Int) < (st.jots.length : Nat); omega, Int.le_refl _, rfl, rfl, by show (m : Int) = m + (((st.jots.length : Nat) : Int) - (st.jots.length : Nat)); omega⟩
          rcases hc with hc | hc
          · rw [← h.wayE]; exact hc
          · exact absurd hc hj
      over := .inl ho }
  unfold riseW
  cases hg : st.jots.getLast? with
  | none => exact rise (.inr (List.getLast?_eq_none_iff.mp hg))
  | some e =>
    dsimp only
    by_cases hb : st.way = backW
    · rw [if_pos hb]
      have hwb : way = backW := h.wayE ▸ hb
      obtain ⟨js, ejs⟩ : ∃ js, st.jots = js ++ [e] := by
        obtain ⟨ys, hys⟩ := List.getLast?_eq_some_iff.mp hg
        exact ⟨ys, hys⟩
      have edl : st.jots.dropLast = js := by rw [ejs, List.dropLast_concat]
      obtain ⟨u, ju⟩ := h.back hwb
      refine { h with hok := ?_, jl := ?_, back := fun _ => ⟨?_, fun e' he' => ?_⟩, on := fun hon => absurd (hwb.symm.trans hon) bo, inner := ?_, over := .inl ho }
      · obtain ⟨k, _, k1, rfl, _⟩ := ju e (by rw [ejs]; simp)
        exact putFile_ok h.hok (z.eok k1).pos (z.eok k1).old
      · show ((st.jots.dropLast.length : Nat) : Int) ≤ _
        have := h.jl
        rw [List.length_dropLast]; omega
      · show undo st.jots.dropLast (putFile st.held e.file e.pos e.old) = _
        rw [edl, ← u, ejs, undo_app]; rfl
      · refine ju e' ?_
        have : e' ∈ st.jots.dropLast := he'
        rw [edl] at this
        rw [ejs]
        exact List.mem_append_left _ this
      · intro i ei
        have : st.inner = some i := ei
        rw [hin] at this
        cases this
    · rw [if_neg hb]
      exact rise (.inl (by rcases hw with rfl | rfl; exact absurd h.wayE hb; exact h.wayE))
end PM
set_option Elab.async false
set_option linter.all false
set_option maxRecDepth 100000
set_option maxHeartbeats 4000000
/-! The mathematics of works: each move keeps what is known of where a work stands. -/
namespace PM
open PySem PySem.Spec PyProof.Rows L2 DL

theorem bo : backW ≠ onW := by decide
/-! ### what a row changes -/
theorem eff_file {row : PRow} {at_ taken : Int} {ns hs : List Int} {fs : List (List Int)} (hn : ∀ p : Part, 0 ≤ p.worth ns ∨ True) (hz : (effect row at_ taken ns hs fs).fault = none) {f : Int} (hf : (effect row at_ taken ns hs fs).file = some f) :
    (effect row at_ taken ns hs fs).pos.toNat ≤ (fs.getD f.toNat []).length ∧ (effect row at_ taken ns hs fs).old = (fs.getD f.toNat []).drop (effect row at_ taken ns hs fs).pos.toNat ∧ changes row = true := by
  cases row with
  | set n p => cases hf
  | size n fl => cases hf
  | take n =>
    by_cases e : taken = (hs.length : Int)
    · have e2 : effect (.take n) at_ taken ns hs fs = _ := if_pos e
      rw [e2] at hz
      cases hz
    · have e2 : effect (.take n) at_ taken ns hs fs = _ := if_neg e
      rw [e2] at hf
      cases hf
  | get n fl p =>
    by_cases e : ((fs.getD fl.toNat []).length : Int) ≤ p.worth ns
    · have e2 : effect (.get n fl p) at_ taken ns hs fs = _ := if_pos e
      rw [e2] at hz
      cases hz
    · have e2 : effect (.get n fl p) at_ taken ns hs fs = _ := if_neg e
      rw [e2] at hf
      cases hf
  | add fl p =>
    cases hf
    refine ⟨?_, ?_, rfl⟩
    · show (((fs.getD f.toNat []).length : Nat) : Int).toNat ≤ _
      omega
    · show (fs.getD f.toNat []).drop (fs.getD f.toNat []).length = (fs.getD f.toNat []).drop (((fs.getD f.toNat []).length : Nat) : Int).toNat
      rw [Int.toNat_natCast]
  | put fl p q =>
    cases hf
    have e2 : effect (.put f p q) at_ taken ns hs fs = changedE (if ((fs.getD f.toNat []).length : Int) ≤ p.worth ns then { eff0 (at_ + 1) taken with fault := some "place" } else eff0 (at_ + 1) taken) f (fs.getD f.toNat []) (p.worth ns).toNat (q.worth ns :: (fs.getD f.toNat []).drop ((p.worth ns).toNat + 1)) := rfl
    rw [e2] at hz
    by_cases e : ((fs.getD f.toNat []).length : Int) ≤ p.worth ns
    · rw [if_pos e] at hz
      cases hz
    refine ⟨?_, ?_, rfl⟩
    · show (((p.worth ns).toNat : Nat) : Int).toNat ≤ _
      omega
    · show (fs.getD f.toNat []).drop (p.worth ns).toNat = (fs.getD f.toNat []).drop (((p.worth ns).toNat : Nat) : Int).toNat
      rw [Int.toNat_natCast]
  | cut fl p =>
    cases hf
    refine ⟨?_, ?_, rfl⟩
    · show ((min (p.worth ns).toNat (fs.getD f.toNat []).length : Nat) : Int).toNat ≤ _
      omega
    · show (fs.getD f.toNat []).drop (min (p.worth ns).toNat (fs.getD f.toNat []).length) = (fs.getD f.toNat []).drop ((min (p.worth ns).toNat (fs.getD f.toNat []).length : Nat) : Int).toNat
      rw [Int.toNat_natCast]
  | send p => cases hf
  | go r => cases hf
  | unl n r =>
    by_cases e : ns.getD n.toNat 0 = 0
    · have e2 : effect (.unl n r) at_ taken ns hs fs = _ := if_pos e
      rw [e2] at hf
      cases hf
    · have e2 : effect (.unl n r) at_ taken ns hs fs = _ := if_neg e
      rw [e2] at hf
      cases hf
  | mark => cases hf
theorem eff_changes {row : PRow} {at_ taken : Int} {ns hs : List Int} {fs : List (List Int)} (h : changes row = true) : ∃ f, (effect row at_ taken ns hs fs).file = some f := by
  cases row <;> first | exact ⟨_, rfl⟩ | cases h
theorem put_old {fs : List (List Int)} {f pos : Int} {old : List Int} (h2 : old = (fs.getD f.toNat []).drop pos.toNat) : putFile fs (some f) pos old = fs := by
  unfold putFile
  dsimp only
  rw [h2, List.take_append_drop, List.getD_eq_getElem?_getD]
  by_cases hl : f.toNat < fs.length
  · rw [List.getElem?_eq_getElem hl, Option.getD_some, List.set_getElem_self]
  · exact List.set_eq_of_length_le (by omega)
theorem put_put {fs : List (List Int)} {f pos : Int} {old new : List Int} (h1 : pos.toNat ≤ (fs.getD f.toNat []).length) : putFile (putFile fs (some f) pos new) (some f) pos old = putFile fs (some f) pos old := by
  unfold putFile
  dsimp only
  by_cases hl : f.toNat < fs.length
  · have e : (fs.set f.toNat (List.take pos.toNat (fs.getD f.toNat []) ++ new)).getD f.toNat [] = List.take pos.toNat (fs.getD f.toNat []) ++ new := by
      rw [List.getD_eq_getElem?_getD, List.getElem?_set_self hl]; rfl
    rw [e, List.set_set, List.take_append_of_le_length (by rw [List.length_take]; omega), List.take_take, Nat.min_self]
  · have hl2 : fs.length ≤ f.toNat := by omega
    simp only [List.set_eq_of_length_le hl2]
namespace Rn
variable {Z : Rn}
theorem Ok.file (h : Z.Ok) {k : Nat} (hk : k < Z.N) {f : Int} (hf : (Z.E k).file = some f) : (Z.E k).pos.toNat ≤ ((Z.T k).files.getD f.toNat []).length ∧ (Z.E k).old = ((Z.T k).files.getD f.toNat []).drop (Z.E k).pos.toNat ∧ changes (rowAt Z.rows (Z.T k).row) = true :=
  eff_file (fun _ => .inr True.intro) (h.alive hk).2.2 hf
theorem Ok.putOld (h : Z.Ok) {k : Nat} (hk : k < Z.N) : putFile (Z.T k).files (Z.E k).file (Z.E k).pos (Z.E k).old = (Z.T k).files := by
  cases hf : (Z.E k).file with
  | none => rfl
  | some f => exact put_old (h.file hk hf).2.1
theorem Ok.putBack (h : Z.Ok) {k : Nat} (hk : k < Z.N) : putFile (Z.T (k + 1)).files (Z.E k).file (Z.E k).pos (Z.E k).old = (Z.T k).files := by
  rw [← h.putOld hk]
  have e : (Z.T (k + 1)).files = putFile (Z.T k).files (Z.E k).file (Z.E k).pos (Z.E k).new := rfl
  rw [e]
  cases hf : (Z.E k).file with
  | none => rfl
  | some f =>
    rw [put_put (h.file hk hf).1, put_old (h.file hk hf).2.1]
end Rn
/-! ### the moves -/
section
variable {Z : Rn} {way : Str} {often : Int} {m : Nat} {st : WorkS} {i : InnerS}
theorem inv_go (z : Z.Ok) (h : Inv Z way often m st) (ho : st.over = .none) (hi : st.inner = some i) (ha : 0 < i.again) : Inv Z way often m (goW st i).2 := by
  obtain ⟨k, k0, k1, at_, si, sl, hc⟩ := h.inner i hi
  rcases hc with ⟨hw, _, a1, no, ou, ek⟩ | hc
  · obtain ⟨q, q1, q2, q3, q4, q5, q6⟩ := h.on hw
    have pl : (st.jots.length : Int) - i.again = (k : Int) - m := by omega
    have plN : ((st.jots.length : Int) - i.again).toNat = k - m := by omega
    have ej : st.jots.getD ((st.jots.length : Int) - i.again).toNat (eff0 0 0) = Z.E k := by
      rw [plN, List.getD_eq_getElem?_getD, q5 (k - m) (by omega), Nat.add_sub_cancel' k0]; rfl
    unfold goW
    dsimp only
    rw [ej]
    by_cases e : (st.jots.length : Int) - i.again = st.made
    · rw [if_pos e]
      rcases q4 with q4 | ⟨q4, q7⟩
      · omega
      have ekq : k = m + q := by omega
      refine { h with inner := fun j ej => ?_, over := .inl ho }
      cases ej
      refine ⟨k, k0, k1, at_.upd rfl rfl rfl rfl rfl, si, sl, .inr ⟨by rw [ekq]; exact q3, by show i.again - 1 = 0; omega, fun _ => ⟨by show st.made = _; rw [q1]; omega, (fun z => nomatch z)⟩, (fun _ z => nomatch z), (fun z => nomatch z), fun e' he' => ?_⟩⟩
      cases he'
      refine ⟨rfl, by omega, fun _ => by show ((st.jots.length : Nat) : Int) = _; omega, fun hb => absurd (hb.symm.trans hw) bo, fun ho => ?_⟩
      have : i.out = true := ho
      rw [ou] at this
      cases this
    · rw [if_neg e]
      have hq : k + 1 ≤ m + q := by omega
      refine { h with inner := fun j ej => ?_, over := .inl ho }
      cases ej
      have at1 : At Z (k + 1) (takeOver (Z.E k) { i with again := i.again - 1 }) := At.next (at_.upd rfl rfl rfl rfl rfl)
      refine ⟨k + 1, by omega, by omega, at1, by show i.since + 1 = _; omega, Nat.le_trans (Z.sent_le hq).length_le q6, ?_⟩
      by_cases e2 : i.again = 1
      · have ekq : k + 1 = m + q := by omega
        refine .inr ⟨by rw [ekq]; exact q3, by show i.again - 1 = 0; omega, fun _ => ⟨by show st.made = _; rw [q1]; omega, fun _ => by show ((st.jots.length : Nat) : Int) = _; omega⟩, fun hb => absurd (hb.symm.trans hw) bo, fun _ => ou, fun e' he' => ?_⟩
        have : i.noted = some e' := he'
        rw [no] at this
        cases this
      · exact .inl ⟨hw, by show 0 < i.again - 1; omega, by show i.again - 1 ≤ ((st.jots.length : Nat) : Int); omega, no, ou, by show ((k + 1 : Nat) : Int) = m + (((st.jots.length : Nat) : Int) - (i.again - 1)); omega⟩
  · have := hc.again
    omega
/-- it stands at a row's beginning: noted -/
theorem inv_notes (z : Z.Ok) (hw : way = backW ∨ way = onW) (h : Inv Z way often m st) (ho : st.over = .none) (hi : st.inner = some i) {k : Nat} (k0 : m ≤ k) (k1 : k < Z.N) (at_ : At Z k i) (si : i.since = (k : Int) - m) (sl : (Z.T k).sent.length ≤ st.letters.length) (ar : AtRow Z way m k st i) (no : i.noted = none) (hf : way = backW → ∃ f, (Z.E k).file = some f) :
    Inv Z way often m { st with jots := st.jots ++ [Z.E k], inner := some { i with noted := some (Z.E k) } } := by
  have lj : ((st.jots ++ [Z.E k]).length : Int) = st.jots.length + 1 := by rw [List.length_append]; simp
  refine { h with jl := ?_, back := fun hb => ⟨?_, fun e he => ?_⟩, on := fun hw => ?_, inner := fun j ej => ?_, over := .inl ho }
  · show (((st.jots ++ [Z.E k]).length : Nat) : Int) ≤ _
    rcases hw with hw | hw
    · have := ar.back hw no
      omega
    · have := (ar.on hw).2 no
      omega
  · show undo (st.jots ++ [Z.E k]) st.held = _
    rw [undo_app]
    have : undo [Z.E k] st.held = st.held := by
      show putFile st.held (Z.E k).file (Z.E k).pos (Z.E k).old = _
      rw [ar.held]; exact z.putOld k1
    rw [this]
    exact (h.back hb).1
  · rcases List.mem_append.mp he with he | he
    · exact (h.back hb).2 e he
    · cases List.mem_singleton.mp he
      exact ⟨k, k0, k1, rfl, hf hb⟩
  · obtain ⟨q, q1, q2, q3, q4, q5, q6⟩ := h.on hw
    obtain ⟨m1, j1⟩ := ar.on hw
    have j1 := j1 no
    have eq : q = k - m := by omega
    refine ⟨q, q1, q2, q3, .inr ⟨?_, by omega⟩, fun j hj => ?_, q6⟩
    · show (st.jots ++ [Z.E k]).length = _
      omega
    · have hj : j < (st.jots ++ [Z.E k]).length := hj
      show (st.jots ++ [Z.E k])[j]? = _
      by_cases e : j < st.jots.length
      · rw [List.getElem?_append_left e]; exact q5 j e
      · have e2 : j = st.jots.length := by omega
        rw [e2, List.getElem?_concat_length]
        have : m + st.jots.length = k := by omega
        rw [this]
  · cases ej
    refine ⟨k, k0, by omega, at_.upd rfl rfl rfl rfl rfl, si, sl, .inr ⟨ar.held, ar.again, fun hw => ⟨(ar.on hw).1, (fun z => nomatch z)⟩, (fun _ z => nomatch z), (fun z => nomatch z), fun e he => ?_⟩⟩
    cases he
    refine ⟨rfl, k1, fun hw => ?_, fun hb => ⟨?_, fun f _ => ?_⟩, fun ho => ?_⟩
    · show (((st.jots ++ [Z.E k]).length : Nat) : Int) = _
      have := (ar.on hw).2 no
      omega
    · show (((st.jots ++ [Z.E k]).length : Nat) : Int) ≤ _
      have := ar.back hb no
      omega
    · show (st.jots ++ [Z.E k]).getLast? = _
      exact List.getLast?_concat
    · have : i.out = true := ho
      rw [ar.nil_ no] at this
      cases this
end
end PM
set_option Elab.async false
set_option linter.all false
set_option maxRecDepth 100000
set_option maxHeartbeats 4000000
/-! The mathematics of works: sends, does, begins; a move. -/
namespace PM
open PySem PySem.Spec PyProof.Rows L2 DL
section
variable {Z : Rn} {way : Str} {often : Int} {m : Nat} {st : WorkS} {i : InnerS}
/-- the letter of the row that is noted goes out, or went out -/
theorem inv_sends (z : Z.Ok) (h : Inv Z way often m st) (ho : st.over = .none) (hi : st.inner = some i) {k : Nat} (k0 : m ≤ k) (k1 : k < Z.N) (at_ : At Z k i) (si : i.since = (k : Int) - m) (sl : (Z.T k).sent.length ≤ st.letters.length) (ar : AtRow Z way m k st i) (no : i.noted = some (Z.E k)) {v : Int} (hv : (Z.E k).letter = some v) :
    Inv Z way often m (sendsW st i v).2 := by
  obtain ⟨_, _, g1, g2, g3⟩ := ar.got _ no
  unfold sendsW
  have lets := at_.letters
  by_cases e : i.letters < (st.letters.length : Int)
  · rw [if_pos e]
    refine { h with inner := fun j ej => ?_, over := .inl ho }
    cases ej
    refine ⟨k, k0, by omega, at_.upd rfl rfl rfl rfl rfl, si, sl, .inr ⟨ar.held, ar.again, fun hw => ⟨(ar.on hw).1, fun hn => ?_⟩, fun _ hn => ?_, fun hn => ?_, fun e' he' => ?_⟩⟩
    · rw [show i.noted = none from hn] at no; cases no
    · rw [show i.noted = none from hn] at no; cases no
    · rw [show i.noted = none from hn] at no; cases no
    · have he' : i.noted = some e' := he'
      rw [no] at he'
      cases he'
      exact ⟨rfl, k1, g1, g2, fun _ => ⟨⟨v, hv⟩, by show _ ≤ st.letters.length; omega⟩⟩
  · rw [if_neg e]
    have el : st.letters.length = (Z.T k).sent.length := by omega
    have es : st.letters = (Z.T k).sent := by
      have p1 := h.sent
      have p2 := Z.sent_le (Nat.le_of_lt k1)
      rw [List.prefix_iff_eq_take] at p1 p2
      rw [p1, p2, el]
    have es1 : st.letters ++ [v] = (Z.T (k + 1)).sent := by
      rw [Z.sent_succ]
      unfold putSent
      rw [hv, es]
    have ll : (st.letters ++ [v]).length = st.letters.length + 1 := by rw [List.length_append]; rfl
    refine { h with sent := ?_, sentm := ?_, on := fun hw => ?_, inner := fun j ej => ?_, over := .inl ho }
    · show st.letters ++ [v] <+: _
      rw [es1]
      exact Z.sent_le (by omega)
    · show _ ≤ (st.letters ++ [v]).length
      have := h.sentm
      omega
    · obtain ⟨q, q1, q2, q3, q4, q5, q6⟩ := h.on hw
      exact ⟨q, q1, q2, q3, q4, q5, by show _ ≤ (st.letters ++ [v]).length; omega⟩
    · cases ej
      refine ⟨k, k0, by omega, at_.upd rfl rfl rfl rfl rfl, si, by show _ ≤ (st.letters ++ [v]).length; omega, .inr ⟨ar.held, ar.again, fun hw => ⟨(ar.on hw).1, fun hn => ?_⟩, fun _ hn => ?_, fun hn => ?_, fun e' he' => ?_⟩⟩
      · rw [show i.noted = none from hn] at no; cases no
      · rw [show i.noted = none from hn] at no; cases no
      · rw [show i.noted = none from hn] at no; cases no
      · have he' : i.noted = some e' := he'
        rw [no] at he'
        cases he'
        exact ⟨rfl, k1, g1, g2, fun _ => ⟨⟨v, hv⟩, by show _ ≤ (st.letters ++ [v]).length; omega⟩⟩
/-- the row that is noted is done -/
theorem inv_does (z : Z.Ok) (h : Inv Z way often m st) (ho : st.over = .none) (hi : st.inner = some i) {k : Nat} (k0 : m ≤ k) (k1 : k < Z.N) (at_ : At Z k i) (si : i.since = (k : Int) - m) (sl : (Z.T k).sent.length ≤ st.letters.length) (ar : AtRow Z way m k st i) (no : i.noted = some (Z.E k)) (hv : (Z.E k).letter = none ∨ i.out = true) :
    Inv Z way often m (doesW st i (Z.E k)).2 := by
  obtain ⟨_, _, g1, g2, g3⟩ := ar.got _ no
  have eh : putFile st.held (Z.E k).file (Z.E k).pos (Z.E k).new = (Z.T (k + 1)).files := by rw [ar.held]; rfl
  have sl1 : (Z.T (k + 1)).sent.length ≤ st.letters.length := by
    rw [Z.sent_succ]
    unfold putSent
    cases hl : (Z.E k).letter with
    | none => exact sl
    | some v =>
      rcases hv with hv | hv
      · rw [hl] at hv; cases hv
      · have := (g3 hv).2
        rw [List.length_append]; exact this
  refine { h with hok := ?_, back := fun hb => ⟨?_, (h.back hb).2⟩, on := fun hw => ?_, inner := fun j ej => ?_, over := .inl ho }
  · have := (z.tok (k := k + 1) (by omega)).files
    rw [← eh] at this
    exact this
  · show undo st.jots (putFile st.held (Z.E k).file (Z.E k).pos (Z.E k).new) = _
    have u := (h.back hb).1
    cases hf : (Z.E k).file with
    | none => exact u
    | some f =>
      obtain ⟨js, ejs⟩ := List.getLast?_eq_some_iff.mp ((g2 hb).2 f hf)
      rw [ejs, undo_app] at u ⊢
      rw [← hf, eh]
      have e1 : undo [Z.E k] (Z.T (k + 1)).files = (Z.T k).files := z.putBack k1
      have e2 : undo [Z.E k] st.held = (Z.T k).files := by rw [ar.held]; exact z.putOld k1
      rw [e1, ← e2]; exact u
  · have g1 := g1 hw
    obtain ⟨q, q1, q2, q3, q4, q5, q6⟩ := h.on hw
    refine ⟨st.jots.length, rfl, by omega, ?_, .inl rfl, q5, ?_⟩
    · show putFile st.held (Z.E k).file (Z.E k).pos (Z.E k).new = _
      have : m + st.jots.length = k + 1 := by omega
      rw [eh, this]
    · show (Z.T (m + st.jots.length)).sent.length ≤ st.letters.length
      have : m + st.jots.length = k + 1 := by omega
      rw [this]; exact sl1
  · cases ej
    refine ⟨k + 1, by omega, by omega, At.next (at_.upd rfl rfl rfl rfl rfl), by show i.since + 1 = _; omega, sl1, .inr ⟨eh, ar.again, fun hw => ⟨?_, fun _ => ?_⟩, fun hb _ => ?_, fun _ => rfl, (fun e he => nomatch he)⟩⟩
    · have := g1 hw
      show ((st.jots.length : Nat) : Int) = _
      omega
    · have := g1 hw
      show ((st.jots.length : Nat) : Int) = _
      omega
    · have := (g2 hb).1
      show ((st.jots.length : Nat) : Int) ≤ _
      omega
theorem inv_done (z : Z.Ok) (h : Inv Z way often m st) (ho : st.over = .none) (hi : st.inner = some i) {e : Eff} (no : i.noted = some e) : Inv Z way often m (doneW st i e).2 := by
  obtain ⟨k, k0, k1, at_, si, sl, hc⟩ := h.inner i hi
  rcases hc with ⟨_, _, _, no', _⟩ | ar
  · rw [no'] at no; cases no
  obtain ⟨rfl, k2, _⟩ := ar.got e no
  unfold doneW
  cases hl : (Z.E k).letter with
  | none => exact inv_does z h ho hi k0 k2 at_ si sl ar no (.inl hl)
  | some v =>
    cases hout : i.out with
    | false => exact inv_sends z h ho hi k0 k2 at_ si sl ar no hl
    | true => exact inv_does z h ho hi k0 k2 at_ si sl ar no (.inr hout)
/-- how the run stops, by what a work sees of it -/
theorem stop_end (z : Z.Ok) {k : Nat} (k1 : k ≤ Z.N) (h : ¬ (Z.T k).row < Z.rows.length) : k = Z.N ∧ Z.how = told1 "end" := by
  have e : k = Z.N := by
    by_cases e : k < Z.N
    · exact absurd (z.alive e).1 h
    · omega
  subst e
  have a := z.at_
  unfold stopAt at a
  rw [if_pos h] at a
  exact ⟨rfl, (Option.some.inj a).symm⟩
theorem stop_long (z : Z.Ok) {k : Nat} (k1 : k ≤ Z.N) (h : (Z.T k).row < Z.rows.length) (e : k = 1000) : k = Z.N ∧ Z.how = told1 "long" := by
  have e2 : k = Z.N := by have := z.le; omega
  subst e2
  have a := z.at_
  unfold stopAt at a
  rw [if_neg (by exact fun w => w h), if_pos e] at a
  exact ⟨rfl, (Option.some.inj a).symm⟩
theorem stop_fault (z : Z.Ok) {k : Nat} (k1 : k ≤ Z.N) (h : (Z.T k).row < Z.rows.length) (e : k ≠ 1000) {f : Str} (hf : (Z.E k).fault = some f) : k = Z.N ∧ Z.how = .tuple [.str "fault", .str f] := by
  have e2 : k = Z.N := by
    by_cases e2 : k < Z.N
    · rw [(z.alive e2).2.2] at hf; cases hf
    · omega
  subst e2
  have a := z.at_
  unfold stopAt at a
  rw [if_neg (by exact fun w => w h), if_neg e, show (runEff Z.rows Z.hs (Z.T Z.N)).fault = some f from hf] at a
  exact ⟨rfl, (Option.some.inj a).symm⟩
theorem stop_not (z : Z.Ok) {k : Nat} (k1 : k ≤ Z.N) (h : (Z.T k).row < Z.rows.length) (e : k ≠ 1000) (hf : (Z.E k).fault = none) : k < Z.N := by
  by_cases e2 : k < Z.N
  · exact e2
  have e3 : k = Z.N := by omega
  subst e3
  have a := z.at_
  unfold stopAt at a
  rw [if_neg (by exact fun w => w h), if_neg e, show (runEff Z.rows Z.hs (Z.T Z.N)).fault = none from hf] at a
  cases a
theorem inv_ends (h : Inv Z way often m st) (hi : st.inner = some i) (at_ : At Z Z.N i) (ar : AtRow Z way m Z.N st i) (sl : (Z.T Z.N).sent.length ≤ st.letters.length) (no : i.noted = none) : Inv Z way often m (endsW st Z.how).2 :=
  { h with
    inner := fun j ej => by
      obtain ⟨k, k0, k1, a, b, c, d⟩ := h.inner j ej
      refine ⟨k, k0, k1, a, b, c, d.imp id fun x => ⟨x.held, x.again, x.on, x.back, x.nil_, x.got⟩⟩
    over := .inr ⟨rfl, ar.held, h.sent.eq_of_length (by have := h.sent.length_le; omega), fun j ej => by
      have ej : st.inner = some j := ej
      rw [hi] at ej
      cases ej
      exact ⟨at_, ⟨ar.held, ar.again, ar.on, ar.back, ar.nil_, ar.got⟩, no⟩⟩ }
theorem inv_begin (z : Z.Ok) (hw : way = backW ∨ way = onW) (h : Inv Z way often m st) (ho : st.over = .none) (hi : st.inner = some i) (ha : ¬ 0 < i.again) (no : i.noted = none) : ∃ m', m ≤ m' ∧ Inv Z way often m' (beginW st i).2 := by
  obtain ⟨k, k0, k1, at_, si, sl, hc⟩ := h.inner i hi
  rcases hc with ⟨_, a, _⟩ | ar
  · exact absurd a ha
  have ou := ar.nil_ no
  have tk := z.tok k1
  unfold beginW
  by_cases c1 : i.row = st.rows.length
  · rw [if_pos c1]
    obtain ⟨rfl, e⟩ := stop_end z k1 (by rw [← at_.row, c1, h.rows]; omega)
    rw [← e]
    exact ⟨m, Nat.le_refl _, inv_ends h hi at_ ar sl no⟩
  rw [if_neg c1]
  have hr : (Z.T k).row < Z.rows.length := by
    rw [h.rows, at_.row] at c1
    have := tk.row
    omega
  by_cases c2 : i.passed = 1000
  · rw [if_pos c2]
    obtain ⟨rfl, e⟩ := stop_long z k1 hr (by have := at_.passed; omega)
    rw [← e]
    exact ⟨m, Nat.le_refl _, inv_ends h hi at_ ar sl no⟩
  rw [if_neg c2]
  have hk : k ≠ 1000 := by have := at_.passed; omega
  by_cases c3 : 0 < st.often ∧ st.often ≤ i.since
  · rw [if_pos c3]
    exact ⟨k, k0, inv_keep h.rows h.handed h.wayE h.oftenE k1 at_ ar.held ar.again no ou h.sent sl ho z⟩
  rw [if_neg c3, at_.eff h.rows h.handed ar.held]
  cases hf : (Z.E k).fault with
  | some f =>
    obtain ⟨rfl, e⟩ := stop_fault z k1 hr hk hf
    dsimp only
    rw [← e]
    exact ⟨m, Nat.le_refl _, inv_ends h hi at_ ar sl no⟩
  | none =>
    have k2 := stop_not z k1 hr hk hf
    dsimp only
    have er : rowAt st.rows i.row = rowAt Z.rows (Z.T k).row := by rw [h.rows, at_.row]
    by_cases c4 : isMark (rowAt st.rows i.row) = true
    · rw [if_pos c4]
      have em : rowAt Z.rows (Z.T k).row = .mark := by
        rw [er] at c4
        cases hx : rowAt Z.rows (Z.T k).row <;> rw [hx] at c4 <;> first | rfl | cases c4
      have ee : Z.E k = eff0 ((Z.T k).row + 1) (Z.T k).taken := by
        unfold Rn.E runEff
        rw [em]; rfl
      have el : (Z.E k).letter = none := by rw [ee]; rfl
      have ef : (Z.T (k + 1)).files = (Z.T k).files := by
        show putFile (Z.T k).files (Z.E k).file (Z.E k).pos (Z.E k).new = _
        rw [ee]; rfl
      have es : (Z.T (k + 1)).sent = (Z.T k).sent := by
        rw [Z.sent_succ]
        unfold putSent
        rw [el]
      exact ⟨k + 1, by omega, inv_keep (st := { st with count := st.count + 1 }) h.rows h.handed h.wayE h.oftenE (by omega) at_.next (ar.held.trans ef.symm) ar.again no ou h.sent (by rw [es]; exact sl) ho z⟩
    · rw [if_neg c4]
      by_cases c5 : st.way = onW ∨ changes (rowAt st.rows i.row) = true
      · rw [if_pos c5]
        refine ⟨m, Nat.le_refl _, inv_notes z hw h ho hi k0 k2 at_ si sl ar no fun hb => ?_⟩
        rcases c5 with c5 | c5
        · exact absurd (hb.symm.trans (h.wayE.symm.trans c5)) bo
        · rw [er] at c5
          exact eff_changes c5
      · rw [if_neg c5]
        have hb : way = backW := hw.resolve_right fun z => c5 (.inl (h.wayE.trans z))
        have fn : (Z.E k).file = none := by
          cases hx : (Z.E k).file with
          | none => rfl
          | some f =>
            have := (z.file k2 hx).2.2
            rw [← er] at this
            exact absurd (.inr this) c5
        have h2 : Inv Z way often m { st with inner := some { i with noted := some (Z.E k) } } := by
          refine { h with inner := fun j ej => ?_, over := .inl ho }
          cases ej
          refine ⟨k, k0, k1, at_.upd rfl rfl rfl rfl rfl, si, sl, .inr ⟨ar.held, ar.again, fun hon => absurd (hb.symm.trans hon) bo, (fun _ z => nomatch z), (fun z => nomatch z), fun e he => ?_⟩⟩
          cases he
          refine ⟨rfl, k2, fun hon => absurd (hb.symm.trans hon) bo, fun _ => ⟨?_, fun f hf => ?_⟩, fun hou => ?_⟩
          · have := ar.back hb no
            show ((st.jots.length : Nat) : Int) ≤ _
            omega
          · rw [fn] at hf; cases hf
          · have : i.out = true := hou
            rw [ou] at this
            cases this
        exact ⟨m, Nat.le_refl _, inv_done z h2 ho rfl rfl⟩
theorem over_some {d : PyData} (h : d ≠ .none) {st : WorkS} (e : st.over = d) : isOver st = true := by
  unfold isOver
  rw [e]
  cases d <;> first | rfl | exact absurd rfl h
theorem how_some (z : Z.Ok) : Z.how ≠ .none := by
  have a := z.at_
  unfold stopAt at a
  split at a
  · rw [← Option.some.inj a]; exact fun z => nomatch z
  · split at a
    · rw [← Option.some.inj a]; exact fun z => nomatch z
    · intro e
      rw [e] at a
      cases hf : (runEff Z.rows Z.hs (Z.T Z.N)).fault with
      | none => rw [hf] at a; cases a
      | some f => rw [hf] at a; cases a
theorem over_none (h : Inv Z way often m st) (ho : isOver st = false) : st.over = .none := by
  unfold isOver at ho
  split at ho
  · assumption
  · cases ho
theorem inv_move (z : Z.Ok) (hw : way = backW ∨ way = onW) (h : Inv Z way often m st) : ∃ m', m ≤ m' ∧ Inv Z way often m' (moveW st).2 := by
  unfold moveW
  by_cases ho : isOver st = true
  · rw [if_pos ho]; exact ⟨m, Nat.le_refl _, h⟩
  rw [if_neg ho]
  have ho' := over_none h (by cases hx : isOver st with | true => exact absurd hx ho | false => rfl)
  cases hi : st.inner with
  | none => exact ⟨m, Nat.le_refl _, inv_rise z hw h ho' hi⟩
  | some i =>
    dsimp only
    by_cases ha : 0 < i.again
    · rw [if_pos ha]; exact ⟨m, Nat.le_refl _, inv_go z h ho' hi ha⟩
    rw [if_neg ha]
    cases no : i.noted with
    | none => exact inv_begin z hw h ho' hi ha no
    | some e => exact ⟨m, Nat.le_refl _, inv_done z h ho' hi no⟩
end
end PM
set_option Elab.async false
set_option linter.all false
set_option maxRecDepth 100000
set_option maxHeartbeats 4000000
/-! The mathematics of works: how many moves are left; the works' states are as the walk asks. -/
namespace PM
open PySem PySem.Spec PyProof.Rows L2 DL
def muI (N often : Int) (i : InnerS) : Int := if 0 < i.again then i.again + 4 * (N - i.passed) + 2 else match i.noted with
  | some _ => 4 * (N - i.passed) - one i.out
  | none => 4 * (N - i.passed) + 1 + (if 0 < often ∧ often ≤ i.since then 1 else 0)
def mu (N : Int) (st : WorkS) : Int := if isOver st = true then 0 else match st.inner with
  | none => st.jots.length + 4 * (N - st.mark.passed) + 3
  | some i => muI N st.often i
theorem one_le (b : Bool) : 0 ≤ one b ∧ one b ≤ 1 := by cases b <;> decide
theorem notOver {st : WorkS} (h : st.over = .none) : isOver st = false := by unfold isOver; rw [h]
theorem mu_in {N : Int} {st : WorkS} {i : InnerS} (h : st.over = .none) (hi : st.inner = some i) : mu N st = muI N st.often i := by
  unfold mu
  rw [notOver h, if_neg Bool.false_ne_true, hi]
theorem mu_no {N : Int} {st : WorkS} (h : st.over = .none) (hi : st.inner = none) : mu N st = st.jots.length + 4 * (N - st.mark.passed) + 3 := by
  unfold mu
  rw [notOver h, if_neg Bool.false_ne_true, hi]
theorem muI_again {N often : Int} {i : InnerS} (h : 0 < i.again) : muI N often i = i.again + 4 * (N - i.passed) + 2 := by unfold muI; rw [if_pos h]
theorem muI_noted {N often : Int} {i : InnerS} {e : Eff} (h : ¬ 0 < i.again) (no : i.noted = some e) : muI N often i = 4 * (N - i.passed) - one i.out := by unfold muI; rw [if_neg h, no]
theorem muI_none {N often : Int} {i : InnerS} (h : ¬ 0 < i.again) (no : i.noted = none) : muI N often i = 4 * (N - i.passed) + 1 + (if 0 < often ∧ often ≤ i.since then 1 else 0) := by unfold muI; rw [if_neg h, no]
theorem muI_le {N often : Int} {i : InnerS} (h : ¬ 0 < i.again) : muI N often i ≤ 4 * (N - i.passed) + 2 := by
  have := one_le i.out
  cases no : i.noted with
  | none => rw [muI_none h no]; split <;> omega
  | some e => rw [muI_noted h no]; omega
theorem lt_in {N X : Int} (st : WorkS) {i : InnerS} (hi : st.inner = some i) (h : st.over = .none) (q : muI N st.often i < X) : mu N st < X := by rw [mu_in h hi]; exact q
theorem mu_over {N : Int} {st : WorkS} (h : isOver st = true) : mu N st = 0 := by unfold mu; rw [if_pos h]
section
variable {Z : Rn} {way : Str} {often : Int} {m : Nat} {st : WorkS} {i : InnerS}
theorem mu_done {N : Int} {e : Eff} (ho : st.over = .none) (hi : st.inner = some i) (ha : ¬ 0 < i.again) (no : i.noted = some e) : mu N (doneW st i e).2 < 4 * (N - i.passed) - one i.out ∧ (doneW st i e).2.over = .none := by
  have does : mu N (doesW st i e).2 < 4 * (N - i.passed) - one i.out ∧ (doesW st i e).2.over = .none := by
    refine ⟨?_, ho⟩
    refine lt_in _ (i := takeOver e { i with noted := none, out := false }) rfl ho ?_
    have h1 := muI_le (N := N) (often := st.often) (i := takeOver e { i with noted := none, out := false }) ha
    have := one_le i.out
    have e2 : (takeOver e { i with noted := none, out := false }).passed = i.passed + 1 := rfl
    rw [e2] at h1
    show muI N st.often (takeOver e { i with noted := none, out := false }) < _
    omega
  unfold doneW
  cases e.letter with
  | none => exact does
  | some v =>
    cases hout : i.out with
    | true => rw [hout] at does; exact does
    | false =>
      dsimp only
      unfold sendsW
      split
      · refine ⟨?_, ho⟩
        refine lt_in _ (i := { i with out := true }) rfl ho ?_
        rw [muI_noted (i := { i with out := true }) (e := e) ha no]
        show 4 * (N - i.passed) - 1 < 4 * (N - i.passed) - 0
        omega
      · refine ⟨?_, ho⟩
        refine lt_in _ (i := { i with out := true }) rfl ho ?_
        rw [muI_noted (i := { i with out := true }) (e := e) ha no]
        show 4 * (N - i.passed) - 1 < 4 * (N - i.passed) - 0
        omega
theorem mu_keep {N : Int} (ho : st.over = .none) (ha : ¬ 0 < i.again) (no : i.noted = none) : mu N (keepW st i).2 = 4 * (N - i.passed) + 1 := by
  rw [mu_in (st := (keepW st i).2) (i := { i with since := 0 }) ho rfl, muI_none (i := { i with since := 0 }) ha no, if_neg (by rintro ⟨a, b⟩; have b : _ ≤ (0 : Int) := b; omega)]
  show 4 * (N - i.passed) + 1 + 0 = _
  omega
theorem mu_begin {N : Int} (ho : st.over = .none) (ha : ¬ 0 < i.again) (no : i.noted = none) (hp : i.passed ≤ N) : mu N (beginW st i).2 < muI N st.often i := by
  rw [muI_none ha no]
  have hs : 0 ≤ (if 0 < st.often ∧ st.often ≤ i.since then (1 : Int) else 0) := by split <;> decide
  unfold beginW
  by_cases c1 : i.row = st.rows.length
  · rw [if_pos c1, mu_over (by rfl)]; omega
  rw [if_neg c1]
  by_cases c2 : i.passed = 1000
  · rw [if_pos c2, mu_over (by rfl)]; omega
  rw [if_neg c2]
  by_cases c3 : 0 < st.often ∧ st.often ≤ i.since
  · rw [if_pos c3, mu_keep ho ha no, if_pos c3]; omega
  rw [if_neg c3, if_neg c3]
  cases hf : (effAt st i).fault with
  | some f =>
    dsimp only
    rw [mu_over (by rfl)]; omega
  | none =>
    dsimp only
    by_cases c4 : isMark (rowAt st.rows i.row) = true
    · rw [if_pos c4, mu_keep (st := { st with count := st.count + 1 }) (i := takeOver (effAt st i) i) ho ha no]
      show 4 * (N - (i.passed + 1)) + 1 < _
      omega
    rw [if_neg c4]
    by_cases c5 : st.way = onW ∨ changes (rowAt st.rows i.row) = true
    · rw [if_pos c5]
      refine lt_in _ (i := { i with noted := some (effAt st i) }) rfl ho ?_
      rw [muI_noted (i := { i with noted := some (effAt st i) }) (e := effAt st i) ha rfl]
      have := one_le i.out
      show 4 * (N - i.passed) - one i.out < _
      omega
    · rw [if_neg c5]
      have := (mu_done (N := N) (st := { st with inner := some { i with noted := some (effAt st i) } }) (i := { i with noted := some (effAt st i) }) (e := effAt st i) ho rfl ha rfl).1
      have h1 := one_le i.out
      have e2 : ({ i with noted := some (effAt st i) } : InnerS).passed = i.passed := rfl
      have e3 : ({ i with noted := some (effAt st i) } : InnerS).out = i.out := rfl
      rw [e2, e3] at this
      omega
theorem mu_go {N : Int} (ho : st.over = .none) (ha : 0 < i.again) : mu N (goW st i).2 < muI N st.often i := by
  rw [muI_again ha]
  unfold goW
  dsimp only
  split
  · refine lt_in _ (i := { i with again := i.again - 1, noted := some (st.jots.getD ((st.jots.length : Int) - i.again).toNat (eff0 0 0)) }) rfl ho ?_
    by_cases e : i.again = 1
    · have := muI_le (N := N) (often := st.often) (i := { i with again := i.again - 1, noted := some (st.jots.getD ((st.jots.length : Int) - i.again).toNat (eff0 0 0)) }) (by show ¬ 0 < i.again - 1; omega)
      refine Int.lt_of_le_of_lt this ?_
      show 4 * (N - i.passed) + 2 < _
      omega
    · rw [muI_again (by show 0 < i.again - 1; omega)]
      show i.again - 1 + 4 * (N - i.passed) + 2 < _
      omega
  · refine lt_in _ (i := takeOver (st.jots.getD ((st.jots.length : Int) - i.again).toNat (eff0 0 0)) { i with again := i.again - 1 }) rfl ho ?_
    by_cases e : i.again = 1
    · have := muI_le (N := N) (often := st.often) (i := takeOver (st.jots.getD ((st.jots.length : Int) - i.again).toNat (eff0 0 0)) { i with again := i.again - 1 }) (by show ¬ 0 < i.again - 1; omega)
      refine Int.lt_of_le_of_lt this ?_
      show 4 * (N - (i.passed + 1)) + 2 < _
      omega
    · rw [muI_again (by show 0 < i.again - 1; omega)]
      show i.again - 1 + 4 * (N - (i.passed + 1)) + 2 < _
      omega
theorem mu_rise {N : Int} (ho : st.over = .none) (hi : st.inner = none) : mu N (riseW st).2 < mu N st := by
  rw [mu_no ho hi]
  have rise : mu N { st with inner := some (mkInner st.mark st.jots.length) } < (st.jots.length : Int) + 4 * (N - st.mark.passed) + 3 := by
    refine lt_in _ (i := mkInner st.mark st.jots.length) rfl ho ?_
    by_cases e : 0 < st.jots.length
    · rw [muI_again (by show 0 < ((st.jots.length : Nat) : Int); omega)]
      show ((st.jots.length : Nat) : Int) + 4 * (N - st.mark.passed) + 2 < _
      omega
    · have := muI_le (N := N) (often := st.often) (i := mkInner st.mark st.jots.length) (by show ¬ 0 < ((st.jots.length : Nat) : Int); omega)
      refine Int.lt_of_le_of_lt this ?_
      show 4 * (N - st.mark.passed) + 2 < _
      omega
  unfold riseW
  cases hg : st.jots.getLast? with
  | none => exact rise
  | some e =>
    dsimp only
    by_cases hb : st.way = backW
    · rw [if_pos hb, mu_no (st := { st with jots := st.jots.dropLast, held := putFile st.held e.file e.pos e.old }) ho hi]
      show ((st.jots.dropLast.length : Nat) : Int) + 4 * (N - st.mark.passed) + 3 < _
      have : st.jots ≠ [] := by rintro z; rw [z] at hg; cases hg
      have := List.length_pos_iff.mpr this
      rw [List.length_dropLast]; omega
    · rw [if_neg hb]; exact rise
theorem mu_move (h : Inv Z way often m st) (ho : isOver st = false) : mu Z.N (moveW st).2 < mu Z.N st := by
  have ho' := over_none h ho
  unfold moveW
  rw [if_neg (by rw [ho]; exact Bool.false_ne_true)]
  cases hi : st.inner with
  | none => exact mu_rise ho' hi
  | some i =>
    dsimp only
    rw [mu_in (st := st) ho' hi]
    by_cases ha : 0 < i.again
    · rw [if_pos ha]; exact mu_go ho' ha
    rw [if_neg ha]
    obtain ⟨k, k0, k1, at_, _⟩ := h.inner i hi
    cases no : i.noted with
    | none => exact mu_begin ho' ha no (by rw [at_.passed]; omega)
    | some e =>
      rw [muI_noted ha no]
      exact (mu_done ho' hi ha no).1
theorem mu_pos (h : Inv Z way often m st) (ho : isOver st = false) : 0 < mu Z.N st := by
  have ho' := over_none h ho
  cases hi : st.inner with
  | none =>
    rw [mu_no ho' hi, h.mark]
    have := h.mN
    show 0 < ((st.jots.length : Nat) : Int) + 4 * (Z.N - (m : Int)) + 3
    omega
  | some i =>
    rw [mu_in ho' hi]
    obtain ⟨k, k0, k1, at_, si, sl, hc⟩ := h.inner i hi
    have hp := at_.passed
    rcases hc with ⟨_, a, _⟩ | ar
    · rw [muI_again a]; omega
    · have ha : ¬ 0 < i.again := by have := ar.again; omega
      cases no : i.noted with
      | none => rw [muI_none ha no]; split <;> omega
      | some e =>
        obtain ⟨_, k2, _⟩ := ar.got e no
        have := one_le i.out
        rw [muI_noted ha no]; omega
theorem mu_most (z : Z.Ok) (h : Inv Z way often m st) : mu Z.N st ≤ 5003 := by
  by_cases ho : isOver st = true
  · rw [mu_over ho]; decide
  have ho' := over_none h (by cases hx : isOver st with | true => exact absurd hx ho | false => rfl)
  have n1 := z.le
  have jl := h.jl
  have mN := h.mN
  cases hi : st.inner with
  | none =>
    rw [mu_no ho' hi, h.mark]
    show ((st.jots.length : Nat) : Int) + 4 * (Z.N - (m : Int)) + 3 ≤ 5003
    omega
  | some i =>
    rw [mu_in ho' hi]
    obtain ⟨k, k0, k1, at_, si, sl, hc⟩ := h.inner i hi
    have hp := at_.passed
    rcases hc with ⟨_, a, b, _⟩ | ar
    · rw [muI_again a]; omega
    · have ha : ¬ 0 < i.again := by have := ar.again; omega
      have := muI_le (N := Z.N) (often := st.often) ha
      omega
/-! ### as the walk asks -/
theorem Inv.ok (z : Z.Ok) (hw : way = backW ∨ way = onW) (h : Inv Z way often m st) : WorkOk Z.nN Z.nF st where
  rows := by rw [h.rows]; exact z.rok
  handed := by rw [h.handed]; exact z.hh
  held := h.hok
  mark := by
    have t := z.tok h.mN
    rw [h.mark, h.handed, h.rows]
    exact ⟨t.row, t.names, t.taken⟩
  jots := fun e he => by
    rw [h.handed, h.rows]
    rcases hw with hw | hw
    · obtain ⟨k, _, k1, rfl, _⟩ := (h.back hw).2 e he
      exact z.eok k1
    · obtain ⟨q, q1, q2, q3, q4, q5, q6⟩ := h.on hw
      obtain ⟨j, hj⟩ := List.mem_iff_getElem?.mp he
      obtain ⟨hl, _⟩ := List.getElem?_eq_some_iff.mp hj
      rw [q5 j hl] at hj
      cases hj
      exact z.eok (by omega)
  back := fun hb e he => by
    obtain ⟨k, _, k1, rfl, f⟩ := (h.back (h.wayE.symm.trans hb)).2 e he
    exact f
  inner := fun i hi => by
    obtain ⟨k, k0, k1, at_, si, sl, hc⟩ := h.inner i hi
    have t := z.tok k1
    rw [h.handed, h.rows]
    refine ⟨by rw [at_.row]; exact t.row, by rw [at_.names]; exact t.names, by rw [at_.taken]; exact t.taken, fun e he => ?_, ?_⟩
    · rcases hc with ⟨_, _, _, no, _⟩ | ar
      · rw [no] at he; cases he
      · obtain ⟨rfl, k2, _⟩ := ar.got e he
        exact z.eok k2
    · rcases hc with ⟨_, a, b, no, _⟩ | ar
      · omega
      · have := ar.again
        omega
theorem inv_new (z : Z.Ok) {p : Prog} {hs : List Int} (e1 : p.rows = Z.rows) (e2 : hs = Z.hs) (e3 : Z.r0 = run0 p) : Inv Z way often 0 (newW p hs way often) where
  rows := e1
  handed := e2
  wayE := rfl
  oftenE := rfl
  mN := Nat.zero_le _
  mark := by
    show MarkS.mk 0 (List.replicate p.names.toNat 0) 0 0 0 = ⟨Z.r0.row, Z.r0.names, Z.r0.taken, ((0 : Nat) : Int), Z.r0.sent.length⟩
    rw [e3]; rfl
  sent := List.nil_prefix
  sentm := by show Z.r0.sent.length ≤ _; rw [e3]; exact Nat.zero_le _
  hok := by
    have := z.r0ok.files
    rw [e3] at this
    exact this
  jl := by show ((([] : List Eff).length : Nat) : Int) ≤ _; simp
  back := fun _ => ⟨by show _ = Z.r0.files; rw [e3]; rfl, (fun e he => nomatch he)⟩
  on := fun _ => ⟨0, rfl, Nat.zero_le _, by show _ = Z.r0.files; rw [e3]; rfl, .inl rfl, (fun j hj => absurd hj (Nat.not_lt_zero _)), by show Z.r0.sent.length ≤ _; rw [e3]; exact Nat.zero_le _⟩
  inner := fun i hi => by
    cases hi
    refine ⟨0, Nat.le_refl _, Nat.zero_le _, ⟨by show _ = Z.r0.row; rw [e3]; rfl, by show _ = Z.r0.names; rw [e3]; rfl, by show _ = Z.r0.taken; rw [e3]; rfl, rfl, by show _ = ((Z.r0.sent.length : Nat) : Int); rw [e3]; rfl⟩, by show (0 : Int) = _; simp, by show Z.r0.sent.length ≤ _; rw [e3]; exact Nat.zero_le _, .inr ⟨by show _ = Z.r0.files; rw [e3]; rfl, rfl, fun _ => ⟨rfl, fun _ => rfl⟩, fun _ _ => Int.le_refl _, fun _ => rfl, (fun e he => nomatch he)⟩⟩
  over := .inl rfl
theorem sent_len (z : Z.Ok) : ∀ k, (Z.T k).sent.length ≤ k
  | 0 => by show Z.r0.sent.length ≤ 0; rw [z.s0]; exact Nat.le_refl _
  | k + 1 => by
    have ih := sent_len z k
    rw [Z.sent_succ]
    unfold putSent
    cases (Z.E k).letter with
    | none => exact Nat.le_succ_of_le ih
    | some v => rw [List.length_append]; exact Nat.succ_le_succ ih
theorem Inv.room (z : Z.Ok) (h : Inv Z way often m st) : st.letters.length ≤ 1000 ∧ st.jots.length ≤ 1000 := by
  have h1 := h.sent.length_le
  have h2 := sent_len z Z.N
  have h3 := z.le
  have h4 := h.jl
  exact ⟨by omega, by omega⟩
theorem mk_run {p : Prog} {hs : List Int} (hp : p.ok) (hh : HandedOk hs) : ∃ Z : Rn, Z.Ok ∧ Z.rows = p.rows ∧ Z.hs = hs ∧ Z.r0 = run0 p ∧ Z.nN = p.names.toNat ∧ Z.nF = p.files.toNat ∧ runW p hs = (Z.how, Z.T Z.N, 1000 - Z.N) := by
  obtain ⟨N, how, a, b, c, d⟩ := run_ends p.rows hs (run0 p) 1000 0 rfl (fun j hj => absurd hj (Nat.not_lt_zero _))
  have hn := hp.n
  have hf := hp.f
  refine ⟨⟨p.rows, hs, run0 p, N, how, p.names.toNat, p.files.toNat⟩, ⟨a, b, c, fun r hr => ?_, fun x hx => (hh.2 x hx).1, ?_, rfl⟩, rfl, rfl, rfl, rfl, rfl, d⟩
  · show r.ok ((p.names.toNat : Nat) : Int) ((p.files.toNat : Nat) : Int) p.rows.length
    rw [toNat_cast (by omega), toNat_cast (by omega)]
    exact hp.r r hr
  · refine ⟨⟨Int.le_refl _, by show (0 : Int) ≤ _; omega⟩, ⟨Int.le_refl _, by show (0 : Int) ≤ _; omega⟩, ⟨List.length_replicate, fun x hx => ?_⟩, List.length_replicate, fun f hf => ?_⟩
    · rw [List.eq_of_mem_replicate hx]; exact Int.le_refl _
    · rw [List.eq_of_mem_replicate hf]; exact ⟨Nat.zero_le _, NN.nil⟩
end
end PM
set_option Elab.async false
set_option linter.all false
set_option maxRecDepth 100000
set_option maxHeartbeats 4000000
/-! The mathematics of works: what moves tell, as data. -/
namespace PM
open PySem PySem.Spec PyProof.Rows L2 DL
abbrev restsD : PyData := told1 "rests"
def faults : List Str := ["none", "place", "full"]
theorem fault_ok {row : PRow} {at_ taken : Int} {ns hs : List Int} {fs : List (List Int)} {f : Str} (h : (effect row at_ taken ns hs fs).fault = some f) : f ∈ faults := by
  have m1 : ("none" : Str) ∈ faults := List.mem_cons_self
  have m2 : ("place" : Str) ∈ faults := List.mem_cons_of_mem _ List.mem_cons_self
  have m3 : ("full" : Str) ∈ faults := List.mem_cons_of_mem _ (List.mem_cons_of_mem _ List.mem_cons_self)
  cases row with
  | take n =>
    by_cases e : taken = (hs.length : Int)
    · have e2 : effect (.take n) at_ taken ns hs fs = _ := if_pos e
      rw [e2] at h
      cases h; exact m1
    · have e2 : effect (.take n) at_ taken ns hs fs = _ := if_neg e
      rw [e2] at h
      cases h
  | get n fl p =>
    by_cases e : ((fs.getD fl.toNat []).length : Int) ≤ p.worth ns
    · have e2 : effect (.get n fl p) at_ taken ns hs fs = _ := if_pos e
      rw [e2] at h
      cases h; exact m2
    · have e2 : effect (.get n fl p) at_ taken ns hs fs = _ := if_neg e
      rw [e2] at h
      cases h
  | add fl p =>
    have e2 : effect (.add fl p) at_ taken ns hs fs = changedE (if (fs.getD fl.toNat []).length = 40 then { eff0 (at_ + 1) taken with fault := some "full" } else eff0 (at_ + 1) taken) fl (fs.getD fl.toNat []) (fs.getD fl.toNat []).length [p.worth ns] := rfl
    rw [e2] at h
    split at h
    · cases h; exact m3
    · cases h
  | put fl p q =>
    have e2 : effect (.put fl p q) at_ taken ns hs fs = changedE (if ((fs.getD fl.toNat []).length : Int) ≤ p.worth ns then { eff0 (at_ + 1) taken with fault := some "place" } else eff0 (at_ + 1) taken) fl (fs.getD fl.toNat []) (p.worth ns).toNat (q.worth ns :: (fs.getD fl.toNat []).drop ((p.worth ns).toNat + 1)) := rfl
    rw [e2] at h
    split at h
    · cases h; exact m2
    · cases h
  | unl n r =>
    by_cases e : ns.getD n.toNat 0 = 0
    · have e2 : effect (.unl n r) at_ taken ns hs fs = _ := if_pos e
      rw [e2] at h
      cases h
    · have e2 : effect (.unl n r) at_ taken ns hs fs = _ := if_neg e
      rw [e2] at h
      cases h
  | _ => cases h
/-- data that may be compared -/
structure Shp (d : PyData) (n : Nat) : Prop where
  lay : d.canLay0 = true
  deep : d.depth ≤ n
theorem Shp.shaped {d : PyData} {n : Nat} (h : Shp d n) (hn : n ≤ 64) : SeqAt.shaped d = true := shaped_mk h.lay (Nat.le_trans h.deep hn)
theorem Shp.mono {d : PyData} {n m : Nat} (h : Shp d n) (hn : n ≤ m) : Shp d m := ⟨h.lay, Nat.le_trans h.deep hn⟩
theorem Shp.refl {d : PyData} {n : Nat} (h : Shp d n) : PyData.eqv d d = true := SeqAt.eqv_refl d h.lay
theorem Shp.eq {d e : PyData} {n : Nat} (h : Shp d n) (g : Shp e n) (hn : n ≤ 64) : eqOk d e = true := eqOk_mk (h.shaped hn) (g.shaped hn)
theorem shp_int (i : Int) : Shp (.int i) 0 := ⟨by rw [PyData.canLay0], by rw [PyData.depth]; exact Nat.le_refl _⟩
theorem shp_none : Shp .none 0 := ⟨by rw [PyData.canLay0], by rw [PyData.depth]; exact Nat.le_refl _⟩
theorem shp_str {s : Str} (h : (PyData.str s).canLay0 = true) : Shp (.str s) 0 := ⟨h, by rw [PyData.depth]; exact Nat.le_refl _⟩
theorem shp_tuple {xs : List PyData} {n : Nat} (h : ∀ x ∈ xs, Shp x n) : Shp (.tuple xs) (n + 1) := ⟨by rw [PyData.canLay0]; exact lay_all fun x hx => (h x hx).lay, by rw [PyData.depth]; have := depth_all fun x hx => (h x hx).deep; omega⟩
theorem shp_list {xs : List PyData} {n : Nat} (h : ∀ x ∈ xs, Shp x n) : Shp (.list xs) (n + 1) := ⟨by rw [PyData.canLay0]; exact lay_all fun x hx => (h x hx).lay, by rw [PyData.depth]; have := depth_all fun x hx => (h x hx).deep; omega⟩
theorem all_nil {n : Nat} : ∀ x ∈ ([] : List PyData), Shp x n := fun x hx => nomatch hx
theorem all_cons {n : Nat} {d : PyData} {xs : List PyData} (h : Shp d n) (g : ∀ x ∈ xs, Shp x n) : ∀ x ∈ d :: xs, Shp x n := fun x hx => by
  rcases List.mem_cons.mp hx with rfl | hx
  · exact h
  · exact g x hx
theorem shp_ints (ns : List Int) : Shp (lstI ns) 1 := shp_list fun x hx => by
  obtain ⟨i, _, rfl⟩ := List.mem_map.mp hx
  exact shp_int i
theorem shp_files (fs : List (List Int)) : Shp (filesD fs) 2 := shp_list fun x hx => by
  obtain ⟨i, _, rfl⟩ := List.mem_map.mp hx
  exact shp_ints i
theorem shp_rests : Shp restsD 1 := shp_tuple (all_cons (shp_str (by decide +kernel)) all_nil)
theorem shp_fault {f : Str} (h : f ∈ faults) : Shp (.str f) 0 := by
  rcases List.mem_cons.mp h with rfl | h
  · exact shp_str (by decide +kernel)
  rcases List.mem_cons.mp h with rfl | h
  · exact shp_str (by decide +kernel)
  cases List.mem_singleton.mp h
  exact shp_str (by decide +kernel)
theorem shp_end : Shp (told1 "end") 1 := shp_tuple (all_cons (shp_str (by decide +kernel)) all_nil)
theorem shp_long : Shp (told1 "long") 1 := shp_tuple (all_cons (shp_str (by decide +kernel)) all_nil)
theorem shp_flt {f : Str} (h : f ∈ faults) : Shp (.tuple [.str "fault", .str f]) 1 := shp_tuple (all_cons (shp_str (by decide +kernel)) (all_cons (shp_fault h) all_nil))
theorem shp_how {Z : Rn} (z : Z.Ok) : Shp Z.how 1 := by
  have a := z.at_
  unfold stopAt at a
  split at a
  · rw [← Option.some.inj a]; exact shp_end
  · split at a
    · rw [← Option.some.inj a]; exact shp_long
    · cases hf : (runEff Z.rows Z.hs (Z.T Z.N)).fault with
      | none => rw [hf] at a; cases a
      | some f =>
        rw [hf] at a
        rw [← Option.some.inj a]
        exact shp_flt (fault_ok hf)
/-- what a move tells, other than that it rests -/
structure Told (d : PyData) : Prop where
  shp : Shp d 2
  ne : PyData.eqv d restsD = false
theorem ne_two (a b c : PyData) : PyData.eqv (.tuple [a, b]) (.tuple [c]) = false := by
  simp [PyData.eqv, PyData.eqvAll]
theorem told_2 {w : Str} {n : Int} (h : (PyData.str w).canLay0 = true) : Told (told2 w n) := ⟨shp_tuple (n := 1) (all_cons ((shp_str h).mono (by decide)) (all_cons ((shp_int n).mono (by decide)) all_nil)), ne_two _ _ _⟩
theorem told_ends {d : PyData} (h : Shp d 1) : Told (.tuple [.str "ends", d]) := ⟨shp_tuple (n := 1) (all_cons ((shp_str (by decide +kernel)).mono (by decide)) (all_cons h all_nil)), ne_two _ _ _⟩
theorem told_done (st : WorkS) (i : InnerS) (e : Eff) : Told (doneW st i e).1 := by
  have hd : Told (doesW st i e).1 := told_2 (by decide +kernel)
  unfold doneW
  cases e.letter with
  | none => exact hd
  | some v =>
    cases i.out with
    | true => exact hd
    | false =>
      dsimp only
      unfold sendsW
      split
      · exact told_2 (by decide +kernel)
      · exact told_2 (by decide +kernel)
theorem told_begin (st : WorkS) (i : InnerS) : Told (beginW st i).1 := by
  unfold beginW
  split
  · exact told_ends shp_end
  split
  · exact told_ends shp_long
  split
  · exact told_2 (by decide +kernel)
  split
  · rename_i f hf
    exact told_ends (shp_flt (fault_ok hf))
  split
  · exact told_2 (by decide +kernel)
  split
  · exact told_2 (by decide +kernel)
  · exact told_done _ _ _
theorem told_move {st : WorkS} (ho : isOver st = false) : Told (moveW st).1 := by
  unfold moveW
  rw [if_neg (by rw [ho]; exact Bool.false_ne_true)]
  cases st.inner with
  | none =>
    dsimp only
    unfold riseW
    split
    · split
      · exact told_2 (by decide +kernel)
      · exact told_2 (by decide +kernel)
    · exact told_2 (by decide +kernel)
  | some i =>
    dsimp only
    split
    · unfold goW
      dsimp only
      split
      · exact told_2 (by decide +kernel)
      · exact told_2 (by decide +kernel)
    · split
      · exact told_done _ _ _
      · exact told_begin _ _
theorem move_over {st : WorkS} (ho : isOver st = true) : moveW st = (restsD, st) := by
  unfold moveW
  rw [if_pos ho]
theorem inner_done {st : WorkS} {i : InnerS} (e : Eff) : ∃ j, (doneW st i e).2.inner = some j := by
  unfold doneW
  cases e.letter with
  | none => exact ⟨_, rfl⟩
  | some v =>
    cases i.out with
    | true => exact ⟨_, rfl⟩
    | false =>
      dsimp only
      unfold sendsW
      split
      · exact ⟨_, rfl⟩
      · exact ⟨_, rfl⟩
theorem inner_move {st : WorkS} {i : InnerS} (hi : st.inner = some i) : ∃ j, (moveW st).2.inner = some j := by
  unfold moveW
  split
  · exact ⟨i, hi⟩
  rw [hi]
  dsimp only
  split
  · unfold goW
    dsimp only
    split
    · exact ⟨_, rfl⟩
    · exact ⟨_, rfl⟩
  · split
    · exact inner_done _
    · unfold beginW
      split
      · exact ⟨i, hi⟩
      split
      · exact ⟨i, hi⟩
      split
      · exact ⟨_, rfl⟩
      split
      · exact ⟨i, hi⟩
      split
      · exact ⟨_, rfl⟩
      split
      · exact ⟨_, rfl⟩
      · exact inner_done _
theorem over_in {Z : Rn} {way : Str} {often : Int} {m : Nat} {st : WorkS} (h : Inv Z way often m st) (ho : isOver st = false) : isOver (moveW st).2 = true → ∃ i, (moveW st).2.inner = some i := fun h2 => by
  cases hi : st.inner with
  | some i => exact inner_move hi
  | none =>
    exfalso
    have e : (moveW st).2.over = st.over := by
      unfold moveW
      rw [if_neg (by rw [ho]; exact Bool.false_ne_true), hi]
      dsimp only
      unfold riseW
      split
      · split <;> rfl
      · rfl
    have := notOver (e.trans (over_none h ho))
    rw [this] at h2
    cases h2
end PM
set_option Elab.async false
set_option linter.all false
set_option maxRecDepth 100000
set_option maxHeartbeats 4000000
/-! Each move, told by what it is. -/
namespace PM
open PySem PySem.Spec PyProof.Rows L2 DL

structure Here (Z : Rn) (way : Str) (m k : Nat) (st : WorkS) (i : InnerS) : Prop where
  ho : st.over = .none
  hi : st.inner = some i
  k0 : m ≤ k
  k1 : k ≤ Z.N
  at_ : At Z k i
  si : i.since = (k : Int) - m
  sl : (Z.T k).sent.length ≤ st.letters.length
  ar : AtRow Z way m k st i
def Seldom (often : Int) (i : InnerS) : Prop := 0 < often ∧ often ≤ i.since
def Noted (Z : Rn) (way : Str) (often : Int) (k : Nat) (i : InnerS) : Prop := i.noted = some (Z.E k) ∨ i.noted = none ∧ way = backW ∧ (Z.E k).file = none ∧ ¬ Seldom often i ∧ isMark (rowAt Z.rows (Z.T k).row) = false
inductive Mv (Z : Rn) (way : Str) (often : Int) (m : Nat) (st : WorkS) : PyData → WorkS → Prop
  | rests (ho : isOver st = true) : Mv Z way often m st restsD st
  | back (js : List Eff) (e : Eff) (f : Int) (ho : st.over = .none) (hi : st.inner = none) (hw : way = backW) (hj : st.jots = js ++ [e]) (hf : e.file = some f) : Mv Z way often m st (told2 "back" f) { st with jots := js, held := putFile st.held (some f) e.pos e.old }
  | rises (ho : st.over = .none) (hi : st.inner = none) (hw : way = onW ∨ st.jots = []) : Mv Z way often m st (told2 "rises" st.mark.row) { st with inner := some (mkInner st.mark st.jots.length) }
  | again (i j : InnerS) (ho : st.over = .none) (hi : st.inner = some i) (hw : way = onW) (ha : 0 < i.again) (no : i.noted = none) (ou : i.out = false) (ja : j.again = i.again - 1) (jo : j.out = false) : Mv Z way often m st (told2 "again" i.row) { st with inner := some j }
  | sends (i : InnerS) (k : Nat) (v : Int) (h : Here Z way m k st i) (k2 : k < Z.N) (nt : Noted Z way often k i) (ou : i.out = false) (hv : (Z.E k).letter = some v) (hl : st.letters.length = (Z.T k).sent.length) :
      Mv Z way often m st (told2 "sends" i.row) { st with inner := some { i with noted := some (Z.E k), out := true }, letters := st.letters ++ [v] }
  | skips (i : InnerS) (k : Nat) (v : Int) (h : Here Z way m k st i) (k2 : k < Z.N) (nt : Noted Z way often k i) (ou : i.out = false) (hv : (Z.E k).letter = some v) (hl : (Z.T k).sent.length < st.letters.length) :
      Mv Z way often m st (told2 "skips" i.row) { st with inner := some { i with noted := some (Z.E k), out := true } }
  | does (i : InnerS) (k : Nat) (h : Here Z way m k st i) (k2 : k < Z.N) (nt : Noted Z way often k i) (ol : (Z.E k).letter = none ∨ i.out = true) :
      Mv Z way often m st (told2 "does" i.row) { st with held := putFile st.held (Z.E k).file (Z.E k).pos (Z.E k).new, made := st.jots.length, inner := some (takeOver (Z.E k) { i with noted := none, out := false }), count := st.count + 1 }
  | ends (i : InnerS) (h : Here Z way m Z.N st i) (no : i.noted = none) (hs : Z.how = told1 "end" ∨ Z.how = told1 "long" ∨ ¬ Seldom often i ∧ ∃ f, Z.how = .tuple [.str "fault", .str f]) : Mv Z way often m st (.tuple [.str "ends", Z.how]) { st with over := Z.how }
  | marks (i : InnerS) (k : Nat) (h : Here Z way m k st i) (no : i.noted = none) (hr : (Z.T k).row < Z.rows.length) (k3 : k ≠ 1000) (sd : Seldom often i) : Mv Z way often m st (told2 "marks" i.row) (keepW st i).2
  | markr (i : InnerS) (k : Nat) (h : Here Z way m k st i) (no : i.noted = none) (k2 : k < Z.N) (sd : ¬ Seldom often i) (hm : rowAt Z.rows (Z.T k).row = .mark) :
      Mv Z way often m st (told2 "marks" (takeOver (Z.E k) i).row) (keepW { st with count := st.count + 1 } (takeOver (Z.E k) i)).2
  | notes (i : InnerS) (k : Nat) (h : Here Z way m k st i) (no : i.noted = none) (k2 : k < Z.N) (sd : ¬ Seldom often i) (nm : isMark (rowAt Z.rows (Z.T k).row) = false) (hc : way = onW ∨ changes (rowAt Z.rows (Z.T k).row) = true) :
      Mv Z way often m st (told2 "notes" i.row) { st with jots := st.jots ++ [Z.E k], inner := some { i with noted := some (Z.E k) } }
section
variable {Z : Rn} {way : Str} {often : Int} {m : Nat} {st : WorkS} {i : InnerS}
/-- the mark's place is told by the state -/
theorem Inv.at_mark (h : Inv Z way often m st) : st.mark.passed = m := by rw [h.mark]; rfl
theorem Inv.here (h : Inv Z way often m st) (ho : st.over = .none) (hi : st.inner = some i) (ha : ¬ 0 < i.again) : ∃ k, Here Z way m k st i := by
  obtain ⟨k, k0, k1, at_, si, sl, hc⟩ := h.inner i hi
  rcases hc with ⟨_, a, _⟩ | ar
  · exact absurd a ha
  exact ⟨k, ho, hi, k0, k1, at_, si, sl, ar⟩
theorem mv_done {k : Nat} (h : Here Z way m k st i) (hs : st.letters <+: (Z.T Z.N).sent) (k2 : k < Z.N) (nt : Noted Z way often k i) (st2 : WorkS) (i2 : InnerS) (e1 : i2 = { i with noted := some (Z.E k) }) (e2 : st2 = { st with inner := some i2 }) : Mv Z way often m st (doneW st2 i2 (Z.E k)).1 (doneW st2 i2 (Z.E k)).2 := by
  subst e1
  subst e2
  unfold doneW
  cases hv : (Z.E k).letter with
  | none => exact .does i k h k2 nt (.inl hv)
  | some v =>
    cases ou : i.out with
    | true => exact .does i k h k2 nt (.inr ou)
    | false =>
      dsimp only
      unfold sendsW
      have el : i.letters = ((Z.T k).sent.length : Int) := h.at_.letters
      have sl := h.sl
      by_cases c : i.letters < st.letters.length
      · rw [if_pos c]
        exact .skips i k v h k2 nt ou hv (by omega)
      · rw [if_neg c]
        exact .sends i k v h k2 nt ou hv (by omega)
theorem mv_begin (z : Z.Ok) (hw : way = backW ∨ way = onW) (h : Inv Z way often m st) (ho : st.over = .none) (hi : st.inner = some i) (ha : ¬ 0 < i.again) (no : i.noted = none) : Mv Z way often m st (beginW st i).1 (beginW st i).2 := by
  obtain ⟨k, hh⟩ := h.here ho hi ha
  have at_ := hh.at_
  have ar := hh.ar
  have k1 := hh.k1
  have ou := ar.nil_ no
  have tk := z.tok k1
  unfold beginW
  by_cases c1 : i.row = st.rows.length
  · rw [if_pos c1]
    obtain ⟨rfl, e⟩ := stop_end z k1 (by rw [← at_.row, c1, h.rows]; omega)
    have q : Mv Z way often m st (.tuple [.str "ends", Z.how]) { st with over := Z.how } := .ends i hh no (.inl e)
    rw [e] at q
    exact q
  rw [if_neg c1]
  have hr : (Z.T k).row < Z.rows.length := by
    rw [h.rows, at_.row] at c1
    have := tk.row
    omega
  by_cases c2 : i.passed = 1000
  · rw [if_pos c2]
    obtain ⟨rfl, e⟩ := stop_long z k1 hr (by have := at_.passed; omega)
    have q : Mv Z way often m st (.tuple [.str "ends", Z.how]) { st with over := Z.how } := .ends i hh no (.inr (.inl e))
    rw [e] at q
    exact q
  rw [if_neg c2]
  have hk : k ≠ 1000 := by have := at_.passed; omega
  have eo := h.oftenE
  by_cases c3 : 0 < st.often ∧ st.often ≤ i.since
  · rw [if_pos c3]
    exact .marks i k hh no hr hk (by rw [eo] at c3; exact c3)
  have sd : ¬ Seldom often i := by rw [eo] at c3; exact c3
  rw [if_neg c3, at_.eff h.rows h.handed ar.held]
  cases hf : (Z.E k).fault with
  | some f =>
    obtain ⟨rfl, e⟩ := stop_fault z k1 hr hk hf
    dsimp only
    have q : Mv Z way often m st (.tuple [.str "ends", Z.how]) { st with over := Z.how } := .ends i hh no (.inr (.inr ⟨sd, f, e⟩))
    rw [e] at q
    exact q
  | none =>
    have k2 := stop_not z k1 hr hk hf
    dsimp only
    have er : rowAt st.rows i.row = rowAt Z.rows (Z.T k).row := by rw [h.rows, at_.row]
    rw [er]
    by_cases c4 : isMark (rowAt Z.rows (Z.T k).row) = true
    · rw [if_pos c4]
      have em : rowAt Z.rows (Z.T k).row = .mark := by
        cases hx : rowAt Z.rows (Z.T k).row <;> rw [hx] at c4 <;> first | rfl | cases c4
      exact .markr i k hh no k2 sd em
    · have nm : isMark (rowAt Z.rows (Z.T k).row) = false := by
        cases hx : isMark (rowAt Z.rows (Z.T k).row) with
        | true => exact absurd hx c4
        | false => rfl
      rw [if_neg c4]
      by_cases c5 : st.way = onW ∨ changes (rowAt Z.rows (Z.T k).row) = true
      · rw [if_pos c5]
        exact .notes i k hh no k2 sd nm (by rw [h.wayE] at c5; exact c5)
      · rw [if_neg c5]
        have hb : way = backW := hw.resolve_right fun z => c5 (.inl (h.wayE.trans z))
        have fn : (Z.E k).file = none := by
          cases hx : (Z.E k).file with
          | none => rfl
          | some f => exact absurd (.inr (z.file k2 hx).2.2) c5
        exact mv_done hh h.sent k2 (.inr ⟨no, hb, fn, sd, nm⟩) _ _ rfl rfl
theorem mv_move (z : Z.Ok) (hw : way = backW ∨ way = onW) (h : Inv Z way often m st) : Mv Z way often m st (moveW st).1 (moveW st).2 := by
  unfold moveW
  by_cases ho : isOver st = true
  · rw [if_pos ho]; exact .rests ho
  rw [if_neg ho]
  have ho' := over_none h (by cases hx : isOver st with | true => exact absurd hx ho | false => rfl)
  cases hi : st.inner with
  | none =>
    dsimp only
    unfold riseW
    cases hl : st.jots.getLast? with
    | none =>
      have hj : st.jots = [] := List.getLast?_eq_none_iff.mp hl
      exact .rises ho' hi (.inr hj)
    | some e =>
      dsimp only
      obtain ⟨js, hj⟩ := List.getLast?_eq_some_iff.mp hl
      by_cases hb : st.way = backW
      · rw [if_pos hb]
        have hb' : way = backW := h.wayE.symm.trans hb
        obtain ⟨_, _, _, _, f, hf⟩ := (h.back hb').2 e (by rw [hj]; exact List.mem_append_right _ List.mem_cons_self)
        have q : Mv Z way often m st (told2 "back" f) { st with jots := js, held := putFile st.held (some f) e.pos e.old } := .back js e f ho' hi hb' hj hf
        have ej : st.jots.dropLast = js := by rw [hj, List.dropLast_concat]
        rw [hf, ej]
        exact q
      · rw [if_neg hb]
        exact .rises ho' hi (.inl (hw.resolve_left fun z => hb (h.wayE.trans z)))
  | some i =>
    dsimp only
    by_cases ha : 0 < i.again
    · rw [if_pos ha]
      obtain ⟨k, k0, k1, at_, si, sl, hc⟩ := h.inner i hi
      rcases hc with ⟨a1, a2, a3, a4, a5, a6⟩ | ar
      · unfold goW
        dsimp only
        split
        · exact .again i _ ho' hi a1 ha a4 a5 rfl a5
        · exact .again i _ ho' hi a1 ha a4 a5 rfl a5
      · have := ar.again
        omega
    rw [if_neg ha]
    cases no : i.noted with
    | none => exact mv_begin z hw h ho' hi ha no
    | some e =>
      obtain ⟨k, hh⟩ := h.here ho' hi ha
      obtain ⟨rfl, k2, _⟩ := hh.ar.got e no
      have ei : i = { i with noted := some (Z.E k) } := by
        cases i
        cases no
        rfl
      exact mv_done hh h.sent k2 (.inl no) st i ei (by
        cases st
        cases (show _ = some i from hi)
        rfl)
end
end PM
set_option Elab.async false
set_option linter.all false
set_option maxRecDepth 100000
set_option maxHeartbeats 4000000
/-! What the laws ask of each move. -/
namespace PM
open PySem PySem.Spec PyProof.Rows L2 DL

def moveWords : List Str := ["rests", "back", "rises", "again", "sends", "skips", "does", "ends", "marks", "notes"]
theorem eqv_str (a b : Str) : PyData.eqv (.str a) (.str b) = decide (a = b) := by
  unfold PyData.eqv
  by_cases h : a = b
  · subst h; simp
  · simp [h]
theorem eqI (a b : Int) : PyData.eqv (.int a) (.int b) = decide (a = b) := by
  unfold PyData.eqv
  by_cases h : a = b
  · subst h; simp
  · simp [h]
theorem lay_word {w : Str} (h : w ∈ moveWords) : (PyData.str w).canLay0 = true := by
  unfold moveWords at h
  simp only [List.mem_cons, List.not_mem_nil, or_false] at h
  rcases h with rfl | rfl | rfl | rfl | rfl | rfl | rfl | rfl | rfl | rfl <;> decide +kernel
theorem shp_word {w : Str} (h : w ∈ moveWords) : Shp (.str w) 0 := shp_str (lay_word h)
section
variable {Z : Rn} {way : Str} {often : Int} {m : Nat} {st st' : WorkS} {i : InnerS} {d : PyData}
def OutS (st : WorkS) : Prop := st.over = .none ∧ ∃ i, st.inner = some i ∧ i.out = true
/-- letters: one goes out just by sends; behind sends, skips the row is done -/
theorem mv_letters (mv : Mv Z way often m st d st') : ∃ (w : Str) (xs : List PyData), d = .tuple (.str w :: xs) ∧ w ∈ moveWords ∧
    ((w = "sends" ∧ st'.letters.length = st.letters.length + 1) ∨ (w ≠ "sends" ∧ st'.letters = st.letters)) ∧ (w = "sends" ∨ w = "skips" → OutS st') ∧ (OutS st → w = "does") := by
  have no : ∀ {w : Str}, w ≠ "sends" → w ≠ "skips" → (w = "sends" ∨ w = "skips" → OutS st') := fun h1 h2 h => (h.elim h1 h2).elim
  cases mv with
  | rests ho => exact ⟨_, _, rfl, by decide, .inr ⟨by decide, rfl⟩, no (by decide) (by decide), fun ⟨h, _⟩ => by rw [notOver h] at ho; cases ho⟩
  | back js e f ho hi hw hj hf => exact ⟨_, _, rfl, by decide, .inr ⟨by decide, rfl⟩, no (by decide) (by decide), fun ⟨_, i, h, _⟩ => by rw [hi] at h; cases h⟩
  | rises ho hi hw => exact ⟨_, _, rfl, by decide, .inr ⟨by decide, rfl⟩, no (by decide) (by decide), fun ⟨_, i, h, _⟩ => by rw [hi] at h; cases h⟩
  | again i j ho hi hw ha nn ou ja jo => exact ⟨_, _, rfl, by decide, .inr ⟨by decide, rfl⟩, no (by decide) (by decide), fun ⟨_, i, h, o⟩ => by rw [hi] at h; cases h; rw [ou] at o; cases o⟩
  | sends i k v h k2 nt ou hv hl => exact ⟨_, _, rfl, by decide, .inl ⟨rfl, by show (st.letters ++ [v]).length = _; simp⟩, fun _ => ⟨h.ho, _, rfl, rfl⟩, fun ⟨_, i, g, o⟩ => by rw [h.hi] at g; cases g; rw [ou] at o; cases o⟩
  | skips i k v h k2 nt ou hv hl => exact ⟨_, _, rfl, by decide, .inr ⟨by decide, rfl⟩, fun _ => ⟨h.ho, _, rfl, rfl⟩, fun ⟨_, i, g, o⟩ => by rw [h.hi] at g; cases g; rw [ou] at o; cases o⟩
  | does i k h k2 nt ol => exact ⟨_, _, rfl, by decide, .inr ⟨by decide, rfl⟩, no (by decide) (by decide), fun _ => rfl⟩
  | ends i h nn hs => exact ⟨_, _, rfl, by decide, .inr ⟨by decide, rfl⟩, no (by decide) (by decide), fun ⟨_, i, g, o⟩ => by rw [h.hi] at g; cases g; rw [h.ar.nil_ nn] at o; cases o⟩
  | marks i k h nn hr k3 sd => exact ⟨_, _, rfl, by decide, .inr ⟨by decide, rfl⟩, no (by decide) (by decide), fun ⟨_, i, g, o⟩ => by rw [h.hi] at g; cases g; rw [h.ar.nil_ nn] at o; cases o⟩
  | markr i k h nn k2 sd hm => exact ⟨_, _, rfl, by decide, .inr ⟨by decide, rfl⟩, no (by decide) (by decide), fun ⟨_, i, g, o⟩ => by rw [h.hi] at g; cases g; rw [h.ar.nil_ nn] at o; cases o⟩
  | notes i k h nn k2 sd nm hc => exact ⟨_, _, rfl, by decide, .inr ⟨by decide, rfl⟩, no (by decide) (by decide), fun ⟨_, i, g, o⟩ => by rw [h.hi] at g; cases g; rw [h.ar.nil_ nn] at o; cases o⟩
/-! ### rows that are done -/
structure Cnt (way : Str) (m : Nat) (st : WorkS) : Prop where
  on : way = onW → st.count = m + st.made
  lo : (m : Int) ≤ st.count
  inn : ∀ i, st.inner = some i → i.passed ≤ st.count
def Calm (st : WorkS) : Prop := ∃ i, st.inner = some i ∧ st.count = i.passed
theorem cnt_fall (h : Cnt way m st) : Cnt way m (fallW st) := ⟨h.on, h.lo, fun i e => by cases e⟩
theorem mv_count {m' : Nat} (h : Inv Z way often m st) (mv : Mv Z way often m st d st') (h' : Inv Z way often m' st') (c : Cnt way m st) : ∃ (w : Str) (xs : List PyData), d = .tuple (.str w :: xs) ∧ w ∈ moveWords ∧ Cnt way m' st' ∧
    ((w = "does" ∧ st'.count = st.count + 1 ∧ (way = onW → st'.made = st.made + 1)) ∨ (w = "marks" ∧ (st'.count = st.count ∨ st'.count = st.count + 1) ∧ st'.made = 0) ∨ (w ≠ "does" ∧ w ≠ "marks" ∧ st'.count = st.count ∧ st'.made = st.made)) ∧ (way = backW → Calm st → Calm st') := by
  have hm := h.at_mark
  have hm' := h'.at_mark
  have fin : ∀ {w : Str}, w ≠ "does" → w ≠ "marks" → st'.count = st.count → st'.made = st.made → ((w = "does" ∧ st'.count = st.count + 1 ∧ (way = onW → st'.made = st.made + 1)) ∨ (w = "marks" ∧ (st'.count = st.count ∨ st'.count = st.count + 1) ∧ st'.made = 0) ∨ (w ≠ "does" ∧ w ≠ "marks" ∧ st'.count = st.count ∧ st'.made = st.made)) := fun a b c d => .inr (.inr ⟨a, b, c, d⟩)
  have same : st'.mark = st.mark → m' = m := fun e => by rw [e] at hm'; omega
  have mk : m' = m → st'.count = st.count → st'.made = st.made → (∀ i, st'.inner = some i → i.passed ≤ st.count) → Cnt way m' st' := fun e1 e2 e3 e4 => by
    subst e1
    exact ⟨fun hon => by rw [e2, e3]; exact c.on hon, by rw [e2]; exact c.lo, fun i hi => by rw [e2]; exact e4 i hi⟩
  cases mv with
  | rests ho => exact ⟨_, _, rfl, by decide, mk (same rfl) rfl rfl c.inn, fin (by decide) (by decide) rfl rfl, fun _ x => x⟩
  | back js e f ho hi hw hj hf => exact ⟨_, _, rfl, by decide, mk (same rfl) rfl rfl c.inn, fin (by decide) (by decide) rfl rfl, fun _ x => x⟩
  | rises ho hi hw => exact ⟨_, _, rfl, by decide, mk (same rfl) rfl rfl (fun i e => by cases e; show st.mark.passed ≤ _; rw [hm]; exact c.lo), fin (by decide) (by decide) rfl rfl, fun _ ⟨i, e, _⟩ => by rw [hi] at e; cases e⟩
  | again i j ho hi hw ha nn ou ja jo =>
    have co := c.on hw
    refine ⟨_, _, rfl, by decide, mk (same rfl) rfl rfl (fun i2 e => ?_), fin (by decide) (by decide) rfl rfl, fun hb ⟨i2, e, q⟩ => ?_⟩
    · obtain ⟨k, _, _, a1, _, _, a2⟩ := h'.inner i2 e
      obtain ⟨q, b1, b2, _, b3, _⟩ := h'.on hw
      have e1 := same rfl
      have am : st.made = (q : Int) := b1
      have hjl : st.jots.length = q ∨ st.jots.length = q + 1 ∧ m' + q < Z.N := b3
      have := a1.passed
      rcases a2 with ⟨_, a7, _, _, _, a6⟩ | ar
      · have a6' : (k : Int) = m' + (st.jots.length - i2.again) := a6
        cases e
        omega
      · have ho2 : st.made = (k : Int) - m' := (ar.on hw).1
        omega
    · exact absurd (hb.symm.trans hw) bo
  | sends i k v h1 k2 nt ou hv hl => exact ⟨_, _, rfl, by decide, mk (same rfl) rfl rfl (fun i2 e => by cases e; exact c.inn i h1.hi), fin (by decide) (by decide) rfl rfl, fun hb ⟨i2, e, q⟩ => by rw [h1.hi] at e; cases e; exact ⟨_, rfl, q⟩⟩
  | skips i k v h1 k2 nt ou hv hl => exact ⟨_, _, rfl, by decide, mk (same rfl) rfl rfl (fun i2 e => by cases e; exact c.inn i h1.hi), fin (by decide) (by decide) rfl rfl, fun hb ⟨i2, e, q⟩ => by rw [h1.hi] at e; cases e; exact ⟨_, rfl, q⟩⟩
  | does i k h1 k2 nt ol =>
    have e1 := same rfl
    have hon : way = onW → ((st.jots.length : Nat) : Int) = st.made + 1 := fun hw => by
      rcases nt with nt | ⟨_, hb, _⟩
      · have := (h1.ar.got _ nt).2.2.1 hw
        have := (h1.ar.on hw).1
        omega
      · exact absurd (hb.symm.trans hw) bo
    refine ⟨_, _, rfl, by decide, ⟨fun hw => ?_, ?_, fun i2 e => ?_⟩, .inl ⟨rfl, rfl, hon⟩, fun hb ⟨i2, e, q⟩ => ?_⟩
    · show st.count + 1 = m' + ((st.jots.length : Nat) : Int)
      have := c.on hw
      have := hon hw
      omega
    · show (m' : Int) ≤ st.count + 1
      have := c.lo
      omega
    · cases e
      show i.passed + 1 ≤ st.count + 1
      have := c.inn i h1.hi
      omega
    · rw [h1.hi] at e
      cases e
      exact ⟨_, rfl, by show st.count + 1 = i.passed + 1; omega⟩
  | ends i h1 nn hs => exact ⟨_, _, rfl, by decide, mk (same rfl) rfl rfl c.inn, fin (by decide) (by decide) rfl rfl, fun _ x => x⟩
  | marks i k h1 nn hr k3 sd =>
    have e1 : m' = k := by
      have : (keepW st i).2.mark.passed = i.passed := rfl
      have := h1.at_.passed
      omega
    have p1 := h1.at_.passed
    have q1 := c.inn i h1.hi
    refine ⟨_, _, rfl, by decide, ⟨fun hw => ?_, ?_, fun i2 e => ?_⟩, .inr (.inl ⟨rfl, .inl rfl, rfl⟩), fun hb ⟨i2, e, q⟩ => ?_⟩
    · show st.count = m' + 0
      have := c.on hw
      have := (h1.ar.on hw).1
      omega
    · show (m' : Int) ≤ st.count
      omega
    · cases e
      exact q1
    · rw [h1.hi] at e
      cases e
      exact ⟨_, rfl, q⟩
  | markr i k h1 nn k2 sd hmk =>
    have p1 := h1.at_.passed
    have e1 : m' = k + 1 := by
      have : (keepW { st with count := st.count + 1 } (takeOver (Z.E k) i)).2.mark.passed = i.passed + 1 := rfl
      omega
    have q1 := c.inn i h1.hi
    refine ⟨_, _, rfl, by decide, ⟨fun hw => ?_, ?_, fun i2 e => ?_⟩, .inr (.inl ⟨rfl, .inr rfl, rfl⟩), fun hb ⟨i2, e, q⟩ => ?_⟩
    · show st.count + 1 = m' + 0
      have := c.on hw
      have := (h1.ar.on hw).1
      omega
    · show (m' : Int) ≤ st.count + 1
      omega
    · cases e
      show i.passed + 1 ≤ st.count + 1
      omega
    · rw [h1.hi] at e
      cases e
      exact ⟨_, rfl, by show st.count + 1 = i.passed + 1; omega⟩
  | notes i k h1 nn k2 sd nm hc => exact ⟨_, _, rfl, by decide, mk (same rfl) rfl rfl (fun i2 e => by cases e; exact c.inn i h1.hi), fin (by decide) (by decide) rfl rfl, fun hb ⟨i2, e, q⟩ => by rw [h1.hi] at e; cases e; exact ⟨_, rfl, q⟩⟩
/-! ### right behind a fall -/
theorem mv_fallen (hi : st.inner = none) (ho : isOver st = false) (hw : way = backW ∨ way = onW) (mv : Mv Z way often m st d st') : ∃ (x : Int), (way = backW ∧ st.jots ≠ [] ∧ d = told2 "back" x ∧ st'.jots.length + 1 = st.jots.length) ∨ ((way = onW ∨ st.jots = []) ∧ d = told2 "rises" x ∧ st'.jots = st.jots) := by
  cases mv with
  | rests h => rw [ho] at h; cases h
  | back js e f ho hi hw hj hf => exact ⟨_, .inl ⟨hw, by rw [hj]; simp, rfl, by show js.length + 1 = _; rw [hj]; simp⟩⟩
  | rises ho hi hw => exact ⟨_, .inr ⟨hw, rfl, rfl⟩⟩
  | again i j ho h2 hw ha nn ou ja jo => rw [hi] at h2; cases h2
  | sends i k v h1 k2 nt ou hv hl => have := h1.hi; rw [hi] at this; cases this
  | skips i k v h1 k2 nt ou hv hl => have := h1.hi; rw [hi] at this; cases this
  | does i k h1 k2 nt ol => have := h1.hi; rw [hi] at this; cases this
  | ends i h1 nn hs => have := h1.hi; rw [hi] at this; cases this
  | marks i k h1 nn hr k3 sd => have := h1.hi; rw [hi] at this; cases this
  | markr i k h1 nn k2 sd hmk => have := h1.hi; rw [hi] at this; cases this
  | notes i k h1 nn k2 sd nm hc => have := h1.hi; rw [hi] at this; cases this
end
end PM
set_option Elab.async false
set_option linter.all false
set_option maxRecDepth 100000
set_option maxHeartbeats 4000000
/-! The laws' own works, in plain Lean: effects. -/
namespace PM
open PySem PySem.Spec PyProof.Rows L2 DL
structure OE where
  row : Int
  taken : Int
  name : Option (Int × Int)
  file : Option (Int × List Int)
  letter : Option Int
  fault : Option Str
def oe0 (row taken : Int) : OE := ⟨row, taken, none, none, none, none⟩
def ownE (row : PRow) (at_ taken : Int) (ns hs : List Int) (fs : List (List Int)) : OE :=
  let e := oe0 (at_ + 1) taken
  match row with
  | .set n p => { e with name := some (n, p.worth ns) }
  | .size n f => { e with name := some (n, ((fs.getD f.toNat []).length : Int)) }
  | .take n => { e with fault := if taken = (hs.length : Int) then some "none" else none, name := some (n, hs.getD taken.toNat 0), taken := taken + 1 }
  | .get n f p => { e with fault := if ((fs.getD f.toNat []).length : Int) ≤ p.worth ns then some "place" else none, name := some (n, (fs.getD f.toNat []).getD (p.worth ns).toNat 0) }
  | .add f p => { e with fault := if (fs.getD f.toNat []).length = 40 then some "full" else none, file := some (f, fs.getD f.toNat [] ++ [p.worth ns]) }
  | .put f p q => { e with fault := if ((fs.getD f.toNat []).length : Int) ≤ p.worth ns then some "place" else none, file := some (f, (fs.getD f.toNat []).take (p.worth ns).toNat ++ [q.worth ns] ++ (fs.getD f.toNat []).drop ((p.worth ns).toNat + 1)) }
  | .cut f p => { e with file := some (f, (fs.getD f.toNat []).take (p.worth ns).toNat) }
  | .send p => { e with letter := some (p.worth ns) }
  | .go r => { e with row := r }
  | .unl n r => { e with row := if ns.getD n.toNat 0 = 0 then r else at_ + 1 }
  | .mark => e
/-- the same, of what is known of the program's own effect -/
def oeOf (e : Eff) (fs : List (List Int)) : OE := ⟨e.row, e.taken, (match e.name, e.number with | some n, some v => some (n, v) | _, _ => none), e.file.map fun f => (f, (fs.getD f.toNat []).take e.pos.toNat ++ e.new), e.letter, e.fault⟩
theorem ownE_fault (row : PRow) (at_ taken : Int) (ns hs : List Int) (fs : List (List Int)) : (ownE row at_ taken ns hs fs).fault = (effect row at_ taken ns hs fs).fault := by
  cases row <;> simp only [ownE, effect, oe0, eff0, changedE] <;> (try rfl) <;> split <;> rfl
theorem ownE_eq {row : PRow} {at_ taken : Int} {ns hs : List Int} {fs : List (List Int)} (h : (effect row at_ taken ns hs fs).fault = none) : ownE row at_ taken ns hs fs = oeOf (effect row at_ taken ns hs fs) fs := by
  cases row with
  | set n p => rfl
  | size n f => rfl
  | take n =>
    simp only [effect] at h ⊢
    by_cases c : taken = (hs.length : Int)
    · rw [if_pos c] at h; cases h
    · simp [ownE, oe0, oeOf, eff0, c]
  | get n f p =>
    simp only [effect] at h ⊢
    by_cases c : ((fs.getD f.toNat []).length : Int) ≤ p.worth ns
    · rw [if_pos c] at h; cases h
    · rw [if_neg c]; simp only [ownE, oe0, oeOf, eff0, if_neg c]; rfl
  | add f p =>
    simp only [effect] at h ⊢
    by_cases c : (fs.getD f.toNat []).length = 40
    · rw [if_pos c] at h; cases h
    · rw [if_neg c]; simp only [ownE, oe0, oeOf, eff0, changedE, if_neg c, Option.map, Int.toNat_natCast, List.take_length]
  | put f p q =>
    simp only [effect] at h ⊢
    by_cases c : ((fs.getD f.toNat []).length : Int) ≤ p.worth ns
    · rw [if_pos c] at h; cases h
    · rw [if_neg c]; simp only [ownE, oe0, oeOf, eff0, changedE, if_neg c, Option.map, Int.toNat_natCast, List.append_assoc, List.cons_append, List.nil_append]
  | cut f p =>
    simp only [ownE, effect, oe0, oeOf, eff0, changedE, Option.map, Int.toNat_natCast, List.append_nil]
    rw [← List.take_eq_take_min]
  | send p => rfl
  | go r => rfl
  | unl n r =>
    simp only [ownE, effect, oe0, eff0]
    split <;> rfl
  | mark => rfl
/-! ### bounds -/
def BB (ns : List Int) : Prop := ∀ n ∈ ns, 0 ≤ n ∧ n ≤ 10006
theorem BB.getD {ns : List Int} (h : BB ns) (i : Nat) : 0 ≤ ns.getD i 0 ∧ ns.getD i 0 ≤ 10006 := by
  rw [List.getD_eq_getElem?_getD]
  cases e : ns[i]? with
  | none => exact ⟨Int.le_refl _, by decide⟩
  | some n => exact h n (List.mem_of_getElem? e)
theorem worth_bd {names : Int} {ns : List Int} (h : BB ns) : ∀ p : Part, p.ok names → 0 ≤ p.worth ns ∧ p.worth ns ≤ 10006
  | .num n, hp => hp
  | .name n, _ => h.getD _
  | .op .less a b, _ => by unfold Part.worth; split <;> decide
  | .op .sum a b, _ => by
    unfold Part.worth
    exact ⟨Int.emod_nonneg _ (by decide), by have := Int.emod_lt_of_pos (a.worth ns + b.worth ns) (show (0 : Int) < 10007 by decide); omega⟩
  | .op .diff a b, _ => by
    unfold Part.worth
    exact ⟨Int.emod_nonneg _ (by decide), by have := Int.emod_lt_of_pos (a.worth ns - b.worth ns) (show (0 : Int) < 10007 by decide); omega⟩
/-! ### how they lie -/
def oPair : Option (Int × Int) → PyData
  | none => .none
  | some (n, v) => .tuple [.int n, .int v]
def oFile : Option (Int × List Int) → PyData
  | none => .none
  | some (f, xs) => .tuple [.int f, lstI xs]
def oInt : Option Int → PyData
  | none => .none
  | some v => .int v
def oStr : Option Str → PyData
  | none => .none
  | some z => .str z
def OE.rs (e : OE) : List R := [.dat (.int e.row), .dat (.int e.taken), .dat (oPair e.name), .dat (oFile e.file), .dat (oInt e.letter), .dat (oStr e.fault)]
abbrev oeK : List Str := ["row", "taken", "name", "file", "letter", "fault"]
abbrev oeKs : List Key := [Sum.inr "row", Sum.inr "taken", Sum.inr "name", Sum.inr "file", Sum.inr "letter", Sum.inr "fault"]
def OE.r (e : OE) : R := .dic oeKs e.rs
/-- what is within -/
structure OIn where
  row : Int
  taken : Int
  done : Int
  letters : Int
  since : Int
  out : Bool
def OIn.kv (s : OIn) (nm ab ag : R) : List (Key × R) := [(Sum.inr "row", .dat (.int s.row)), (Sum.inr "names", nm), (Sum.inr "taken", .dat (.int s.taken)), (Sum.inr "done", .dat (.int s.done)), (Sum.inr "letters", .dat (.int s.letters)), (Sum.inr "since", .dat (.int s.since)), (Sum.inr "about", ab), (Sum.inr "out", .dat (.bool s.out)), (Sum.inr "again", ag)]
def OIn.pass (s : OIn) (e : OE) : OIn := { s with row := e.row, taken := e.taken, done := s.done + 1, letters := s.letters + one e.letter.isSome, since := s.since + 1 }
def oNames (ns : List Int) (e : OE) : List Int := match e.name with
  | none => ns
  | some (n, v) => ns.set n.toNat v
theorem oNames_of (ns : List Int) (e : Eff) (fs : List (List Int)) : oNames ns (oeOf e fs) = putName ns e := by
  unfold oNames oeOf putName
  cases e.name with
  | none => rfl
  | some n => cases e.number <;> rfl
theorem dget {fr : Fr} {S : SH} {C : CR0} {i j : Nat} {p : Addr} {kvs : List (Key × R)} {key : Str} {r : R} (hi : fr[i]? = some (some (.val (.ref p)))) (hj : S[j]? = some (.dct p kvs)) (hf : kvs.find? (fun kv => decide (kv.1 = Sum.inr key)) = some (Sum.inr key, r)) (q : C r S) : dOp fIx (dVar i) (dC (.dat (.str key))) fr S C := ⟨_, hi, j, kvs, r, hj, hf, q⟩
theorem atI_pad {xs : List Int} {w : Int} (h : 0 ≤ w) : atI (xs.map PyData.int ++ [.int 0]) (if ((xs.map PyData.int).length : Int) < w then ((xs.map PyData.int).length : Int) else w) = some (.int (xs.getD w.toNat 0)) := by
  rw [List.length_map]
  by_cases c : (xs.length : Int) < w
  · rw [if_pos c]
    refine (atI_nat (v := PyData.int 0) ?_).trans ?_
    · rw [List.getElem?_append_right (by simp)]; simp
    · rw [List.getD_eq_getElem?_getD, List.getElem?_eq_none (by omega)]; rfl
  · rw [if_neg c, ← toNat_cast h]
    refine (atI_nat (v := PyData.int (xs.getD w.toNat 0)) ?_).trans ?_
    · by_cases e : w.toNat < xs.length
      · rw [List.getElem?_append_left (by simpa using e), List.getElem?_map, List.getElem?_eq_getElem e, List.getD_eq_getElem?_getD, List.getElem?_eq_getElem e]; rfl
      · have e2 : w.toNat = xs.length := by omega
        rw [e2, List.getElem?_append_right (by simp), List.getD_eq_getElem?_getD, List.getElem?_eq_none (Nat.le_refl _)]
        simp
    · rw [Int.toNat_natCast]
theorem ofile_at {held : List (List Int)} {fl : Int} (hf : NumOk fl held.length) : atI (fileR held) fl = some (.dat (lstI (held.getD fl.toNat []))) := by
  have e := fileR_at (fs := held) (i := fl.toNat) (by have := hf.1; have := hf.2; omega)
  rw [toNat_cast hf.1] at e
  exact e
theorem file_le {fs : List (List Int)} (h : ∀ f ∈ fs, f.length ≤ 40) (i : Nat) : (fs.getD i []).length ≤ 40 := by
  rw [List.getD_eq_getElem?_getD]
  cases e : fs[i]? with
  | none => exact Nat.zero_le _
  | some f => exact h f (List.mem_of_getElem? e)
def OE.kv (x : OE) : List (Key × R) := [(Sum.inr "row", .dat (.int x.row)), (Sum.inr "taken", .dat (.int x.taken)), (Sum.inr "name", .dat (oPair x.name)), (Sum.inr "file", .dat (oFile x.file)), (Sum.inr "letter", .dat (oInt x.letter)), (Sum.inr "fault", .dat (oStr x.fault))]
theorem OE.kv_new (row taken : Int) : mergeR [] (keyed oeK [.dat (.int row), .dat (.int taken), .dat .none, .dat .none, .dat .none, .dat .none]) = (oe0 row taken).kv := rfl
theorem put_row (x : OE) (v : Int) : putR x.kv (Sum.inr "row") (.dat (.int v)) = ({ x with row := v } : OE).kv := rfl
theorem put_taken (x : OE) (v : Int) : putR x.kv (Sum.inr "taken") (.dat (.int v)) = ({ x with taken := v } : OE).kv := rfl
theorem put_name (x : OE) (n v : Int) : putR x.kv (Sum.inr "name") (.dat (.tuple [.int n, .int v])) = ({ x with name := some (n, v) } : OE).kv := rfl
theorem put_file (x : OE) (f : Int) (v : List Int) : putR x.kv (Sum.inr "file") (.dat (.tuple [.int f, lstI v])) = ({ x with file := some (f, v) } : OE).kv := rfl
theorem put_letter (x : OE) (v : Int) : putR x.kv (Sum.inr "letter") (.dat (.int v)) = ({ x with letter := some v } : OE).kv := rfl
theorem put_fault (x : OE) (v : Option Str) : putR x.kv (Sum.inr "fault") (.dat (oStr v)) = ({ x with fault := v } : OE).kv := rfl
section
variable {S : SH} {C : SH → Prop} {pe : Addr} {x : OE}
theorem oset_row {v : Int} (q : C (.dct pe ({ x with row := v } : OE).kv :: S)) : fSet (.val (.ref pe)) (.dat (.str "row")) (.dat (.int v)) (.dct pe x.kv :: S) C := ⟨0, _, rfl, (show 6 < 100000 by decide), by rw [put_row]; exact q⟩
theorem oset_taken {v : Int} (q : C (.dct pe ({ x with taken := v } : OE).kv :: S)) : fSet (.val (.ref pe)) (.dat (.str "taken")) (.dat (.int v)) (.dct pe x.kv :: S) C := ⟨0, _, rfl, (show 6 < 100000 by decide), by rw [put_taken]; exact q⟩
theorem oset_name {n v : Int} (q : C (.dct pe ({ x with name := some (n, v) } : OE).kv :: S)) : fSet (.val (.ref pe)) (.dat (.str "name")) (.dat (.tuple [.int n, .int v])) (.dct pe x.kv :: S) C := ⟨0, _, rfl, (show 6 < 100000 by decide), by rw [put_name]; exact q⟩
theorem oset_file {f : Int} {v : List Int} (q : C (.dct pe ({ x with file := some (f, v) } : OE).kv :: S)) : fSet (.val (.ref pe)) (.dat (.str "file")) (.dat (.tuple [.int f, lstI v])) (.dct pe x.kv :: S) C := ⟨0, _, rfl, (show 6 < 100000 by decide), by rw [put_file]; exact q⟩
theorem oset_fileE {f : Int} {v : List Int} {d : PyData} (e : d = lstI v) (q : C (.dct pe ({ x with file := some (f, v) } : OE).kv :: S)) : fSet (.val (.ref pe)) (.dat (.str "file")) (.dat (.tuple [.int f, d])) (.dct pe x.kv :: S) C := by
  subst e
  exact oset_file q
theorem oset_letter {v : Int} (q : C (.dct pe ({ x with letter := some v } : OE).kv :: S)) : fSet (.val (.ref pe)) (.dat (.str "letter")) (.dat (.int v)) (.dct pe x.kv :: S) C := ⟨0, _, rfl, (show 6 < 100000 by decide), by rw [put_letter]; exact q⟩
theorem oset_fault {v : Option Str} (q : C (.dct pe ({ x with fault := v } : OE).kv :: S)) : fSet (.val (.ref pe)) (.dat (.str "fault")) (.dat (oStr v)) (.dct pe x.kv :: S) C := ⟨0, _, rfl, (show 6 < 100000 by decide), by rw [put_fault]; exact q⟩
theorem wkn_oe : Wkn (.val (.ref pe)) (.dct pe x.kv :: S) x.r S := wkn_dic
end
section
variable {S : SH} {C : SH → Prop} {ps : Addr} {s : OIn} {nm ab ag : R}
theorem sput_row (v : Int) : putR (s.kv nm ab ag) (Sum.inr "row") (.dat (.int v)) = ({ s with row := v } : OIn).kv nm ab ag := rfl
theorem sset_row {v : Int} (q : C (.dct ps (({ s with row := v } : OIn).kv nm ab ag) :: S)) : fSet (.val (.ref ps)) (.dat (.str "row")) (.dat (.int v)) (.dct ps (s.kv nm ab ag) :: S) C := ⟨0, _, rfl, (show 9 < 100000 by decide), by rw [sput_row]; exact q⟩
theorem sput_taken (v : Int) : putR (s.kv nm ab ag) (Sum.inr "taken") (.dat (.int v)) = ({ s with taken := v } : OIn).kv nm ab ag := rfl
theorem sset_taken {v : Int} (q : C (.dct ps (({ s with taken := v } : OIn).kv nm ab ag) :: S)) : fSet (.val (.ref ps)) (.dat (.str "taken")) (.dat (.int v)) (.dct ps (s.kv nm ab ag) :: S) C := ⟨0, _, rfl, (show 9 < 100000 by decide), by rw [sput_taken]; exact q⟩
theorem sput_done (v : Int) : putR (s.kv nm ab ag) (Sum.inr "done") (.dat (.int v)) = ({ s with done := v } : OIn).kv nm ab ag := rfl
theorem sset_done {v : Int} (q : C (.dct ps (({ s with done := v } : OIn).kv nm ab ag) :: S)) : fSet (.val (.ref ps)) (.dat (.str "done")) (.dat (.int v)) (.dct ps (s.kv nm ab ag) :: S) C := ⟨0, _, rfl, (show 9 < 100000 by decide), by rw [sput_done]; exact q⟩
theorem sput_letters (v : Int) : putR (s.kv nm ab ag) (Sum.inr "letters") (.dat (.int v)) = ({ s with letters := v } : OIn).kv nm ab ag := rfl
theorem sset_letters {v : Int} (q : C (.dct ps (({ s with letters := v } : OIn).kv nm ab ag) :: S)) : fSet (.val (.ref ps)) (.dat (.str "letters")) (.dat (.int v)) (.dct ps (s.kv nm ab ag) :: S) C := ⟨0, _, rfl, (show 9 < 100000 by decide), by rw [sput_letters]; exact q⟩
theorem sput_since (v : Int) : putR (s.kv nm ab ag) (Sum.inr "since") (.dat (.int v)) = ({ s with since := v } : OIn).kv nm ab ag := rfl
theorem sset_since {v : Int} (q : C (.dct ps (({ s with since := v } : OIn).kv nm ab ag) :: S)) : fSet (.val (.ref ps)) (.dat (.str "since")) (.dat (.int v)) (.dct ps (s.kv nm ab ag) :: S) C := ⟨0, _, rfl, (show 9 < 100000 by decide), by rw [sput_since]; exact q⟩
theorem sput_about (v : R) : putR (s.kv nm ab ag) (Sum.inr "about") v = s.kv nm v ag := rfl
theorem sset_about {v : R} (q : C (.dct ps (s.kv nm v ag) :: S)) : fSet (.val (.ref ps)) (.dat (.str "about")) v (.dct ps (s.kv nm ab ag) :: S) C := ⟨0, _, rfl, (show 9 < 100000 by decide), by rw [sput_about]; exact q⟩
theorem sput_out (v : Bool) : putR (s.kv nm ab ag) (Sum.inr "out") (.dat (.bool v)) = ({ s with out := v } : OIn).kv nm ab ag := rfl
theorem sset_out {v : Bool} (q : C (.dct ps (({ s with out := v } : OIn).kv nm ab ag) :: S)) : fSet (.val (.ref ps)) (.dat (.str "out")) (.dat (.bool v)) (.dct ps (s.kv nm ab ag) :: S) C := ⟨0, _, rfl, (show 9 < 100000 by decide), by rw [sput_out]; exact q⟩
theorem sput_again (v : R) : putR (s.kv nm ab ag) (Sum.inr "again") v = s.kv nm ab v := rfl
end
theorem oIR_set (ns : List Int) (m : Nat) (v : Int) : (iR ns).set m (.dat (.int v)) = iR (ns.set m v) := by unfold iR; rw [List.map_set]
theorem odats_iR (ns : List Int) : dats (iR ns) = some (ns.map PyData.int) := dats_ints ns
/-- files, as a list of lists, each a cell or data -/
def FilesAt (S : SH) (r : R) (fs : List (List Int)) : Prop := ∃ xs, lstR S r xs ∧ Paired (fun x f => lstR S x (iR f)) xs fs
theorem FilesAt.cons {S : SH} {r : R} {fs : List (List Int)} (c : Cell) (h : FilesAt S r fs) : FilesAt (c :: S) r fs := by
  obtain ⟨xs, h1, h2⟩ := h
  exact ⟨xs, lstR_cons c h1, Paired.mapP h2 fun _ _ z => lstR_cons c z⟩
theorem FilesAt.set {S : SH} {r : R} {fs : List (List Int)} {j : Nat} {p C : Addr} {ks : List Str} {rs : List R} (hj : S[j]? = some (.ins p C ks rs)) (c : Cell) (h : FilesAt S r fs) : FilesAt (S.set j c) r fs := by
  obtain ⟨xs, h1, h2⟩ := h
  exact ⟨xs, lstR_set hj c h1, Paired.mapP h2 fun _ _ z => lstR_set hj c z⟩
theorem FilesAt.at_ {S : SH} {r : R} {fs : List (List Int)} {fl : Int} (h : FilesAt S r fs) (hf : NumOk fl fs.length) : ∃ xs x, lstR S r xs ∧ atI xs fl = some x ∧ lstR S x (iR (fs.getD fl.toNat [])) := by
  obtain ⟨xs, h1, h2⟩ := h
  have hl := paired_len h2
  have hlt : fl.toNat < fs.length := by have := hf.1; have := hf.2; omega
  obtain ⟨x, e, q⟩ := paired_get' (i := fl.toNat) h2 (List.getElem?_eq_getElem hlt)
  refine ⟨xs, x, h1, ?_, by rw [List.getD_eq_getElem?_getD, List.getElem?_eq_getElem hlt]; exact q⟩
  rw [← toNat_cast hf.1]
  exact atI_nat e
theorem FilesAt.dat {S : SH} {r : R} {fs : List (List Int)} (h : lstR S r (fileR fs)) : FilesAt S r fs := by
  refine ⟨fileR fs, h, ?_⟩
  clear h
  induction fs with
  | nil => exact .nil
  | cons f fs ih => exact .cons (by show iR f = (f.map PyData.int).map R.dat; unfold iR; rw [List.map_map]; rfl) ih
/-! ### files as cells, each one for itself -/
def qR (qs : List Addr) : List R := qs.map fun q => R.val (.ref q)
def fcells : List Addr → List (List Int) → SH
  | q :: qs, f :: fs => .lst q (iR f) :: fcells qs fs
  | _, _ => []
theorem fcells_len : ∀ {qs : List Addr} {fs : List (List Int)}, qs.length = fs.length → (fcells qs fs).length = qs.length
  | [], [], _ => rfl
  | _ :: qs, _ :: fs, h => by rw [fcells, List.length_cons, List.length_cons, fcells_len (by simpa using h)]
theorem fcells_at : ∀ {qs : List Addr} {fs : List (List Int)} {i : Nat} {q : Addr} {f : List Int}, qs[i]? = some q → fs[i]? = some f → (fcells qs fs)[i]? = some (.lst q (iR f))
  | [], _, _, _, _, h, _ => by simp at h
  | _ :: _, [], _, _, _, _, h => by simp at h
  | q :: qs, f :: fs, 0, _, _, h1, h2 => by simp at h1 h2; subst h1; subst h2; rfl
  | q :: qs, f :: fs, i + 1, _, _, h1, h2 => by
    rw [fcells]
    simpa using fcells_at (qs := qs) (fs := fs) (i := i) (by simpa using h1) (by simpa using h2)
theorem app_at {α : Type} {T S : List α} {i : Nat} {x : α} (h : T[i]? = some x) : (T ++ S)[i]? = some x := by
  obtain ⟨hl, _⟩ := List.getElem?_eq_some_iff.mp h
  rw [List.getElem?_append_left hl]; exact h
theorem fcells_pair {S T : SH} : ∀ {qs : List Addr} {fs : List (List Int)} (n : Nat), qs.length = fs.length → (∀ i q f, qs[i]? = some q → fs[i]? = some f → T[n + i]? = some (.lst q (iR f))) → Paired (fun x f => lstR T x (iR f)) (qR qs) fs
  | [], [], _, _, _ => .nil
  | q :: qs, f :: fs, n, hl, h => .cons ⟨n, h 0 q f rfl rfl⟩ (fcells_pair (S := S) (n + 1) (by simpa using hl) fun i q' f' h1 h2 => by
    have := h (i + 1) q' f' (by simpa using h1) (by simpa using h2)
    rw [show n + (i + 1) = n + 1 + i from by omega] at this
    exact this)
theorem filesC_at {a b c : Cell} {S : SH} {pf : Addr} {qs : List Addr} {fs : List (List Int)} (hb : b = .lst pf (qR qs)) (hl : qs.length = fs.length) : FilesAt (a :: b :: c :: (fcells qs fs ++ S)) (.val (.ref pf)) fs :=
  ⟨qR qs, ⟨1, by rw [hb]; rfl⟩, fcells_pair (S := S) 3 hl fun i q f h1 h2 => by
    have e : (fcells qs fs ++ S)[i]? = some (.lst q (iR f)) := app_at (fcells_at h1 h2)
    rw [show 3 + i = i + 3 from by omega]
    exact e⟩
theorem fcells_set : ∀ {qs : List Addr} {fs : List (List Int)} {i : Nat} {q q' : Addr} {f f' : List Int}, qs[i]? = some q → fs[i]? = some f → (Cell.lst q' (iR f') :: fcells qs fs).Perm (.lst q (iR f) :: fcells (qs.set i q') (fs.set i f'))
  | [], _, _, _, _, _, _, h, _ => by simp at h
  | _ :: _, [], _, _, _, _, _, _, h => by simp at h
  | q :: qs, f :: fs, 0, _, _, _, _, h1, h2 => by simp at h1 h2; subst h1; subst h2; exact List.Perm.swap _ _ _
  | q0 :: qs, f0 :: fs, i + 1, q, q', f, f', h1, h2 => by
    have ih := fcells_set (q' := q') (f' := f') (qs := qs) (fs := fs) (i := i) (q := q) (f := f) (by simpa using h1) (by simpa using h2)
    show (Cell.lst q' (iR f') :: .lst q0 (iR f0) :: fcells qs fs).Perm (.lst q (iR f) :: .lst q0 (iR f0) :: fcells (qs.set i q') (fs.set i f'))
    exact (List.Perm.swap _ _ _).trans ((List.Perm.cons _ ih).trans (List.Perm.swap _ _ _))
theorem fcells_snoc : ∀ {qs : List Addr} {fs : List (List Int)} (q : Addr) (f : List Int), qs.length = fs.length → fcells (qs ++ [q]) (fs ++ [f]) = fcells qs fs ++ [.lst q (iR f)]
  | [], [], _, _, _ => rfl
  | _ :: qs, _ :: fs, q, f, h => by
    show _ :: fcells (qs ++ [q]) (fs ++ [f]) = _ :: (fcells qs fs ++ [.lst q (iR f)])
    rw [fcells_snoc q f (by simpa using h)]
theorem fcells_views {T : SH} : ∀ {qs : List Addr} {fs : List (List Int)} (n : Nat), qs.length = fs.length → (∀ i q f, qs[i]? = some q → fs[i]? = some f → T[n + i]? = some (.lst q (iR f))) → Views T (qR qs) (fs.map lstI)
  | [], [], _, _, _ => .nil
  | q :: qs, f :: fs, n, hl, h => .cons (.cel (h 0 q f rfl rfl) (by unfold iR; rw [show (f.map fun n => R.dat (.int n)) = (f.map PyData.int).map R.dat from by rw [List.map_map]; rfl]; exact Views.of_dats _)) (fcells_views (n + 1) (by simpa using hl) fun i q' f' h1 h2 => by
    have := h (i + 1) q' f' (by simpa using h1) (by simpa using h2)
    rw [show n + (i + 1) = n + 1 + i from by omega] at this
    exact this)
/-! ### bounds of a run -/
structure RunB (r : RunS) : Prop where
  names : BB r.names
  files : ∀ f ∈ r.files, BB f
structure EffB (e : Eff) : Prop where
  number : ∀ v, e.number = some v → 0 ≤ v ∧ v ≤ 10006
  new : BB e.new
theorem BB.nil : BB [] := fun _ h => nomatch h
theorem BB.cons {v : Int} {ns : List Int} (h : 0 ≤ v ∧ v ≤ 10006) (q : BB ns) : BB (v :: ns) := fun n hn => by
  rcases List.mem_cons.mp hn with rfl | hn
  · exact h
  · exact q n hn
theorem BB.app {xs ys : List Int} (h : BB xs) (q : BB ys) : BB (xs ++ ys) := fun n hn => (List.mem_append.mp hn).elim (h n) (q n)
theorem BB.take {xs : List Int} (h : BB xs) (k : Nat) : BB (xs.take k) := fun n hn => h n (List.mem_of_mem_take hn)
theorem BB.drop {xs : List Int} (h : BB xs) (k : Nat) : BB (xs.drop k) := fun n hn => h n (List.mem_of_mem_drop hn)
theorem BB.set {xs : List Int} (h : BB xs) {v : Int} (hv : 0 ≤ v ∧ v ≤ 10006) (k : Nat) : BB (xs.set k v) := fun n hn => by
  rcases List.mem_or_eq_of_mem_set hn with hn | rfl
  · exact h n hn
  · exact hv
theorem BB.file {fs : List (List Int)} (h : ∀ f ∈ fs, BB f) (i : Nat) : BB (fs.getD i []) := by
  rw [List.getD_eq_getElem?_getD]
  cases e : fs[i]? with
  | none => exact BB.nil
  | some f => exact h f (List.mem_of_getElem? e)
theorem effect_bd {row : PRow} {names files many at_ taken : Int} {ns hs : List Int} {fs : List (List Int)} (ok : row.ok names files many) (hn : BB ns) (hh : BB hs) (hf : ∀ f ∈ fs, BB f) (h40 : ∀ f ∈ fs, f.length ≤ 40) : EffB (effect row at_ taken ns hs fs) := by
  have no : ∀ v : Int, (none : Option Int) = some v → 0 ≤ v ∧ v ≤ 10006 := fun v h => nomatch h
  have so : ∀ {w : Int}, (0 ≤ w ∧ w ≤ 10006) → ∀ v : Int, some w = some v → 0 ≤ v ∧ v ≤ 10006 := fun hw v h => by cases h; exact hw
  cases row with
  | set n p => exact ⟨so (worth_bd hn p ok.2.1), BB.nil⟩
  | size n f => exact ⟨so (by have := file_le h40 f.toNat; omega), BB.nil⟩
  | take n =>
    simp only [effect]
    split
    · exact ⟨no, BB.nil⟩
    · exact ⟨so (hh.getD _), BB.nil⟩
  | get n f p =>
    simp only [effect]
    split
    · exact ⟨no, BB.nil⟩
    · exact ⟨so ((BB.file hf _).getD _), BB.nil⟩
  | add f p =>
    simp only [effect]
    split
    · exact ⟨no, BB.cons (worth_bd hn p ok.2.1) BB.nil⟩
    · exact ⟨no, BB.cons (worth_bd hn p ok.2.1) BB.nil⟩
  | put f p q =>
    simp only [effect]
    split
    · exact ⟨no, BB.cons (worth_bd hn q ok.2.2.1) ((BB.file hf _).drop _)⟩
    · exact ⟨no, BB.cons (worth_bd hn q ok.2.2.1) ((BB.file hf _).drop _)⟩
  | cut f p => exact ⟨no, BB.nil⟩
  | send p => exact ⟨no, BB.nil⟩
  | go r => exact ⟨no, BB.nil⟩
  | unl n r =>
    simp only [effect]
    split
    · exact ⟨no, BB.nil⟩
    · exact ⟨no, BB.nil⟩
  | mark => exact ⟨no, BB.nil⟩
theorem putName_bd {e : Eff} {ns : List Int} (he : EffB e) (h : BB ns) : BB (putName ns e) := by
  unfold putName
  cases e.name with
  | none => exact h
  | some n =>
    cases ev : e.number with
    | none => exact h
    | some v => exact h.set (he.number v ev) _
theorem putFile_bd {fs : List (List Int)} {f : Option Int} {pos : Int} {new : List Int} (h : ∀ f ∈ fs, BB f) (hn : BB new) : ∀ f' ∈ putFile fs f pos new, BB f' := by
  cases f with
  | none => exact h
  | some f =>
    intro f' hf'
    rcases List.mem_or_eq_of_mem_set hf' with hm | rfl
    · exact h f' hm
    · exact ((BB.file h _).take _).app hn
theorem runB_next {nN nF : Nat} {rows : List PRow} {hs : List Int} (hr : ∀ r ∈ rows, r.ok nN nF rows.length) (hh : BB hs) {r : RunS} (h : RunOk nN nF hs.length rows.length r) (hlt : r.row < rows.length) (hb : RunB r) : RunB (runNext (runEff rows hs r) r) := by
  have he : EffB (runEff rows hs r) := effect_bd (rowAt_ok hr h.row.1 hlt) hb.names hh hb.files fun f hf => (h.files.2 f hf).1
  exact ⟨putName_bd he hb.names, putFile_bd hb.files he.new⟩
theorem runB_0 (p : Prog) : RunB (run0 p) := ⟨fun n hn => by rw [List.eq_of_mem_replicate hn]; exact ⟨Int.le_refl _, by decide⟩, fun f hf => by rw [List.eq_of_mem_replicate hf]; exact BB.nil⟩
end PM
set_option Elab.async false
set_option linter.all false
set_option maxRecDepth 100000
set_option maxHeartbeats 4000000
namespace K05
open PySem PySem.Spec PyProof.Rows L2 DL PM
section
variable {P : Program} {w : World} {K : Fg} {mg : Str → Option Value} {base : Heap}
/-! _law_worth -/
def spOWorth (n : Nat) : SpD := fun rs S C => ∃ (p : Part) (r : R) (ns : List Int), rs = [.dat p.dat, r] ∧ lstR S r (iR ns) ∧ p.ok ns.length ∧ BB ns ∧ p.deep ≤ n ∧ C (.dat (.int (p.worth ns))) S
abbrev s__law_worth : Stmt := topS 46
abbrev N__law_worth : List Str := ["_law_part", "_law_names", "_law_one", "_law_other", "_law_inner_here"]
theorem sc__law_worth : FnScope N__law_worth ["_law_part", "_law_names"] (defScope s__law_worth) := ⟨rfl, rfl, rfl, by decide +kernel, rfl, by decide +kernel, by decide +kernel⟩
theorem oworth_body {n k : Nat} {spR : SpD} (F : FunAt K mg "_law_worth" s__law_worth ["_law_part", "_law_names"]) (B : Blt mg) (D : Def P w K mg base "_law_worth" k 2 spR) (hR : ∀ m rs S C, m + 1 = n → spOWorth m rs S C → spR rs S C) : Def P w K mg base "_law_worth" (k + 1) 2 (spOWorth n) := by
  refine okF F sc__law_worth rfl fun cdv A outer s H E f hr => ⟨_,
    (ss_cons (s_if (t_in (d_ix (hu_of hr) (dv 0) d_int) (d_tup (a_cons d_str (a_cons d_str a_nil))))
      (ss_one (s_ret (d_if (t_eq hr.units (d_ix (hu_of hr) (dv 0) d_int) d_str) (d_ix (hu_of hr) (dv 0) d_int) (d_ix (hu_of hr) (dv 1) (d_ix (hu_of hr) (dv 0) d_int)))))
      ss_nil)
      (ss_cons (s_asg (d_lc sc__law_worth.nd (i := 4) (i_src (d_slice (dv 0) (o_some d_int) o_none)) (blkOk_by (N := N__law_worth) (sc := defScope s__law_worth) (own := [("_law_inner_here", 4)]) (by decide +kernel)) (fun _ _ _ _ _ => pg_name (i := 4) sc__law_worth.nd rfl (Or.inl rfl)) (fun _ _ _ _ _ => ts_nil) (fun _ _ _ _ _ => (d_callF D (hr.mono (by omega)) (by rfl) (a_cons (dv 4) (a_cons (dv 1) a_nil))))) (g_tupL (gs_cons (g_name (i := 2) sc__law_worth.nd) (gs_cons (g_name (i := 3) sc__law_worth.nd) gs_nil))))
      (ss_one (s_ret (d_if (t_eq hr.units (d_ix (hu_of hr) (dv 0) d_int) d_str) (d_intF (by rfl) B.int (a_cons (d_lt (dv 2) (dv 3)) a_nil)) (d_mod (d_add (dv 2) (d_mul (dv 3) (d_ix (hu_of hr) (d_lst (a_cons d_int (a_cons (d_neg d_int) a_nil))) (d_intF (by rfl) B.int (a_cons (d_eq hr.units (d_ix (hu_of hr) (dv 0) d_int) d_str) a_nil))))) d_int))))))
    , ?_⟩
  intro rs S C hl h
  obtain ⟨p, r, ns, rfl, hr', hp, hB, hd, h⟩ := h
  have hpos := p.deep_pos
  cases p with
  | num n => exact ⟨_, rfl, _, rfl, le_ok rfl, _, rfl, rfl, rfl, iteTb rfl ⟨_, rfl, _, rfl, rfl, iteTb rfl ⟨_, rfl, _, rfl, h⟩⟩⟩
  | name n =>
    refine ⟨_, rfl, _, rfl, le_ok rfl, _, rfl, rfl, rfl, iteTb rfl ⟨_, rfl, _, rfl, rfl, iteFb rfl ⟨_, rfl, _, rfl, _, rfl, ?_⟩⟩⟩
    have e := iR_at (ns := ns) (i := n.toNat) (by have := hp.1; have := hp.2; omega)
    rw [toNat_cast hp.1] at e
    exact ix_lstR hr' e h
  | op o a b =>
    obtain ⟨m, hm⟩ : ∃ m, m + 1 = n := ⟨n - 1, by omega⟩
    have hda : a.deep + 1 ≤ (Part.op o a b).deep := by simp only [Part.deep]; omega
    have hdb : b.deep + 1 ≤ (Part.op o a b).deep := by simp only [Part.deep]; omega
    have w1 : inD (.str o.word) [.str "num", .str "name"] = false := by cases o <;> rfl
    refine ⟨_, rfl, _, rfl, le_ok rfl, _, rfl, rfl, rfl, iteFb w1 ?_⟩
    refine ⟨_, rfl, lc_unroll ?_⟩
    refine ⟨_, rfl, _, rfl, rfl, hR m _ _ _ hm ⟨a, r, ns, rfl, hr', hp.1, hB, by omega, (show 0 < 100000 by decide), ?_⟩⟩
    refine ⟨_, rfl, _, rfl, rfl, hR m _ _ _ hm ⟨b, r, ns, rfl, hr', hp.2, hB, by omega, (show 1 < 100000 by decide), ?_⟩⟩
    refine ⟨_, rfl, rfl, ?_⟩
    dsimp only [List.map, gCn, gNl, gnm]
    refine ⟨rfl, ?_⟩
    cases o with
    | less =>
      refine ⟨_, rfl, _, rfl, rfl, iteTb rfl ⟨_, rfl, _, rfl, ?_⟩⟩
      have e : (if decide (a.worth ns < b.worth ns) = true then (1 : Int) else 0) = (Part.op .less a b).worth ns := by simp [Part.worth]
      show C (.dat (.int (if decide (a.worth ns < b.worth ns) = true then (1 : Int) else 0))) S
      rw [e]
      exact h
    | sum =>
      refine ⟨_, rfl, _, rfl, rfl, iteFb rfl ⟨_, rfl, _, rfl, le_ok rfl, _, rfl, _, rfl, _, rfl, rfl, .int 1, rfl, ?_⟩⟩
      have wb := worth_bd hB b hp.2
      refine ⟨cmul (by omega) (by omega) (by decide) (by decide), (by show (0 : Int) < 10007; decide), ?_⟩
      show C (.dat (.int ((a.worth ns + b.worth ns * 1) % 10007))) S
      rw [Int.mul_one]
      exact h
    | diff =>
      refine ⟨_, rfl, _, rfl, rfl, iteFb rfl ⟨_, rfl, _, rfl, le_ok rfl, _, rfl, _, rfl, _, rfl, rfl, .int (-1), rfl, ?_⟩⟩
      have wb := worth_bd hB b hp.2
      refine ⟨cmul (by omega) (by omega) (by decide) (by decide), (by show (0 : Int) < 10007; decide), ?_⟩
      show C (.dat (.int ((a.worth ns + b.worth ns * -1) % 10007))) S
      rw [Int.mul_neg, Int.mul_one, ← Int.sub_eq_add_neg]
      exact h
theorem ok_oworth (F : FunAt K mg "_law_worth" s__law_worth ["_law_part", "_law_names"]) (B : Blt mg) : ∀ n : Nat, Def P w K mg base "_law_worth" (n + 1) 2 (spOWorth n)
  | 0 => oworth_body F B (Def.never F) (fun m _ _ _ h _ => by omega)
  | n + 1 => oworth_body F B (ok_oworth F B n) (fun m rs S C h q => by
    have e : m = n := by omega
    subst e
    exact q)
end
end K05
set_option Elab.async false
set_option linter.all false
set_option maxRecDepth 100000
set_option maxHeartbeats 4000000
namespace K05
open PySem PySem.Spec PyProof.Rows L2 DL PM
section
variable {P : Program} {w : World} {K : Fg} {mg : Str → Option Value} {base : Heap}
/-! _law_effect -/
structure OEIn (p : Prog) (hs : List Int) (row : PRow) (ps pn : Addr) (s : OIn) (ab ag rf : R) (ns : List Int) (fs : List (List Int)) (S : SH) (js jn : Nat) : Prop where
  hrow : p.rows[s.row.toNat]? = some row
  r0 : 0 ≤ s.row
  rok : row.ok ns.length fs.length p.rows.length
  hs_ : S[js]? = some (.dct ps (s.kv (.val (.ref pn)) ab ag))
  hn : S[jn]? = some (.lst pn (iR ns))
  hf : lstR S rf (fileR fs)
  bn : BB ns
  fl : ∀ f ∈ fs, f.length ≤ 40
  t0 : 0 ≤ s.taken
  t1 : s.taken ≤ hs.length
  h40 : hs.length ≤ 40
def spOEff : SpD := fun rs S C => ∃ (p : Prog) (hs : List Int) (row : PRow) (ps pn : Addr) (s : OIn) (ab ag rf : R) (ns : List Int) (fs : List (List Int)) (js jn : Nat), rs = [.dat p.dat, .dat (lstI hs), .val (.ref ps), rf] ∧ OEIn p hs row ps pn s ab ag rf ns fs S js jn ∧ C (ownE row s.row s.taken ns hs fs).r S
theorem kd_part (p : Part) : kdOf p.dat = some .tup := by cases p <;> rfl
theorem dlen0 {fr : Fr} {S : SH} {C : CR0} {f : List Int} (q : C (.dat (.int f.length)) S) : dNil fr S fun rs S2 => fLen (R.dat (lstI f) :: rs) S2 C := by
  show C (.dat (.int ((f.map PyData.int).length : Nat))) S
  rw [List.length_map]; exact q
abbrev s__law_effect : Stmt := topS 47
abbrev N__law_effect : List Str := ["_law_p", "_law_handed", "_law_s", "_law_files", "_law_row", "_law_word", "_law_e", "_law_some", "_law_held", "_law_part"]
theorem sc__law_effect : FnScope N__law_effect ["_law_p", "_law_handed", "_law_s", "_law_files"] (defScope s__law_effect) := ⟨rfl, rfl, rfl, by decide +kernel, rfl, by decide +kernel, by decide +kernel⟩
theorem ok_oeff {k : Nat} (F : FunAt K mg "_law_effect" s__law_effect ["_law_p", "_law_handed", "_law_s", "_law_files"]) (B : Blt mg) (D1 : Def P w K mg base "_law_worth" 4 2 (spOWorth 3)) : Def P w K mg base "_law_effect" (k + 5) 4 spOEff := by
  refine okW F sc__law_effect rfl fun cdv A outer s H E f hr => ⟨_,
    (ss_cons (s_set (i := 4) sc__law_effect.nd (d_ix (hu_of hr) (d_ix (hu_of hr) (dv 0) d_int) (d_ix (hu_of hr) (dv 2) d_str)))
      (ss_cons (s_set (i := 5) sc__law_effect.nd (d_ix (hu_of hr) (dv 4) d_int))
      (ss_cons (s_set (i := 6) sc__law_effect.nd (d_disp (p_cons (d_add (d_ix (hu_of hr) (dv 2) d_str) d_int) (p_cons (d_ix (hu_of hr) (dv 2) d_str) (p_cons d_non (p_cons d_non (p_cons d_non (p_cons d_non p_nil))))))))
      (ss_cons (s_lc (j := 7) sc__law_effect.nd (i := 9) (i_src (d_slice (dv 4) (o_some d_int) o_none)) (blkOk_by (N := N__law_effect) (sc := defScope s__law_effect) (own := [("_law_part", 9)]) (by decide +kernel)) (fun _ _ _ _ _ => pg_name (i := 9) sc__law_effect.nd rfl (Or.inl rfl)) (fun _ _ _ _ _ => (ts_one (t_val (d_isi kit_tuple (by rfl) B.isinstance (a_cons (dv 9) (a_cons (d_bltn (v := .ty "tuple") (by rfl) B.tuple (by decide +kernel) rfl) a_nil)))))) (fun _ _ _ _ _ => (d_callF D1 (hr.mono (by omega)) (by rfl) (a_cons (dv 9) (a_cons (d_ix (hu_of hr) (dv 2) d_str) a_nil)))))
      (ss_cons (s_if (t_in (dv 5) (d_tup (a_cons d_str (a_cons d_str (a_cons d_str a_nil)))))
      (ss_cons (s_set (i := 8) sc__law_effect.nd (d_ix (hu_of hr) (dv 3) (d_ix (hu_of hr) (dv 4) d_int)))
      (ss_one (s_if (t_eq hr.units (dv 5) d_str)
      (ss_cons (s_asg (d_if (t_eq hr.units (d_len (by rfl) B.len (a_cons (dv 8) a_nil)) d_int) d_str d_non) (g_sub (hu_of hr) (dv 6) d_str))
      (ss_one (s_asg (d_tup (a_cons (d_ix (hu_of hr) (dv 4) d_int) (a_cons (d_add (dv 8) (dv 7)) a_nil))) (g_sub (hu_of hr) (dv 6) d_str))))
      (ss_one (s_if (t_eq hr.units (dv 5) d_str)
      (ss_cons (s_asg (d_if (t_ge (d_ix (hu_of hr) (dv 7) d_int) (d_len (by rfl) B.len (a_cons (dv 8) a_nil))) d_str d_non) (g_sub (hu_of hr) (dv 6) d_str))
      (ss_one (s_asg (d_tup (a_cons (d_ix (hu_of hr) (dv 4) d_int) (a_cons (d_add (d_add (d_slice (dv 8) o_none (o_some (d_ix (hu_of hr) (dv 7) d_int))) (d_slice (dv 7) (o_some d_int) o_none)) (d_slice (dv 8) (o_some (d_add (d_ix (hu_of hr) (dv 7) d_int) d_int)) o_none)) a_nil))) (g_sub (hu_of hr) (dv 6) d_str))))
      (ss_one (s_asg (d_tup (a_cons (d_ix (hu_of hr) (dv 4) d_int) (a_cons (d_slice (dv 8) o_none (o_some (d_ix (hu_of hr) (dv 7) d_int))) a_nil))) (g_sub (hu_of hr) (dv 6) d_str))))))))
      (ss_one (s_if (t_eq hr.units (dv 5) d_str)
      (ss_cons (s_asg (d_if (t_eq hr.units (d_ix (hu_of hr) (dv 2) d_str) (d_len (by rfl) B.len (a_cons (dv 1) a_nil))) d_str d_non) (g_sub (hu_of hr) (dv 6) d_str))
      (ss_cons (s_asg (d_tup (a_cons (d_ix (hu_of hr) (dv 4) d_int) (a_cons (d_ix (hu_of hr) (d_add (dv 1) (d_lst (a_cons d_int a_nil))) (d_min2 (by rfl) B.min (a_cons (d_ix (hu_of hr) (dv 2) d_str) (a_cons (d_len (by rfl) B.len (a_cons (dv 1) a_nil)) a_nil)))) a_nil))) (g_sub (hu_of hr) (dv 6) d_str))
      (ss_one (s_asg (d_add (d_ix (hu_of hr) (dv 2) d_str) d_int) (g_sub (hu_of hr) (dv 6) d_str)))))
      (ss_one (s_if (t_eq hr.units (dv 5) d_str)
      (ss_cons (s_asg (d_if (t_ge (d_ix (hu_of hr) (dv 7) d_int) (d_len (by rfl) B.len (a_cons (d_ix (hu_of hr) (dv 3) (d_ix (hu_of hr) (dv 4) d_int)) a_nil))) d_str d_non) (g_sub (hu_of hr) (dv 6) d_str))
      (ss_one (s_asg (d_tup (a_cons (d_ix (hu_of hr) (dv 4) d_int) (a_cons (d_ix (hu_of hr) (d_add (d_ix (hu_of hr) (dv 3) (d_ix (hu_of hr) (dv 4) d_int)) (d_lst (a_cons d_int a_nil))) (d_min2 (by rfl) B.min (a_cons (d_ix (hu_of hr) (dv 7) d_int) (a_cons (d_len (by rfl) B.len (a_cons (d_ix (hu_of hr) (dv 3) (d_ix (hu_of hr) (dv 4) d_int)) a_nil)) a_nil)))) a_nil))) (g_sub (hu_of hr) (dv 6) d_str))))
      (ss_one (s_if (t_in (dv 5) (d_tup (a_cons d_str (a_cons d_str a_nil))))
      (ss_one (s_asg (d_tup (a_cons (d_ix (hu_of hr) (dv 4) d_int) (a_cons (d_if (t_eq hr.units (dv 5) d_str) (d_ix (hu_of hr) (dv 7) d_int) (d_len (by rfl) B.len (a_cons (d_ix (hu_of hr) (dv 3) (d_ix (hu_of hr) (dv 4) d_int)) a_nil))) a_nil))) (g_sub (hu_of hr) (dv 6) d_str)))
      (ss_one (s_if (t_eq hr.units (dv 5) d_str)
      (ss_one (s_asg (d_ix (hu_of hr) (dv 7) d_int) (g_sub (hu_of hr) (dv 6) d_str)))
      (ss_one (s_if (PDW.pt (w_or (t_eq hr.units (dv 5) d_str) (w_or1 (PDW.pt (w_and (t_eq hr.units (dv 5) d_str) (w_and1 (t_eq hr.units (d_ix (hu_of hr) (d_ix (hu_of hr) (dv 2) d_str) (d_ix (hu_of hr) (dv 4) d_int)) d_int)))))))
      (ss_one (s_asg (d_ix (hu_of hr) (dv 4) (d_neg d_int)) (g_sub (hu_of hr) (dv 6) d_str)))
      ss_nil)))))))))))
      (ss_one (s_ret (dv 6))))))))
    , ?_⟩
  intro rs S C hl h
  obtain ⟨p, hs, row, ps, pn, s, ab, ag, rf, ns, fs, js, jn, rfl, I, h⟩ := h
  have er := toNat_cast I.r0
  have I1 : ∀ c, (c :: S)[js + 1]? = some (.dct ps (s.kv (.val (.ref pn)) ab ag)) := fun c => I.hs_
  have I2 : ∀ c, (c :: S)[jn + 1]? = some (.lst pn (iR ns)) := fun c => I.hn
  have erow : atI (p.rows.map PRow.dat) s.row = some row.dat := by
    rw [← er]
    refine atI_nat ?_
    rw [List.getElem?_map, I.hrow]; rfl
  refine ⟨_, rfl, _, rfl, dget (i := 2) rfl I.hs_ rfl ?_⟩
  refine ⟨_, erow, ?_⟩
  refine ⟨_, rfl, _, at0, ?_⟩
  intro pe
  refine dget (i := 2) rfl (I1 _) rfl ?_
  refine dget (i := 2) rfl (I1 _) rfl ?_
  refine ⟨0, rfl, ?_⟩
  have e0 : (Cell.dct pe [] :: S).set 0 (Cell.dct pe (mergeR [] (keyed oeK [.dat (.int (s.row + 1)), .dat (.int s.taken), .dat .none, .dat .none, .dat .none, .dat .none]))) = .dct pe (oe0 (s.row + 1) s.taken).kv :: S := rfl
  dsimp only
  rw [e0]
  have rok := I.rok
  have wcall : ∀ (C' : CR0) (c : Cell) (q : Part) (j : Nat) (fr : Fr), fr[j]? = some (some (.dat q.dat)) → fr[2]? = some (some (.val (.ref ps))) → q.ok ns.length → q.deep ≤ 3 → C' (.dat (.int (q.worth ns))) (c :: S) → dCall 2 (spOWorth 3) (dCons (dVar j) (dCons (dOp fIx (dVar 2) (dC (.dat (.str "names")))) dNil)) fr (c :: S) C' := by
    intro C' c q j fr e1 e2 h1 h2 h3
    refine ⟨_, e1, dget (i := 2) e2 (I1 _) rfl ⟨rfl, q, _, ns, rfl, ⟨_, I2 _⟩, h1, I.bn, h2, h3⟩⟩
  cases row with
  | set n q =>
    refine ⟨_, rfl, lc_unroll ?_⟩
    refine ⟨_, rfl, rfl, .int, rfl, iteFb rfl ?_⟩
    refine ⟨_, rfl, rfl, .tup, kd_part q, iteTb rfl (wcall _ _ q 9 _ rfl rfl rok.2.1 rok.2.2 ⟨(show 0 < 100000 by decide), ?_⟩)⟩
    refine ⟨_, rfl, ?_⟩
    repeat (first | refine ⟨le_ok rfl, _, rfl, ?_⟩ | refine ⟨_, rfl, ?_⟩ | refine ⟨rfl, ?_⟩ | refine ⟨le_ok rfl, ?_⟩)
    refine oset_name ?_
    repeat (first | refine ⟨le_ok rfl, _, rfl, ?_⟩ | refine ⟨_, rfl, ?_⟩ | refine ⟨rfl, ?_⟩ | refine ⟨le_ok rfl, ?_⟩)
    exact ⟨_, _, wkn_oe, h⟩
  | take n =>
    refine ⟨_, rfl, lc_unroll ?_⟩
    refine ⟨_, rfl, rfl, .int, rfl, iteFb rfl ?_⟩
    refine ⟨_, rfl, ?_⟩
    repeat (first | refine ⟨le_ok rfl, _, rfl, ?_⟩ | refine ⟨_, rfl, ?_⟩ | refine ⟨rfl, ?_⟩ | refine ⟨le_ok rfl, ?_⟩)
    have h40 := I.h40
    have h' : C (OE.r ⟨s.row + 1, s.taken + 1, some (n, hs.getD s.taken.toNat 0), none, none, if s.taken = (hs.length : Int) then some "none" else none⟩) S := h
    refine ⟨js + 1, _, _, I1 _, rfl, _, rfl, ?_⟩
    refine dlen0 ?_
    refine ⟨rfl, ?_⟩
    by_cases c : s.taken = (hs.length : Int)
    · rw [if_pos c] at h'
      refine iteTb (by rw [eqI]; exact decide_eq_true c) ?_
      repeat (first | refine ⟨le_ok rfl, _, rfl, ?_⟩ | refine ⟨_, rfl, ?_⟩ | refine ⟨rfl, ?_⟩ | refine ⟨le_ok rfl, ?_⟩)
      refine oset_fault (v := some "none") ?_
      repeat (first | refine ⟨le_ok rfl, _, rfl, ?_⟩ | refine ⟨_, rfl, ?_⟩ | refine ⟨rfl, ?_⟩ | refine ⟨le_ok rfl, ?_⟩)
      refine ⟨by rw [List.length_map]; show _ + 1 ≤ 100000; omega, _, rfl, js + 1, _, _, I1 _, rfl, _, rfl, _, atI_pad I.t0, ?_⟩
      repeat (first | refine ⟨le_ok rfl, _, rfl, ?_⟩ | refine ⟨_, rfl, ?_⟩ | refine ⟨rfl, ?_⟩ | refine ⟨le_ok rfl, ?_⟩)
      refine oset_name ?_
      repeat (first | refine ⟨le_ok rfl, _, rfl, ?_⟩ | refine ⟨_, rfl, ?_⟩ | refine ⟨rfl, ?_⟩ | refine ⟨le_ok rfl, ?_⟩)
      refine ⟨js + 1, _, _, I1 _, rfl, ?_⟩
      repeat (first | refine ⟨le_ok rfl, _, rfl, ?_⟩ | refine ⟨_, rfl, ?_⟩ | refine ⟨rfl, ?_⟩ | refine ⟨le_ok rfl, ?_⟩)
      refine oset_taken ?_
      repeat (first | refine ⟨le_ok rfl, _, rfl, ?_⟩ | refine ⟨_, rfl, ?_⟩ | refine ⟨rfl, ?_⟩ | refine ⟨le_ok rfl, ?_⟩)
      exact ⟨_, _, wkn_oe, h'⟩
    · rw [if_neg c] at h'
      refine iteFb (by rw [eqI]; exact decide_eq_false c) ?_
      repeat (first | refine ⟨le_ok rfl, _, rfl, ?_⟩ | refine ⟨_, rfl, ?_⟩ | refine ⟨rfl, ?_⟩ | refine ⟨le_ok rfl, ?_⟩)
      refine oset_fault (v := none) ?_
      repeat (first | refine ⟨le_ok rfl, _, rfl, ?_⟩ | refine ⟨_, rfl, ?_⟩ | refine ⟨rfl, ?_⟩ | refine ⟨le_ok rfl, ?_⟩)
      refine ⟨by rw [List.length_map]; show _ + 1 ≤ 100000; omega, _, rfl, js + 1, _, _, I1 _, rfl, _, rfl, _, atI_pad I.t0, ?_⟩
      repeat (first | refine ⟨le_ok rfl, _, rfl, ?_⟩ | refine ⟨_, rfl, ?_⟩ | refine ⟨rfl, ?_⟩ | refine ⟨le_ok rfl, ?_⟩)
      refine oset_name ?_
      repeat (first | refine ⟨le_ok rfl, _, rfl, ?_⟩ | refine ⟨_, rfl, ?_⟩ | refine ⟨rfl, ?_⟩ | refine ⟨le_ok rfl, ?_⟩)
      refine ⟨js + 1, _, _, I1 _, rfl, ?_⟩
      repeat (first | refine ⟨le_ok rfl, _, rfl, ?_⟩ | refine ⟨_, rfl, ?_⟩ | refine ⟨rfl, ?_⟩ | refine ⟨le_ok rfl, ?_⟩)
      refine oset_taken ?_
      repeat (first | refine ⟨le_ok rfl, _, rfl, ?_⟩ | refine ⟨_, rfl, ?_⟩ | refine ⟨rfl, ?_⟩ | refine ⟨le_ok rfl, ?_⟩)
      exact ⟨_, _, wkn_oe, h'⟩
  | add f q =>
    refine ⟨_, rfl, lc_unroll ?_⟩
    refine ⟨_, rfl, rfl, .int, rfl, iteFb rfl ?_⟩
    refine ⟨_, rfl, rfl, .tup, kd_part q, iteTb rfl (wcall _ _ q 9 _ rfl rfl rok.2.1 rok.2.2 ⟨(show 0 < 100000 by decide), ?_⟩)⟩
    refine ⟨_, rfl, ?_⟩
    repeat (first | refine ⟨le_ok rfl, _, rfl, ?_⟩ | refine ⟨_, rfl, ?_⟩ | refine ⟨rfl, ?_⟩ | refine ⟨le_ok rfl, ?_⟩)
    refine ix_lstR (lstR_cons _ I.hf) (ofile_at rok.1) ?_
    have l40 := file_le I.fl f.toNat
    have h' : C (OE.r ⟨s.row + 1, s.taken, none, some (f, fs.getD f.toNat [] ++ [q.worth ns]), none, if (fs.getD f.toNat []).length = 40 then some "full" else none⟩) S := h
    have ea : PyData.list ((fs.getD f.toNat []).map PyData.int ++ [.int (q.worth ns)]) = lstI (fs.getD f.toNat [] ++ [q.worth ns]) := by unfold lstI; rw [List.map_append]; rfl
    repeat (first | refine ⟨le_ok rfl, _, rfl, ?_⟩ | refine ⟨_, rfl, ?_⟩ | refine ⟨rfl, ?_⟩ | refine ⟨le_ok rfl, ?_⟩)
    by_cases c : (fs.getD f.toNat []).length = 40
    · rw [if_pos c] at h'
      refine iteTb (by rw [eqI]; exact decide_eq_true (by rw [List.length_map]; omega)) ?_
      repeat (first | refine ⟨le_ok rfl, _, rfl, ?_⟩ | refine ⟨_, rfl, ?_⟩ | refine ⟨rfl, ?_⟩ | refine ⟨le_ok rfl, ?_⟩)
      refine oset_fault (v := some "full") ?_
      repeat (first | refine ⟨le_ok rfl, _, rfl, ?_⟩ | refine ⟨_, rfl, ?_⟩ | refine ⟨rfl, ?_⟩ | refine ⟨le_ok rfl, ?_⟩)
      refine ⟨by rw [List.length_map]; show _ + 1 ≤ 100000; omega, ?_⟩
      repeat (first | refine ⟨le_ok rfl, _, rfl, ?_⟩ | refine ⟨_, rfl, ?_⟩ | refine ⟨rfl, ?_⟩ | refine ⟨le_ok rfl, ?_⟩)
      refine oset_fileE ea ?_
      repeat (first | refine ⟨le_ok rfl, _, rfl, ?_⟩ | refine ⟨_, rfl, ?_⟩ | refine ⟨rfl, ?_⟩ | refine ⟨le_ok rfl, ?_⟩)
      exact ⟨_, _, wkn_oe, h'⟩
    · rw [if_neg c] at h'
      refine iteFb (by rw [eqI]; exact decide_eq_false (by rw [List.length_map]; omega)) ?_
      repeat (first | refine ⟨le_ok rfl, _, rfl, ?_⟩ | refine ⟨_, rfl, ?_⟩ | refine ⟨rfl, ?_⟩ | refine ⟨le_ok rfl, ?_⟩)
      refine oset_fault (v := none) ?_
      repeat (first | refine ⟨le_ok rfl, _, rfl, ?_⟩ | refine ⟨_, rfl, ?_⟩ | refine ⟨rfl, ?_⟩ | refine ⟨le_ok rfl, ?_⟩)
      refine ⟨by rw [List.length_map]; show _ + 1 ≤ 100000; omega, ?_⟩
      repeat (first | refine ⟨le_ok rfl, _, rfl, ?_⟩ | refine ⟨_, rfl, ?_⟩ | refine ⟨rfl, ?_⟩ | refine ⟨le_ok rfl, ?_⟩)
      refine oset_fileE ea ?_
      repeat (first | refine ⟨le_ok rfl, _, rfl, ?_⟩ | refine ⟨_, rfl, ?_⟩ | refine ⟨rfl, ?_⟩ | refine ⟨le_ok rfl, ?_⟩)
      exact ⟨_, _, wkn_oe, h'⟩
  | put f q q2 =>
    refine ⟨_, rfl, lc_unroll ?_⟩
    refine ⟨_, rfl, rfl, .int, rfl, iteFb rfl ?_⟩
    refine ⟨_, rfl, rfl, .tup, kd_part q, iteTb rfl (wcall _ _ q 9 _ rfl rfl rok.2.1.1 rok.2.1.2 ⟨(show 0 < 100000 by decide), ?_⟩)⟩
    refine ⟨_, rfl, rfl, .tup, kd_part q2, iteTb rfl (wcall _ _ q2 9 _ rfl rfl rok.2.2.1 rok.2.2.2 ⟨(show 1 < 100000 by decide), ?_⟩)⟩
    refine ⟨_, rfl, ?_⟩
    repeat (first | refine ⟨le_ok rfl, _, rfl, ?_⟩ | refine ⟨_, rfl, ?_⟩ | refine ⟨rfl, ?_⟩ | refine ⟨le_ok rfl, ?_⟩)
    refine ix_lstR (lstR_cons _ I.hf) (ofile_at rok.1) ?_
    have l40 := file_le I.fl f.toNat
    have wn := (worth_bd I.bn q rok.2.1.1).1
    have h' : C (OE.r ⟨s.row + 1, s.taken, none, some (f, (fs.getD f.toNat []).take (q.worth ns).toNat ++ [q2.worth ns] ++ (fs.getD f.toNat []).drop ((q.worth ns).toNat + 1)), none, if ((fs.getD f.toNat []).length : Int) ≤ q.worth ns then some "place" else none⟩) S := h
    have ec1 : DL.cutD ((fs.getD f.toNat []).map PyData.int) none (some (q.worth ns)) = ((fs.getD f.toNat []).take (q.worth ns).toNat).map PyData.int := by rw [cut_to _ wn, ← List.map_take]
    have ec2 : DL.cutD ((fs.getD f.toNat []).map PyData.int) (some (q.worth ns + 1)) none = ((fs.getD f.toNat []).drop ((q.worth ns).toNat + 1)).map PyData.int := by rw [cut_from _ (by omega), ← List.map_drop, show (q.worth ns + 1).toNat = (q.worth ns).toNat + 1 from by omega]
    have ea : PyData.list (DL.cutD ((fs.getD f.toNat []).map PyData.int) none (some (q.worth ns)) ++ [.int (q2.worth ns)] ++ DL.cutD ((fs.getD f.toNat []).map PyData.int) (some (q.worth ns + 1)) none) = lstI ((fs.getD f.toNat []).take (q.worth ns).toNat ++ [q2.worth ns] ++ (fs.getD f.toNat []).drop ((q.worth ns).toNat + 1)) := by unfold lstI; rw [ec1, ec2, List.map_append, List.map_append]; rfl
    repeat (first | refine ⟨le_ok rfl, _, rfl, ?_⟩ | refine ⟨_, rfl, ?_⟩ | refine ⟨rfl, ?_⟩ | refine ⟨le_ok rfl, ?_⟩)
    refine dlen0 ?_
    by_cases c : ((fs.getD f.toNat []).length : Int) ≤ q.worth ns
    · rw [if_pos c] at h'
      refine iteTb (decide_eq_true c) ?_
      repeat (first | refine ⟨le_ok rfl, _, rfl, ?_⟩ | refine ⟨_, rfl, ?_⟩ | refine ⟨rfl, ?_⟩ | refine ⟨le_ok rfl, ?_⟩)
      refine oset_fault (v := some "place") ?_
      repeat (first | refine ⟨le_ok rfl, _, rfl, ?_⟩ | refine ⟨_, rfl, ?_⟩ | refine ⟨rfl, ?_⟩ | refine ⟨le_ok rfl, ?_⟩)
      refine ⟨?_, ?_⟩
      · show (DL.cutD ((fs.getD f.toNat []).map PyData.int) none (some (q.worth ns))).length + 1 ≤ 100000
        rw [ec1, List.length_map, List.length_take]; omega
      repeat (first | refine ⟨le_ok rfl, _, rfl, ?_⟩ | refine ⟨_, rfl, ?_⟩ | refine ⟨rfl, ?_⟩ | refine ⟨le_ok rfl, ?_⟩)
      refine ⟨?_, ?_⟩
      · show (DL.cutD ((fs.getD f.toNat []).map PyData.int) none (some (q.worth ns)) ++ [PyData.int (q2.worth ns)]).length + (DL.cutD ((fs.getD f.toNat []).map PyData.int) (some (q.worth ns + 1)) none).length ≤ 100000
        rw [List.length_append, ec1, ec2, List.length_map, List.length_map, List.length_take, List.length_drop]
        show _ + 1 + _ ≤ 100000
        omega
      repeat (first | refine ⟨le_ok rfl, _, rfl, ?_⟩ | refine ⟨_, rfl, ?_⟩ | refine ⟨rfl, ?_⟩ | refine ⟨le_ok rfl, ?_⟩)
      refine oset_fileE ea ?_
      repeat (first | refine ⟨le_ok rfl, _, rfl, ?_⟩ | refine ⟨_, rfl, ?_⟩ | refine ⟨rfl, ?_⟩ | refine ⟨le_ok rfl, ?_⟩)
      exact ⟨_, _, wkn_oe, h'⟩
    · rw [if_neg c] at h'
      refine iteFb (decide_eq_false c) ?_
      repeat (first | refine ⟨le_ok rfl, _, rfl, ?_⟩ | refine ⟨_, rfl, ?_⟩ | refine ⟨rfl, ?_⟩ | refine ⟨le_ok rfl, ?_⟩)
      refine oset_fault (v := none) ?_
      repeat (first | refine ⟨le_ok rfl, _, rfl, ?_⟩ | refine ⟨_, rfl, ?_⟩ | refine ⟨rfl, ?_⟩ | refine ⟨le_ok rfl, ?_⟩)
      refine ⟨?_, ?_⟩
      · show (DL.cutD ((fs.getD f.toNat []).map PyData.int) none (some (q.worth ns))).length + 1 ≤ 100000
        rw [ec1, List.length_map, List.length_take]; omega
      repeat (first | refine ⟨le_ok rfl, _, rfl, ?_⟩ | refine ⟨_, rfl, ?_⟩ | refine ⟨rfl, ?_⟩ | refine ⟨le_ok rfl, ?_⟩)
      refine ⟨?_, ?_⟩
      · show (DL.cutD ((fs.getD f.toNat []).map PyData.int) none (some (q.worth ns)) ++ [PyData.int (q2.worth ns)]).length + (DL.cutD ((fs.getD f.toNat []).map PyData.int) (some (q.worth ns + 1)) none).length ≤ 100000
        rw [List.length_append, ec1, ec2, List.length_map, List.length_map, List.length_take, List.length_drop]
        show _ + 1 + _ ≤ 100000
        omega
      repeat (first | refine ⟨le_ok rfl, _, rfl, ?_⟩ | refine ⟨_, rfl, ?_⟩ | refine ⟨rfl, ?_⟩ | refine ⟨le_ok rfl, ?_⟩)
      refine oset_fileE ea ?_
      repeat (first | refine ⟨le_ok rfl, _, rfl, ?_⟩ | refine ⟨_, rfl, ?_⟩ | refine ⟨rfl, ?_⟩ | refine ⟨le_ok rfl, ?_⟩)
      exact ⟨_, _, wkn_oe, h'⟩
  | cut f q =>
    refine ⟨_, rfl, lc_unroll ?_⟩
    refine ⟨_, rfl, rfl, .int, rfl, iteFb rfl ?_⟩
    refine ⟨_, rfl, rfl, .tup, kd_part q, iteTb rfl (wcall _ _ q 9 _ rfl rfl rok.2.1 rok.2.2 ⟨(show 0 < 100000 by decide), ?_⟩)⟩
    refine ⟨_, rfl, ?_⟩
    repeat (first | refine ⟨le_ok rfl, _, rfl, ?_⟩ | refine ⟨_, rfl, ?_⟩ | refine ⟨rfl, ?_⟩ | refine ⟨le_ok rfl, ?_⟩)
    refine ix_lstR (lstR_cons _ I.hf) (ofile_at rok.1) ?_
    have wn := (worth_bd I.bn q rok.2.1).1
    have ec : DL.cutD ((fs.getD f.toNat []).map PyData.int) none (some (q.worth ns)) = ((fs.getD f.toNat []).take (q.worth ns).toNat).map PyData.int := by rw [cut_to _ wn, ← List.map_take]
    repeat (first | refine ⟨le_ok rfl, _, rfl, ?_⟩ | refine ⟨_, rfl, ?_⟩ | refine ⟨rfl, ?_⟩ | refine ⟨le_ok rfl, ?_⟩)
    dsimp only [lstI]
    rw [ec]
    refine oset_file ?_
    repeat (first | refine ⟨le_ok rfl, _, rfl, ?_⟩ | refine ⟨_, rfl, ?_⟩ | refine ⟨rfl, ?_⟩ | refine ⟨le_ok rfl, ?_⟩)
    exact ⟨_, _, wkn_oe, h⟩
  | get n f q =>
    refine ⟨_, rfl, lc_unroll ?_⟩
    refine ⟨_, rfl, rfl, .int, rfl, iteFb rfl ?_⟩
    refine ⟨_, rfl, rfl, .int, rfl, iteFb rfl ?_⟩
    refine ⟨_, rfl, rfl, .tup, kd_part q, iteTb rfl (wcall _ _ q 9 _ rfl rfl rok.2.2.1 rok.2.2.2 ⟨(show 0 < 100000 by decide), ?_⟩)⟩
    refine ⟨_, rfl, ?_⟩
    repeat (first | refine ⟨le_ok rfl, _, rfl, ?_⟩ | refine ⟨_, rfl, ?_⟩ | refine ⟨rfl, ?_⟩ | refine ⟨le_ok rfl, ?_⟩)
    refine ix_lstR (lstR_cons _ I.hf) (ofile_at rok.2.1) ?_
    have l40 := file_le I.fl f.toNat
    have wn := (worth_bd I.bn q rok.2.2.1).1
    have h' : C (OE.r ⟨s.row + 1, s.taken, some (n, (fs.getD f.toNat []).getD (q.worth ns).toNat 0), none, none, if ((fs.getD f.toNat []).length : Int) ≤ q.worth ns then some "place" else none⟩) S := h
    refine dlen0 ?_
    by_cases c : ((fs.getD f.toNat []).length : Int) ≤ q.worth ns
    · rw [if_pos c] at h'
      refine iteTb (decide_eq_true c) ?_
      repeat (first | refine ⟨le_ok rfl, _, rfl, ?_⟩ | refine ⟨_, rfl, ?_⟩ | refine ⟨rfl, ?_⟩ | refine ⟨le_ok rfl, ?_⟩)
      refine oset_fault (v := some "place") ?_
      repeat (first | refine ⟨le_ok rfl, _, rfl, ?_⟩ | refine ⟨_, rfl, ?_⟩ | refine ⟨rfl, ?_⟩ | refine ⟨le_ok rfl, ?_⟩)
      refine ix_lstR (lstR_cons _ I.hf) (ofile_at rok.2.1) ?_
      repeat (first | refine ⟨le_ok rfl, _, rfl, ?_⟩ | refine ⟨_, rfl, ?_⟩ | refine ⟨rfl, ?_⟩ | refine ⟨le_ok rfl, ?_⟩)
      refine ⟨by rw [List.length_map]; show _ + 1 ≤ 100000; omega, ?_⟩
      repeat (first | refine ⟨le_ok rfl, _, rfl, ?_⟩ | refine ⟨_, rfl, ?_⟩ | refine ⟨rfl, ?_⟩ | refine ⟨le_ok rfl, ?_⟩)
      refine ix_lstR (lstR_cons _ I.hf) (ofile_at rok.2.1) ?_
      refine ⟨_, atI_pad wn, ?_⟩
      repeat (first | refine ⟨le_ok rfl, _, rfl, ?_⟩ | refine ⟨_, rfl, ?_⟩ | refine ⟨rfl, ?_⟩ | refine ⟨le_ok rfl, ?_⟩)
      refine oset_name ?_
      repeat (first | refine ⟨le_ok rfl, _, rfl, ?_⟩ | refine ⟨_, rfl, ?_⟩ | refine ⟨rfl, ?_⟩ | refine ⟨le_ok rfl, ?_⟩)
      exact ⟨_, _, wkn_oe, h'⟩
    · rw [if_neg c] at h'
      refine iteFb (decide_eq_false c) ?_
      repeat (first | refine ⟨le_ok rfl, _, rfl, ?_⟩ | refine ⟨_, rfl, ?_⟩ | refine ⟨rfl, ?_⟩ | refine ⟨le_ok rfl, ?_⟩)
      refine oset_fault (v := none) ?_
      repeat (first | refine ⟨le_ok rfl, _, rfl, ?_⟩ | refine ⟨_, rfl, ?_⟩ | refine ⟨rfl, ?_⟩ | refine ⟨le_ok rfl, ?_⟩)
      refine ix_lstR (lstR_cons _ I.hf) (ofile_at rok.2.1) ?_
      repeat (first | refine ⟨le_ok rfl, _, rfl, ?_⟩ | refine ⟨_, rfl, ?_⟩ | refine ⟨rfl, ?_⟩ | refine ⟨le_ok rfl, ?_⟩)
      refine ⟨by rw [List.length_map]; show _ + 1 ≤ 100000; omega, ?_⟩
      repeat (first | refine ⟨le_ok rfl, _, rfl, ?_⟩ | refine ⟨_, rfl, ?_⟩ | refine ⟨rfl, ?_⟩ | refine ⟨le_ok rfl, ?_⟩)
      refine ix_lstR (lstR_cons _ I.hf) (ofile_at rok.2.1) ?_
      refine ⟨_, atI_pad wn, ?_⟩
      repeat (first | refine ⟨le_ok rfl, _, rfl, ?_⟩ | refine ⟨_, rfl, ?_⟩ | refine ⟨rfl, ?_⟩ | refine ⟨le_ok rfl, ?_⟩)
      refine oset_name ?_
      repeat (first | refine ⟨le_ok rfl, _, rfl, ?_⟩ | refine ⟨_, rfl, ?_⟩ | refine ⟨rfl, ?_⟩ | refine ⟨le_ok rfl, ?_⟩)
      exact ⟨_, _, wkn_oe, h'⟩
  | size n f =>
    refine ⟨_, rfl, lc_unroll ?_⟩
    refine ⟨_, rfl, rfl, .int, rfl, iteFb rfl ?_⟩
    refine ⟨_, rfl, rfl, .int, rfl, iteFb rfl ?_⟩
    refine ⟨_, rfl, ?_⟩
    repeat (first | refine ⟨le_ok rfl, _, rfl, ?_⟩ | refine ⟨_, rfl, ?_⟩ | refine ⟨rfl, ?_⟩ | refine ⟨le_ok rfl, ?_⟩)
    refine ix_lstR (lstR_cons _ I.hf) (ofile_at rok.2) ?_
    refine dlen0 ?_
    repeat (first | refine ⟨le_ok rfl, _, rfl, ?_⟩ | refine ⟨_, rfl, ?_⟩ | refine ⟨rfl, ?_⟩ | refine ⟨le_ok rfl, ?_⟩)
    refine oset_name ?_
    repeat (first | refine ⟨le_ok rfl, _, rfl, ?_⟩ | refine ⟨_, rfl, ?_⟩ | refine ⟨rfl, ?_⟩ | refine ⟨le_ok rfl, ?_⟩)
    exact ⟨_, _, wkn_oe, h⟩
  | send q =>
    refine ⟨_, rfl, lc_unroll ?_⟩
    refine ⟨_, rfl, rfl, .tup, kd_part q, iteTb rfl (wcall _ _ q 9 _ rfl rfl rok.1 rok.2 ⟨(show 0 < 100000 by decide), ?_⟩)⟩
    refine ⟨_, rfl, ?_⟩
    repeat (first | refine ⟨le_ok rfl, _, rfl, ?_⟩ | refine ⟨_, rfl, ?_⟩ | refine ⟨rfl, ?_⟩ | refine ⟨le_ok rfl, ?_⟩)
    refine oset_letter ?_
    repeat (first | refine ⟨le_ok rfl, _, rfl, ?_⟩ | refine ⟨_, rfl, ?_⟩ | refine ⟨rfl, ?_⟩ | refine ⟨le_ok rfl, ?_⟩)
    exact ⟨_, _, wkn_oe, h⟩
  | go r =>
    refine ⟨_, rfl, lc_unroll ?_⟩
    refine ⟨_, rfl, rfl, .int, rfl, iteFb rfl ?_⟩
    refine ⟨_, rfl, ?_⟩
    repeat (first | refine ⟨le_ok rfl, _, rfl, ?_⟩ | refine ⟨_, rfl, ?_⟩ | refine ⟨rfl, ?_⟩ | refine ⟨le_ok rfl, ?_⟩)
    refine oset_row ?_
    repeat (first | refine ⟨le_ok rfl, _, rfl, ?_⟩ | refine ⟨_, rfl, ?_⟩ | refine ⟨rfl, ?_⟩ | refine ⟨le_ok rfl, ?_⟩)
    exact ⟨_, _, wkn_oe, h⟩
  | unl n r =>
    refine ⟨_, rfl, lc_unroll ?_⟩
    refine ⟨_, rfl, rfl, .int, rfl, iteFb rfl ?_⟩
    refine ⟨_, rfl, rfl, .int, rfl, iteFb rfl ?_⟩
    refine ⟨_, rfl, ?_⟩
    repeat (first | refine ⟨le_ok rfl, _, rfl, ?_⟩ | refine ⟨_, rfl, ?_⟩ | refine ⟨rfl, ?_⟩ | refine ⟨le_ok rfl, ?_⟩)
    have na := iR_at (ns := ns) (i := n.toNat) (by have := rok.1.1; have := rok.1.2; omega)
    rw [toNat_cast rok.1.1] at na
    have h' : C (OE.r ⟨if ns.getD n.toNat 0 = 0 then r else s.row + 1, s.taken, none, none, none, none⟩) S := h
    refine ⟨js + 1, _, _, I1 _, rfl, _, rfl, _, rfl, .inl ⟨jn + 1, _, _, I2 _, na, rfl, ?_⟩⟩
    by_cases c : ns.getD n.toNat 0 = 0
    · rw [if_pos c] at h'
      refine iteTb (by rw [eqI]; exact decide_eq_true c) ?_
      repeat (first | refine ⟨le_ok rfl, _, rfl, ?_⟩ | refine ⟨_, rfl, ?_⟩ | refine ⟨rfl, ?_⟩ | refine ⟨le_ok rfl, ?_⟩)
      refine oset_row ?_
      repeat (first | refine ⟨le_ok rfl, _, rfl, ?_⟩ | refine ⟨_, rfl, ?_⟩ | refine ⟨rfl, ?_⟩ | refine ⟨le_ok rfl, ?_⟩)
      exact ⟨_, _, wkn_oe, h'⟩
    · rw [if_neg c] at h'
      refine iteFb (by rw [eqI]; exact decide_eq_false c) ?_
      repeat (first | refine ⟨le_ok rfl, _, rfl, ?_⟩ | refine ⟨_, rfl, ?_⟩ | refine ⟨rfl, ?_⟩ | refine ⟨le_ok rfl, ?_⟩)
      exact ⟨_, _, wkn_oe, h'⟩
  | mark =>
    refine ⟨_, rfl, lc_unroll ?_⟩
    refine ⟨_, rfl, ?_⟩
    repeat (first | refine ⟨le_ok rfl, _, rfl, ?_⟩ | refine ⟨_, rfl, ?_⟩ | refine ⟨rfl, ?_⟩ | refine ⟨le_ok rfl, ?_⟩)
    exact ⟨_, _, wkn_oe, h⟩
end
end K05
set_option Elab.async false
set_option linter.all false
set_option maxRecDepth 100000
set_option maxHeartbeats 4000000
namespace K05
open PySem PySem.Spec PyProof.Rows L2 DL PM
local macro_rules | `(tactic| walk_at "rp") => `(tactic| repeat (first | refine ⟨le_ok rfl, _, rfl, ?_⟩ | refine ⟨_, rfl, ?_⟩ | refine ⟨rfl, ?_⟩ | refine ⟨le_ok rfl, ?_⟩))
section
variable {P : Program} {w : World} {K : Fg} {mg : Str → Option Value} {base : Heap}
/-! _law_pass -/
def spOPass : SpD := fun rs S C => ∃ (ps pn : Addr) (s : OIn) (ab ag : R) (ns : List Int) (x : OE), rs = [.val (.ref ps), x.r] ∧ S = [.dct ps (s.kv (.val (.ref pn)) ab ag), .lst pn (iR ns)] ∧ (∀ n v, x.name = some (n, v) → NumOk n ns.length) ∧
  C (.dat .none) [.dct ps ((s.pass x).kv (.val (.ref pn)) ab ag), .lst pn (iR (oNames ns x))]
abbrev s__law_pass : Stmt := topS 48
abbrev N__law_pass : List Str := ["_law_s", "_law_e"]
theorem sc__law_pass : FnScope N__law_pass ["_law_s", "_law_e"] (defScope s__law_pass) := ⟨rfl, rfl, rfl, by decide +kernel, rfl, by decide +kernel, by decide +kernel⟩
theorem ok_opass {k : Nat} (F : FunAt K mg "_law_pass" s__law_pass ["_law_s", "_law_e"]) (B : Blt mg) : Def P w K mg base "_law_pass" (k + 1) 2 spOPass := by
  refine okF F sc__law_pass rfl fun cdv A outer s H E f hr => ⟨_,
    (ss_cons (s_if (t_notN (d_ix (hu_of hr) (dv 1) d_str) d_non)
      (ss_one (s_asg (d_ix (hu_of hr) (d_ix (hu_of hr) (dv 1) d_str) d_int) (g_sub (hu_of hr) (d_ix (hu_of hr) (dv 0) d_str) (d_ix (hu_of hr) (d_ix (hu_of hr) (dv 1) d_str) d_int))))
      ss_nil)
      (ss_cons (s_asg (d_tup (a_cons (d_ix (hu_of hr) (dv 1) d_str) (a_cons (d_ix (hu_of hr) (dv 1) d_str) (a_cons (d_add (d_ix (hu_of hr) (dv 0) d_str) d_int) a_nil)))) (g_tup (gs_cons (g_sub (hu_of hr) (dv 0) d_str) (gs_cons (g_sub (hu_of hr) (dv 0) d_str) (gs_cons (g_sub (hu_of hr) (dv 0) d_str) gs_nil)))))
      (ss_one (s_asg (d_tup (a_cons (d_add (d_ix (hu_of hr) (dv 0) d_str) (d_intF (by rfl) B.int (a_cons (d_notN (d_ix (hu_of hr) (dv 1) d_str) d_non) a_nil))) (a_cons (d_add (d_ix (hu_of hr) (dv 0) d_str) d_int) a_nil))) (g_tup (gs_cons (g_sub (hu_of hr) (dv 0) d_str) (gs_cons (g_sub (hu_of hr) (dv 0) d_str) gs_nil)))))))
    , ?_⟩
  intro rs S C hl h
  obtain ⟨ps, pn, s, ab, ag, ns, x, rfl, rfl, hx, h⟩ := h
  obtain ⟨xrow, xtaken, xname, xfile, xletter, xfault⟩ := x
  have tail : ∀ ns' : List Int, C (.dat .none) [.dct ps ((s.pass ⟨xrow, xtaken, xname, xfile, xletter, xfault⟩).kv (.val (.ref pn)) ab ag), .lst pn (iR ns')] →
      sSeq (sAsg (dTup (dCons (dOp fIx (dVar 1) (dC (R.dat (PyData.str "row")))) (dCons (dOp fIx (dVar 1) (dC (R.dat (PyData.str "taken")))) (dCons (dOp fAdd (dOp fIx (dVar 0) (dC (R.dat (PyData.str "done")))) (dC (R.dat (PyData.int 1)))) dNil))))
          (gTp 3 (gCn (gSb (dVar 0) (dC (R.dat (PyData.str "row"))) fSet) (gCn (gSb (dVar 0) (dC (R.dat (PyData.str "taken"))) fSet) (gCn (gSb (dVar 0) (dC (R.dat (PyData.str "done"))) fSet) gNl)))))
        (sAsg (dTup (dCons (dOp fAdd (dOp fIx (dVar 0) (dC (R.dat (PyData.str "letters")))) (dCB fInt (dCons (dOp fNotN (dOp fIx (dVar 1) (dC (R.dat (PyData.str "letter")))) (dC (R.dat PyData.none))) dNil))) (dCons (dOp fAdd (dOp fIx (dVar 0) (dC (R.dat (PyData.str "since")))) (dC (R.dat (PyData.int 1)))) dNil)))
          (gTp 2 (gCn (gSb (dVar 0) (dC (R.dat (PyData.str "letters"))) fSet) (gCn (gSb (dVar 0) (dC (R.dat (PyData.str "since"))) fSet) gNl))))
        { nx := fun _ S => C (.dat .none) S, rt := C } (startF N__law_pass [.val (.ref ps), (⟨xrow, xtaken, xname, xfile, xletter, xfault⟩ : OE).r]) [.dct ps (s.kv (.val (.ref pn)) ab ag), .lst pn (iR ns')] := by
    intro ns' h
    refine ⟨_, rfl, _, rfl, _, rfl, _, rfl, dget (i := 0) (j := 0) rfl rfl rfl ⟨le_ok rfl, _, rfl, rfl, ?_⟩⟩
    refine ⟨_, rfl, sset_row ⟨_, rfl, sset_taken ⟨_, rfl, sset_done ⟨rfl, ?_⟩⟩⟩⟩
    refine dget (i := 0) (j := 0) rfl rfl rfl ⟨_, rfl, _, rfl, ?_⟩
    cases xletter with
    | none => exact dget (i := 0) (j := 0) rfl rfl rfl ⟨le_ok rfl, _, rfl, rfl, _, rfl, sset_letters ⟨_, rfl, sset_since ⟨rfl, h⟩⟩⟩
    | some v => exact dget (i := 0) (j := 0) rfl rfl rfl ⟨le_ok rfl, _, rfl, rfl, _, rfl, sset_letters ⟨_, rfl, sset_since ⟨rfl, h⟩⟩⟩
  cases xname with
  | none =>
    refine ⟨_, rfl, _, rfl, ?_⟩
    exact tail ns h
  | some nv =>
    obtain ⟨n, v⟩ := nv
    have hn := hx n v rfl
    refine ⟨_, rfl, _, rfl, ?_⟩
    refine ⟨_, rfl, _, rfl, .int v, rfl, dget (i := 0) (j := 0) rfl rfl rfl ⟨_, rfl, _, rfl, .int n, rfl, .inl ⟨1, _, n.toNat, rfl, by rw [iR_len]; exact ixN_of hn, ?_⟩⟩⟩
    rw [oIR_set]
    exact tail _ h
end
end K05
set_option Elab.async false
set_option linter.all false
set_option maxRecDepth 100000
set_option maxHeartbeats 4000000
/-! The laws' own works, in plain Lean: moves, and that they go as the program's own. -/
namespace PM
open PySem PySem.Spec PyProof.Rows L2 DL
structure OJ where
  row : Int
  e : OE
  old : Option (Int × List Int)
structure OI where
  s : OIn
  names : List Int
  about : Option OE
  again : List Int
structure OMk where
  row : Int
  names : List Int
  taken : Int
  done : Int
  letters : Int
structure OW where
  p : Prog
  hs : List Int
  way : Str
  often : Int
  files : List (List Int)
  sent : List Int
  mark : OMk
  jots : List OJ
  made : Int
  end_ : PyData
  inn : Option OI
  steps : Int
def oPass (e : OE) (i : OI) : OI := { i with s := i.s.pass e, names := oNames i.names e }
def oMarks (o : OW) (i : OI) : PyData × OW := (told2 "marks" i.s.row, { o with mark := ⟨i.s.row, i.names, i.s.taken, i.s.done, i.s.letters⟩, jots := [], made := 0, inn := some { i with s := { i.s with since := 0 } } })
def oEff (o : OW) (i : OI) : OE := ownE (rowAt o.p.rows i.s.row) i.s.row i.s.taken i.names o.hs o.files
def oOld (o : OW) (e : OE) : Option (Int × List Int) := e.file.map fun x => (x.1, o.files.getD x.1.toNat [])
def oHow (o : OW) (i : OI) : PyData := if i.s.row = o.p.rows.length then told1 "end" else told1 "long"
def oBegin (o : OW) (i : OI) : Option PyData × OW :=
  if i.s.row = o.p.rows.length ∨ i.s.done = 1000 then (some (.tuple [.str "ends", oHow o i]), { o with end_ := oHow o i })
  else if 0 < o.often ∧ o.often ≤ i.s.since then (some (oMarks o i).1, (oMarks o i).2)
  else match (oEff o i).fault with
    | some f => (some (.tuple [.str "ends", .tuple [.str "fault", .str f]]), { o with end_ := .tuple [.str "fault", .str f] })
    | none =>
      if isMark (rowAt o.p.rows i.s.row) = true then (some (oMarks { o with steps := o.steps + 1 } (oPass (oEff o i) i)).1, (oMarks { o with steps := o.steps + 1 } (oPass (oEff o i) i)).2)
      else if o.way = backW ∧ (oEff o i).file = none then (none, { o with inn := some { i with about := some (oEff o i) } })
      else (some (told2 "notes" i.s.row), { o with inn := some { i with about := some (oEff o i) }, jots := o.jots ++ [⟨i.s.row, oEff o i, oOld o (oEff o i)⟩] })
def oPut (files : List (List Int)) (e : OE) : List (List Int) := match e.file with
  | none => files
  | some x => files.set x.1.toNat x.2
def oDoes (o : OW) (i : OI) (e : OE) : PyData × OW := (told2 "does" i.s.row, { o with files := oPut o.files e, made := o.jots.length, steps := o.steps + 1, inn := some (oPass e { i with about := none, s := { i.s with out := false } }) })
def oDone (o : OW) (i : OI) (e : OE) : PyData × OW := match e.letter, i.s.out with
  | some v, false => if i.s.letters < o.sent.length then (told2 "skips" i.s.row, { o with inn := some { i with s := { i.s with out := true } } })
      else (told2 "sends" i.s.row, { o with inn := some { i with s := { i.s with out := true } }, sent := o.sent ++ [v] })
  | _, _ => oDoes o i e
def oIn (m : OMk) (n : Nat) : OI := ⟨⟨m.row, m.taken, m.done, m.letters, 0, false⟩, m.names, none, (List.range n).map fun (i : Nat) => (i : Int)⟩
def oRise (o : OW) : PyData × OW := match o.jots.getLast? with
  | some j => if o.way = backW then (told2 "back" ((j.old.getD (0, [])).1), { o with jots := o.jots.dropLast, files := o.files.set (j.old.getD (0, [])).1.toNat (j.old.getD (0, [])).2 })
    else (told2 "rises" o.mark.row, { o with inn := some (oIn o.mark o.jots.length) })
  | none => (told2 "rises" o.mark.row, { o with inn := some (oIn o.mark o.jots.length) })
def oGo (o : OW) (i : OI) (k : Int) (r : List Int) : PyData × OW :=
  let j := o.jots.getD k.toNat ⟨0, oe0 0 0, none⟩
  (told2 "again" j.row, { o with inn := some (if k < o.made then oPass j.e { i with again := r } else { i with again := r, about := some j.e }) })
def oOver (o : OW) : Bool := !isNone (.dat o.end_)
def oMove (o : OW) : PyData × OW :=
  if oOver o = true then (told1 "rests", o) else match o.inn with
    | none => oRise o
    | some i => match i.again with
      | k :: r => oGo o i k r
      | [] => match i.about with
        | some e => oDone o i e
        | none => match oBegin o i with
          | (some d, o') => (d, o')
          | (none, o') => oDone o' { i with about := some (oEff o i) } (oEff o i)
def oFall (o : OW) : OW := { o with inn := none }
def oMk0 (p : Prog) : OMk := ⟨0, List.replicate p.names.toNat 0, 0, 0, 0⟩
def oNew (p : Prog) (hs : List Int) (way : Str) (often : Int) : OW := ⟨p, hs, way, often, List.replicate p.files.toNat [], [], oMk0 p, [], 0, .none, some (oIn (oMk0 p) 0), 0⟩
/-! ### the relation -/
namespace Rn
def O (Z : Rn) (k : Nat) : OE := oeOf (Z.E k) (Z.T k).files
def J (Z : Rn) (k : Nat) : OJ := ⟨(Z.T k).row, Z.O k, (Z.E k).file.map fun f => (f, (Z.T k).files.getD f.toNat [])⟩
end Rn
def chain (Z : Rn) (m : Nat) : List Nat → List (List Int) → Prop
  | [], h => h = (Z.T m).files
  | k :: r, h => k < Z.N ∧ (∃ f, (Z.E k).file = some f) ∧ (h = (Z.T k).files ∨ h = (Z.T (k + 1)).files) ∧ chain Z m r (Z.T k).files
structure RelI (Z : Rn) (m : Nat) (st : WorkS) (i : InnerS) (oi : OI) : Prop where
  row : oi.s.row = i.row
  taken : oi.s.taken = i.taken
  done : oi.s.done = i.passed
  letters : oi.s.letters = i.letters
  since : oi.s.since = i.since
  out : oi.s.out = i.out
  names : oi.names = i.names
  about : oi.about = i.noted.map fun _ => Z.O i.passed.toNat
  again : oi.again = ((List.range st.jots.length).drop (st.jots.length - i.again.toNat)).map fun (n : Nat) => (n : Int)
structure Rel (Z : Rn) (way : Str) (often : Int) (m : Nat) (st : WorkS) (o : OW) : Prop where
  rows : o.p.rows = Z.rows
  hs : o.hs = Z.hs
  wayE : o.way = way
  oftenE : o.often = often
  files : o.files = st.held
  sent : o.sent = st.letters
  mark : o.mark = ⟨(Z.T m).row, (Z.T m).names, (Z.T m).taken, m, (Z.T m).sent.length⟩
  mp : st.mark.passed = m
  made : o.made = st.made
  end_ : o.end_ = st.over
  steps : o.steps = st.count
  jots : ∃ ks : List Nat, st.jots = ks.map Z.E ∧ o.jots = ks.map Z.J ∧ (way = onW → ks = (List.range ks.length).map (m + ·)) ∧ (way = backW → chain Z m ks.reverse st.held ∧ ∀ i, st.inner = some i → ∀ e, i.noted = some e → ∀ f, e.file = some f → ks.getLast? = some i.passed.toNat)
  inn : match st.inner, o.inn with
    | none, none => True
    | some i, some oi => RelI Z m st i oi
    | _, _ => False
section
variable {Z : Rn} {way : Str} {often : Int} {m : Nat} {st : WorkS} {o : OW}
theorem rel_fall (h : Rel Z way often m st o) : Rel Z way often m (fallW st) (oFall o) :=
  { h with
    jots := by
      obtain ⟨ks, a, b, c, d⟩ := h.jots
      exact ⟨ks, a, b, c, fun hb => ⟨(d hb).1, fun i hi => nomatch hi⟩⟩
    inn := True.intro }
theorem rel_new (z : Z.Ok) {p : Prog} {hs : List Int} (e1 : p.rows = Z.rows) (e2 : hs = Z.hs) (e3 : Z.r0 = run0 p) : Rel Z way often 0 (newW p hs way often) (oNew p hs way often) where
  rows := e1
  hs := e2
  wayE := rfl
  oftenE := rfl
  files := rfl
  sent := rfl
  mark := by
    show oMk0 p = ⟨Z.r0.row, Z.r0.names, Z.r0.taken, ((0 : Nat) : Int), Z.r0.sent.length⟩
    rw [e3]; rfl
  mp := rfl
  made := rfl
  end_ := rfl
  steps := rfl
  jots := ⟨[], rfl, rfl, fun _ => rfl, fun _ => ⟨by show _ = Z.r0.files; rw [e3]; rfl, fun i hi e he => by cases hi; cases he⟩⟩
  inn := by
    show RelI Z 0 _ (mkInner ⟨0, List.replicate p.names.toNat 0, 0, 0, 0⟩ 0) (oIn (oMk0 p) 0)
    exact ⟨rfl, rfl, rfl, rfl, rfl, rfl, rfl, rfl, rfl⟩
theorem Rel.over (h : Rel Z way often m st o) : oOver o = isOver st := by
  unfold oOver isOver
  rw [h.end_]
  cases st.over <;> rfl
theorem relI_take {i : InnerS} {oi : OI} {st' : WorkS} {k : Nat} (h : RelI Z m st i oi) (hl : st'.jots.length = st.jots.length) (ag : List Int) (ia : Int) (hag : ag = ((List.range st.jots.length).drop (st.jots.length - ia.toNat)).map fun (n : Nat) => (n : Int)) (ou : Bool) :
    RelI Z m st' (takeOver (Z.E k) { i with noted := none, out := ou, again := ia }) (oPass (Z.O k) { oi with about := none, s := { oi.s with out := ou }, again := ag }) where
  row := rfl
  taken := rfl
  done := by show oi.s.done + 1 = i.passed + 1; rw [h.done]
  letters := by show oi.s.letters + one (Z.E k).letter.isSome = i.letters + one (Z.E k).letter.isSome; rw [h.letters]
  since := by show oi.s.since + 1 = i.since + 1; rw [h.since]
  out := rfl
  names := by
    show oNames oi.names (oeOf (Z.E k) _) = putName i.names (Z.E k)
    rw [oNames_of, h.names]
  about := rfl
  again := by
    show ag = ((List.range st'.jots.length).drop (st'.jots.length - ia.toNat)).map fun (n : Nat) => (n : Int)
    rw [hl]; exact hag
theorem drop_all (n : Nat) {a : Int} (h : a = 0) : ((List.range n).drop (n - a.toNat)).map (fun (n : Nat) => (n : Int)) = [] := by
  subst h
  simp
theorem own_done {i : InnerS} {oi : OI} {k : Nat} (h : Rel Z way often m st o) (hi : st.inner = some i) (ho : o.inn = some oi) (no : i.noted = some (Z.E k)) (hp : i.passed = k) (hh : st.held = (Z.T k).files) (k2 : k < Z.N) :
    (oDone o oi (Z.O k)).1 = (doneW st i (Z.E k)).1 ∧ Rel Z way often m (doneW st i (Z.E k)).2 (oDone o oi (Z.O k)).2 := by
  have r : RelI Z m st i oi := by have := h.inn; rw [hi, ho] at this; exact this
  have ab : oi.about = some (Z.O k) := by rw [r.about, no, hp]; rfl
  obtain ⟨ks, j1, j2, j3, j4⟩ := h.jots
  have does : (oDoes o oi (Z.O k)).1 = (doesW st i (Z.E k)).1 ∧ Rel Z way often m (doesW st i (Z.E k)).2 (oDoes o oi (Z.O k)).2 := by
    refine ⟨by show told2 "does" oi.s.row = told2 "does" i.row; rw [r.row], ?_⟩
    have ef : oPut o.files (Z.O k) = putFile st.held (Z.E k).file (Z.E k).pos (Z.E k).new := by
      unfold oPut putFile Rn.O oeOf
      dsimp only
      cases (Z.E k).file with
      | none => exact h.files
      | some f =>
        show o.files.set f.toNat _ = _
        rw [h.files, hh]
    exact {
      rows := h.rows, hs := h.hs, wayE := h.wayE, oftenE := h.oftenE, sent := h.sent, mark := h.mark, mp := h.mp, end_ := h.end_
      files := ef
      made := by show ((o.jots.length : Nat) : Int) = st.jots.length; rw [j1, j2, List.length_map, List.length_map]
      steps := by show o.steps + 1 = st.count + 1; rw [h.steps]
      jots := ⟨ks, j1, j2, j3, fun hb => by
        obtain ⟨c1, c2⟩ := j4 hb
        refine ⟨?_, fun i' hi' e he => by cases hi'; cases he⟩
        show chain Z m ks.reverse (putFile st.held (Z.E k).file (Z.E k).pos (Z.E k).new)
        cases hf : (Z.E k).file with
        | none => exact c1
        | some f =>
          have hl := c2 i hi _ no f hf
          rw [hp, Int.toNat_natCast] at hl
          obtain ⟨r', er⟩ : ∃ r', ks.reverse = k :: r' := by
            obtain ⟨ys, hys⟩ := List.getLast?_eq_some_iff.mp hl
            exact ⟨ys.reverse, by rw [hys, List.reverse_append]; rfl⟩
          rw [er] at c1 ⊢
          refine ⟨c1.1, c1.2.1, .inr ?_, c1.2.2.2⟩
          rw [hh, ← hf]; rfl⟩
      inn := by
        have := relI_take (k := k) (st' := (doesW st i (Z.E k)).2) r rfl oi.again i.again r.again false
        exact this }
  unfold oDone doneW
  have el : (Z.O k).letter = (Z.E k).letter := rfl
  rw [el, r.out]
  cases hv : (Z.E k).letter with
  | none => exact does
  | some v =>
    cases hout : i.out with
    | true => exact does
    | false =>
      dsimp only
      unfold sendsW
      have inn' : RelI Z m st { i with out := true } { oi with s := { oi.s with out := true } } := ⟨r.row, r.taken, r.done, r.letters, r.since, rfl, r.names, r.about, r.again⟩
      have jt : ∃ ks : List Nat, st.jots = ks.map Z.E ∧ o.jots = ks.map Z.J ∧ (way = onW → ks = (List.range ks.length).map (m + ·)) ∧ (way = backW → chain Z m ks.reverse st.held ∧ ∀ i', some ({ i with out := true } : InnerS) = some i' → ∀ e, i'.noted = some e → ∀ f, e.file = some f → ks.getLast? = some i'.passed.toNat) :=
        ⟨ks, j1, j2, j3, fun hb => ⟨(j4 hb).1, fun i' hi' e he f hf => by cases hi'; exact (j4 hb).2 i hi e he f hf⟩⟩
      by_cases c : i.letters < st.letters.length
      · have c' : oi.s.letters < o.sent.length := by rw [r.letters, h.sent]; exact c
        rw [if_pos c, if_pos c']
        exact ⟨by show told2 "skips" oi.s.row = told2 "skips" i.row; rw [r.row], { h with inn := ⟨inn'.row, inn'.taken, inn'.done, inn'.letters, inn'.since, inn'.out, inn'.names, inn'.about, inn'.again⟩, jots := jt }⟩
      · have c' : ¬ oi.s.letters < o.sent.length := by rw [r.letters, h.sent]; exact c
        rw [if_neg c, if_neg c']
        refine ⟨by show told2 "sends" oi.s.row = told2 "sends" i.row; rw [r.row], { h with inn := ?_, jots := jt, sent := ?_ }⟩
        · show o.sent ++ [v] = st.letters ++ [v]
          rw [h.sent]
        · exact ⟨inn'.row, inn'.taken, inn'.done, inn'.letters, inn'.since, inn'.out, inn'.names, inn'.about, inn'.again⟩
theorem own_keep {i : InnerS} {oi : OI} {k : Nat} (hrows : o.p.rows = Z.rows) (hhs : o.hs = Z.hs) (hw : o.way = way) (hof : o.often = often) (hfl : o.files = st.held) (hst : o.sent = st.letters) (hen : o.end_ = st.over) (hsp : o.steps = st.count)
    (r : RelI Z m st i oi) (ha : At Z k i) (hg : i.again = 0) (no : i.noted = none) (hh : st.held = (Z.T k).files) : (oMarks o oi).1 = (keepW st i).1 ∧ Rel Z way often k (keepW st i).2 (oMarks o oi).2 := by
  refine ⟨by show told2 "marks" oi.s.row = told2 "marks" i.row; rw [r.row], ?_⟩
  exact {
    mp := ha.passed
    rows := hrows, hs := hhs, wayE := hw, oftenE := hof, files := hfl, sent := hst, made := rfl, end_ := hen, steps := hsp
    mark := by
      show OMk.mk oi.s.row oi.names oi.s.taken oi.s.done oi.s.letters = _
      rw [r.row, r.names, r.taken, r.done, r.letters, ha.row, ha.names, ha.taken, ha.passed, ha.letters]
    jots := ⟨[], rfl, rfl, fun _ => rfl, fun _ => ⟨hh, fun i' hi' e he f hf => by
      cases hi'
      have : i.noted = some e := he
      rw [no] at this; cases this⟩⟩
    inn := by
      show RelI Z k (keepW st i).2 { i with since := 0 } { oi with s := { oi.s with since := 0 } }
      refine ⟨r.row, r.taken, r.done, r.letters, rfl, r.out, r.names, r.about, ?_⟩
      show oi.again = _
      rw [r.again, drop_all _ hg]
      exact (drop_all 0 hg).symm }
theorem rel_end (h : Rel Z way often m st o) (d : PyData) : Rel Z way often m { st with over := d } { o with end_ := d } :=
  { h with
    end_ := rfl
    inn := by
      have q := h.inn
      show match st.inner, o.inn with
        | none, none => True
        | some i, some oi => RelI Z m { st with over := d } i oi
        | _, _ => False
      cases hi : st.inner with
      | none =>
        rw [hi] at q
        cases ho : o.inn with
        | none => exact True.intro
        | some oi => rw [ho] at q; exact q
      | some i =>
        rw [hi] at q
        cases ho : o.inn with
        | none => rw [ho] at q; exact q
        | some oi =>
          rw [ho] at q
          exact ⟨q.row, q.taken, q.done, q.letters, q.since, q.out, q.names, q.about, q.again⟩ }
theorem own_begin (z : Z.Ok) (hw : way = backW ∨ way = onW) (v : Inv Z way often m st) (h : Rel Z way often m st o) {i : InnerS} {oi : OI} (hov : st.over = .none) (hi : st.inner = some i) (ho : o.inn = some oi) (ha : ¬ 0 < i.again) (no : i.noted = none) :
    let x := match oBegin o oi with
      | (some d, o') => (d, o')
      | (none, o') => oDone o' { oi with about := some (oEff o oi) } (oEff o oi)
    x.1 = (beginW st i).1 ∧ ∃ m', Rel Z way often m' (beginW st i).2 x.2 := by
  obtain ⟨k, hr⟩ := v.here hov hi ha
  have at_ := hr.at_
  have ar := hr.ar
  have k1 := hr.k1
  have tk := z.tok k1
  have r : RelI Z m st i oi := by have := h.inn; rw [hi, ho] at this; exact this
  have hg : i.again = 0 := ar.again
  have eE : effAt st i = Z.E k := at_.eff v.rows v.handed ar.held
  have eO : oEff o oi = ownE (rowAt Z.rows (Z.T k).row) (Z.T k).row (Z.T k).taken (Z.T k).names Z.hs (Z.T k).files := by
    unfold oEff
    rw [h.rows, h.hs, h.files, ar.held, r.row, r.taken, r.names, at_.row, at_.taken, at_.names]
  have eF : (oEff o oi).fault = (Z.E k).fault := by rw [eO, ownE_fault]; rfl
  obtain ⟨ks, j1, j2, j3, j4⟩ := h.jots
  have rl : (o.p.rows.length : Int) = st.rows.length := by rw [h.rows, v.rows]
  intro x
  have hx : x = match oBegin o oi with
      | (some d, o') => (d, o')
      | (none, o') => oDone o' { oi with about := some (oEff o oi) } (oEff o oi) := rfl
  unfold oBegin at hx
  unfold beginW
  by_cases c1 : i.row = st.rows.length
  · have c1' : oi.s.row = o.p.rows.length := by rw [r.row, rl]; exact c1
    rw [if_pos (.inl c1')] at hx
    rw [if_pos c1, hx]
    have eh : oHow o oi = told1 "end" := if_pos c1'
    rw [eh]
    exact ⟨rfl, m, rel_end h _⟩
  have c1' : ¬ oi.s.row = o.p.rows.length := by rw [r.row, rl]; exact c1
  rw [if_neg c1]
  by_cases c2 : i.passed = 1000
  · have c2' : oi.s.done = 1000 := by rw [r.done]; exact c2
    rw [if_pos (.inr c2')] at hx
    rw [if_pos c2, hx]
    have eh : oHow o oi = told1 "long" := if_neg c1'
    rw [eh]
    exact ⟨rfl, m, rel_end h _⟩
  have c2' : ¬ (oi.s.row = o.p.rows.length ∨ oi.s.done = 1000) := fun z => z.elim c1' fun y => c2 (by rw [← r.done]; exact y)
  rw [if_neg c2'] at hx
  rw [if_neg c2]
  by_cases c3 : 0 < st.often ∧ st.often ≤ i.since
  · have c3' : 0 < o.often ∧ o.often ≤ oi.s.since := by rw [h.oftenE, r.since, ← v.oftenE]; exact c3
    rw [if_pos c3'] at hx
    rw [if_pos c3, hx]
    obtain ⟨a, b⟩ := own_keep (k := k) h.rows h.hs h.wayE h.oftenE h.files h.sent h.end_ h.steps r at_ hg no ar.held
    exact ⟨a, k, b⟩
  have c3' : ¬ (0 < o.often ∧ o.often ≤ oi.s.since) := by rw [h.oftenE, r.since, ← v.oftenE]; exact c3
  rw [if_neg c3', eF] at hx
  rw [if_neg c3, eE]
  cases hf : (Z.E k).fault with
  | some f =>
    rw [hf] at hx
    dsimp only at hx ⊢
    rw [hx]
    exact ⟨rfl, m, rel_end h _⟩
  | none =>
    rw [hf] at hx
    dsimp only at hx ⊢
    have hrl : (Z.T k).row < Z.rows.length := by
      rw [v.rows, at_.row] at c1
      have := tk.row
      omega
    have hk : k ≠ 1000 := by have := at_.passed; omega
    have k2 := stop_not z k1 hrl hk hf
    have eO2 : oEff o oi = Z.O k := by rw [eO]; exact ownE_eq hf
    have er : rowAt st.rows i.row = rowAt Z.rows (Z.T k).row := by rw [v.rows, at_.row]
    have er' : rowAt o.p.rows oi.s.row = rowAt Z.rows (Z.T k).row := by rw [h.rows, r.row, at_.row]
    rw [er', eO2] at hx
    rw [er]
    by_cases c4 : isMark (rowAt Z.rows (Z.T k).row) = true
    · rw [if_pos c4] at hx
      rw [if_pos c4, hx]
      have em : rowAt Z.rows (Z.T k).row = .mark := by
        cases hx : rowAt Z.rows (Z.T k).row <;> rw [hx] at c4 <;> first | rfl | cases c4
      have ef : (Z.E k).file = none := by
        unfold Rn.E runEff
        rw [em]; rfl
      have r2 : RelI Z m { st with count := st.count + 1 } (takeOver (Z.E k) i) (oPass (Z.O k) oi) := by
        have := relI_take (k := k) (st' := { st with count := st.count + 1 }) r rfl oi.again i.again r.again i.out
        have e1 : ({ i with noted := none, out := i.out, again := i.again } : InnerS) = i := by cases i; cases no; rfl
        have e2 : ({ oi with about := none, s := { oi.s with out := i.out }, again := oi.again } : OI) = oi := by
          have a1 := r.about
          rw [no] at a1
          have a2 := r.out
          cases oi with | mk s n ab ag =>
          cases s
          cases (show ab = none from a1)
          cases (show _ = i.out from a2)
          rfl
        rw [e1, e2] at this
        exact this
      obtain ⟨a, b⟩ := own_keep (k := k + 1) (st := { st with count := st.count + 1 }) (o := { o with steps := o.steps + 1 }) h.rows h.hs h.wayE h.oftenE h.files h.sent h.end_ (by show o.steps + 1 = st.count + 1; rw [h.steps]) r2 at_.next hg no (by
        show st.held = putFile (Z.T k).files (Z.E k).file _ _
        rw [ef]; exact ar.held)
      exact ⟨a, k + 1, b⟩
    · rw [if_neg c4] at hx
      rw [if_neg c4]
      have fi : way = backW → (changes (rowAt Z.rows (Z.T k).row) = true ↔ (Z.E k).file ≠ none) := fun _ => by
        unfold Rn.E runEff
        cases rowAt Z.rows (Z.T k).row with
        | take n => simp only [effect]; split <;> simp [changes, eff0]
        | get n f p => simp only [effect]; split <;> simp [changes, eff0]
        | unl n r => simp only [effect]; split <;> simp [changes, eff0]
        | add f p => simp only [effect]; split <;> simp [changes, eff0, changedE]
        | put f p q => simp only [effect]; split <;> simp [changes, eff0, changedE]
        | _ => simp [changes, effect, eff0, changedE]
      have fO : ((Z.O k).file = none) ↔ ((Z.E k).file = none) := by
        unfold Rn.O oeOf
        dsimp only
        cases (Z.E k).file <;> simp
      have ri : ∀ st' : WorkS, st'.jots.length = st.jots.length ∨ True → RelI Z m st' { i with noted := some (Z.E k) } { oi with about := some (Z.O k) } := fun st' _ => ⟨r.row, r.taken, r.done, r.letters, r.since, r.out, r.names, by
          show some (Z.O k) = some (Z.O i.passed.toNat)
          rw [at_.passed, Int.toNat_natCast], by
          show oi.again = _
          rw [r.again, drop_all _ hg]
          exact (drop_all _ hg).symm⟩
      by_cases c5 : st.way = onW ∨ changes (rowAt Z.rows (Z.T k).row) = true
      · have c5' : ¬ (o.way = backW ∧ (Z.O k).file = none) := by
          rintro ⟨w1, w2⟩
          rw [h.wayE] at w1
          rcases c5 with c5 | c5
          · rw [v.wayE, w1] at c5
            exact absurd c5 (by decide)
          · exact (fi w1).mp c5 (fO.mp w2)
        rw [if_neg c5'] at hx
        rw [if_pos c5, hx]
        refine ⟨by show told2 "notes" oi.s.row = told2 "notes" i.row; rw [r.row], m, { h with jots := ?_, inn := ri _ (.inr True.intro) }⟩
        refine ⟨ks ++ [k], ?_, ?_, fun hon => ?_, fun hb => ?_⟩
        · show st.jots ++ [Z.E k] = _
          rw [j1, List.map_append]; rfl
        · show o.jots ++ [OJ.mk oi.s.row (Z.O k) (oOld o (Z.O k))] = _
          rw [j2, List.map_append]
          congr 1
          show [OJ.mk oi.s.row (Z.O k) (oOld o (Z.O k))] = [Z.J k]
          have eo : oOld o (Z.O k) = (Z.E k).file.map fun f => (f, (Z.T k).files.getD f.toNat []) := by
            unfold oOld Rn.O oeOf
            dsimp only
            rw [h.files, ar.held]
            cases (Z.E k).file <;> rfl
          rw [eo, r.row, at_.row]; rfl
        · have e := (ar.on hon).2 no
          have el : ks.length = st.jots.length := by rw [j1, List.length_map]
          have ek : k = m + ks.length := by have := hr.k0; omega
          have j3' := j3 hon
          show ks ++ [k] = (List.range (ks ++ [k]).length).map (m + ·)
          rw [List.length_append, List.length_singleton, List.range_succ, List.map_append, ← j3', List.map_singleton, ← ek]
        · obtain ⟨a, b⟩ := j4 hb
          refine ⟨?_, fun i' hi' e he f hf' => ?_⟩
          · show chain Z m (ks ++ [k]).reverse st.held
            rw [List.reverse_append]
            have nf : (Z.E k).file ≠ none := (fi hb).mp (c5.resolve_left fun z => by rw [v.wayE, hb] at z; exact absurd z (by decide))
            refine ⟨k2, ?_, .inl ar.held, by rw [← ar.held]; exact a⟩
            cases hx2 : (Z.E k).file with
            | none => exact absurd hx2 nf
            | some f => exact ⟨f, rfl⟩
          · cases hi'
            show (ks ++ [k]).getLast? = some i.passed.toNat
            rw [at_.passed, Int.toNat_natCast]; simp
      · have hb : way = backW := hw.resolve_right fun z => c5 (.inl (v.wayE.trans z))
        have nf : (Z.E k).file = none := by
          cases hx2 : (Z.E k).file with
          | none => rfl
          | some f => exact absurd (.inr ((fi hb).mpr (by rw [hx2]; exact fun z => nomatch z))) c5
        have c5' : o.way = backW ∧ (Z.O k).file = none := ⟨h.wayE.trans hb, fO.mpr nf⟩
        rw [if_pos c5'] at hx
        rw [if_neg c5]
        dsimp only at hx
        rw [hx]
        have h2 : Rel Z way often m { st with inner := some { i with noted := some (Z.E k) } } { o with inn := some { oi with about := some (Z.O k) } } :=
          { h with
            jots := ⟨ks, j1, j2, j3, fun hb => ⟨(j4 hb).1, fun i' hi' e he f hf' => by
              cases hi'
              cases he
              rw [nf] at hf'; cases hf'⟩⟩
            inn := ri _ (.inr True.intro) }
        obtain ⟨a, b⟩ := own_done (k := k) h2 rfl rfl rfl at_.passed ar.held k2
        exact ⟨a, m, b⟩
theorem own_go (z : Z.Ok) (v : Inv Z way often m st) (h : Rel Z way often m st o) {i : InnerS} {oi : OI} (hov : st.over = .none) (hi : st.inner = some i) (ho : o.inn = some oi) (ha : 0 < i.again) :
    ∃ k r, oi.again = k :: r ∧ (oGo o oi k r).1 = (goW st i).1 ∧ Rel Z way often m (goW st i).2 (oGo o oi k r).2 := by
  have r : RelI Z m st i oi := by have := h.inn; rw [hi, ho] at this; exact this
  obtain ⟨k, k0, k1, at_, si, sl, hc⟩ := v.inner i hi
  obtain ⟨hon, a2, a3, a4, a5, a6⟩ := hc.resolve_right (fun ar => by have := ar.again; omega)
  obtain ⟨ks, j1, j2, j3, j4⟩ := h.jots
  obtain ⟨q, q1, q2, q3, q4, q5, q6⟩ := v.on hon
  have el : ks.length = st.jots.length := by rw [j1, List.length_map]
  have ej3 := j3 hon
  generalize hL : st.jots.length = L at *
  generalize hp : L - i.again.toNat = P at *
  have hPL : P < L := by omega
  have hPk : k = m + P := by omega
  have eP : ((L : Int) - i.again).toNat = P := by omega
  have hpl : (L : Int) - i.again = (P : Int) := by omega
  have ag : oi.again = (P : Int) :: ((List.range L).drop (P + 1)).map fun (n : Nat) => (n : Int) := by
    rw [r.again, hL, hp, List.drop_eq_getElem_cons (by simpa using hPL), List.map_cons, List.getElem_range]
  have kp : ks[P]? = some k := by
    rw [ej3, List.getElem?_map, List.getElem?_range (by omega), hPk]; rfl
  have eo : o.jots.getD P ⟨0, oe0 0 0, none⟩ = Z.J k := by
    rw [j2, List.getD_eq_getElem?_getD, List.getElem?_map, kp]; rfl
  have es : st.jots.getD P (eff0 0 0) = Z.E k := by
    rw [j1, List.getD_eq_getElem?_getD, List.getElem?_map, kp]; rfl
  have hm2 : L - (i.again - 1).toNat = P + 1 := by omega
  refine ⟨_, _, ag, ?_⟩
  unfold oGo goW
  dsimp only
  rw [Int.toNat_natCast, eo, hL, eP, es]
  by_cases c : (P : Int) = st.made
  · rw [if_pos (by rw [hpl]; exact c), if_neg (by rw [h.made, ← c]; omega)]
    refine ⟨by show told2 "again" (Z.T k).row = told2 "again" i.row; rw [at_.row], { h with jots := ?_, inn := ?_ }⟩
    · exact ⟨ks, j1, j2, j3, fun hb => absurd (hb.symm.trans hon) (by decide)⟩
    · refine ⟨r.row, r.taken, r.done, r.letters, r.since, r.out, r.names, ?_, ?_⟩
      · show some (Z.O k) = some (Z.O i.passed.toNat)
        rw [at_.passed, Int.toNat_natCast]
      · show _ = ((List.range st.jots.length).drop (st.jots.length - (i.again - 1).toNat)).map _
        rw [hL, hm2]
  · have hlt : (P : Int) < st.made := by omega
    rw [if_neg (by rw [hpl]; exact c), if_pos (by rw [h.made]; exact hlt)]
    refine ⟨by show told2 "again" (Z.T k).row = told2 "again" i.row; rw [at_.row], { h with jots := ?_, inn := ?_ }⟩
    · exact ⟨ks, j1, j2, j3, fun hb => absurd (hb.symm.trans hon) (by decide)⟩
    · have := relI_take (k := k) (st' := { st with inner := some (takeOver (Z.E k) { i with again := i.again - 1 }) }) r rfl (((List.range L).drop (P + 1)).map fun (n : Nat) => (n : Int)) (i.again - 1) (by rw [hL, hm2]) i.out
      have e1 : ({ i with noted := none, out := i.out, again := i.again - 1 } : InnerS) = { i with again := i.again - 1 } := by rw [← a4]
      have e2 : ({ oi with about := none, s := { oi.s with out := i.out }, again := ((List.range L).drop (P + 1)).map fun (n : Nat) => (n : Int) } : OI) = { oi with again := ((List.range L).drop (P + 1)).map fun (n : Nat) => (n : Int) } := by
        have b1 := r.about
        rw [a4] at b1
        have b2 := r.out
        clear this ag r h ho
        cases oi with | mk s n ab ag =>
        cases s
        cases (show ab = none from b1)
        cases (show _ = i.out from b2)
        rfl
      rw [e1, e2] at this
      exact this
theorem own_rise (z : Z.Ok) (hw : way = backW ∨ way = onW) (v : Inv Z way often m st) (h : Rel Z way often m st o) (hi : st.inner = none) : (oRise o).1 = (riseW st).1 ∧ Rel Z way often m (riseW st).2 (oRise o).2 := by
  obtain ⟨ks, j1, j2, j3, j4⟩ := h.jots
  have rise : (told2 "rises" o.mark.row) = (told2 "rises" st.mark.row) ∧ Rel Z way often m { st with inner := some (mkInner st.mark st.jots.length) } { o with inn := some (oIn o.mark o.jots.length) } := by
    refine ⟨by rw [h.mark, v.mark]; rfl, { h with jots := ?_, inn := ?_ }⟩
    · exact ⟨ks, j1, j2, j3, fun hb => ⟨(j4 hb).1, fun i' hi' e he => by cases hi'; cases he⟩⟩
    · show RelI Z m _ (mkInner st.mark st.jots.length) (oIn o.mark o.jots.length)
      have el : o.jots.length = st.jots.length := by rw [j1, j2, List.length_map, List.length_map]
      rw [h.mark, v.mark, el]
      refine ⟨rfl, rfl, rfl, rfl, rfl, rfl, rfl, rfl, ?_⟩
      show (List.range st.jots.length).map _ = ((List.range st.jots.length).drop (st.jots.length - ((st.jots.length : Int)).toNat)).map _
      rw [Int.toNat_natCast, Nat.sub_self, List.drop_zero]
  unfold oRise riseW
  rw [j1, j2, List.getLast?_map, List.getLast?_map]
  rw [j1, j2] at rise
  cases hl : ks.getLast? with
  | none => exact rise
  | some k =>
    show (if o.way = backW then _ else _ : PyData × OW).1 = (if st.way = backW then _ else _ : PyData × WorkS).1 ∧ Rel Z way often m (if st.way = backW then _ else _ : PyData × WorkS).2 (if o.way = backW then _ else _ : PyData × OW).2
    by_cases hb : way = backW
    · rw [if_pos (h.wayE.trans hb), if_pos (v.wayE.trans hb)]
      obtain ⟨ys, hys⟩ := List.getLast?_eq_some_iff.mp hl
      obtain ⟨c1, c2⟩ := j4 hb
      rw [hys, List.reverse_append] at c1
      obtain ⟨k2, ⟨f, hf⟩, hh, c3⟩ := (show k < Z.N ∧ (∃ f, (Z.E k).file = some f) ∧ (st.held = (Z.T k).files ∨ st.held = (Z.T (k + 1)).files) ∧ chain Z m ys.reverse (Z.T k).files from c1)
      have eJ : (Z.J k).old = some (f, (Z.T k).files.getD f.toNat []) := by unfold Rn.J; rw [hf]; rfl
      have eP : putFile st.held (Z.E k).file (Z.E k).pos (Z.E k).old = (Z.T k).files := by
        rcases hh with hh | hh
        · rw [hh]; exact z.putOld k2
        · rw [hh]; exact z.putBack k2
      have eQ : st.held.set f.toNat ((Z.T k).files.getD f.toNat []) = (Z.T k).files := by
        rw [hf] at eP
        have e2 : (putFile st.held (some f) (Z.E k).pos (Z.E k).old) = st.held.set f.toNat ((st.held.getD f.toNat []).take (Z.E k).pos.toNat ++ (Z.E k).old) := rfl
        rw [e2] at eP
        have hfl := (z.eok k2).file f hf
        have hll : f.toNat < st.held.length := by rw [v.hok.1]; have := hfl.1; have := hfl.2; omega
        have e3 : (Z.T k).files.getD f.toNat [] = (st.held.getD f.toNat []).take (Z.E k).pos.toNat ++ (Z.E k).old := by
          rw [← eP, List.getD_eq_getElem?_getD, List.getElem?_set_self hll]; rfl
        rw [e3, eP]
      refine ⟨by rw [eJ, hf]; rfl, { h with files := ?_, jots := ?_, inn := ?_ }⟩
      · show o.files.set ((Z.J k).old.getD (0, [])).1.toNat ((Z.J k).old.getD (0, [])).2 = putFile st.held (Z.E k).file (Z.E k).pos (Z.E k).old
        rw [eP, eJ, h.files]; exact eQ
      · refine ⟨ys, ?_, ?_, fun hon => absurd (hb.symm.trans hon) (by decide), fun _ => ⟨?_, fun i' hi' => ?_⟩⟩
        · show (ks.map Z.E).dropLast = _
          rw [hys, List.map_append, List.map_singleton, List.dropLast_concat]
        · show (ks.map Z.J).dropLast = _
          rw [hys, List.map_append, List.map_singleton, List.dropLast_concat]
        · show chain Z m ys.reverse (putFile st.held (Z.E k).file (Z.E k).pos (Z.E k).old)
          rw [eP]; exact c3
        · have : st.inner = some i' := hi'
          rw [hi] at this; cases this
      · have q := h.inn
        rw [hi] at q
        show match st.inner, o.inn with
          | none, none => True
          | some i, some oi => RelI Z m _ i oi
          | _, _ => False
        rw [hi]
        cases ho : o.inn with
        | none => exact True.intro
        | some oi => rw [ho] at q; exact q
    · rw [if_neg (fun z => hb (h.wayE.symm.trans z)), if_neg (fun z => hb (v.wayE.symm.trans z))]
      exact rise
/-- THE THEOREM: the law's own work goes as the program's -/
theorem own_move (z : Z.Ok) (hw : way = backW ∨ way = onW) (v : Inv Z way often m st) (h : Rel Z way often m st o) : (oMove o).1 = (moveW st).1 ∧ ∃ m', Inv Z way often m' (moveW st).2 ∧ Rel Z way often m' (moveW st).2 (oMove o).2 := by
  have fin : ∀ {x : PyData × OW}, x.1 = (moveW st).1 → (∃ m', Rel Z way often m' (moveW st).2 x.2) → x.1 = (moveW st).1 ∧ ∃ m', Inv Z way often m' (moveW st).2 ∧ Rel Z way often m' (moveW st).2 x.2 := by
    rintro x hx ⟨m1, r1⟩
    obtain ⟨m2, _, v2⟩ := inv_move z hw v
    refine ⟨hx, m2, v2, ?_⟩
    have e : m1 = m2 := by
      have a := r1.mp
      have b := v2.at_mark
      omega
    rw [← e]; exact r1
  unfold oMove
  by_cases hov : isOver st = true
  · rw [if_pos (h.over.trans hov)]
    refine fin (x := (told1 "rests", o)) ?_ ⟨m, ?_⟩
    · unfold moveW; rw [if_pos hov]
    · unfold moveW; rw [if_pos hov]; exact h
  have hov' := over_none v (by cases hx : isOver st with | true => exact absurd hx hov | false => rfl)
  rw [if_neg (by rw [h.over]; exact hov)]
  have em : moveW st = match st.inner with
      | none => riseW st
      | some i => if 0 < i.again then goW st i else match i.noted with
        | some e => doneW st i e
        | none => beginW st i := by unfold moveW; rw [if_neg hov] <;> cases st.inner <;> rfl
  rw [em] at fin ⊢
  have q := h.inn
  cases hi : st.inner with
  | none =>
    rw [hi] at q fin
    cases ho : o.inn with
    | some oi => rw [ho] at q; exact q.elim
    | none =>
      obtain ⟨a, b⟩ := own_rise z hw v h hi
      exact fin (x := oRise o) a ⟨m, b⟩
  | some i =>
    rw [hi] at q fin
    cases ho : o.inn with
    | none => rw [ho] at q; exact q.elim
    | some oi =>
      rw [ho] at q
      have r : RelI Z m st i oi := q
      dsimp only at fin ⊢
      by_cases ha : 0 < i.again
      · rw [if_pos ha] at fin ⊢
        obtain ⟨k, r', e, a, b⟩ := own_go z v h hov' hi ho ha
        rw [e]
        exact fin (x := oGo o oi k r') a ⟨m, b⟩
      · rw [if_neg ha] at fin ⊢
        obtain ⟨k, hr⟩ := v.here hov' hi ha
        have hag : oi.again = [] := by rw [r.again, drop_all _ hr.ar.again]
        rw [hag]
        dsimp only
        cases no : i.noted with
        | some e =>
          rw [no] at fin
          obtain ⟨e1, k2, _⟩ := hr.ar.got e no
          subst e1
          have ab : oi.about = some (Z.O k) := by rw [r.about, no, hr.at_.passed]; rfl
          rw [ab]
          obtain ⟨a, b⟩ := own_done (k := k) h hi ho no hr.at_.passed hr.ar.held k2
          exact fin (x := oDone o oi (Z.O k)) a ⟨m, b⟩
        | none =>
          rw [no] at fin
          have ab : oi.about = none := by rw [r.about, no]; rfl
          rw [ab]
          have key := own_begin z hw v h hov' hi ho ha no
          dsimp only at key fin ⊢
          rw [hag] at key
          exact fin key.1 key.2
end
end PM
set_option Elab.async false
set_option linter.all false
set_option maxRecDepth 100000
set_option maxHeartbeats 4000000
/-! How the laws' own works lie in cells. -/
namespace PM
open PySem PySem.Spec PyProof.Rows L2 DL
structure OAs where
  f : Addr
  t : Addr
  j : Addr
  s : Addr
  n : Addr
  a : Addr
def OJ.r (j : OJ) : R := .tp [.dat (.int j.row), j.e.r, .dat (oFile j.old)]
def abR : Option OE → R
  | none => .dat .none
  | some e => e.r
abbrev inKs : List Key := [Sum.inr "row", Sum.inr "names", Sum.inr "taken", Sum.inr "done", Sum.inr "letters", Sum.inr "since", Sum.inr "about", Sum.inr "out", Sum.inr "again"]
def OMk.r (m : OMk) : R := .dic inKs [.dat (.int m.row), .dat (lstI m.names), .dat (.int m.taken), .dat (.int m.done), .dat (.int m.letters), .dat (.int 0), .dat .none, .dat (.bool false), .dat (.list [])]
def oinR (a : OAs) : Option OI → R
  | none => .dat .none
  | some _ => .val (.ref a.s)
def oinC (a : OAs) : Option OI → SH
  | none => []
  | some i => [.dct a.s (i.s.kv (.val (.ref a.n)) (abR i.about) (.val (.ref a.a))), .lst a.n (iR i.names), .lst a.a (iR i.again)]
def OW.kv (o : OW) (a : OAs) : List (Key × R) := [(Sum.inr "p", .dat o.p.dat), (Sum.inr "handed", .dat (lstI o.hs)), (Sum.inr "way", .dat (.str o.way)), (Sum.inr "often", .dat (.int o.often)), (Sum.inr "files", .val (.ref a.f)), (Sum.inr "sent", .val (.ref a.t)), (Sum.inr "mark", o.mark.r), (Sum.inr "jots", .val (.ref a.j)), (Sum.inr "made", .dat (.int o.made)), (Sum.inr "end", .dat o.end_), (Sum.inr "in", oinR a o.inn), (Sum.inr "steps", .dat (.int o.steps))]
def oC (w : Addr) (a : OAs) (o : OW) : SH := .dct w (o.kv a) :: .lst a.f (fileR o.files) :: .lst a.t (iR o.sent) :: .lst a.j (o.jots.map OJ.r) :: oinC a o.inn
def spOM (f : OW → PyData × OW) (ok : OW → Prop) : SpD := fun rs S C => ∃ (w : Addr) (a : OAs) (o : OW), rs = [.val (.ref w)] ∧ S = oC w a o ∧ ok o ∧ ∀ a', C (.dat (f o).1) (oC w a' (f o).2)
/-! single entries -/
section
variable {S : SH} {C : SH → Prop} {w : Addr} {o : OW} {a : OAs}
theorem wput_end (d : PyData) : putR (o.kv a) (Sum.inr "end") (.dat d) = ({ o with end_ := d } : OW).kv a := rfl
theorem wset_end {d : PyData} (q : C (.dct w (({ o with end_ := d } : OW).kv a) :: S)) : fSet (.val (.ref w)) (.dat (.str "end")) (.dat d) (.dct w (o.kv a) :: S) C := ⟨0, _, rfl, (show 12 < 100000 by decide), by rw [wput_end]; exact q⟩
theorem wput_steps (d : Int) : putR (o.kv a) (Sum.inr "steps") (.dat (.int d)) = ({ o with steps := d } : OW).kv a := rfl
theorem wset_steps {d : Int} (q : C (.dct w (({ o with steps := d } : OW).kv a) :: S)) : fSet (.val (.ref w)) (.dat (.str "steps")) (.dat (.int d)) (.dct w (o.kv a) :: S) C := ⟨0, _, rfl, (show 12 < 100000 by decide), by rw [wput_steps]; exact q⟩
theorem wput_in (i : OI) (s n ag : Addr) : putR (o.kv a) (Sum.inr "in") (.val (.ref s)) = ({ o with inn := some i } : OW).kv { a with s := s, n := n, a := ag } := rfl
theorem wmerge_mark (mk : OMk) (j : Addr) : mergeR (o.kv a) [(Sum.inr "mark", mk.r), (Sum.inr "jots", .val (.ref j)), (Sum.inr "made", .dat (.int 0))] = ({ o with mark := mk, jots := [], made := 0 } : OW).kv { a with j := j } := rfl
theorem wmerge_made (x y : Int) : mergeR (o.kv a) [(Sum.inr "made", .dat (.int x)), (Sum.inr "steps", .dat (.int y))] = ({ o with made := x, steps := y } : OW).kv a := rfl
theorem smerge_out {s : OIn} {nm ab ag : R} : mergeR (s.kv nm ab ag) [(Sum.inr "about", .dat .none), (Sum.inr "out", .dat (.bool false))] = ({ s with out := false } : OIn).kv nm (.dat .none) ag := rfl
theorem smerge_copy {s : OIn} {nm ab ag nm' ag' : R} : mergeR (s.kv nm ab ag) [(Sum.inr "names", nm'), (Sum.inr "since", .dat (.int 0)), (Sum.inr "about", .dat .none), (Sum.inr "out", .dat (.bool false)), (Sum.inr "again", ag')] = (⟨s.row, s.taken, s.done, s.letters, 0, false⟩ : OIn).kv nm' (.dat .none) ag' := rfl
theorem mk_zip (m : OMk) : inKs.zip [.dat (.int m.row), .dat (lstI m.names), .dat (.int m.taken), .dat (.int m.done), .dat (.int m.letters), .dat (.int 0), .dat .none, .dat (.bool false), .dat (.list [])] = (⟨m.row, m.taken, m.done, m.letters, 0, false⟩ : OIn).kv (.dat (lstI m.names)) (.dat .none) (.dat (.list [])) := rfl
end
/-! ### displays, updates -/
section
variable (r1 r2 r3 r4 r5 r6 : R)
theorem wdisp6 : mergeR [] (keyed ["p", "handed", "way", "often", "files", "sent"] [r1, r2, r3, r4, r5, r6]) = ([(Sum.inr "p", r1), (Sum.inr "handed", r2), (Sum.inr "way", r3), (Sum.inr "often", r4), (Sum.inr "files", r5), (Sum.inr "sent", r6)] : List (Key × R)) := by kernel_rfl
theorem wdisp6b : mergeR [] (keyed ["mark", "jots", "made", "end", "in", "steps"] [r1, r2, r3, r4, r5, r6]) = ([(Sum.inr "mark", r1), (Sum.inr "jots", r2), (Sum.inr "made", r3), (Sum.inr "end", r4), (Sum.inr "in", r5), (Sum.inr "steps", r6)] : List (Key × R)) := by kernel_rfl
theorem wmerge12 (q1 q2 q3 q4 q5 q6 : R) : mergeR [(Sum.inr "p", r1), (Sum.inr "handed", r2), (Sum.inr "way", r3), (Sum.inr "often", r4), (Sum.inr "files", r5), (Sum.inr "sent", r6)] [(Sum.inr "mark", q1), (Sum.inr "jots", q2), (Sum.inr "made", q3), (Sum.inr "end", q4), (Sum.inr "in", q5), (Sum.inr "steps", q6)] = ([(Sum.inr "p", r1), (Sum.inr "handed", r2), (Sum.inr "way", r3), (Sum.inr "often", r4), (Sum.inr "files", r5), (Sum.inr "sent", r6), (Sum.inr "mark", q1), (Sum.inr "jots", q2), (Sum.inr "made", q3), (Sum.inr "end", q4), (Sum.inr "in", q5), (Sum.inr "steps", q6)] : List (Key × R)) := by kernel_rfl
theorem wdisp3 : mergeR [] (keyed ["mark", "jots", "made"] [r1, r2, r3]) = ([(Sum.inr "mark", r1), (Sum.inr "jots", r2), (Sum.inr "made", r3)] : List (Key × R)) := by kernel_rfl
theorem wdisp2 : mergeR [] (keyed ["made", "steps"] [r1, r2]) = ([(Sum.inr "made", r1), (Sum.inr "steps", r2)] : List (Key × R)) := by kernel_rfl
theorem sdisp2 : mergeR [] (keyed ["about", "out"] [r1, r2]) = ([(Sum.inr "about", r1), (Sum.inr "out", r2)] : List (Key × R)) := by kernel_rfl
end
/-! ### what the walk asks -/
structure OEok (nN nF : Nat) (x : OE) : Prop where
  name : ∀ n v, x.name = some (n, v) → NumOk n nN
  file : ∀ f xs, x.file = some (f, xs) → NumOk f nF
structure OIok (o : OW) (i : OI) : Prop where
  row : 0 ≤ i.s.row ∧ i.s.row ≤ o.p.rows.length
  names : i.names.length = o.p.names.toNat ∧ BB i.names
  taken : 0 ≤ i.s.taken ∧ i.s.taken ≤ o.hs.length
  about : ∀ e, i.about = some e → OEok o.p.names.toNat o.p.files.toNat e
  again : ∀ k ∈ i.again, 0 ≤ k ∧ k < o.jots.length
  alen : i.again.length ≤ 1000
structure OOk (o : OW) : Prop where
  p : o.p.ok
  hs : HandedOk o.hs
  way : o.way = backW ∨ o.way = onW
  files : o.files.length = o.p.files.toNat ∧ ∀ f ∈ o.files, f.length ≤ 40
  sl : o.sent.length ≤ 1000
  jl : o.jots.length ≤ 1000
  jots : ∀ j ∈ o.jots, OEok o.p.names.toNat o.p.files.toNat j.e
  old : o.way = backW → ∀ j ∈ o.jots, ∃ f xs, j.old = some (f, xs) ∧ NumOk f o.p.files.toNat
  inn : ∀ i, o.inn = some i → OIok o i
theorem ownE_ok {row : PRow} {at_ taken many : Int} {ns hs : List Int} {fs : List (List Int)} (rok : row.ok ns.length fs.length many) : OEok ns.length fs.length (ownE row at_ taken ns hs fs) := by
  constructor
  · intro n v hnv
    cases row with
    | set m q => cases hnv; exact rok.1
    | take m => cases hnv; exact rok
    | get m f q => cases hnv; exact rok.1
    | size m f => cases hnv; exact rok.1
    | _ => cases hnv
  · intro f xs hfx
    cases row with
    | add m q => cases hfx; exact rok.1
    | put m q q2 => cases hfx; exact rok.1
    | cut m q => cases hfx; exact rok.1
    | _ => cases hfx
theorem oEff_ok {o : OW} {i : OI} (ok : OOk o) (hi : o.inn = some i) (hr : ¬ i.s.row = o.p.rows.length) : OEok o.p.names.toNat o.p.files.toNat (oEff o i) := by
  have io := ok.inn i hi
  have hn := ok.p.n
  have hf := ok.p.f
  have h1 := io.row.1
  have h2 := io.row.2
  have h : (rowAt o.p.rows i.s.row).ok i.names.length o.files.length o.p.rows.length := by
    rw [io.names.1, ok.files.1, toNat_cast (by omega), toNat_cast (by omega)]
    unfold rowAt
    refine ok.p.r _ ?_
    have hl : i.s.row.toNat < o.p.rows.length := by omega
    rw [List.getD_eq_getElem?_getD, List.getElem?_eq_getElem hl]
    exact List.getElem_mem hl
  rw [← io.names.1, ← ok.files.1]
  exact ownE_ok h
theorem oBegin_none {o o' : OW} {i : OI} (ok : OOk o) (hi : o.inn = some i) (h : oBegin o i = (none, o')) : o' = { o with inn := some { i with about := some (oEff o i) } } ∧ OEok o.p.names.toNat o.p.files.toNat (oEff o i) := by
  unfold oBegin at h
  split at h
  · cases h
  rename_i c1
  split at h
  · cases h
  split at h
  · cases h
  split at h
  · cases h
  split at h
  · cases h
    exact ⟨rfl, oEff_ok ok hi fun z => c1 (.inl z)⟩
  · cases h
theorem oBegin_some {o o' : OW} {i : OI} {d : PyData} (h : oBegin o i = (some d, o')) : isNone (.dat d) = false := by
  unfold oBegin at h
  split at h
  · cases h; rfl
  split at h
  · cases h; rfl
  split at h
  · cases h; rfl
  split at h
  · cases h; rfl
  split at h
  · cases h
  · cases h; rfl
end PM
set_option Elab.async false
set_option linter.all false
set_option maxRecDepth 100000
set_option maxHeartbeats 4000000
/-! DL: cells picked out by their places. -/
namespace DL
open PySem PySem.Spec PyProof.Rows L2
theorem picks_mem {S S' : SH} {idx : List Nat} (h : idx.map (fun i => S[i]?) = S'.map some) {c : Cell} (hc : c ∈ S') : c ∈ S := by
  have : some c ∈ S'.map some := List.mem_map_of_mem hc
  rw [← h] at this
  obtain ⟨i, _, e⟩ := List.mem_map.mp this
  exact List.mem_of_getElem? e
theorem picks_nodup {α : Type} {P : List α} : ∀ {idx : List Nat} {Q : List α}, P.Nodup → idx.map (fun i => P[i]?) = Q.map some → idx.Nodup → Q.Nodup
  | [], [], _, _, _ => List.nodup_nil
  | [], _ :: _, _, h, _ => by simp at h
  | _ :: _, [], _, h, _ => by simp at h
  | i :: idx, q :: Q, hp, h, hn => by
    rw [List.map_cons, List.map_cons] at h
    obtain ⟨h1, h2⟩ := List.cons.inj h
    obtain ⟨n1, n2⟩ := List.nodup_cons.mp hn
    refine List.nodup_cons.mpr ⟨fun hq => ?_, picks_nodup hp h2 n2⟩
    have : some q ∈ Q.map some := List.mem_map_of_mem hq
    rw [← h2] at this
    obtain ⟨j, hj, e⟩ := List.mem_map.mp this
    have eij : i = j := nd_ix hp h1 e
    subst eij
    exact n1 hj
theorem ok_pick {K : Fg} {F : SH} {H : Hp} {S S' : SH} {L : Live} (o : OkF K F H S L) (idx : List Nat) (h : idx.map (fun i => S[i]?) = S'.map some) (nd : idx.Nodup) : OkF K F H S' L := by
  have hm : ∀ c ∈ S', c ∈ S := fun c hc => picks_mem h hc
  have ond : ((S ++ F).map Cell.pt).Nodup := o.nd
  rw [List.map_append] at ond
  obtain ⟨n1, n2, n3⟩ := List.nodup_append.mp ond
  have hp : idx.map (fun i => (S.map Cell.pt)[i]?) = (S'.map Cell.pt).map some := by
    have e := congrArg (List.map (Option.map Cell.pt)) h
    rw [List.map_map, List.map_map] at e
    rw [List.map_map]
    refine Eq.trans ?_ (e.trans ?_)
    · exact List.map_congr_left fun i _ => by rw [List.getElem?_map]; rfl
    · exact List.map_congr_left fun c _ => rfl
  have hs : ∀ a, Av (S' ++ F) a → Av (S ++ F) a := fun a z => by
    obtain ⟨c, hc, rfl⟩ := List.mem_map.mp z
    refine List.mem_map_of_mem ?_
    rcases List.mem_append.mp hc with hc | hc
    · exact List.mem_append_left _ (hm c hc)
    · exact List.mem_append_right _ hc
  refine ⟨?_, fun c hc => ?_, fun e he => (o.live e he).stp (stp_less hs)⟩
  · rw [List.map_append]
    refine List.nodup_append.mpr ⟨picks_nodup n1 hp nd, n2, fun a ha b hb => ?_⟩
    obtain ⟨c, hc, rfl⟩ := List.mem_map.mp ha
    exact n3 _ (List.mem_map_of_mem (hm c hc)) b hb
  · have : c ∈ S ++ F := by
      rcases List.mem_append.mp hc with hc | hc
      · exact List.mem_append_left _ (hm c hc)
      · exact List.mem_append_right _ hc
    exact (o.cells c this).stp (stp_less hs) rfl
theorem wkn_pick {S S' : SH} {r : R} (idx : List Nat) (h : idx.map (fun i => S[i]?) = S'.map some) (nd : idx.Nodup) : Wkn r S r S' := fun K F H L v o => ok_pick o idx h nd
theorem wkf_pick {S S' : SH} {fr : Fr} (idx : List Nat) (h : idx.map (fun i => S[i]?) = S'.map some) (nd : idx.Nodup) : WkF fr S fr S' := fun K F H σ L f o => ⟨L, f, ok_pick o idx h nd, fun _ z => z⟩
/-- a packed end: dicts and lists let go of -/
theorem pick_app {S S' T : SH} {idx : List Nat} (h : idx.map (fun i => S[i]?) = S'.map some) (nd : idx.Nodup) : ∀ {fr : Fr}, WkF fr (S ++ T) fr (S' ++ T) := fun {fr} K F H σ L f o => by
  have o1 : OkF K (T ++ F) H S L := by
    have : Ok K H (S ++ T ++ F) L := o
    rw [List.append_assoc] at this
    exact this
  have o2 : Ok K H (S' ++ (T ++ F)) L := ok_pick o1 idx h nd
  rw [← List.append_assoc] at o2
  exact ⟨L, f, o2, fun _ z => z⟩
theorem wkn_pickT {S S' T : SH} {r : R} (idx : List Nat) (h : idx.map (fun i => S[i]?) = S'.map some) (nd : idx.Nodup) : Wkn r (S ++ T) r (S' ++ T) := fun K F H L v o => by
  have o1 : OkF K (T ++ F) H S ((v, r) :: L) := by
    have : Ok K H (S ++ T ++ F) ((v, r) :: L) := o
    rw [List.append_assoc] at this
    exact this
  have o2 : Ok K H (S' ++ (T ++ F)) ((v, r) :: L) := ok_pick o1 idx h nd
  rw [← List.append_assoc] at o2
  exact o2
end DL
set_option Elab.async false
set_option linter.all false
set_option maxRecDepth 100000
set_option maxHeartbeats 4000000
namespace K05
open PySem PySem.Spec PyProof.Rows L2 DL PM
section
variable {P : Program} {w : World} {K : Fg} {mg : Str → Option Value} {base : Heap}
/-! _law_inner: as cells, or frozen -/
def oin0 : OIn := ⟨0, 0, 0, 0, 0, false⟩
def spOInner : SpD := fun rs S C => ∃ p : Prog, rs = [.dat p.dat] ∧ p.ok ∧ ((∀ ps pn pa, C (.val (.ref ps)) (.dct ps (oin0.kv (.val (.ref pn)) (.dat .none) (.val (.ref pa))) :: .lst pn (iR (List.replicate p.names.toNat 0)) :: .lst pa [] :: S)) ∨ C (oMk0 p).r S)
theorem rep_flat2 (n : Nat) : (List.replicate n [PyData.int 0]).flatten = (List.replicate n (0 : Int)).map PyData.int := by
  induction n with
  | zero => rfl
  | succ n ih => rw [List.replicate_succ, List.flatten_cons, ih, List.replicate_succ]; rfl
theorem rep_flat1 (n : Nat) : ((List.replicate n [PyData.int 0]).flatten).map R.dat = iR (List.replicate n (0 : Int)) := by
  rw [rep_flat2]; unfold iR; rw [List.map_map]; rfl
abbrev s__law_inner : Stmt := topS 49
abbrev N__law_inner : List Str := ["_law_p", "_law_s"]
theorem sc__law_inner : FnScope N__law_inner ["_law_p"] (defScope s__law_inner) := ⟨rfl, rfl, rfl, by decide +kernel, rfl, by decide +kernel, by decide +kernel⟩
theorem ok_oinner {k : Nat} (F : FunAt K mg "_law_inner" s__law_inner ["_law_p"]) (B : Blt mg) : Def P w K mg base "_law_inner" (k + 1) 1 spOInner := by
  refine okW F sc__law_inner rfl fun cdv A outer s H E f hr => ⟨_,
    ss_or
    (ss_cons (s_set (i := 1) sc__law_inner.nd (d_disp (p_cons d_int (p_cons (d_mulC (d_lst (a_cons d_int a_nil)) (d_ix (hu_of hr) (dv 0) d_int)) (p_cons d_int (p_cons d_int (p_cons d_int p_nil)))))))
      (ss_cons (s_expr (d_upd (dv 1) (d_disp (p_cons d_int (p_cons d_non (p_cons d_bl (p_cons (d_lstC a_nil) p_nil)))))))
      (ss_one (s_ret (dv 1)))))
    (ss_cons (s_set (i := 1) sc__law_inner.nd (d_disp (p_cons d_int (p_cons (d_mul (d_lst (a_cons d_int a_nil)) (d_ix (hu_of hr) (dv 0) d_int)) (p_cons d_int (p_cons d_int (p_cons d_int p_nil)))))))
      (ss_cons (s_expr (d_upd (dv 1) (d_disp (p_cons d_int (p_cons d_non (p_cons d_bl (p_cons (d_lst a_nil) p_nil)))))))
      (ss_one (s_ret (dv 1)))))
    , ?_⟩
  intro rs S C hl h
  obtain ⟨p, rfl, hp, h⟩ := h
  have hn := hp.n
  rcases h with h | h
  · refine .inl ?_
    intro ps
    refine ⟨le_ok rfl, _, rfl, _, rfl, _, rfl, by omega, by omega, by simp, fun pn => ?_⟩
    rw [rep_flat1]
    refine ⟨1, rfl, ?_⟩
    refine ⟨_, rfl, ⟨1, _, rfl⟩, fun pd => ?_⟩
    refine ⟨Nat.zero_le _, fun pa => ?_⟩
    refine ⟨1, rfl, ?_⟩
    refine ⟨3, 1, _, _, by decide, rfl, rfl, (show 5 + 4 ≤ 1000 by decide), ?_⟩
    refine ⟨_, rfl, _, .dct ps (oin0.kv (.val (.ref pn)) (.dat .none) (.val (.ref pa))) :: .lst pn (iR (List.replicate p.names.toNat 0)) :: .lst pa [] :: S, ?_, h ps pn pa⟩
    exact wkn_sub ((List.reverse_perm [Cell.dct ps (oin0.kv (.val (.ref pn)) (.dat .none) (.val (.ref pa))), .lst pn (iR (List.replicate p.names.toNat 0)), .dct pd _, .lst pa []]).append_right S) (List.Sublist.cons₂ _ (List.Sublist.cons₂ _ (List.Sublist.cons _ (List.Sublist.refl _))))
  · refine .inr ?_
    intro ps
    refine ⟨le_ok rfl, _, rfl, _, rfl, _, rfl, by omega, by omega, by simp, ?_⟩
    rw [rep_flat2]
    refine ⟨0, rfl, ?_⟩
    refine ⟨_, rfl, ⟨0, _, rfl⟩, fun pd => ?_⟩
    refine ⟨Nat.zero_le _, _, rfl, 0, rfl, ?_⟩
    refine ⟨1, 0, _, _, by decide, rfl, rfl, (show 5 + 4 ≤ 1000 by decide), ?_⟩
    refine ⟨_, rfl, (oMk0 p).r, S, ?_, h⟩
    exact Wkn.trans (wkn_sub (S' := .dct ps (oin0.kv (.dat (lstI (List.replicate p.names.toNat 0))) (.dat .none) (.dat (.list []))) :: S) (List.Perm.refl _) (List.sublist_cons_self _ _)) wkn_dic
/-! _law_copy: frozen of cells, or as cells of a frozen one -/
def spOCopy : SpD := fun rs S C => (∃ (ps pn : Addr) (s : OIn) (ab ag : R) (ns : List Int) (js jn : Nat), rs = [.val (.ref ps)] ∧ S[js]? = some (.dct ps (s.kv (.val (.ref pn)) ab ag)) ∧ S[jn]? = some (.lst pn (iR ns)) ∧ C (OMk.r ⟨s.row, ns, s.taken, s.done, s.letters⟩) S) ∨
  ∃ m : OMk, rs = [m.r] ∧ ∀ ps pn pa, C (.val (.ref ps)) (.dct ps ((⟨m.row, m.taken, m.done, m.letters, 0, false⟩ : OIn).kv (.val (.ref pn)) (.dat .none) (.val (.ref pa))) :: .lst pn (iR m.names) :: .lst pa [] :: S)
abbrev s__law_copy : Stmt := topS 50
abbrev N__law_copy : List Str := ["_law_s", "_law_found"]
theorem sc__law_copy : FnScope N__law_copy ["_law_s"] (defScope s__law_copy) := ⟨rfl, rfl, rfl, by decide +kernel, rfl, by decide +kernel, by decide +kernel⟩
theorem ok_ocopy {k : Nat} (F : FunAt K mg "_law_copy" s__law_copy ["_law_s"]) (B : Blt mg) : Def P w K mg base "_law_copy" (k + 1) 1 spOCopy := by
  refine okW F sc__law_copy rfl fun cdv A outer s H E f hr => ⟨_,
    ss_or
    (ss_cons (s_set (i := 1) sc__law_copy.nd (d_dictC (by rfl) B.dict (a_cons (dv 0) a_nil)))
      (ss_cons (s_expr (d_upd (dv 1) (d_disp (p_cons (d_list (by rfl) B.list (a_cons (d_ix (hu_of hr) (dv 0) d_str) a_nil)) (p_cons d_int (p_cons d_non (p_cons d_bl (p_cons (d_lst a_nil) p_nil))))))))
      (ss_one (s_ret (dv 1)))))
    (ss_cons (s_set (i := 1) sc__law_copy.nd (d_dictC (by rfl) B.dict (a_cons (dv 0) a_nil)))
      (ss_cons (s_expr (d_upd (dv 1) (d_disp (p_cons (d_listC (by rfl) B.list (a_cons (d_ix (hu_of hr) (dv 0) d_str) a_nil)) (p_cons d_int (p_cons d_non (p_cons d_bl (p_cons (d_lstC a_nil) p_nil))))))))
      (ss_one (s_ret (dv 1)))))
    , ?_⟩
  intro rs S C hl h
  rcases h with ⟨ps, pn, s, ab, ag, ns, js, jn, rfl, hs, hn, h⟩ | ⟨m, rfl, h⟩
  · refine .inl ?_
    have I1 : ∀ c, (c :: S)[js + 1]? = some (.dct ps (s.kv (.val (.ref pn)) ab ag)) := fun c => hs
    have I2 : ∀ c d, (c :: d :: S)[js + 2]? = some (.dct ps (s.kv (.val (.ref pn)) ab ag)) := fun c d => hs
    have I3 : ∀ c d, (c :: d :: S)[jn + 2]? = some (.lst pn (iR ns)) := fun c d => hn
    refine ⟨_, rfl, js, _, hs, fun pf => ?_⟩
    refine ⟨_, rfl, ⟨0, _, rfl⟩, fun pd => ?_⟩
    refine dget (i := 0) rfl (I2 _ _) rfl ⟨_, _, _, I3 _ _, odats_iR ns, ?_⟩
    refine ⟨Nat.zero_le _, _, rfl, 0, rfl, ?_⟩
    refine ⟨1, 0, _, _, by decide, rfl, rfl, (show 9 + 5 ≤ 1000 by decide), ?_⟩
    refine ⟨_, rfl, OMk.r ⟨s.row, ns, s.taken, s.done, s.letters⟩, S, ?_, h⟩
    have e := smerge_copy (s := s) (nm := .val (.ref pn)) (ab := ab) (ag := ag) (nm' := .dat (lstI ns)) (ag' := .dat (.list []))
    exact Wkn.trans (wkn_sub (S' := .dct pf ((⟨s.row, s.taken, s.done, s.letters, 0, false⟩ : OIn).kv (.dat (lstI ns)) (.dat .none) (.dat (.list []))) :: S) (List.Perm.refl _) (List.sublist_cons_self _ _)) wkn_dic
  · refine .inr ?_
    refine ⟨_, rfl, fun pf => ?_⟩
    refine ⟨_, rfl, ⟨0, _, rfl⟩, fun pd => ?_⟩
    refine ⟨_, rfl, _, rfl, fun pn => ?_⟩
    refine ⟨Nat.zero_le _, fun pa => ?_⟩
    refine ⟨2, rfl, ?_⟩
    refine ⟨3, 2, _, _, by decide, rfl, rfl, (show 9 + 5 ≤ 1000 by decide), ?_⟩
    have e0 : (m.names.map PyData.int).map R.dat = iR m.names := by unfold iR; rw [List.map_map]; rfl
    rw [e0]
    refine ⟨_, rfl, _, _, ?_, h pf pn pa⟩
    exact wkn_sub (S1 := .dct pf ((⟨m.row, m.taken, m.done, m.letters, 0, false⟩ : OIn).kv (.val (.ref pn)) (.dat .none) (.val (.ref pa))) :: .dct pd _ :: .lst pn (iR m.names) :: .lst pa [] :: S) ((List.reverse_perm [Cell.dct pf ((⟨m.row, m.taken, m.done, m.letters, 0, false⟩ : OIn).kv (.val (.ref pn)) (.dat .none) (.val (.ref pa))), .dct pd _, .lst pn (iR m.names), .lst pa []]).append_right S) (List.Sublist.cons₂ _ (List.Sublist.cons _ (List.Sublist.refl _)))
end
end K05
set_option Elab.async false
set_option linter.all false
set_option maxRecDepth 100000
set_option maxHeartbeats 4000000
namespace K05
open PySem PySem.Spec PyProof.Rows L2 DL PM
section
variable {P : Program} {w : World} {K : Fg} {mg : Str → Option Value} {base : Heap}
/-! _law_own -/
def spOOwn : SpD := fun rs S C => ∃ (p : Prog) (hs : List Int) (way : Str) (often : Int), rs = [.dat p.dat, .dat (lstI hs), .dat (.str way), .dat (.int often)] ∧ p.ok ∧ ∀ w a, C (.val (.ref w)) (oC w a (oNew p hs way often) ++ S)
theorem orng_const (n : Nat) : (rng 0 n).map (fun _ => R.dat (.list [])) = fileR (List.replicate n []) := by
  unfold fileR rng
  rw [List.map_map, List.map_replicate]
  refine List.eq_replicate_iff.mpr ⟨by simp, fun b hb => ?_⟩
  obtain ⟨i, _, rfl⟩ := List.mem_map.mp hb
  rfl
abbrev s__law_own : Stmt := topS 51
abbrev N__law_own : List Str := ["_law_p", "_law_handed", "_law_way", "_law_often", "_law_w", "_law_k"]
theorem sc__law_own : FnScope N__law_own ["_law_p", "_law_handed", "_law_way", "_law_often"] (defScope s__law_own) := ⟨rfl, rfl, rfl, by decide +kernel, rfl, by decide +kernel, by decide +kernel⟩
theorem ok_oown {k : Nat} (F : FunAt K mg "_law_own" s__law_own ["_law_p", "_law_handed", "_law_way", "_law_often"]) (B : Blt mg) (D1 : Def P w K mg base "_law_inner" 1 1 spOInner) : Def P w K mg base "_law_own" (k + 2) 4 spOOwn := by
  refine okW F sc__law_own rfl fun cdv A outer s H E f hr => ⟨_,
    (ss_cons (s_set (i := 4) sc__law_own.nd (d_disp (p_cons (dv 0) (p_cons (dv 1) (p_cons (dv 2) (p_cons (dv 3) (p_cons (d_lcC sc__law_own.nd (i := 5) (i_r1 (by rfl) B.range (a_cons (d_ix (hu_of hr) (dv 0) d_int) a_nil)) (blkOk_by (N := N__law_own) (sc := defScope s__law_own) (own := [("_law_k", 5)]) (by decide +kernel)) (fun _ _ _ _ _ => pg_name (i := 5) sc__law_own.nd rfl (Or.inl rfl)) (fun _ _ _ _ _ => ts_nil) (fun _ _ _ _ _ => (d_lst a_nil))) (p_cons (d_lstC a_nil) p_nil))))))))
      (ss_cons (s_expr (d_upd (dv 4) (d_disp (p_cons (d_callF D1 (hr.mono (by omega)) (by rfl) (a_cons (dv 0) a_nil)) (p_cons (d_lstC a_nil) (p_cons d_int (p_cons d_non (p_cons (d_callF D1 (hr.mono (by omega)) (by rfl) (a_cons (dv 0) a_nil)) (p_cons d_int p_nil)))))))))
      (ss_one (s_ret (dv 4)))))
    , ?_⟩
  intro rs S C hl h
  obtain ⟨p, hs, way, often, rfl, hp, h⟩ := h
  have hf := hp.f
  intro wa
  refine ⟨_, rfl, _, rfl, _, rfl, _, rfl, _, rfl, _, rfl, ⟨by omega, by omega⟩, lc_map (fun _ => .dat (.list [])) ?_ (by rw [rng_len]; omega) ?_⟩
  · exact fun r hr C' q => ⟨Nat.zero_le _, _, rfl, q⟩
  rw [orng_const]
  intro pf
  refine ⟨Nat.zero_le _, fun pt => ?_⟩
  refine ⟨2, rfl, ?_⟩
  rw [wdisp6]
  refine ⟨_, rfl, ⟨2, _, rfl⟩, fun pd => ?_⟩
  refine ⟨_, rfl, rfl, p, rfl, hp, .inr ?_⟩
  refine ⟨Nat.zero_le _, fun pj => ?_⟩
  refine ⟨_, rfl, rfl, p, rfl, hp, .inl fun ps pn pa => ?_⟩
  refine ⟨4, rfl, ?_⟩
  rw [wdisp6b]
  refine ⟨7, 4, _, _, by decide, rfl, rfl, (show 6 + 6 ≤ 1000 by decide), ?_⟩
  rw [wmerge12]
  refine ⟨_, rfl, _, _, ?_, h wa ⟨pf, pt, pj, ps, pn, pa⟩⟩
  exact wkn_pickT (S := [.dct ps _, .lst pn _, .lst pa [], .lst pj [], .dct pd _, .lst pt [], .lst pf _, .dct wa _]) [7, 6, 5, 3, 0, 1, 2] rfl (by decide)
/-! _law_marks -/
def spOMarks : SpD := fun rs S C => ∃ (w : Addr) (a : OAs) (o : OW) (i : OI), rs = [.val (.ref w), .val (.ref a.s)] ∧ S = oC w a o ∧ o.inn = some i ∧ ∀ a' : OAs, a'.s = a.s → C (.dat (oMarks o i).1) (oC w a' (oMarks o i).2)
abbrev s__law_marks : Stmt := topS 52
abbrev N__law_marks : List Str := ["_law_w", "_law_s"]
theorem sc__law_marks : FnScope N__law_marks ["_law_w", "_law_s"] (defScope s__law_marks) := ⟨rfl, rfl, rfl, by decide +kernel, rfl, by decide +kernel, by decide +kernel⟩
theorem ok_omarks {k : Nat} (F : FunAt K mg "_law_marks" s__law_marks ["_law_w", "_law_s"]) (B : Blt mg) (D1 : Def P w K mg base "_law_copy" 1 1 spOCopy) : Def P w K mg base "_law_marks" (k + 2) 2 spOMarks := by
  refine okW F sc__law_marks rfl fun cdv A outer s H E f hr => ⟨_,
    (ss_cons (s_asg d_int (g_sub (hu_of hr) (dv 1) d_str))
      (ss_cons (s_expr (d_upd (dv 0) (d_disp (p_cons (d_callF D1 (hr.mono (by omega)) (by rfl) (a_cons (dv 1) a_nil)) (p_cons (d_lstC a_nil) (p_cons d_int p_nil))))))
      (ss_one (s_ret (d_tup (a_cons d_str (a_cons (d_ix (hu_of hr) (dv 1) d_str) a_nil)))))))
    , ?_⟩
  intro rs S C hl h
  obtain ⟨wa, a, ⟨p, hs, way, often, files, sent, mark, jots, made, end_, inn, steps⟩, i, rfl, rfl, hi, h⟩ := h
  cases (show inn = some i from hi)
  refine ⟨_, rfl, 4, _, rfl, (show 9 < 100000 by decide), ?_⟩
  rw [sput_since]
  refine ⟨_, rfl, ⟨0, _, rfl⟩, fun pd => ?_⟩
  refine ⟨_, rfl, rfl, .inl ⟨a.s, a.n, { i.s with since := 0 }, abR i.about, .val (.ref a.a), i.names, 5, 6, rfl, rfl, rfl, ?_⟩⟩
  refine ⟨Nat.zero_le _, fun pj => ?_⟩
  refine ⟨1, rfl, ?_⟩
  rw [wdisp3]
  refine ⟨2, 1, _, _, by decide, rfl, rfl, (show 12 + 3 ≤ 1000 by decide), ?_⟩
  rw [wmerge_mark]
  refine dget (i := 1) (j := 6) rfl rfl rfl ⟨le_ok rfl, _, rfl, _, _, ?_, h { a with j := pj } rfl⟩
  exact wkn_pick [2, 3, 4, 0, 6, 7, 8] rfl (by decide)
end
end K05
set_option Elab.async false
set_option linter.all false
set_option maxRecDepth 100000
set_option maxHeartbeats 4000000
namespace K05
open PySem PySem.Spec PyProof.Rows L2 DL PM
section
variable {P : Program} {w : World} {K : Fg} {mg : Str → Option Value} {base : Heap}
/-! _law_begin -/
theorem oseq_cut {t u : DS} {D : DEnds} {fr : Fr} {S : SH} (p : Prop) (h1 : p → u D fr S) (h2 : ∀ N : Fr → SH → Prop, (p → N fr S) → t { D with nx := N } fr S) : sSeq t u D fr S := h2 (u D) h1
def optD : Option PyData → PyData
  | none => .none
  | some d => d
def spOBegin : SpD := fun rs S C => ∃ (w : Addr) (a : OAs) (o : OW) (i : OI), rs = [.val (.ref w), .val (.ref a.s)] ∧ S = oC w a o ∧ o.inn = some i ∧ OOk o ∧ ∀ a' : OAs, a'.s = a.s → C (.dat (optD (oBegin o i).1)) (oC w a' (oBegin o i).2)
abbrev s__law_begin : Stmt := topS 53
abbrev N__law_begin : List Str := ["_law_w", "_law_s", "_law_rows", "_law_e", "_law_old"]
theorem sc__law_begin : FnScope N__law_begin ["_law_w", "_law_s"] (defScope s__law_begin) := ⟨rfl, rfl, rfl, by decide +kernel, rfl, by decide +kernel, by decide +kernel⟩
theorem ok_obegin {k : Nat} (F : FunAt K mg "_law_begin" s__law_begin ["_law_w", "_law_s"]) (B : Blt mg) (D1 : Def P w K mg base "_law_marks" 2 2 spOMarks) (D2 : Def P w K mg base "_law_effect" 5 4 spOEff) (D3 : Def P w K mg base "_law_pass" 1 2 (framed spOPass)) : Def P w K mg base "_law_begin" (k + 6) 2 spOBegin := by
  refine okW F sc__law_begin rfl fun cdv A outer s H E f hr => ⟨_,
    (ss_cons (s_set (i := 2) sc__law_begin.nd (d_ix (hu_of hr) (d_ix (hu_of hr) (dv 0) d_str) d_int))
      (ss_cons (s_if (PDW.pt (w_or (t_eq hr.units (d_ix (hu_of hr) (dv 1) d_str) (d_len (by rfl) B.len (a_cons (dv 2) a_nil))) (w_or1 (t_eq hr.units (d_ix (hu_of hr) (dv 1) d_str) d_int))))
      (ss_cons (s_asg (d_if (t_eq hr.units (d_ix (hu_of hr) (dv 1) d_str) (d_len (by rfl) B.len (a_cons (dv 2) a_nil))) (d_tup (a_cons d_str a_nil)) (d_tup (a_cons d_str a_nil))) (g_sub (hu_of hr) (dv 0) d_str))
      (ss_one (s_ret (d_tup (a_cons d_str (a_cons (d_ix (hu_of hr) (dv 0) d_str) a_nil))))))
      ss_nil)
      (ss_cons (s_if (t_ltLe d_int (d_ix (hu_of hr) (dv 0) d_str) (d_ix (hu_of hr) (dv 1) d_str))
      (ss_wk (ss_one (s_ret (d_callF D1 (hr.mono (by omega)) (by rfl) (a_cons (dv 0) (a_cons (dv 1) a_nil))))))
      ss_nil)
      (ss_cons (s_set (i := 3) sc__law_begin.nd (d_callF D2 (hr.mono (by omega)) (by rfl) (a_cons (d_ix (hu_of hr) (dv 0) d_str) (a_cons (d_ix (hu_of hr) (dv 0) d_str) (a_cons (dv 1) (a_cons (d_ix (hu_of hr) (dv 0) d_str) a_nil))))))
      (ss_cons (s_if (t_notN (d_ix (hu_of hr) (dv 3) d_str) d_non)
      (ss_cons (s_asg (d_tup (a_cons d_str (a_cons (d_ix (hu_of hr) (dv 3) d_str) a_nil))) (g_sub (hu_of hr) (dv 0) d_str))
      (ss_one (s_ret (d_tup (a_cons d_str (a_cons (d_ix (hu_of hr) (dv 0) d_str) a_nil))))))
      ss_nil)
      (ss_cons (s_if (t_eq hr.units (d_ix (hu_of hr) (d_ix (hu_of hr) (dv 2) (d_ix (hu_of hr) (dv 1) d_str)) d_int) d_str)
      (ss_cons (s_expr (d_callF D3 (hr.mono (by omega)) (by rfl) (a_cons (dv 1) (a_cons (dv 3) a_nil))))
      (ss_cons (s_asg (d_add (d_ix (hu_of hr) (dv 0) d_str) d_int) (g_sub (hu_of hr) (dv 0) d_str))
      (ss_wk (ss_one (s_ret (d_callF D1 (hr.mono (by omega)) (by rfl) (a_cons (dv 0) (a_cons (dv 1) a_nil))))))))
      ss_nil)
      (ss_cons (s_asg (dv 3) (g_sub (hu_of hr) (dv 1) d_str))
      (ss_cons (s_if (PDW.pt (w_and (t_eq hr.units (d_ix (hu_of hr) (dv 0) d_str) d_str) (w_and1 (t_isN (d_ix (hu_of hr) (dv 3) d_str) d_non))))
      (ss_one (s_ret d_non))
      ss_nil)
      (ss_cons (s_set (i := 4) sc__law_begin.nd (d_if (t_isN (d_ix (hu_of hr) (dv 3) d_str) d_non) d_non (d_tup (a_cons (d_ix (hu_of hr) (d_ix (hu_of hr) (dv 3) d_str) d_int) (a_cons (d_list (by rfl) B.list (a_cons (d_ix (hu_of hr) (d_ix (hu_of hr) (dv 0) d_str) (d_ix (hu_of hr) (d_ix (hu_of hr) (dv 3) d_str) d_int)) a_nil)) a_nil)))))
      (ss_cons (s_expr (d_appT (d_ix (hu_of hr) (dv 0) d_str) (d_tp (a_cons (d_ix (hu_of hr) (dv 1) d_str) (a_cons (dv 3) (a_cons (dv 4) a_nil))))))
      (ss_one (s_ret (d_tup (a_cons d_str (a_cons (d_ix (hu_of hr) (dv 1) d_str) a_nil)))))))))))))))
    , ?_⟩
  intro rs S C hl h
  obtain ⟨wa, a, ⟨p, hs, way, often, files, sent, mark, jots, made, end_, inn, steps⟩, i, rfl, rfl, hi, ok, h⟩ := h
  cases (show inn = some i from hi)
  have io := ok.inn i rfl
  obtain ⟨is, names, about, again⟩ := i
  obtain ⟨sr, stk, sd, sl, ss, so⟩ := is
  have lt : (((p.rows.map PRow.dat).length : Nat) : Int) = (p.rows.length : Int) := by rw [List.length_map]
  refine dget (i := 0) (j := 0) rfl rfl rfl ⟨_, rfl, ?_⟩
  have ends : ∀ (d : PyData) (Dn : DEnds) (fr : Fr), Dn.rt = WkC C → fr[0]? = some (some (.val (.ref wa))) → oBegin ⟨p, hs, way, often, files, sent, mark, jots, made, end_, some ⟨⟨sr, stk, sd, sl, ss, so⟩, names, about, again⟩, steps⟩ ⟨⟨sr, stk, sd, sl, ss, so⟩, names, about, again⟩ = (some (.tuple [.str "ends", d]), ⟨p, hs, way, often, files, sent, mark, jots, made, d, some ⟨⟨sr, stk, sd, sl, ss, so⟩, names, about, again⟩, steps⟩) →
      sRet (dTup (dCons (dC (R.dat (PyData.str "ends"))) (dCons (dOp fIx (dVar 0) (dC (R.dat (PyData.str "end")))) dNil))) Dn fr (oC wa a ⟨p, hs, way, often, files, sent, mark, jots, made, d, some ⟨⟨sr, stk, sd, sl, ss, so⟩, names, about, again⟩, steps⟩) := by
    intro d Dn fr hD h0 e
    have h' := h a rfl
    rw [e] at h'
    refine dget (i := 0) (j := 0) h0 rfl rfl ⟨le_ok rfl, _, rfl, ?_⟩
    rw [hD]
    exact WkC.of h'
  dsimp only [gnm]
  refine oseq_cut (¬ (sr = (p.rows.length : Int) ∨ sd = 1000)) (fun c12 => oseq_cut (¬ (0 < often ∧ often ≤ ss)) (fun c3 => ?_) fun N step => ?_) fun N step => ?_
  rotate_left
  · -- marks by often
    refine dget (i := 0) (j := 0) rfl rfl rfl (ite2d (fun hb => ?_) (fun hb => step fun z => hb z.1))
    refine dget (i := 1) (j := 4) rfl rfl rfl (ite2d (fun hb2 => ?_) (fun hb2 => step fun z => hb2 z.2))
    refine ⟨_, _, wkf_perm (List.Perm.refl _), ?_⟩
    refine ⟨_, rfl, _, rfl, rfl, wa, a, ⟨p, hs, way, often, files, sent, mark, jots, made, end_, some ⟨⟨sr, stk, sd, sl, ss, so⟩, names, about, again⟩, steps⟩, ⟨⟨sr, stk, sd, sl, ss, so⟩, names, about, again⟩, rfl, rfl, rfl, fun a' ha' => WkC.of ?_⟩
    have h' := h a' ha'
    unfold oBegin at h'
    rw [if_neg c12, if_pos (show 0 < often ∧ often ≤ ss from ⟨hb, hb2⟩)] at h'
    exact h'
  · -- it ends
    refine dget (i := 1) (j := 4) rfl rfl rfl ⟨_, rfl, rfl, ?_⟩
    by_cases c1 : sr = (p.rows.length : Int)
    · refine iteTb (by rw [eqI]; exact decide_eq_true (by rw [lt]; exact c1)) ?_
      refine iteTb rfl ?_
      refine dget (i := 1) (j := 4) rfl rfl rfl ⟨_, rfl, rfl, iteTb (by rw [eqI]; exact decide_eq_true (by rw [lt]; exact c1)) ?_⟩
      refine ⟨le_ok rfl, _, rfl, _, rfl, wset_end ?_⟩
      refine ends _ _ _ rfl rfl ?_
      unfold oBegin oHow
      rw [if_pos (.inl c1), if_pos c1] <;> rfl
    refine iteFb (by rw [eqI]; exact decide_eq_false (by rw [lt]; exact c1)) ?_
    refine dget (i := 1) (j := 4) rfl rfl rfl ⟨rfl, ?_⟩
    by_cases c2 : sd = 1000
    · refine iteTb (by rw [eqI]; exact decide_eq_true c2) ?_
      refine dget (i := 1) (j := 4) rfl rfl rfl ⟨_, rfl, rfl, iteFb (by rw [eqI]; exact decide_eq_false (by rw [lt]; exact c1)) ?_⟩
      refine ⟨le_ok rfl, _, rfl, _, rfl, wset_end ?_⟩
      refine ends _ _ _ rfl rfl ?_
      unfold oBegin oHow
      rw [if_pos (.inr c2), if_neg c1] <;> rfl
    refine iteFb (by rw [eqI]; exact decide_eq_false c2) ?_
    exact step fun z => z.elim c1 c2
  -- the effect
  have c1 : ¬ sr = (p.rows.length : Int) := fun z => c12 (.inl z)
  have hlt : sr < (p.rows.length : Int) := by have := io.row.2; dsimp only at this; omega
  have h0 : 0 ≤ sr := io.row.1
  obtain ⟨row, hrow⟩ : ∃ row, p.rows[sr.toNat]? = some row := ⟨_, List.getElem?_eq_getElem (by omega)⟩
  have erow : rowAt p.rows sr = row := by
    unfold rowAt
    rw [List.getD_eq_getElem?_getD, hrow]; rfl
  have arow : atI (p.rows.map PRow.dat) sr = some row.dat := by
    rw [← toNat_cast h0]
    refine atI_nat ?_
    rw [List.getElem?_map, hrow]; rfl
  have hnl : names.length = p.names.toNat := io.names.1
  have hfl : files.length = p.files.toNat := ok.files.1
  have hp1 := ok.p
  have rok : row.ok names.length files.length p.rows.length := by
    have := hp1.r row (List.mem_of_getElem? hrow)
    have hn := hp1.n
    have hf := hp1.f
    dsimp only at this hn hf
    rw [hnl, hfl, toNat_cast (by omega), toNat_cast (by omega)]
    exact this
  have eX : oEff ⟨p, hs, way, often, files, sent, mark, jots, made, end_, some ⟨⟨sr, stk, sd, sl, ss, so⟩, names, about, again⟩, steps⟩ ⟨⟨sr, stk, sd, sl, ss, so⟩, names, about, again⟩ = ownE row sr stk names hs files := by
    unfold oEff
    dsimp only
    rw [erow]
  have hB : oBegin ⟨p, hs, way, often, files, sent, mark, jots, made, end_, some ⟨⟨sr, stk, sd, sl, ss, so⟩, names, about, again⟩, steps⟩ ⟨⟨sr, stk, sd, sl, ss, so⟩, names, about, again⟩ = (match (ownE row sr stk names hs files).fault with
      | some f => (some (.tuple [.str "ends", .tuple [.str "fault", .str f]]), { (⟨p, hs, way, often, files, sent, mark, jots, made, end_, some ⟨⟨sr, stk, sd, sl, ss, so⟩, names, about, again⟩, steps⟩ : OW) with end_ := .tuple [.str "fault", .str f] })
      | none =>
        if isMark row = true then (some (oMarks { (⟨p, hs, way, often, files, sent, mark, jots, made, end_, some ⟨⟨sr, stk, sd, sl, ss, so⟩, names, about, again⟩, steps⟩ : OW) with steps := steps + 1 } (oPass (ownE row sr stk names hs files) ⟨⟨sr, stk, sd, sl, ss, so⟩, names, about, again⟩)).1, (oMarks { (⟨p, hs, way, often, files, sent, mark, jots, made, end_, some ⟨⟨sr, stk, sd, sl, ss, so⟩, names, about, again⟩, steps⟩ : OW) with steps := steps + 1 } (oPass (ownE row sr stk names hs files) ⟨⟨sr, stk, sd, sl, ss, so⟩, names, about, again⟩)).2)
        else if way = backW ∧ (ownE row sr stk names hs files).file = none then (none, { (⟨p, hs, way, often, files, sent, mark, jots, made, end_, some ⟨⟨sr, stk, sd, sl, ss, so⟩, names, about, again⟩, steps⟩ : OW) with inn := some { (⟨⟨sr, stk, sd, sl, ss, so⟩, names, about, again⟩ : OI) with about := some (ownE row sr stk names hs files) } })
        else (some (told2 "notes" sr), { (⟨p, hs, way, often, files, sent, mark, jots, made, end_, some ⟨⟨sr, stk, sd, sl, ss, so⟩, names, about, again⟩, steps⟩ : OW) with inn := some { (⟨⟨sr, stk, sd, sl, ss, so⟩, names, about, again⟩ : OI) with about := some (ownE row sr stk names hs files) }, jots := jots ++ [⟨sr, ownE row sr stk names hs files, oOld ⟨p, hs, way, often, files, sent, mark, jots, made, end_, some ⟨⟨sr, stk, sd, sl, ss, so⟩, names, about, again⟩, steps⟩ (ownE row sr stk names hs files)⟩] })) := by
    unfold oBegin
    rw [if_neg c12, if_neg c3, eX]
    dsimp only
    rw [erow] <;> rfl
  have eok : OEok p.names.toNat p.files.toNat (ownE row sr stk names hs files) := by
    rw [← hnl, ← hfl]
    constructor
    · intro n v hnv
      cases row with
      | set m q => cases hnv; exact rok.1
      | take m => cases hnv; exact rok
      | get m f q => cases hnv; exact rok.1
      | size m f => cases hnv; exact rok.1
      | _ => cases hnv
    · intro f xs hfx
      cases row with
      | add m q => cases hfx; exact rok.1
      | put m q q2 => cases hfx; exact rok.1
      | cut m q => cases hfx; exact rok.1
      | _ => cases hfx
  refine dget (i := 0) (j := 0) rfl rfl rfl (dget (i := 0) (j := 0) rfl rfl rfl ⟨_, rfl, dget (i := 0) (j := 0) rfl rfl rfl ⟨rfl, p, hs, row, a.s, a.n, ⟨sr, stk, sd, sl, ss, so⟩, abR about, .val (.ref a.a), _, names, files, 4, 5, rfl, ⟨hrow, h0, rok, rfl, rfl, ⟨1, rfl⟩, io.names.2, ok.files.2, io.taken.1, io.taken.2, ok.hs.1⟩, ?_⟩⟩)
  dsimp only at hB ⊢
  have mk0 : PyData.eqv (.str row.word) (.str "mark") = isMark row := by cases row <;> rfl
  generalize ownE row sr stk names hs files = x at hB eok
  rw [hB] at h
  obtain ⟨xrow, xtaken, xname, xfile, xletter, xfault⟩ := x
  cases xfault with
  | some f =>
    refine ⟨_, rfl, _, rfl, ?_⟩
    refine ⟨_, rfl, _, rfl, le_ok rfl, _, rfl, _, rfl, wset_end ?_⟩
    exact dget (i := 0) (j := 0) rfl rfl rfl ⟨le_ok rfl, _, rfl, WkC.of (h a rfl)⟩
  | none =>
    dsimp only at h
    refine ⟨_, rfl, _, rfl, ?_⟩
    refine ⟨_, rfl, dget (i := 1) (j := 4) rfl rfl rfl ⟨_, arow, _, at0, rfl, ?_⟩⟩
    by_cases cm : isMark row = true
    · rw [if_pos cm] at h
      refine iteTb (mk0.trans cm) ?_
      refine ⟨_, rfl, _, rfl, rfl, [.dct a.s ((⟨sr, stk, sd, sl, ss, so⟩ : OIn).kv (.val (.ref a.n)) (abR about) (.val (.ref a.a))), .lst a.n (iR names)], [_, _, _, _, .lst a.a (iR again)], (List.perm_append_comm (l₁ := [_, _, _, _]) (l₂ := [_, _])).append_right [_], a.s, a.n, ⟨sr, stk, sd, sl, ss, so⟩, _, _, names, _, rfl, rfl, by rw [hnl]; exact eok.name, ?_⟩
      refine dget (i := 0) (j := 2) rfl rfl rfl ⟨_, rfl, 2, _, rfl, (show 12 < 100000 by decide), ?_⟩
      rw [wput_steps]
      refine ⟨_, oC wa a ⟨p, hs, way, often, files, sent, mark, jots, made, end_, some (oPass ⟨xrow, xtaken, xname, xfile, xletter, none⟩ ⟨⟨sr, stk, sd, sl, ss, so⟩, names, about, again⟩), steps + 1⟩, wkf_pick [2, 3, 4, 5, 0, 1, 6] rfl (by decide), ?_⟩
      refine ⟨_, rfl, _, rfl, rfl, wa, a, ⟨p, hs, way, often, files, sent, mark, jots, made, end_, some (oPass ⟨xrow, xtaken, xname, xfile, xletter, none⟩ ⟨⟨sr, stk, sd, sl, ss, so⟩, names, about, again⟩), steps + 1⟩, oPass ⟨xrow, xtaken, xname, xfile, xletter, none⟩ ⟨⟨sr, stk, sd, sl, ss, so⟩, names, about, again⟩, rfl, rfl, rfl, fun a' ha' => WkC.of (h a' ha')⟩
    · rw [if_neg cm] at h
      refine iteFb (mk0.trans (by simpa using cm)) ?_
      refine ⟨_, rfl, _, rfl, 4, _, rfl, (show 9 < 100000 by decide), ?_⟩
      rw [sput_about]
      have fin : ∀ (ol : Option (Int × List Int)) (Dn : DEnds) (xf : Option (Int × List Int)), Dn.rt = WkC C → (∀ a' : OAs, a'.s = a.s → C (.dat (told2 "notes" sr)) (oC wa a' ⟨p, hs, way, often, files, sent, mark, jots ++ [⟨sr, ⟨xrow, xtaken, xname, xf, xletter, none⟩, ol⟩], made, end_, some ⟨⟨sr, stk, sd, sl, ss, so⟩, names, some ⟨xrow, xtaken, xname, xf, xletter, none⟩, again⟩, steps⟩)) →
          sSeq (sDrop (dApp (dOp fIx (dVar 0) (dC (R.dat (PyData.str "jots")))) (dTp (dCons (dOp fIx (dVar 1) (dC (R.dat (PyData.str "row")))) (dCons (dVar 3) (dCons (dVar 4) dNil))))))
            (sRet (dTup (dCons (dC (R.dat (PyData.str "notes"))) (dCons (dOp fIx (dVar 1) (dC (R.dat (PyData.str "row")))) dNil)))) Dn
            [some (.val (.ref wa)), some (.val (.ref a.s)), some (.dat (.tuple (p.rows.map PRow.dat))), some (⟨xrow, xtaken, xname, xf, xletter, none⟩ : OE).r, some (.dat (oFile ol))] (oC wa a ⟨p, hs, way, often, files, sent, mark, jots, made, end_, some ⟨⟨sr, stk, sd, sl, ss, so⟩, names, some ⟨xrow, xtaken, xname, xf, xletter, none⟩, again⟩, steps⟩) := by
        intro ol Dn xf hD hn
        refine dget (i := 0) (j := 0) rfl rfl rfl ⟨⟨3, _, rfl⟩, dget (i := 1) (j := 4) rfl rfl rfl ⟨_, rfl, _, rfl, le_ok rfl, 3, _, rfl, by rw [List.length_map]; exact Nat.lt_of_le_of_lt ok.jl (by decide), ?_⟩⟩
        refine dget (i := 1) (j := 4) rfl rfl rfl ⟨le_ok rfl, _, rfl, ?_⟩
        rw [hD]
        have hn' := hn a rfl
        unfold oC at hn'
        dsimp only at hn'
        rw [List.map_append] at hn'
        exact WkC.of hn'
      have hw2 : way = backW ∨ way = onW := ok.way
      cases xfile with
      | none =>
        rcases hw2 with rfl | rfl
        · rw [if_pos ⟨rfl, rfl⟩] at h
          refine dget (i := 0) (j := 0) rfl rfl rfl ⟨rfl, iteTb rfl ?_⟩
          exact ⟨_, rfl, _, rfl, WkC.of (h a rfl)⟩
        · rw [if_neg (by rintro ⟨z, _⟩; exact absurd z (by decide))] at h
          refine dget (i := 0) (j := 0) rfl rfl rfl ⟨rfl, iteFb rfl ?_⟩
          refine ⟨_, rfl, _, rfl, ?_⟩
          exact fin none _ none rfl h
      | some fx =>
        obtain ⟨f, xs⟩ := fx
        have hf2 : NumOk f files.length := by rw [hfl]; exact eok.file f xs rfl
        rw [if_neg (by rintro ⟨_, z⟩; cases z)] at h
        rcases hw2 with rfl | rfl
        · refine dget (i := 0) (j := 0) rfl rfl rfl ⟨rfl, iteTb rfl ?_⟩
          refine ⟨_, rfl, _, rfl, ?_⟩
          refine ⟨_, rfl, _, rfl, ?_⟩
          refine ⟨_, rfl, _, rfl, .int f, rfl, dget (i := 0) (j := 0) rfl rfl rfl ⟨_, rfl, _, rfl, .int f, rfl, .inl ⟨1, _, _, rfl, ofile_at hf2, le_ok rfl, _, rfl, ?_⟩⟩⟩
          exact fin (some (f, files.getD f.toNat [])) _ (some (f, xs)) rfl h
        · refine dget (i := 0) (j := 0) rfl rfl rfl ⟨rfl, iteFb rfl ?_⟩
          refine ⟨_, rfl, _, rfl, ?_⟩
          refine ⟨_, rfl, _, rfl, .int f, rfl, dget (i := 0) (j := 0) rfl rfl rfl ⟨_, rfl, _, rfl, .int f, rfl, .inl ⟨1, _, _, rfl, ofile_at hf2, le_ok rfl, _, rfl, ?_⟩⟩⟩
          exact fin (some (f, files.getD f.toNat [])) _ (some (f, xs)) rfl h
end
end K05
set_option Elab.async false
set_option linter.all false
set_option maxRecDepth 100000
set_option maxHeartbeats 4000000
namespace K05
open PySem PySem.Spec PyProof.Rows L2 DL PM
section
variable {P : Program} {w : World} {K : Fg} {mg : Str → Option Value} {base : Heap}
/-! _law_rise -/
def spORise : SpD := fun rs S C => ∃ (w : Addr) (a : OAs) (o : OW), rs = [.val (.ref w)] ∧ S = oC w a o ∧ o.inn = none ∧ OOk o ∧ ∀ a' : OAs, C (.dat (oRise o).1) (oC w a' (oRise o).2)
theorem ups_iR (L : Nat) : ((ups (L : Int)).map fun i => R.dat (.int i)) = iR ((List.range L).map fun (i : Nat) => (i : Int)) := rfl
abbrev s__law_rise : Stmt := topS 54
abbrev N__law_rise : List Str := ["_law_w", "_law_row", "_law_e", "_law_old"]
theorem sc__law_rise : FnScope N__law_rise ["_law_w"] (defScope s__law_rise) := ⟨rfl, rfl, rfl, by decide +kernel, rfl, by decide +kernel, by decide +kernel⟩
theorem ok_orise {k : Nat} (F : FunAt K mg "_law_rise" s__law_rise ["_law_w"]) (B : Blt mg) (D1 : Def P w K mg base "_law_copy" 1 1 spOCopy) : Def P w K mg base "_law_rise" (k + 2) 1 spORise := by
  refine okW F sc__law_rise rfl fun cdv A outer s H E f hr => ⟨_,
    (ss_cons (s_if (PDW.pt (w_and (t_eq hr.units (d_ix (hu_of hr) (dv 0) d_str) d_str) (w_and1 (t_neE hr.units (d_ix (hu_of hr) (dv 0) d_str) (d_lst a_nil)))))
      (ss_cons (s_asg (d_pop (d_ix (hu_of hr) (dv 0) d_str)) (g_tup (gs_cons (g_name (i := 1) sc__law_rise.nd) (gs_cons (g_name (i := 2) sc__law_rise.nd) (gs_cons (g_name (i := 3) sc__law_rise.nd) gs_nil)))))
      (ss_cons (s_asg (d_ix (hu_of hr) (dv 3) d_int) (g_sub (hu_of hr) (d_ix (hu_of hr) (dv 0) d_str) (d_ix (hu_of hr) (dv 3) d_int)))
      (ss_one (s_ret (d_tup (a_cons d_str (a_cons (d_ix (hu_of hr) (dv 3) d_int) a_nil)))))))
      ss_nil)
      (ss_cons (s_asg (d_callF D1 (hr.mono (by omega)) (by rfl) (a_cons (d_ix (hu_of hr) (dv 0) d_str) a_nil)) (g_sub (hu_of hr) (dv 0) d_str))
      (ss_cons (s_asg (d_lrgC (by rfl) B.list (by rfl) B.range (d_len (by rfl) B.len (a_cons (d_ix (hu_of hr) (dv 0) d_str) a_nil))) (g_sub (hu_of hr) (d_ix (hu_of hr) (dv 0) d_str) d_str))
      (ss_one (s_ret (d_tup (a_cons d_str (a_cons (d_ix (hu_of hr) (d_ix (hu_of hr) (dv 0) d_str) d_str) a_nil))))))))
    , ?_⟩
  intro rs S C hl h
  obtain ⟨wa, a, ⟨p, hs, way, often, files, sent, mark, jots, made, end_, inn, steps⟩, rfl, rfl, hi, ok, h⟩ := h
  cases (show inn = none from hi)
  have hw2 : way = backW ∨ way = onW := ok.way
  have jl := ok.jl
  dsimp only at jl
  refine oseq_cut (oRise ⟨p, hs, way, often, files, sent, mark, jots, made, end_, none, steps⟩ = (told2 "rises" mark.row, ⟨p, hs, way, often, files, sent, mark, jots, made, end_, some (oIn mark jots.length), steps⟩)) (fun e => ?_) fun N step => ?_
  · refine dget (i := 0) (j := 0) rfl rfl rfl ⟨rfl, .inr ⟨mark, rfl, fun ps pn pa => ?_⟩⟩
    refine ⟨_, rfl, 3, _, rfl, (show 12 < 100000 by decide), ?_⟩
    rw [wput_in (oIn mark jots.length) ps pn pa]
    refine dget (i := 0) (j := 3) rfl rfl rfl ⟨6, _, rfl, ?_⟩
    rw [List.length_map]
    refine ⟨by omega, by show (jots.length : Int) ≤ 16777216; omega, fun pr => ?_⟩
    refine dget (i := 0) (j := 4) rfl rfl rfl ⟨1, _, rfl, (show 9 < 100000 by decide), ?_⟩
    rw [sput_again]
    refine dget (i := 0) (j := 4) rfl rfl rfl ⟨1, _, _, rfl, rfl, le_ok rfl, _, rfl, ?_⟩
    have h' := h { a with s := ps, n := pn, a := pr }
    rw [e] at h'
    refine ⟨_, _, ?_, h'⟩
    exact wkn_pick [4, 5, 6, 7, 1, 2, 0] rfl (by decide)
  · rcases hw2 with rfl | rfl
    · refine dget (i := 0) (j := 0) rfl rfl rfl ⟨rfl, iteTb rfl ?_⟩
      refine dget (i := 0) (j := 0) rfl rfl rfl ⟨Nat.zero_le _, _, rfl, 3, _, rfl, ?_⟩
      rcases List.eq_nil_or_concat jots with hj | ⟨js, j, hj⟩
      · cases hj
        refine iteFb rfl ?_
        refine step rfl
      · rw [List.concat_eq_append] at hj
        cases hj
        refine iteTb (by simp) ?_
        obtain ⟨f, xs, eo, hf⟩ := ok.old rfl j (List.mem_append_right _ List.mem_cons_self)
        obtain ⟨jr, je, jo⟩ := j
        cases (show jo = some (f, xs) from eo)
        have hfl : files.length = p.files.toNat := ok.files.1
        refine dget (i := 0) (j := 0) rfl rfl rfl ⟨3, js.map OJ.r, OJ.r ⟨jr, je, some (f, xs)⟩, by show some (Cell.lst a.j ((js ++ [(⟨jr, je, some (f, xs)⟩ : OJ)]).map OJ.r)) = _; rw [List.map_append]; rfl, rfl, ?_⟩
        dsimp only [List.map, gCn, gNl, gnm]
        refine ⟨rfl, ?_⟩
        refine ⟨_, rfl, lstI xs, rfl, dget (i := 0) (j := 0) rfl rfl rfl ⟨_, rfl, .int f, rfl, .inl ⟨1, _, f.toNat, rfl, by rw [fileR_len]; show ixN files.length f = _; rw [hfl]; exact ixN_of hf, ?_⟩⟩⟩
        have ep : (fileR files).set f.toNat (.dat (lstI xs)) = fileR (files.set f.toNat xs) := by unfold fileR; rw [List.map_set]
        rw [ep]
        refine ⟨_, rfl, .int f, rfl, le_ok rfl, _, rfl, WkC.of ?_⟩
        have h' := h a
        have eR : oRise ⟨p, hs, backW, often, files, sent, mark, js ++ [⟨jr, je, some (f, xs)⟩], made, end_, none, steps⟩ = (told2 "back" f, ⟨p, hs, backW, often, files.set f.toNat xs, sent, mark, js, made, end_, none, steps⟩) := by
          unfold oRise
          rw [List.getLast?_append]
          dsimp only
          rw [List.dropLast_concat] <;> rfl
        rw [eR] at h'
        exact h'
    · refine dget (i := 0) (j := 0) rfl rfl rfl ⟨rfl, iteFb rfl ?_⟩
      refine step ?_
      unfold oRise
      cases jots.getLast? with
      | none => rfl
      | some j =>
        show (if onW = backW then _ else _) = _
        rw [if_neg (by decide)]
end
end K05
set_option Elab.async false
set_option linter.all false
set_option maxRecDepth 100000
set_option maxHeartbeats 4000000
namespace K05
open PySem PySem.Spec PyProof.Rows L2 DL PM
section
variable {P : Program} {w : World} {K : Fg} {mg : Str → Option Value} {base : Heap}
/-! _law_move -/
def spOMove : SpD := fun rs S C => ∃ (w : Addr) (a : OAs) (o : OW), rs = [.val (.ref w)] ∧ S = oC w a o ∧ OOk o ∧ ∀ a' : OAs, C (.dat (oMove o).1) (oC w a' (oMove o).2)
theorem oseq_cutX {t u : DS} {D : DEnds} {fr : Fr} {S : SH} (X : (Fr → SH → Prop) → Prop) (h1 : X (u D)) (h2 : ∀ N, X N → t { D with nx := N } fr S) : sSeq t u D fr S := h2 (u D) h1
abbrev s__law_move : Stmt := topS 55
abbrev N__law_move : List Str := ["_law_w", "_law_s", "_law_row", "_law_e", "_law_old", "_law_told"]
theorem sc__law_move : FnScope N__law_move ["_law_w"] (defScope s__law_move) := ⟨rfl, rfl, rfl, by decide +kernel, rfl, by decide +kernel, by decide +kernel⟩
theorem ok_omove {k : Nat} (F : FunAt K mg "_law_move" s__law_move ["_law_w"]) (B : Blt mg) (D1 : Def P w K mg base "_law_rise" 2 1 spORise) (D2 : Def P w K mg base "_law_begin" 6 2 spOBegin) (D3 : Def P w K mg base "_law_pass" 1 2 (framed spOPass)) : Def P w K mg base "_law_move" (k + 7) 1 spOMove := by
  refine okW F sc__law_move rfl fun cdv A outer s H E f hr => ⟨_,
    (ss_cons (s_set (i := 1) sc__law_move.nd (d_ix (hu_of hr) (dv 0) d_str))
      (ss_cons (s_if (t_notN (d_ix (hu_of hr) (dv 0) d_str) d_non)
      (ss_one (s_ret (d_tup (a_cons d_str a_nil))))
      ss_nil)
      (ss_cons (s_if (t_isN (dv 1) d_non)
      (ss_one (s_ret (d_callF D1 (hr.mono (by omega)) (by rfl) (a_cons (dv 0) a_nil))))
      ss_nil)
      (ss_cons (s_if (t_neE hr.units (d_ix (hu_of hr) (dv 1) d_str) (d_lst a_nil))
      (ss_cons (s_asg (d_ix (hu_of hr) (d_ix (hu_of hr) (dv 0) d_str) (d_ix (hu_of hr) (d_ix (hu_of hr) (dv 1) d_str) d_int)) (g_tup (gs_cons (g_name (i := 2) sc__law_move.nd) (gs_cons (g_name (i := 3) sc__law_move.nd) (gs_cons (g_name (i := 4) sc__law_move.nd) gs_nil)))))
      (ss_cons (s_if (t_lt (d_popA (d_ix (hu_of hr) (dv 1) d_str) d_int) (d_ix (hu_of hr) (dv 0) d_str))
      (ss_one (s_expr (d_callF D3 (hr.mono (by omega)) (by rfl) (a_cons (dv 1) (a_cons (dv 3) a_nil)))))
      (ss_one (s_asg (dv 3) (g_sub (hu_of hr) (dv 1) d_str))))
      (ss_one (s_ret (d_tup (a_cons d_str (a_cons (dv 2) a_nil)))))))
      ss_nil)
      (ss_cons (s_set (i := 5) sc__law_move.nd (d_if (t_isN (d_ix (hu_of hr) (dv 1) d_str) d_non) (d_callF D2 (hr.mono (by omega)) (by rfl) (a_cons (dv 0) (a_cons (dv 1) a_nil))) d_non))
      (ss_cons (s_if (t_notN (dv 5) d_non)
      (ss_one (s_ret (dv 5)))
      ss_nil)
      (ss_cons (s_par (i := 3) (j := 2) sc__law_move.nd (a_cons (d_ix (hu_of hr) (dv 1) d_str) (a_cons (d_ix (hu_of hr) (dv 1) d_str) a_nil)))
      (ss_cons (s_if (PDW.pt (w_and (t_notN (d_ix (hu_of hr) (dv 3) d_str) d_non) (w_and1 (t_not (t_val (d_ix (hu_of hr) (dv 1) d_str))))))
      (ss_cons (s_asg d_bl (g_sub (hu_of hr) (dv 1) d_str))
      (ss_cons (s_if (t_lt (d_ix (hu_of hr) (dv 1) d_str) (d_len (by rfl) B.len (a_cons (d_ix (hu_of hr) (dv 0) d_str) a_nil)))
      (ss_one (s_ret (d_tup (a_cons d_str (a_cons (dv 2) a_nil)))))
      ss_nil)
      (ss_cons (s_expr (d_appT (d_ix (hu_of hr) (dv 0) d_str) (d_ix (hu_of hr) (dv 3) d_str)))
      (ss_one (s_ret (d_tup (a_cons d_str (a_cons (dv 2) a_nil))))))))
      ss_nil)
      (ss_cons (s_if (t_notN (d_ix (hu_of hr) (dv 3) d_str) d_non)
      (ss_one (s_asg (d_ix (hu_of hr) (d_ix (hu_of hr) (dv 3) d_str) d_int) (g_sub (hu_of hr) (d_ix (hu_of hr) (dv 0) d_str) (d_ix (hu_of hr) (d_ix (hu_of hr) (dv 3) d_str) d_int))))
      ss_nil)
      (ss_cons (s_expr (d_upd (dv 0) (d_disp (p_cons (d_len (by rfl) B.len (a_cons (d_ix (hu_of hr) (dv 0) d_str) a_nil)) (p_cons (d_add (d_ix (hu_of hr) (dv 0) d_str) d_int) p_nil)))))
      (ss_cons (s_expr (d_upd (dv 1) (d_disp (p_cons d_non (p_cons d_bl p_nil)))))
      (ss_cons (s_expr (d_callF D3 (hr.mono (by omega)) (by rfl) (a_cons (dv 1) (a_cons (dv 3) a_nil))))
      (ss_one (s_ret (d_tup (a_cons d_str (a_cons (dv 2) a_nil)))))))))))))))))
    , ?_⟩
  intro rs S C hl h
  obtain ⟨wa, a, ⟨p, hs, way, often, files, sent, mark, jots, made, end_, inn, steps⟩, rfl, rfl, ok, h⟩ := h
  refine dget (i := 0) (j := 0) rfl rfl rfl ?_
  dsimp only [gnm]
  refine dget (i := 0) (j := 0) rfl rfl rfl ?_
  cases hov : oOver ⟨p, hs, way, often, files, sent, mark, jots, made, end_, inn, steps⟩ with
  | true =>
    refine iteTb hov ?_
    have h' := h a
    unfold oMove at h'
    rw [if_pos hov] at h'
    exact ⟨le_ok rfl, _, rfl, WkC.of h'⟩
  | false =>
    refine iteFb hov ?_
    have hov' : ¬ oOver ⟨p, hs, way, often, files, sent, mark, jots, made, end_, inn, steps⟩ = true := by rw [hov]; exact Bool.false_ne_true
    unfold oMove at h
    rw [if_neg hov'] at h
    cases inn with
    | none =>
      refine ⟨_, rfl, ?_⟩
      exact ⟨_, rfl, rfl, wa, a, _, rfl, rfl, rfl, ok, fun a' => WkC.of (h a')⟩
    | some i =>
      refine ⟨_, rfl, ?_⟩
      have io := ok.inn i rfl
      obtain ⟨⟨sr, stk, sd, sl, ss, so⟩, names, about, again⟩ := i
      dsimp only at h
      have hnl : names.length = p.names.toNat := io.names.1
      cases again with
      | cons g gs =>
        dsimp only at h
        have hg := io.again g List.mem_cons_self
        dsimp only at hg
        obtain ⟨⟨jr, je, jo⟩, hj⟩ : ∃ j, jots[g.toNat]? = some j := ⟨_, List.getElem?_eq_getElem (by omega)⟩
        have jok := ok.jots _ (List.mem_of_getElem? hj)
        have aj : atI (jots.map OJ.r) g = some (OJ.r ⟨jr, je, jo⟩) := by
          rw [← toNat_cast hg.1]
          refine atI_nat ?_
          rw [List.getElem?_map, hj]; rfl
        have ed : jots.getD g.toNat ⟨0, oe0 0 0, none⟩ = ⟨jr, je, jo⟩ := by rw [List.getD_eq_getElem?_getD, hj]; rfl
        unfold oGo at h
        dsimp only at h
        rw [ed] at h
        refine dget (i := 1) (j := 4) rfl rfl rfl ⟨Nat.zero_le _, _, rfl, 6, _, rfl, iteTb rfl ?_⟩
        refine dget (i := 0) (j := 0) rfl rfl rfl (dget (i := 1) (j := 4) rfl rfl rfl (.inl ⟨6, _, .dat (.int g), rfl, at0, .inl ⟨3, _, _, rfl, aj, rfl, ?_⟩⟩))
        dsimp only [List.map, gCn, gNl, gnm]
        refine ⟨rfl, ?_⟩
        refine dget (i := 1) (j := 4) rfl rfl rfl ⟨⟨6, _, rfl⟩, 6, _, .dat (.int g), rfl, Int.le_refl _, (show (0 : Int) < 100000 by decide), rfl, ?_⟩
        refine dget (i := 0) (j := 0) rfl rfl rfl (ite2d (fun hb => ?_) (fun hb => ?_))
        · have hb' : g < made := hb
          rw [if_pos hb'] at h
          refine ⟨_, rfl, _, rfl, rfl, [.dct a.s ((⟨sr, stk, sd, sl, ss, so⟩ : OIn).kv (.val (.ref a.n)) (abR about) (.val (.ref a.a))), .lst a.n (iR names)], [_, _, _, _, .lst a.a (iR gs)], (List.perm_append_comm (l₁ := [_, _, _, _]) (l₂ := [_, _])).append_right [_], a.s, a.n, ⟨sr, stk, sd, sl, ss, so⟩, _, _, names, je, rfl, rfl, by rw [hnl]; exact jok.name, ?_⟩
          refine ⟨_, rfl, le_ok rfl, _, rfl, _, _, ?_, h a⟩
          exact wkn_pick [2, 3, 4, 5, 0, 1, 6] rfl (by decide)
        · have hb' : ¬ g < made := hb
          rw [if_neg hb'] at h
          refine ⟨_, rfl, _, rfl, 4, _, rfl, (show 9 < 100000 by decide), ?_⟩
          rw [sput_about]
          exact ⟨_, rfl, le_ok rfl, _, rfl, WkC.of (h a)⟩
      | nil =>
        dsimp only at h
        refine dget (i := 1) (j := 4) rfl rfl rfl ⟨Nat.zero_le _, _, rfl, 6, _, rfl, iteFb rfl ?_⟩
        dsimp only [sNext]
        refine oseq_cutX (fun N => (∀ (a : OAs) (i : OI) (e : OE), i.about = some e → PM.OEok p.names.toNat p.files.toNat e → i.names.length = p.names.toNat → (∀ a' : OAs, C (.dat (oDone ⟨p, hs, way, often, files, sent, mark, jots, made, end_, some i, steps⟩ i e).1) (oC wa a' (oDone ⟨p, hs, way, often, files, sent, mark, jots, made, end_, some i, steps⟩ i e).2)) →
            N [some (.val (.ref wa)), some (.val (.ref a.s)), none, none, none, some (.dat .none)] (oC wa a ⟨p, hs, way, often, files, sent, mark, jots, made, end_, some i, steps⟩)) ∧
          ∀ (s : R) (d : PyData) (S' : SH), isNone (.dat d) = false → C (.dat d) S' → N [some (.val (.ref wa)), some s, none, none, none, some (.dat d)] S') ⟨?_, ?_⟩ fun N step => ?_
        · intro a i e hab eok hnl h
          refine ⟨_, rfl, ?_⟩
          obtain ⟨⟨sr, stk, sd, sl, ss, so⟩, names, about, again⟩ := i
          obtain ⟨xrow, xtaken, xname, xfile, xletter, xfault⟩ := e
          cases (show about = some ⟨xrow, xtaken, xname, xfile, xletter, xfault⟩ from hab)
          refine dget (i := 1) (j := 4) rfl rfl rfl (dget (i := 1) (j := 4) rfl rfl rfl ?_)
          dsimp only [dNil]
          refine oseq_cut (oDone ⟨p, hs, way, often, files, sent, mark, jots, made, end_, some ⟨⟨sr, stk, sd, sl, ss, so⟩, names, some ⟨xrow, xtaken, xname, xfile, xletter, xfault⟩, again⟩, steps⟩ ⟨⟨sr, stk, sd, sl, ss, so⟩, names, some ⟨xrow, xtaken, xname, xfile, xletter, xfault⟩, again⟩ ⟨xrow, xtaken, xname, xfile, xletter, xfault⟩ = oDoes ⟨p, hs, way, often, files, sent, mark, jots, made, end_, some ⟨⟨sr, stk, sd, sl, ss, so⟩, names, some ⟨xrow, xtaken, xname, xfile, xletter, xfault⟩, again⟩, steps⟩ ⟨⟨sr, stk, sd, sl, ss, so⟩, names, some ⟨xrow, xtaken, xname, xfile, xletter, xfault⟩, again⟩ ⟨xrow, xtaken, xname, xfile, xletter, xfault⟩) (fun ed => ?_) fun N step => ?_
          · rw [ed] at h
            refine oseq_cutX (fun N => ∀ fs : List (List Int), fs = oPut files ⟨xrow, xtaken, xname, xfile, xletter, xfault⟩ → N [some (.val (.ref wa)), some (.val (.ref a.s)), some (.dat (.int sr)), some (⟨xrow, xtaken, xname, xfile, xletter, xfault⟩ : OE).r, none, some (.dat .none)] (oC wa a ⟨p, hs, way, often, fs, sent, mark, jots, made, end_, some ⟨⟨sr, stk, sd, sl, ss, so⟩, names, some ⟨xrow, xtaken, xname, xfile, xletter, xfault⟩, again⟩, steps⟩)) ?_ fun N step => ?_
            · intro fs hfs
              refine ⟨_, rfl, ⟨0, _, rfl⟩, fun pd => ?_⟩
              refine dget (i := 0) (j := 1) rfl rfl rfl ⟨4, _, rfl, ?_⟩
              rw [List.length_map]
              refine dget (i := 0) (j := 1) rfl rfl rfl ⟨0, rfl, ?_⟩
              rw [wdisp2]
              refine ⟨1, 0, _, _, by decide, rfl, rfl, (show 12 + 2 ≤ 1000 by decide), ?_⟩
              rw [wmerge_made]
              refine ⟨_, rfl, ⟨5, _, rfl⟩, fun pd2 => ⟨0, rfl, ?_⟩⟩
              rw [sdisp2]
              refine ⟨6, 0, _, _, by decide, rfl, rfl, (show 9 + 2 ≤ 1000 by decide), ?_⟩
              rw [smerge_out]
              refine ⟨_, rfl, _, rfl, rfl, [.dct a.s ((⟨sr, stk, sd, sl, ss, false⟩ : OIn).kv (.val (.ref a.n)) (.dat .none) (.val (.ref a.a))), .lst a.n (iR names)], [_, _, _, _, _, _, .lst a.a (iR again)], (List.perm_append_comm (l₁ := [_, _, _, _, _, _]) (l₂ := [_, _])).append_right [_], a.s, a.n, ⟨sr, stk, sd, sl, ss, false⟩, _, _, names, ⟨xrow, xtaken, xname, xfile, xletter, xfault⟩, rfl, rfl, by rw [show names.length = _ from hnl]; exact eok.name, ?_⟩
              subst hfs
              refine ⟨_, rfl, le_ok rfl, _, rfl, _, _, ?_, h a⟩
              exact wkn_pick [4, 5, 6, 7, 0, 1, 8] rfl (by decide)
            · cases xfile with
              | none =>
                refine ⟨_, rfl, _, rfl, ?_⟩
                exact step files rfl
              | some fx =>
                obtain ⟨f, xs⟩ := fx
                have hf2 : NumOk f files.length := by rw [show files.length = p.files.toNat from ok.files.1]; exact eok.file f xs rfl
                refine ⟨_, rfl, _, rfl, ?_⟩
                refine ⟨_, rfl, _, rfl, lstI xs, rfl, dget (i := 0) (j := 0) rfl rfl rfl ⟨_, rfl, _, rfl, .int f, rfl, .inl ⟨1, _, f.toNat, rfl, by rw [fileR_len]; exact ixN_of hf2, ?_⟩⟩⟩
                have ep : (fileR files).set f.toNat (.dat (lstI xs)) = fileR (files.set f.toNat xs) := by unfold fileR; rw [List.map_set]
                rw [ep]
                exact step (files.set f.toNat xs) rfl
          · cases xletter with
            | none =>
              refine ⟨_, rfl, _, rfl, ?_⟩
              exact step rfl
            | some v =>
              refine ⟨_, rfl, _, rfl, ?_⟩
              refine dget (i := 1) (j := 4) rfl rfl rfl ?_
              cases so with
              | true => exact step rfl
              | false =>
                unfold oDone at h
                dsimp only at h
                refine ⟨_, rfl, 4, _, rfl, (show 9 < 100000 by decide), ?_⟩
                rw [sput_out]
                refine dget (i := 1) (j := 4) rfl rfl rfl (dget (i := 0) (j := 0) rfl rfl rfl ⟨2, _, rfl, ite2d (fun hb => ?_) (fun hb => ?_)⟩)
                · have hb' : sl < (sent.length : Int) := by rw [← iR_len sent]; exact hb
                  rw [if_pos hb'] at h
                  exact ⟨_, rfl, le_ok rfl, _, rfl, WkC.of (h a)⟩
                · have hb' : ¬ sl < (sent.length : Int) := by rw [← iR_len sent]; exact hb
                  rw [if_neg hb'] at h
                  refine dget (i := 0) (j := 0) rfl rfl rfl ⟨⟨2, _, rfl⟩, _, rfl, _, rfl, 2, _, rfl, by show (iR sent).length < _; rw [iR_len]; exact Nat.lt_of_le_of_lt ok.sl (by decide), ?_⟩
                  have es : iR sent ++ [.dat (.int v)] = iR (sent ++ [v]) := by unfold iR; rw [List.map_append]; rfl
                  have h' := h a
                  unfold oC at h'
                  dsimp only at h'
                  rw [← es] at h'
                  exact ⟨_, rfl, le_ok rfl, _, rfl, WkC.of h'⟩
        · intro s d S' hd hc
          refine ⟨_, rfl, ?_⟩
          refine iteTb (by show (!isNone (.dat d)) = true; rw [hd]; rfl) ?_
          exact ⟨_, rfl, WkC.of hc⟩
        · cases about with
          | some e =>
            dsimp only at h
            refine dget (i := 1) (j := 4) rfl rfl rfl ?_
            exact step.1 a ⟨⟨sr, stk, sd, sl, ss, so⟩, names, some e, []⟩ e rfl (io.about e rfl) hnl h
          | none =>
            refine dget (i := 1) (j := 4) rfl rfl rfl ?_
            refine ⟨_, rfl, _, rfl, rfl, wa, a, _, ⟨⟨sr, stk, sd, sl, ss, so⟩, names, none, []⟩, rfl, rfl, rfl, ok, fun a' ha' => ?_⟩
            dsimp only at h
            cases hB : oBegin ⟨p, hs, way, often, files, sent, mark, jots, made, end_, some ⟨⟨sr, stk, sd, sl, ss, so⟩, names, none, []⟩, steps⟩ ⟨⟨sr, stk, sd, sl, ss, so⟩, names, none, []⟩ with
            | mk ob o' =>
              cases ob with
              | some d =>
                rw [hB] at h
                dsimp only [optD] at h ⊢
                exact step.2 _ d _ (oBegin_some hB) (h a')
              | none =>
                rw [hB] at h
                obtain ⟨e1, e2⟩ := oBegin_none ok rfl hB
                subst e1
                dsimp only [optD] at h ⊢
                have := step.1 a' ⟨⟨sr, stk, sd, sl, ss, so⟩, names, some (oEff ⟨p, hs, way, often, files, sent, mark, jots, made, end_, some ⟨⟨sr, stk, sd, sl, ss, so⟩, names, none, []⟩, steps⟩ ⟨⟨sr, stk, sd, sl, ss, so⟩, names, none, []⟩), []⟩ _ rfl e2 hnl h
                rw [ha'] at this
                exact this
end
end K05
set_option Elab.async false
set_option linter.all false
set_option maxRecDepth 100000
set_option maxHeartbeats 4000000
namespace K05
open PySem PySem.Spec PyProof.Rows L2 DL PM
section
variable {P : Program} {w : World} {K : Fg} {mg : Str → Option Value} {base : Heap} {c : Cs}
/-! what a work tells, as lists of the caller's -/
def spFilesC (c : Cs) : SpD := fun rs S C => ∃ (x : Addr) (a : As) (st : WorkS), rs = [.val (.ref x)] ∧ S = wC c x a st ∧ st.held.length ≤ 1000 ∧ ∀ pf qs, qs.length = st.held.length → C (.val (.ref pf)) (.lst pf (qR qs) :: (fcells qs st.held ++ wC c x a st))
theorem ok_filesC {k : Nat} (F : FunM K c.W "files" "Work.files" s_Work_files ["self"]) (B : Blt mg) (TW : Klass K c.W FW) : DefM P w K mg base c.W "files" (k + 1) 1 (spFilesC c) := by
  refine okM F sc_Work_files rfl fun cdv A outer s H E f hr => ⟨_,
    (ss_one (s_ret (d_lcK (fun _ => end_cel) sc_Work_files.nd (i := 1) (d_fld TW 4 (dv 0)) (blkOk_by (N := N_Work_files) (sc := defScope s_Work_files) (own := [("file", 1)]) (by decide +kernel)) (fun _ _ _ _ _ => pg_name (i := 1) sc_Work_files.nd rfl (Or.inl rfl)) (fun _ _ _ _ _ => ts_nil) (fun _ _ _ _ _ => (d_listC (by rfl) B.list (a_cons (dv 1) a_nil))))))
    , ?_⟩
  intro rs S C hl h
  obtain ⟨wa, a, st, rfl, rfl, ok, h⟩ := h
  refine ⟨_, rfl, 0, _, _, rfl, rfl, fileR st.held, List.mem_of_getElem? (i := 1) rfl, fun i acc S' => ∃ qs : List Addr, qs.length = i ∧ acc = qR qs ∧ S'.Perm (fcells qs (st.held.take i) ++ wC c wa a st), ⟨[], rfl, rfl, List.Perm.refl _⟩, ?_, ?_, ?_⟩
  · rintro i acc S' ⟨qs, _, _, hp⟩
    exact hp.mem_iff.mpr (List.mem_append_right _ (List.mem_of_getElem? (i := 1) rfl))
  · rintro i r acc S' hi ⟨qs, rfl, rfl, hp⟩
    unfold fileR at hi
    rw [List.getElem?_map] at hi
    cases e : st.held[qs.length]? with
    | none => rw [e] at hi; cases hi
    | some f =>
      rw [e] at hi
      cases hi
      have hlt := (List.getElem?_eq_some_iff.mp e).1
      refine ⟨_, rfl, fun q => ⟨by unfold qR; rw [List.length_map]; omega, qs ++ [q], by simp, by simp [qR], ?_⟩⟩
      have et : st.held.take (qs.length + 1) = st.held.take qs.length ++ [f] := by rw [List.take_add_one, e]; rfl
      rw [et, fcells_snoc q f (by rw [List.length_take]; omega), List.append_assoc]
      have e0 : (f.map PyData.int).map R.dat = iR f := by unfold iR; rw [List.map_map]; rfl
      rw [e0]
      exact (List.Perm.cons _ hp).trans List.perm_middle.symm
  · rintro acc S' ⟨qs, hq, rfl, hp⟩
    rw [fileR_len] at hq
    intro pf
    rw [fileR_len, List.take_length] at hp
    exact ⟨_, _, wkn_sub (List.Perm.cons _ hp) (List.Sublist.refl _), h pf qs hq⟩
def spSentC (c : Cs) : SpD := fun rs S C => ∃ (x : Addr) (a : As) (st : WorkS), rs = [.val (.ref x)] ∧ S = wC c x a st ∧ ∀ pt, C (.val (.ref pt)) (.lst pt (iR st.letters) :: wC c x a st)
theorem ok_sentC {k : Nat} (F : FunM K c.W "sent" "Work.sent" s_Work_sent ["self"]) (B : Blt mg) (TW : Klass K c.W FW) : DefM P w K mg base c.W "sent" (k + 1) 1 (spSentC c) := by
  refine okM F sc_Work_sent rfl fun cdv A outer s H E f hr => ⟨_,
    (ss_one (s_ret (d_listC (by rfl) B.list (a_cons (d_fld TW 5 (dv 0)) a_nil))))
    , ?_⟩
  intro rs S C hl h
  obtain ⟨wa, a, st, rfl, rfl, h⟩ := h
  exact ⟨_, rfl, 0, _, _, rfl, rfl, 2, _, rfl, fun pt => WkC.of (h pt)⟩
def stR (pn : Addr) (st : WorkS) : R := match st.inner with
  | none => .dat .none
  | some i => .tp [.dat (.int i.row), .val (.ref pn)]
def stC (pn : Addr) (st : WorkS) : SH := match st.inner with
  | none => []
  | some i => [.lst pn (iR i.names)]
def spStandsC (c : Cs) : SpD := fun rs S C => ∃ (x : Addr) (a : As) (st : WorkS), rs = [.val (.ref x)] ∧ S = wC c x a st ∧ ∀ pn, C (stR pn st) (stC pn st ++ wC c x a st)
theorem ok_standsC {k : Nat} (F : FunM K c.W "stands" "Work.stands" s_Work_stands ["self"]) (B : Blt mg) (TW : Klass K c.W FW) (TI : Klass K c.I FI) : DefM P w K mg base c.W "stands" (k + 1) 1 (spStandsC c) := by
  refine okM F sc_Work_stands rfl fun cdv A outer s H E f hr => ⟨_,
    (ss_one (s_ret (d_if (t_isN (d_fld TW 10 (dv 0)) d_non) d_non (d_tp (a_cons (d_fld TI 0 (d_fld TW 10 (dv 0))) (a_cons (d_listC (by rfl) B.list (a_cons (d_fld TI 1 (d_fld TW 10 (dv 0))) a_nil)) a_nil))))))
    , ?_⟩
  intro rs S C hl h
  obtain ⟨wa, a, ⟨rows, handed, way, often, held, letters, mark, jots, made, over, inner, count⟩, rfl, rfl, h⟩ := h
  cases inner with
  | none => exact ⟨_, rfl, 0, _, _, rfl, rfl, WkC.of (h 0)⟩
  | some i =>
    refine ⟨_, rfl, 0, _, _, rfl, rfl, _, rfl, 0, _, _, rfl, rfl, 4, _, _, rfl, rfl, _, rfl, 0, _, _, rfl, rfl, 4, _, _, rfl, rfl, 5, _, rfl, fun pn => ⟨le_ok rfl, WkC.of (h pn)⟩⟩
theorem meth_perm {fr : Fr} {c : Cs} {x : Addr} {a : As} {st : WorkS} {S T : SH} {sp : SpD} {i : Nat} {Q : CR0} (hi : fr[i]? = some (some (.val (.ref x)))) (hp : S.Perm (wC c x a st ++ T)) (q : sp [.val (.ref x)] (wC c x a st) fun r S' => Q r (S' ++ T)) : dMeth c.W FW 1 (framed sp) (dVar i) dNil fr S Q := by
  have hm : Cell.ins x c.W FW (st.rs c a) ∈ S := hp.mem_iff.mpr (List.mem_append_left _ (List.mem_of_getElem? (i := 0) rfl))
  obtain ⟨j, hj⟩ := List.mem_iff_getElem?.mp hm
  exact ⟨_, hi, ⟨j, _, hj⟩, rfl, wC c x a st, T, hp, q⟩
/-! _law_all -/
def allR (pf pt pn : Addr) (st : WorkS) : List R := [.val (.ref pf), .val (.ref pt), stR pn st, .dat (.tuple [.int st.mark.row, .int (st.jots.length : Int)]), .dat st.over, .dat (.int st.count)]
def spAll (c : Cs) : SpD := fun rs S C => ∃ (x : Addr) (a : As) (st : WorkS), rs = [.val (.ref x)] ∧ S = wC c x a st ∧ st.held.length ≤ 1000 ∧ ∀ (pl pf pt pn : Addr) (qs : List Addr) (a' : As), qs.length = st.held.length → C (.val (.ref pl)) (.lst pl (allR pf pt pn st) :: .lst pf (qR qs) :: .lst pt (iR st.letters) :: (fcells qs st.held ++ (stC pn st ++ wC c x a' st)))
abbrev s__law_all : Stmt := topS 57
abbrev N__law_all : List Str := ["_law_work"]
theorem sc__law_all : FnScope N__law_all ["_law_work"] (defScope s__law_all) := ⟨rfl, rfl, rfl, by decide +kernel, rfl, by decide +kernel, by decide +kernel⟩
theorem ok_all {k : Nat} (F : FunAt K mg "_law_all" s__law_all ["_law_work"]) (B : Blt mg) (TW : Klass K c.W FW) (M1 : DefM P w K mg base c.W "files" 1 1 (framed (spFilesC c))) (M2 : DefM P w K mg base c.W "sent" 1 1 (framed (spSentC c))) (M3 : DefM P w K mg base c.W "stands" 1 1 (framed (spStandsC c))) (M4 : DefM P w K mg base c.W "kept" 1 1 (framed (spM c (fun st => (.tuple [.int st.mark.row, .int (st.jots.length : Int)], st)) fun _ => True))) (M5 : DefM P w K mg base c.W "end" 1 1 (framed (spM c (fun st => (st.over, st)) fun _ => True))) (M6 : DefM P w K mg base c.W "steps" 1 1 (framed (spM c (fun st => (.int st.count, st)) fun _ => True))) : Def P w K mg base "_law_all" (k + 2) 1 (spAll c) := by
  refine okW F sc__law_all rfl fun cdv A outer s H E f hr => ⟨_,
    (ss_one (s_ret (d_lstC (a_cons (d_meth0 TW M1 (hr.mono (by omega)) (by decide) (dv 0)) (a_cons (d_meth0 TW M2 (hr.mono (by omega)) (by decide) (dv 0)) (a_cons (d_meth0 TW M3 (hr.mono (by omega)) (by decide) (dv 0)) (a_cons (d_meth0 TW M4 (hr.mono (by omega)) (by decide) (dv 0)) (a_cons (d_meth0 TW M5 (hr.mono (by omega)) (by decide) (dv 0)) (a_cons (d_meth0 TW M6 (hr.mono (by omega)) (by decide) (dv 0)) a_nil)))))))))
    , ?_⟩
  intro rs S C hl h
  obtain ⟨x, a, st, rfl, rfl, hl1, h⟩ := h
  refine meth_perm (T := []) rfl (by rw [List.append_nil]) ⟨x, a, st, rfl, rfl, hl1, fun pf qs hq => ?_⟩
  refine meth_perm (a := a) (st := st) (T := .lst pf (qR qs) :: fcells qs st.held) rfl (by rw [List.append_nil]; exact List.perm_append_comm (l₁ := .lst pf (qR qs) :: fcells qs st.held)) ⟨x, a, st, rfl, rfl, fun pt => ?_⟩
  refine meth_perm (a := a) (st := st) (T := .lst pt (iR st.letters) :: .lst pf (qR qs) :: fcells qs st.held) rfl List.perm_middle.symm ⟨x, a, st, rfl, rfl, fun pn => ?_⟩
  refine meth_perm (a := a) (st := st) (T := stC pn st ++ .lst pt (iR st.letters) :: .lst pf (qR qs) :: fcells qs st.held) rfl (by rw [← List.append_assoc]; exact List.perm_append_comm.append_right _) ⟨x, a, st, rfl, rfl, True.intro, fun a1 => ?_⟩
  refine meth_perm (a := a1) (st := st) (T := stC pn st ++ .lst pt (iR st.letters) :: .lst pf (qR qs) :: fcells qs st.held) rfl (List.Perm.refl _) ⟨x, a1, st, rfl, rfl, True.intro, fun a2 => ?_⟩
  refine meth_perm (a := a2) (st := st) (T := stC pn st ++ .lst pt (iR st.letters) :: .lst pf (qR qs) :: fcells qs st.held) rfl (List.Perm.refl _) ⟨x, a2, st, rfl, rfl, True.intro, fun a3 => ?_⟩
  refine ⟨le_ok rfl, fun pl => ⟨_, _, ?_, h pl pf pt pn qs a3 hq⟩⟩
  refine wkn_sub (List.Perm.cons _ ?_) (List.Sublist.refl _)
  rw [← List.append_assoc]
  exact List.perm_append_comm.trans ((List.Perm.swap (.lst pf (qR qs)) (.lst pt (iR st.letters)) (fcells qs st.held)).append List.perm_append_comm)
/-! _law_due -/
def oStR (a : OAs) (o : OW) : R := match o.inn with
  | none => .dat .none
  | some i => .tp [.dat (.int i.s.row), .val (.ref a.n)]
def dueR (a : OAs) (o : OW) : List R := [.val (.ref a.f), .val (.ref a.t), oStR a o, .dat (.tuple [.int o.mark.row, .int (o.jots.length : Int)]), .dat o.end_, .dat (.int o.steps)]
def spDue : SpD := fun rs S C => ∃ (w : Addr) (a : OAs) (o : OW), rs = [.val (.ref w)] ∧ S = oC w a o ∧ ∀ pl, C (.val (.ref pl)) (.lst pl (dueR a o) :: oC w a o)
abbrev s__law_due : Stmt := topS 58
abbrev N__law_due : List Str := ["_law_w", "_law_stands"]
theorem sc__law_due : FnScope N__law_due ["_law_w"] (defScope s__law_due) := ⟨rfl, rfl, rfl, by decide +kernel, rfl, by decide +kernel, by decide +kernel⟩
theorem ok_due {k : Nat} (F : FunAt K mg "_law_due" s__law_due ["_law_w"]) (B : Blt mg) : Def P w K mg base "_law_due" (k + 1) 1 spDue := by
  refine okW F sc__law_due rfl fun cdv A outer s H E f hr => ⟨_,
    (ss_cons (s_set (i := 1) sc__law_due.nd (d_if (t_isN (d_ix (hu_of hr) (dv 0) d_str) d_non) d_non (d_tp (a_cons (d_ix (hu_of hr) (d_ix (hu_of hr) (dv 0) d_str) d_str) (a_cons (d_ix (hu_of hr) (d_ix (hu_of hr) (dv 0) d_str) d_str) a_nil)))))
      (ss_one (s_ret (d_lstC (a_cons (d_ix (hu_of hr) (dv 0) d_str) (a_cons (d_ix (hu_of hr) (dv 0) d_str) (a_cons (dv 1) (a_cons (d_tup (a_cons (d_ix (hu_of hr) (d_ix (hu_of hr) (dv 0) d_str) d_str) (a_cons (d_len (by rfl) B.len (a_cons (d_ix (hu_of hr) (dv 0) d_str) a_nil)) a_nil))) (a_cons (d_ix (hu_of hr) (dv 0) d_str) (a_cons (d_ix (hu_of hr) (dv 0) d_str) a_nil))))))))))
    , ?_⟩
  intro rs S C hl h
  obtain ⟨wa, a, ⟨p, hs, way, often, files, sent, mark, jots, made, end_, inn, steps⟩, rfl, rfl, h⟩ := h
  refine oseq_cutX (fun N => N [some (.val (.ref wa)), some (oStR a ⟨p, hs, way, often, files, sent, mark, jots, made, end_, inn, steps⟩)] (oC wa a ⟨p, hs, way, often, files, sent, mark, jots, made, end_, inn, steps⟩)) ?_ fun N step => ?_
  · refine dget (i := 0) (j := 0) rfl rfl rfl (dget (i := 0) (j := 0) rfl rfl rfl ⟨_, rfl, dget (i := 0) (j := 0) rfl rfl rfl ⟨_, rfl, dget (i := 0) (j := 0) rfl rfl rfl ⟨3, _, rfl, le_ok rfl, _, rfl, dget (i := 0) (j := 0) rfl rfl rfl (dget (i := 0) (j := 0) rfl rfl rfl ⟨le_ok rfl, fun pl => ?_⟩)⟩⟩⟩)
    rw [List.length_map]
    exact WkC.of (h pl)
  · cases inn with
    | none =>
      refine dget (i := 0) (j := 0) rfl rfl rfl ?_
      exact step
    | some i =>
      refine dget (i := 0) (j := 0) rfl rfl rfl ?_
      exact dget (i := 0) (j := 0) rfl rfl rfl ⟨4, _, _, rfl, rfl, dget (i := 0) (j := 0) rfl rfl rfl ⟨4, _, _, rfl, rfl, le_ok rfl, step⟩⟩
end
end K05
set_option Elab.async false
set_option linter.all false
set_option maxRecDepth 100000
set_option maxHeartbeats 4000000
/-! The laws' own works: what the walk asks is so. -/
namespace PM
open PySem PySem.Spec PyProof.Rows L2 DL
theorem oDone_p (o : OW) (i : OI) (e : OE) : (oDone o i e).2.p = o.p ∧ (oDone o i e).2.hs = o.hs := by
  unfold oDone
  split
  · split <;> exact ⟨rfl, rfl⟩
  · exact ⟨rfl, rfl⟩
theorem oBegin_p (o : OW) (i : OI) : (oBegin o i).2.p = o.p ∧ (oBegin o i).2.hs = o.hs := by
  unfold oBegin
  split
  · exact ⟨rfl, rfl⟩
  split
  · exact ⟨rfl, rfl⟩
  split
  · exact ⟨rfl, rfl⟩
  split
  · exact ⟨rfl, rfl⟩
  split <;> exact ⟨rfl, rfl⟩
theorem oMove_p (o : OW) : (oMove o).2.p = o.p ∧ (oMove o).2.hs = o.hs := by
  unfold oMove
  split
  · exact ⟨rfl, rfl⟩
  cases o.inn with
  | none =>
    show (oRise o).2.p = o.p ∧ (oRise o).2.hs = o.hs
    unfold oRise
    cases o.jots.getLast? with
    | none => exact ⟨rfl, rfl⟩
    | some j => dsimp only; split <;> exact ⟨rfl, rfl⟩
  | some i =>
    dsimp only
    cases i.again with
    | cons k r => exact ⟨rfl, rfl⟩
    | nil =>
      dsimp only
      cases i.about with
      | some e => exact oDone_p o i e
      | none =>
        dsimp only
        have hb := oBegin_p o i
        cases hB : oBegin o i with
        | mk d o' =>
          rw [hB] at hb
          cases d with
          | some d => exact hb
          | none =>
            have h2 := oDone_p o' { i with about := some (oEff o i), again := [] } (oEff o i)
            exact ⟨h2.1.trans hb.1, h2.2.trans hb.2⟩
section
variable {Z : Rn} {way : Str} {often : Int} {m : Nat} {st : WorkS} {o : OW}
theorem chain_mem : ∀ {ks : List Nat} {h : List (List Int)}, chain Z m ks h → ∀ k ∈ ks, k < Z.N ∧ ∃ f, (Z.E k).file = some f
  | [], _, _, _, hk => nomatch hk
  | k0 :: r, h, hc, k, hk => by
    rcases List.mem_cons.mp hk with rfl | hk
    · exact ⟨hc.1, hc.2.1⟩
    · exact chain_mem hc.2.2.2 k hk
theorem O_ok (z : Z.Ok) {k : Nat} (hk : k < Z.N) : OEok Z.nN Z.nF (Z.O k) := by
  have e := z.eok hk
  constructor
  · intro n v h
    unfold Rn.O oeOf at h
    dsimp only at h
    cases hn : (Z.E k).name with
    | none => rw [hn] at h; cases h
    | some n' =>
      cases hv : (Z.E k).number with
      | none => rw [hn, hv] at h; cases h
      | some v' =>
        rw [hn, hv] at h
        cases h
        exact (e.name _ hn).1
  · intro f xs h
    unfold Rn.O oeOf at h
    dsimp only at h
    cases hf : (Z.E k).file with
    | none => rw [hf] at h; cases h
    | some f' =>
      rw [hf] at h
      cases h
      exact e.file _ hf
theorem runB_all (z : Z.Ok) (h0 : RunB Z.r0) (hh : BB Z.hs) : ∀ {k : Nat}, k ≤ Z.N → RunB (Z.T k)
  | 0, _ => h0
  | k + 1, hk => by
    have ih := runB_all z h0 hh (k := k) (by omega)
    obtain ⟨a, _, _⟩ := z.alive (k := k) (by omega)
    exact runB_next z.rok hh (z.tok (by omega)) a ih
theorem rel_ook (z : Z.Ok) (hw : way = backW ∨ way = onW) (v : Inv Z way often m st) (h : Rel Z way often m st o) (hp : o.p.ok) (hh : HandedOk o.hs) (nN : Z.nN = o.p.names.toNat) (nF : Z.nF = o.p.files.toNat) (rb : ∀ k, k ≤ Z.N → RunB (Z.T k)) : OOk o := by
  obtain ⟨ks, j1, j2, j3, j4⟩ := h.jots
  have room := v.room z
  have jlen : o.jots.length = st.jots.length := by rw [j1, j2, List.length_map, List.length_map]
  have klen : ks.length = st.jots.length := by rw [j1, List.length_map]
  have kN : ∀ k ∈ ks, k < Z.N := fun k hk => by
    rcases hw with hb | hon
    · exact (chain_mem (j4 hb).1 k (List.mem_reverse.mpr hk)).1
    · rw [j3 hon] at hk
      obtain ⟨q, hq, rfl⟩ := List.mem_map.mp hk
      have := List.mem_range.mp hq
      have jl := v.jl
      have mN := v.mN
      show m + q < Z.N
      omega
  refine ⟨hp, hh, by rw [h.wayE]; exact hw, ?_, by rw [h.sent]; exact room.1, by rw [jlen]; exact room.2, ?_, ?_, ?_⟩
  · rw [h.files, ← nF]
    exact ⟨v.hok.1, fun f hf => (v.hok.2 f hf).1⟩
  · intro j hj
    rw [j2] at hj
    obtain ⟨k, hk, rfl⟩ := List.mem_map.mp hj
    rw [← nN, ← nF]
    exact O_ok z (kN k hk)
  · intro hb j hj
    rw [j2] at hj
    obtain ⟨k, hk, rfl⟩ := List.mem_map.mp hj
    obtain ⟨k2, f, hf⟩ := chain_mem (j4 (h.wayE.symm.trans hb)).1 k (List.mem_reverse.mpr hk)
    refine ⟨f, (Z.T k).files.getD f.toNat [], by unfold Rn.J; rw [hf]; rfl, ?_⟩
    rw [← nF]
    exact (z.eok k2).file f hf
  · intro oi ho
    have q := h.inn
    rw [ho] at q
    cases hi : st.inner with
    | none => rw [hi] at q; exact q.elim
    | some i =>
      rw [hi] at q
      have r : RelI Z m st i oi := q
      obtain ⟨k, k0, k1, at_, si, sl, hc⟩ := v.inner i hi
      have tk := z.tok k1
      have rg : i.again.toNat ≤ st.jots.length := by
        rcases hc with ⟨_, a, b, _⟩ | ar
        · omega
        · have := ar.again; omega
      refine ⟨?_, ?_, ?_, ?_, ?_, ?_⟩
      · rw [r.row, at_.row, h.rows]; exact tk.row
      · rw [r.names, at_.names, ← nN]
        exact ⟨tk.names.len, (rb k k1).names⟩
      · rw [r.taken, at_.taken, h.hs]; exact tk.taken
      · intro e he
        rw [r.about] at he
        cases no : i.noted with
        | none => rw [no] at he; cases he
        | some e0 =>
          rw [no] at he
          cases he
          rcases hc with ⟨_, _, _, no', _⟩ | ar
          · rw [no] at no'; cases no'
          · obtain ⟨_, k2, _⟩ := ar.got e0 no
            rw [at_.passed, Int.toNat_natCast, ← nN, ← nF]
            exact O_ok z k2
      · intro g hg
        rw [r.again] at hg
        obtain ⟨n, hn, rfl⟩ := List.mem_map.mp hg
        have := List.mem_range.mp (List.mem_of_mem_drop hn)
        rw [jlen]
        omega
      · rw [r.again, List.length_map, List.length_drop, List.length_range]
        have := room.2
        omega
end
end PM
set_option Elab.async false
set_option linter.all false
set_option maxRecDepth 100000
set_option maxHeartbeats 4000000
/-! DL: xs.insert(i, e). -/
namespace DL
open PySem PySem.Spec PyProof.Rows L2
def rIns : V → List V → Hp → VK → Prop := fun x vs H Q => ∃ (l : Addr) (xs : List V) (i : Int) (y : V), x = .ref l ∧ vs = [.int i, y] ∧ H l = some (.lst xs) ∧ xs.length < sizeLine ∧ 0 ≤ i ∧ i < 2 ^ 63 ∧ Q .non (upd H l (.lst (xs.take i.toNat ++ [y] ++ xs.drop i.toNat)))
def dIns (da : DE) (dA : DA) : DE := fun fr S C => da fr S fun a S1 => match a with
  | .val (.ref p) => (∃ (j : Nat) (xs : List R), S1[j]? = some (.lst p xs)) ∧ dA fr S1 fun rs S2 => match rs with
    | [.dat (.int i), r] => ∃ (j : Nat) (xs : List R), S2[j]? = some (.lst p xs) ∧ xs.length < 100000 ∧ 0 ≤ i ∧ i < 100000 ∧ C (.dat .none) (S2.set j (.lst p (xs.take i.toNat ++ [r] ++ xs.drop i.toNat)))
    | _ => False
  | _ => False
theorem paired_take {α β : Type} {P : α → β → Prop} : ∀ {xs : List α} {ys : List β} (n : Nat), Paired P xs ys → Paired P (xs.take n) (ys.take n)
  | _, _, 0, _ => .nil
  | _, _, _ + 1, .nil => .nil
  | _, _, n + 1, .cons h t => .cons h (paired_take n t)
theorem paired_drop {α β : Type} {P : α → β → Prop} : ∀ {xs : List α} {ys : List β} (n : Nat), Paired P xs ys → Paired P (xs.drop n) (ys.drop n)
  | _, _, 0, h => h
  | _, _, _ + 1, .nil => .nil
  | _, _, n + 1, .cons _ t => paired_drop n t
theorem lift_ins {K : Fg} {to : TE} {ta : TA} {da : DE} {dA : DA} (la : Lift K to da) (lA : LiftA K ta dA) : Lift K (tBM K "list" rIns to ta) (dIns da dA) := by
  intro F H σ fr S L fo o C Q hd q
  refine la F H σ fr S L fo o _ _ hd fun x a S1 H1 o1 h1 => ?_
  split at h1
  · rename_i p
    obtain ⟨⟨j, xs, hj⟩, h1⟩ := h1
    cases o1.val List.mem_cons_self
    obtain ⟨us, e1, _⟩ := o1.cells _ (at_split (in_app hj))
    refine ⟨.inl ⟨rfl, _, SqL.of e1⟩, ?_⟩
    refine lA F H1 σ fr S1 _ (fo.mono tl_mem) o1 _ _ h1 fun vs rs S2 H2 L2 o2 s2 lv h2 => ?_
    split at h2
    · rename_i i r
      cases lv with | cons m1 t => cases t with | cons m2 t2 =>
      cases t2
      obtain ⟨j2, ys, hj2, hl, h0, hb, hc⟩ := h2
      cases rep_int_inv (o2.dat m1)
      obtain ⟨ws, f1, q1⟩ := o2.cells _ (at_split (in_app hj2))
      refine ⟨p, ws, i, _, rfl, rfl, f1, by rw [paired_len q1]; exact big_lt hl, h0, by omega, ?_⟩
      have o3 := o2.putL (in_app hj2) (paired_app (paired_app (paired_take i.toNat q1) (.cons (o2.live _ m2) .nil)) (paired_drop i.toNat q1))
      rw [set_app hj2] at o3
      exact q _ _ _ _ ((o3.sub fun e he => s2 e (List.mem_cons_of_mem _ he)).pd .non) hc
    · exact h2.elim
  · exact h1.elim
theorem d_insert {X : Cx} {a e1 e2 : Expr} {da : DE} {dA : DA} {apos pos : Pos} (ha : PD X a da) (he : PDA X [e1, e2] dA) (hbase : attributeBase a "insert" X.env (eval a X.env) = eval a X.env := by rfl)
    (hfew : ((backTo pos (starEach [e1, e2] X.env)).all (fun x => !x.1) && (backToKw pos (keywordEach [] X.env)).all (fun x => x.1.isSome)
      && decide (([e1, e2] : List Expr).length + ([] : List Keyword).length + (if ([] : List Keyword).isEmpty then 0 else 1) < 30)) = true := by rfl)
    (hline : (apos.endLine == pos.line) = true := by rfl) (hs : starEach [e1, e2] X.env = (false, eval e1 X.env) :: starEach [e2] X.env := by rfl) (hpl : (backTo pos (starEach [e2] X.env)).any (·.1) = false := by rfl) : PD X (.Call (.Attribute a "insert" apos) [e1, e2] [] pos) (dIns da dA) := by
  obtain ⟨_, p, l⟩ := ha.ex
  obtain ⟨_, p2, l2⟩ := he.ex
  exact ⟨_, pe_bm PySem.F.plainAttrs_list PySem.F.slot_list_insert PySem.F.type_list_insert mt_insert p p2 hbase hfew hline hs hpl, lift_ins l l2⟩
end DL
set_option Elab.async false
set_option linter.all false
set_option maxRecDepth 100000
set_option maxHeartbeats 4000000
namespace K05
open PySem PySem.Spec PyProof.Rows L2 DL PM
section
variable {P : Program} {w : World} {K : Fg} {mg : Str → Option Value} {base : Heap} {c : Cs}
theorem allc {p : PyData → Prop} {a : PyData} {xs : List PyData} (h : p a) (q : ∀ x ∈ xs, p x) : ∀ x ∈ a :: xs, p x := fun x hx => by
  rcases List.mem_cons.mp hx with rfl | hx
  · exact h
  · exact q x hx
theorem nds_all : ∀ {xs : List PyData}, (∀ x ∈ xs, noDict x = true) → noDicts xs = true
  | [], _ => by rw [noDicts]
  | x :: xs, h => by
    rw [noDicts, h x List.mem_cons_self, nds_all fun y hy => h y (List.mem_cons_of_mem _ hy)]; rfl
theorem nd_list {xs : List PyData} (hl : xs.length ≤ 100000) (h : ∀ x ∈ xs, noDict x = true) : noDict (.list xs) = true := by
  rw [noDict, decide_eq_true hl, nds_all h]; rfl
theorem nd_tuple {xs : List PyData} (hl : xs.length ≤ 100000) (h : ∀ x ∈ xs, noDict x = true) : noDict (.tuple xs) = true := by
  rw [noDict, decide_eq_true hl, nds_all h]; rfl
theorem nd_ints {ns : List Int} (h : ns.length ≤ 100000) : noDict (lstI ns) = true := nd_list (by rw [List.length_map]; exact h) fun x hx => by
  obtain ⟨i, _, rfl⟩ := List.mem_map.mp hx
  show noDict (.int i) = true
  rfl
theorem nd_files {fs : List (List Int)} (h : fs.length ≤ 100000) (hf : ∀ f ∈ fs, f.length ≤ 40) : noDict (filesD fs) = true := nd_list (by rw [List.length_map]; exact h) fun x hx => by
  obtain ⟨f, hm, rfl⟩ := List.mem_map.mp hx
  exact nd_ints (by have := hf f hm; omega)
theorem nd_how {Z : Rn} (z : Z.Ok) : noDict Z.how = true := by
  have e := z.at_
  unfold stopAt at e
  split at e
  · rw [← Option.some.inj e]; rfl
  split at e
  · rw [← Option.some.inj e]; rfl
  · cases hf : (runEff Z.rows Z.hs (Z.T Z.N)).fault with
    | none => rw [hf] at e; cases e
    | some f =>
      rw [hf] at e
      rw [← Option.some.inj e]
      rfl
theorem nd_over {Z : Rn} {way : Str} {often : Int} {m : Nat} {st : WorkS} (z : Z.Ok) (v : Inv Z way often m st) : noDict st.over = true := by
  rcases v.over with e | ⟨e, _⟩
  · rw [e]; rfl
  · rw [e]; exact nd_how z
theorem nd_move {Z : Rn} {way : Str} {often : Int} {m : Nat} {st : WorkS} (z : Z.Ok) (hw : way = backW ∨ way = onW) (v : Inv Z way often m st) : noDict (moveW st).1 = true := by
  have mv := mv_move z hw v
  generalize (moveW st).1 = d at mv
  generalize (moveW st).2 = s at mv
  cases mv with
  | ends i hh no hs => exact nd_tuple (show 2 ≤ 100000 by decide) (allc rfl (allc (nd_how z) (fun x hx => nomatch hx)))
  | _ => rfl
theorem vi {T : SH} (ns : List Int) : Views T (iR ns) (ns.map PyData.int) := by
  have e : iR ns = (ns.map PyData.int).map R.dat := by unfold iR; rw [List.map_map]; rfl
  rw [e]; exact Views.of_dats _
theorem vf {T : SH} (fs : List (List Int)) : Views T (fileR fs) (fs.map lstI) := by
  have e : fileR fs = (fs.map lstI).map R.dat := by unfold fileR; rw [List.map_map]; rfl
  rw [e]; exact Views.of_dats _
theorem perm_sw {α : Type} (A B C : List α) : (A ++ (B ++ C)).Perm (B ++ (A ++ C)) := by
  rw [← List.append_assoc, ← List.append_assoc]
  exact List.perm_append_comm.append_right C
theorem view_mem {S : SH} {p : Addr} {xs : List R} {ds : List PyData} (h : Cell.lst p xs ∈ S) (q : Views S xs ds) : View S (.val (.ref p)) (.list ds) := by
  obtain ⟨j, hj⟩ := List.mem_iff_getElem?.mp h
  exact .cel hj q
theorem qviews {S : SH} : ∀ {qs : List Addr} {fs : List (List Int)}, qs.length = fs.length → (∀ c ∈ fcells qs fs, c ∈ S) → Views S (qR qs) (fs.map lstI)
  | [], [], _, _ => .nil
  | q :: qs, f :: fs, hl, h => .cons (view_mem (h _ List.mem_cons_self) (vi f)) (qviews (by simpa using hl) fun c hc => h c (List.mem_cons_of_mem _ hc))
/-- one cell of many is changed -/
theorem set_perm {S R : SH} {j : Nat} {c c' : Cell} (hj : S[j]? = some c) (hp : S.Perm (c :: R)) : (S.set j c').Perm (c' :: R) := by
  obtain ⟨hl, e⟩ := List.getElem?_eq_some_iff.mp hj
  have es : S = S.take j ++ c :: S.drop (j + 1) := by
    rw [← e, ← List.drop_eq_getElem_cons hl, List.take_append_drop]
  have h1 : S.Perm (c :: (S.take j ++ S.drop (j + 1))) := by
    have q := List.perm_middle (a := c) (l₁ := S.take j) (l₂ := S.drop (j + 1))
    rw [← es] at q
    exact q
  have h2 : (S.take j ++ S.drop (j + 1)).Perm R := (h1.symm.trans hp).cons_inv
  rw [List.set_eq_take_append_cons_drop, if_pos hl]
  exact List.perm_middle.trans (List.Perm.cons _ h2)
/-! _law_falls -/
def spFalls : SpD := fun rs S C => ∃ (D : Addr) (j : Nat), rs = [.val (.ref D)] ∧ S[j]? = some (dice D) ∧ ∀ n : Int, 0 < n → n ≤ 400 → C (.dat (.int n)) S
abbrev s__law_falls : Stmt := topS 56
abbrev N__law_falls : List Str := ["_law_d"]
theorem sc__law_falls : FnScope N__law_falls ["_law_d"] (defScope s__law_falls) := ⟨rfl, rfl, rfl, by decide +kernel, rfl, by decide +kernel, by decide +kernel⟩
theorem ok_falls {k : Nat} (F : FunAt K mg "_law_falls" s__law_falls ["_law_d"]) (B : Blt mg) (D1 : Def P w K mg base "_law_next" 1 2 spNext) : Def P w K mg base "_law_falls" (k + 2) 1 spFalls := by
  refine okF F sc__law_falls rfl fun cdv A outer s H E f hr => ⟨_,
    (ss_one (s_ret (d_ix (hu_of hr) (d_lst (a_cons d_int (a_cons d_int (a_cons d_int (a_cons d_int a_nil))))) (d_callF D1 (hr.mono (by omega)) (by rfl) (a_cons (dv 0) (a_cons d_int a_nil))))))
    , ?_⟩
  intro rs S C hl h
  obtain ⟨D, j, rfl, hj, h⟩ := h
  refine ⟨le_ok rfl, _, rfl, ?_⟩
  refine dnext (D := D) (j := j) rfl hj (by decide) (by decide) fun y y0 y1 => ?_
  obtain ⟨d, e1, md⟩ := pick (ds := [PyData.int 2, PyData.int 5, PyData.int 20, PyData.int 400]) y0 y1
  refine ⟨d, e1, ?_⟩
  rcases List.mem_cons.mp md with rfl | md
  · exact h 2 (by decide) (by decide)
  rcases List.mem_cons.mp md with rfl | md
  · exact h 5 (by decide) (by decide)
  rcases List.mem_cons.mp md with rfl | md
  · exact h 20 (by decide) (by decide)
  cases List.mem_singleton.mp md
  exact h 400 (by decide) (by decide)
/-! law -/
/-- both works, the law's own one, the dice: somewhere among the cells -/
structure CoreAt (c : Cs) (Z Z2 : Rn) (way : Str) (often : Int) (p : Prog) (hs : List Int) (wa x x2 D : Addr) (st : WorkS) (o : OW) (S' : SH) : Prop where
  ex : ∃ (oa : OAs) (a a2 : As) (st2 : WorkS) (m m2 : Nat) (T : SH), S'.Perm (oC wa oa o ++ (wC c x a st ++ (wC c x2 a2 st2 ++ (dice D :: T)))) ∧ Inv Z way often m st ∧ Rel Z way often m st o ∧ Inv Z2 way 1 m2 st2
  p : o.p = p
  hs : o.hs = hs
theorem app_perm {fr : Fr} {S R : SH} {dO de : DE} {C : CR0} {p : Addr} {xs : List DL.R} (h : S.Perm (.lst p xs :: R)) (hl : xs.length < 100000) (hO : ∀ C' : CR0, C' (.val (.ref p)) S → dO fr S C') (hE : ∀ C' : CR0, (∀ (r : DL.R) (S' : SH), (∃ U : SH, S' = U ++ S) → C' r S') → de fr S C') (q : ∀ (r : DL.R) (S' U : SH), S'.Perm (.lst p (xs ++ [r]) :: (R ++ U)) → C (.dat .none) S') : dApp dO de fr S C := by
  have hm : Cell.lst p xs ∈ S := h.mem_iff.mpr List.mem_cons_self
  obtain ⟨j, hj⟩ := List.mem_iff_getElem?.mp hm
  refine hO _ ⟨⟨j, _, hj⟩, hE _ ?_⟩
  rintro r S' ⟨U, rfl⟩
  have h2 : (U ++ S).Perm (.lst p xs :: (R ++ U)) := (h.append_left U).trans (List.perm_append_comm (l₁ := U) (l₂ := .lst p xs :: R))
  have hm2 : Cell.lst p xs ∈ U ++ S := h2.mem_iff.mpr List.mem_cons_self
  obtain ⟨j2, hj2⟩ := List.mem_iff_getElem?.mp hm2
  exact ⟨j2, _, hj2, hl, q r _ U (set_perm hj2 h2)⟩
theorem mem_mid {c : Cell} {A B C : SH} (h : c ∈ B) : c ∈ A ++ (B ++ C) := List.mem_append_right _ (List.mem_append_left _ h)
theorem ix_mem {S : SH} {p : Addr} {xs : List DL.R} {i : Int} {r : DL.R} {C : CR0} (h : Cell.lst p xs ∈ S) (e : atI xs i = some r) (q : C r S) : fIx (.val (.ref p)) (.dat (.int i)) S C := by
  obtain ⟨j, hj⟩ := List.mem_iff_getElem?.mp h
  exact .inl ⟨j, xs, r, hj, e, q⟩
theorem dix1 {fr : Fr} {S : SH} {i : Nat} {p : Addr} {xs : List DL.R} {n : Int} {r : DL.R} {C : CR0} (hi : fr[i]? = some (some (.val (.ref p)))) (h : Cell.lst p xs ∈ S) (e : atI xs n = some r) (q : C r S) : dOp fIx (dVar i) (dC (.dat (.int n))) fr S C := ⟨_, hi, ix_mem h e q⟩
theorem dix2 {fr : Fr} {S : SH} {de : DE} {n : Int} {r : DL.R} {C : CR0} (h1 : ∀ C' : CR0, C' r S → de fr S C') (q : fIx r (.dat (.int n)) S C) : dOp fIx de (dC (.dat (.int n))) fr S C := h1 _ q
theorem perm1 (A N G C W : SH) (d pl pf pt q0 pl2 : Cell) (T : SH) : ((pl2 :: A) ++ ((pl :: pf :: pt :: ((q0 :: G) ++ (N ++ W))) ++ (C ++ (d :: T)))).Perm (pf :: q0 :: pt :: (N ++ (pl :: ((G ++ [pl2]) ++ (A ++ (W ++ (C ++ (d :: T)))))))) := by
  classical
  rw [List.perm_iff_count]
  intro z
  simp only [List.count_append, List.count_cons, List.count_nil]
  omega
theorem perm2 (A N G C W U : SH) (d pl pf pt q0 : Cell) (T : SH) : (pt :: q0 :: pf :: ((N ++ (pl :: (G ++ (A ++ (W ++ (C ++ (d :: T))))))) ++ U)).Perm (A ++ (W ++ (C ++ (d :: (pt :: q0 :: pf :: pl :: (N ++ (G ++ (T ++ U)))))))) := by
  classical
  rw [List.perm_iff_count]
  intro z
  simp only [List.count_append, List.count_cons, List.count_nil]
  omega
theorem perm3 (A C W U : SH) (d x y z' v : Cell) (T : SH) : (x :: ((y :: z' :: v :: U) ++ (W ++ (C ++ (d :: T))))).Perm ((x :: y :: z' :: v :: []) ++ (W ++ (C ++ (d :: (U ++ T))))) := by
  classical
  rw [List.perm_iff_count]
  intro z
  simp only [List.count_append, List.count_cons, List.count_nil]
  omega
theorem perm4 {S N U : SH} {a b e f n : Cell} {Y : SH} (h : S.Perm (a :: b :: e :: ((n :: Y) ++ U))) : S.Perm (n :: a :: b :: e :: (Y ++ U)) := by
  refine h.trans ?_
  classical
  rw [List.perm_iff_count]
  intro z
  simp only [List.count_append, List.count_cons, List.count_nil]
  omega
def ownStD (o : OW) : PyData := match o.inn with
  | none => .none
  | some i => .tuple [.int i.s.row, lstI i.names]
def tellD (st : WorkS) : PyData := .list [filesD st.held, lstI st.letters, standsD st, .tuple [.int st.mark.row, .int (st.jots.length : Int)], st.over, .int st.count]
def ownD (o : OW) : PyData := .list [filesD o.files, lstI o.sent, ownStD o, .tuple [.int o.mark.row, .int (o.jots.length : Int)], o.end_, .int o.steps]
theorem own_tell {Z : Rn} {way : Str} {often : Int} {m : Nat} {st : WorkS} {o : OW} (v : Inv Z way often m st) (h : Rel Z way often m st o) : ownD o = tellD st := by
  have e1 : ownStD o = standsD st := by
    unfold ownStD standsD
    have q := h.inn
    cases hi : st.inner with
    | none =>
      rw [hi] at q
      cases ho : o.inn with
      | none => rfl
      | some oi => rw [ho] at q; exact q.elim
    | some i =>
      rw [hi] at q
      cases ho : o.inn with
      | none => rw [ho] at q; exact q.elim
      | some oi =>
        rw [ho] at q
        dsimp only
        rw [q.row, q.names]
  obtain ⟨ks, j1, j2, _⟩ := h.jots
  have e2 : o.jots.length = st.jots.length := by rw [j1, j2, List.length_map, List.length_map]
  have e3 : o.mark.row = st.mark.row := by rw [h.mark, v.mark]; rfl
  unfold ownD tellD
  rw [h.files, h.sent, e1, e2, e3, h.end_, h.steps]
theorem shp_tell {Z : Rn} {way : Str} {often : Int} {m : Nat} {st : WorkS} (z : Z.Ok) (v : Inv Z way often m st) : Shp (tellD st) 3 := by
  have so : Shp st.over 1 := by
    rcases v.over with e | ⟨e, _⟩
    · rw [e]; exact shp_none.mono (by decide)
    · rw [e]; exact shp_how z
  have ss : Shp (standsD st) 2 := by
    unfold standsD
    cases st.inner with
    | none => exact shp_none.mono (by decide)
    | some i => exact shp_tuple (n := 1) (all_cons ((shp_int _).mono (by decide)) (all_cons (shp_ints _) all_nil))
  exact shp_list (n := 2) (all_cons (shp_files _) (all_cons ((shp_ints _).mono (by decide)) (all_cons ss (all_cons ((shp_tuple (n := 0) (all_cons (shp_int _) (all_cons (shp_int _) all_nil))).mono (by decide)) (all_cons (so.mono (by decide)) (all_cons ((shp_int _).mono (by decide)) all_nil))))))
theorem nd_tell {Z : Rn} {way : Str} {often : Int} {m : Nat} {st : WorkS} (z : Z.Ok) (v : Inv Z way often m st) (hw : way = backW ∨ way = onW) (hF : Z.nF ≤ 4) (hN : Z.nN ≤ 8) : noDict (tellD st) = true := by
  have room := v.room z
  have ok := v.ok z hw
  refine nd_list (show 6 ≤ 100000 by decide) (allc (nd_files (by rw [v.hok.1]; omega) fun f hf => (v.hok.2 f hf).1) (allc (nd_ints (by omega)) (allc ?_ (allc rfl (allc (nd_over z v) (allc rfl (fun x hx => nomatch hx)))))))
  unfold standsD
  cases hi : st.inner with
  | none => rfl
  | some i =>
    have := (ok.inner i hi).names.len
    exact nd_tuple (show 2 ≤ 100000 by decide) (allc rfl (allc (nd_ints (by omega)) (fun x hx => nomatch hx)))
theorem view_found {S : SH} {pl pf pt pn : Addr} {qs : List Addr} {st : WorkS} (h1 : Cell.lst pl (allR pf pt pn st) ∈ S) (h2 : Cell.lst pf (qR qs) ∈ S) (h3 : Cell.lst pt (iR st.letters) ∈ S) (h4 : ∀ c ∈ fcells qs st.held, c ∈ S) (h5 : ∀ c ∈ stC pn st, c ∈ S) (hq : qs.length = st.held.length) : View S (.val (.ref pl)) (tellD st) := by
  refine view_mem h1 (.cons (view_mem h2 (qviews hq h4)) (.cons (view_mem h3 (vi _)) (.cons ?_ (.cons (.dat _) (.cons (.dat _) (.cons (.dat _) .nil))))))
  unfold stR standsD
  unfold stC at h5
  cases hi : st.inner with
  | none => exact .dat _
  | some i =>
    rw [hi] at h5
    exact .tp (.cons (.dat _) (.cons (view_mem (h5 _ List.mem_cons_self) (vi _)) .nil))
theorem view_due {S : SH} {pl wa : Addr} {a : OAs} {o : OW} (h1 : Cell.lst pl (dueR a o) ∈ S) (h2 : ∀ c ∈ oC wa a o, c ∈ S) : View S (.val (.ref pl)) (ownD o) := by
  refine view_mem h1 (.cons (view_mem (h2 _ (List.mem_of_getElem? (i := 1) rfl)) (vf _)) (.cons (view_mem (h2 _ (List.mem_of_getElem? (i := 2) rfl)) (vi _)) (.cons ?_ (.cons (.dat _) (.cons (.dat _) (.cons (.dat _) .nil))))))
  unfold oStR ownStD
  have h3 : ∀ c ∈ oinC a o.inn, c ∈ S := fun c hc => h2 c (List.mem_cons_of_mem _ (List.mem_cons_of_mem _ (List.mem_cons_of_mem _ (List.mem_cons_of_mem _ hc))))
  unfold oinC at h3
  cases hi : o.inn with
  | none => exact .dat _
  | some i =>
    rw [hi] at h3
    exact .tp (.cons (.dat _) (.cons (view_mem (h3 _ (List.mem_of_getElem? (i := 1) rfl)) (vi _)) .nil))
abbrev s_law : Stmt := topS 59
abbrev N_law : List Str := ["_law_script", "_law_d", "_law_program", "_law_handed", "_law_often", "_law_seldom", "_law_given", "_law_work", "_law_beside", "_law_w", "_law_turn", "_law_again", "_law_found"]
theorem sc_law : FnScope N_law ["_law_script"] (defScope s_law) := ⟨rfl, rfl, rfl, by decide +kernel, rfl, by decide +kernel, by decide +kernel⟩
theorem ok_law {k : Nat} (F : FunAt K mg "law" s_law ["_law_script"]) (W : Walk P w K mg base c) (IC : DefI P w K mg base "Work" c.W 8 5 (spWorkInitC c)) (DL1 : Def P w K mg base "_law_like" 4 2 (spLike 3)) (DA : Def P w K mg base "_law_all" 2 1 (framed (spAll c))) (DD : Def P w K mg base "_law_due" 1 1 (framed spDue)) (DM : Def P w K mg base "_law_move" 7 1 (framed spOMove)) (DO : Def P w K mg base "_law_own" 2 4 spOOwn) (DF : Def P w K mg base "_law_falls" 2 1 spFalls) : DefL P w K mg base "law" s_law ["_law_script"] (k + 10) 1 spLaw := by
  have B := W.B
  refine okL F sc_law rfl fun cdv A outer s H E f hr => ⟨_,
    (ss_cons (s_set (i := 1) sc_law.nd (d_callF W.dice (hr.mono (by omega)) (by rfl) (a_cons (dv 0) a_nil)))
      (ss_cons (s_par (i := 2) (j := 3) sc_law.nd (a_cons (d_callF W.prog (hr.mono (by omega)) (by rfl) (a_cons (dv 1) (a_cons (d_ix (hu_of hr) (d_lst (a_cons d_int (a_cons d_int a_nil))) (d_callF W.next (hr.mono (by omega)) (by rfl) (a_cons (dv 1) (a_cons d_int a_nil)))) a_nil))) (a_cons (d_callF W.hand (hr.mono (by omega)) (by rfl) (a_cons (dv 1) a_nil)) a_nil)))
      (ss_cons (s_par (i := 4) (j := 5) sc_law.nd (a_cons (d_ix (hu_of hr) (d_lst (a_cons d_int (a_cons (d_callF W.next (hr.mono (by omega)) (by rfl) (a_cons (dv 1) (a_cons d_int a_nil))) (a_cons (d_add d_int (d_callF W.next (hr.mono (by omega)) (by rfl) (a_cons (dv 1) (a_cons d_int a_nil)))) (a_cons d_int a_nil))))) (d_callF W.next (hr.mono (by omega)) (by rfl) (a_cons (dv 1) (a_cons d_int a_nil)))) (a_cons (d_callF DF (hr.mono (by omega)) (by rfl) (a_cons (dv 1) a_nil)) a_nil)))
      (ss_cons (s_set (i := 6) sc_law.nd (d_listC (by rfl) B.list (a_cons (dv 3) a_nil)))
      (ss_cons (s_par (i := 7) (j := 8) sc_law.nd (a_cons (d_make FW IC (hr.mono (by omega)) (by rfl) (a_cons (dv 2) (a_cons (dv 6) (a_cons d_str (a_cons (dv 4) a_nil))))) (a_cons (d_make FW IC (hr.mono (by omega)) (by rfl) (a_cons (dv 2) (a_cons (d_lstC a_nil) (a_cons d_str (a_cons d_int a_nil))))) a_nil)))
      (ss_cons (s_expr (d_insert (dv 6) (a_cons d_int (a_cons d_int a_nil))))
      (ss_cons (s_set (i := 9) sc_law.nd (d_callF DO (hr.mono (by omega)) (by rfl) (a_cons (dv 2) (a_cons (dv 3) (a_cons d_str (a_cons (dv 4) a_nil))))))
      (ss_cons (s_for (i_r1 (by rfl) B.range (a_cons (d_callF W.next (hr.mono (by omega)) (by rfl) (a_cons (dv 1) (a_cons d_int a_nil))) a_nil)) (g_name (i := 10) sc_law.nd)
      (ss_cons (s_if (t_eq hr.units (d_callF W.next (hr.mono (by omega)) (by rfl) (a_cons (dv 1) (a_cons (dv 5) a_nil))) d_int)
      (ss_cons (s_expr (d_meth0 W.TW W.fall (hr.mono (by omega)) (by decide) (dv 7)))
      (ss_one (s_asg d_non (g_sub (hu_of hr) (dv 9) d_str))))
      (ss_one (s_if (t_not (t_val (d_callF DL1 (hr.mono (by omega)) (by rfl) (a_cons (d_meth0 W.TW W.move (hr.mono (by omega)) (by decide) (dv 7)) (a_cons (d_callF DM (hr.mono (by omega)) (by rfl) (a_cons (dv 9) a_nil)) a_nil)))))
      (ss_one (s_ret d_bl))
      ss_nil)))
      (ss_cons (s_for (i_r1 (by rfl) B.range (a_cons d_int a_nil)) (g_name (i := 11) sc_law.nd)
      (ss_cons (s_set (i := 12) sc_law.nd (d_callF DA (hr.mono (by omega)) (by rfl) (a_cons (dv 7) a_nil)))
      (ss_cons (s_if (t_not (t_val (d_callF DL1 (hr.mono (by omega)) (by rfl) (a_cons (dv 12) (a_cons (d_callF DD (hr.mono (by omega)) (by rfl) (a_cons (dv 9) a_nil)) a_nil)))))
      (ss_one (s_ret d_bl))
      ss_nil)
      (ss_cons (s_expr (d_appT (d_ix (hu_of hr) (dv 12) d_int) (d_lstC a_nil)))
      (ss_cons (s_expr (d_appT (d_ix (hu_of hr) (d_ix (hu_of hr) (dv 12) d_int) d_int) d_int))
      (ss_cons (s_expr (d_appT (d_ix (hu_of hr) (dv 12) d_int) d_int))
      (ss_one (s_if (t_notN (d_ix (hu_of hr) (dv 12) d_int) d_non)
      (ss_one (s_expr (d_clear (d_ix (hu_of hr) (d_ix (hu_of hr) (dv 12) d_int) d_int))))
      ss_nil))))))))
      (ss_one (s_expr (d_meth0 W.TW W.move (hr.mono (by omega)) (by decide) (dv 8)))))))
      (ss_one (s_ret d_bl))))))))))
    , ?_⟩
  intro rs S C hl h
  obtain ⟨ns, rfl, hn, h⟩ := h
  refine ⟨_, rfl, rfl, ns, rfl, by omega, fun D => ?_⟩
  refine ⟨_, rfl, le_ok rfl, _, rfl, ?_⟩
  refine dnext (D := D) (j := 0) rfl rfl (by decide) (by decide) fun y y0 y1 => ?_
  obtain ⟨d, e1, md⟩ := pick (ds := [PyData.int 6, PyData.int 30]) y0 y1
  refine ⟨d, e1, ?_⟩
  obtain ⟨most, rfl, t0, t1⟩ : ∃ to : Int, d = .int to ∧ 0 ≤ to ∧ to ≤ 58 := by
    rcases List.mem_cons.mp md with rfl | md
    · exact ⟨6, rfl, by decide, by decide⟩
    · cases List.mem_singleton.mp md
      exact ⟨30, rfl, by decide, by decide⟩
  refine ⟨rfl, D, most, 0, rfl, rfl, t0, t1, fun p hp hpl => ?_⟩
  refine ⟨_, rfl, rfl, D, 0, rfl, rfl, fun hs hh => ?_⟩
  refine dnext (D := D) (j := 0) rfl rfl (by decide) (by decide) fun o1 o10 o11 => ?_
  refine dnext (D := D) (j := 0) rfl rfl (by decide) (by decide) fun o2 o20 o21 => ?_
  refine ⟨le_ok rfl, _, rfl, ?_⟩
  refine dnext (D := D) (j := 0) rfl rfl (by decide) (by decide) fun y y0 y1 => ?_
  obtain ⟨d, e1', md⟩ := pick (ds := [PyData.int 0, PyData.int o1, PyData.int (10 + o2), PyData.int 99]) y0 y1
  refine ⟨d, e1', ?_⟩
  obtain ⟨often, rfl, t0, t1⟩ : ∃ to : Int, d = .int to ∧ 0 ≤ to ∧ to ≤ 99 := by
    rcases List.mem_cons.mp md with rfl | md
    · exact ⟨0, rfl, by decide, by decide⟩
    rcases List.mem_cons.mp md with rfl | md
    · exact ⟨_, rfl, by omega, by omega⟩
    rcases List.mem_cons.mp md with rfl | md
    · exact ⟨_, rfl, by omega, by omega⟩
    cases List.mem_singleton.mp md
    exact ⟨99, rfl, by decide, by decide⟩
  refine ⟨_, rfl, rfl, D, 0, rfl, rfl, fun sd sd0 sd1 => ?_⟩
  refine ⟨_, rfl, fun q => ?_⟩
  have e0 : (hs.map PyData.int).map R.dat = iR hs := by unfold iR; rw [List.map_map]; rfl
  rw [e0]
  refine ⟨_, rfl, _, rfl, _, rfl, rfl, fun x => ⟨x, q, p, hs, onW, often, _, 0, rfl, rfl, rfl, hp, hh, .inr rfl, t0, t1, fun a => ⟨rfl, ?_⟩⟩⟩
  have hh0 : HandedOk [] := ⟨by decide, fun x hx => nomatch hx⟩
  refine ⟨_, rfl, Nat.zero_le _, fun q2 => ⟨rfl, fun x2 => ⟨x2, q2, p, [], onW, 1, _, 0, rfl, rfl, rfl, hp, hh0, .inr rfl, by decide, by decide, fun a2 => ⟨rfl, ?_⟩⟩⟩⟩
  obtain ⟨Z, z, z1, z2, z3, z4, z5, er⟩ := mk_run hp hh
  obtain ⟨Z2, y_, y1_, y2_, y3_, y4_, y5_, er2⟩ := mk_run hp hh0
  have hw : onW = backW ∨ onW = onW := .inr rfl
  have rb : ∀ k, k ≤ Z.N → RunB (Z.T k) := fun k hk => runB_all z (by rw [z3]; exact runB_0 p) (by rw [z2]; exact hh.2) hk
  have pq : (wC c x2 a2 (newW p [] onW 1) ++ (.lst q2 [] :: (wC c x a (newW p hs onW often) ++ (.lst q (iR hs) :: dice D :: S)))).Perm (.lst q (iR hs) :: (wC c x a (newW p hs onW often) ++ (wC c x2 a2 (newW p [] onW 1) ++ (dice D :: .lst q2 [] :: S)))) := by
    refine ((List.Perm.cons _ List.perm_middle).append_left _).trans ?_
    refine ((List.Perm.swap _ _ _).append_left _).trans ?_
    refine List.perm_middle.trans (List.Perm.cons _ ?_)
    refine ((List.perm_middle.symm.trans ((List.Perm.swap _ _ _).append_left _)).append_left _).trans ?_
    exact perm_sw _ _ _
  obtain ⟨jq, hjq⟩ := List.mem_iff_getElem?.mp (pq.mem_iff.mpr List.mem_cons_self)
  refine ⟨_, rfl, ⟨jq, _, hjq⟩, jq, _, hjq, by rw [iR_len]; have := hh.1; omega, (show (0 : Int) ≤ 0 by decide), (show (0 : Int) < 100000 by decide), ?_⟩
  have ps := set_perm (c' := .lst q ((iR hs).take (Int.toNat 0) ++ [.dat (.int 5)] ++ (iR hs).drop (Int.toNat 0))) hjq pq
  generalize (wC c x2 a2 (newW p [] onW 1) ++ (.lst q2 [] :: (wC c x a (newW p hs onW often) ++ (.lst q (iR hs) :: dice D :: S)))).set jq (.lst q ((iR hs).take (Int.toNat 0) ++ [.dat (.int 5)] ++ (iR hs).drop (Int.toNat 0))) = S1 at ps ⊢
  clear pq hjq
  refine ⟨_, rfl, _, rfl, _, rfl, rfl, p, hs, onW, often, rfl, hp, fun wa oa => ?_⟩
  have core0 : CoreAt c Z Z2 onW often p hs wa x x2 D (newW p hs onW often) (oNew p hs onW often) (oC wa oa (oNew p hs onW often) ++ S1) := by
    refine ⟨⟨oa, a, a2, newW p [] onW 1, 0, 0, .lst q ((iR hs).take (Int.toNat 0) ++ [.dat (.int 5)] ++ (iR hs).drop (Int.toNat 0)) :: .lst q2 [] :: S, List.Perm.append_left _ (ps.trans ?_), inv_new z z1.symm z2.symm z3, rel_new z z1.symm z2.symm z3, inv_new y_ y1_.symm y2_.symm y3_⟩, rfl, rfl⟩
    refine List.perm_middle.symm.trans (List.Perm.append_left _ ?_)
    exact List.perm_middle.symm.trans (List.Perm.append_left _ (List.Perm.swap _ _ _))
  obtain ⟨jd, hjd⟩ : ∃ j : Nat, (oC wa oa (oNew p hs onW often) ++ S1)[j]? = some (dice D) := by
    obtain ⟨oa', a', a2', st2, m, m2, T, hp', _⟩ := core0.ex
    exact List.mem_iff_getElem?.mp (hp'.mem_iff.mpr (by simp))
  refine dnext (D := D) (j := jd) rfl hjd (by decide) (by decide) fun many m0 m1 => ?_
  generalize oC wa oa (oNew p hs onW often) ++ S1 = S2 at core0 ⊢
  refine ⟨⟨by omega, by omega⟩, fun i fr S' => ∃ (st : WorkS) (o : OW) (t10 t11 t12 : Option R), fr = [some (.scr ns), some (.val (.ref D)), some (.dat p.dat), some (.dat (lstI hs)), some (.dat (.int often)), some (.dat (.int sd)), some (.val (.ref q)), some (.val (.ref x)), some (.val (.ref x2)), some (.val (.ref wa)), t10, t11, t12] ∧ CoreAt c Z Z2 onW often p hs wa x x2 D st o S', ⟨_, _, _, _, _, rfl, core0⟩, ?_, ?_⟩
  · rintro i r fr S' hi ⟨st, o, t10, t11, t12, rfl, core⟩
    dsimp only [gnm]
    refine oseq_cutX (fun N => ∀ (st : WorkS) (o : OW) (S' : SH), CoreAt c Z Z2 onW often p hs wa x x2 D st o S' → N [some (.scr ns), some (.val (.ref D)), some (.dat p.dat), some (.dat (lstI hs)), some (.dat (.int often)), some (.dat (.int sd)), some (.val (.ref q)), some (.val (.ref x)), some (.val (.ref x2)), some (.val (.ref wa)), some r, t11, t12] S') ?_ fun N step => ?_
    · clear core st o S'
      intro st o S' core
      refine ⟨⟨by decide, by decide⟩, fun i fr S' => ∃ t11 t12 : Option R, fr = [some (.scr ns), some (.val (.ref D)), some (.dat p.dat), some (.dat (lstI hs)), some (.dat (.int often)), some (.dat (.int sd)), some (.val (.ref q)), some (.val (.ref x)), some (.val (.ref x2)), some (.val (.ref wa)), some r, t11, t12] ∧ CoreAt c Z Z2 onW often p hs wa x x2 D st o S', ⟨_, _, rfl, core⟩, ?_, ?_⟩
      · clear core S'
        rintro i1 r1 fr S' hi1 ⟨t11, t12, rfl, core⟩
        obtain ⟨⟨oa, a, a2, st2, m, m2, T, hp', v, rel, v2⟩, ep, eh⟩ := core
        have hl4 : st.held.length ≤ 1000 := by have := v.hok.1; have := hp.f; omega
        refine ⟨_, rfl, rfl, wC c x a st, oC wa oa o ++ (wC c x2 a2 st2 ++ (dice D :: T)), hp'.trans (perm_sw _ _ _), x, a, st, rfl, rfl, hl4, fun pl pf pt pn qs a' hqs => ?_⟩
        refine ⟨_, rfl, _, rfl, rfl, oC wa oa o, (.lst pl (allR pf pt pn st) :: .lst pf (qR qs) :: .lst pt (iR st.letters) :: (fcells qs st.held ++ (stC pn st ++ wC c x a' st))) ++ (wC c x2 a2 st2 ++ (dice D :: T)), perm_sw _ _ _, wa, oa, o, rfl, rfl, fun pl2 => ?_⟩
        have hf := hp.f
        have hnm := hp.n
        have vd := own_tell v rel
        have vw1 : View ((.lst pl2 (dueR oa o) :: oC wa oa o) ++ ((.lst pl (allR pf pt pn st) :: .lst pf (qR qs) :: .lst pt (iR st.letters) :: (fcells qs st.held ++ (stC pn st ++ wC c x a' st))) ++ (wC c x2 a2 st2 ++ (dice D :: T)))) (.val (.ref pl)) (tellD st) :=
          view_found (pf := pf) (pt := pt) (pn := pn) (qs := qs) (mem_mid List.mem_cons_self) (mem_mid (List.mem_cons_of_mem _ List.mem_cons_self)) (mem_mid (List.mem_cons_of_mem _ (List.mem_cons_of_mem _ List.mem_cons_self))) (fun c hc => mem_mid (List.mem_cons_of_mem _ (List.mem_cons_of_mem _ (List.mem_cons_of_mem _ (List.mem_append_left _ hc))))) (fun c hc => mem_mid (List.mem_cons_of_mem _ (List.mem_cons_of_mem _ (List.mem_cons_of_mem _ (List.mem_append_right _ (List.mem_append_left _ hc)))))) hqs
        have vw2 : View ((.lst pl2 (dueR oa o) :: oC wa oa o) ++ ((.lst pl (allR pf pt pn st) :: .lst pf (qR qs) :: .lst pt (iR st.letters) :: (fcells qs st.held ++ (stC pn st ++ wC c x a' st))) ++ (wC c x2 a2 st2 ++ (dice D :: T)))) (.val (.ref pl2)) (tellD st) := by
          rw [← vd]
          exact view_due (wa := wa) (List.mem_append_left _ List.mem_cons_self) (fun c hc => List.mem_append_left _ (List.mem_cons_of_mem _ hc))
        refine ⟨rfl, _, _, tellD st, rfl, vw1, vw2, (shp_tell z v).deep, nd_tell z v hw (by omega) (by omega), ?_⟩
        obtain ⟨q0, qs', rfl⟩ : ∃ q0 qs', qs = q0 :: qs' := by
          cases qs with
          | nil => exfalso; have := v.hok.1; simp only [List.length_nil] at hqs; omega
          | cons q0 qs' => exact ⟨q0, qs', rfl⟩
        obtain ⟨f0, fs', hfs⟩ : ∃ f0 fs', st.held = f0 :: fs' := by
          cases hx : st.held with
          | nil => rw [hx] at hqs; cases hqs
          | cons f0 fs' => exact ⟨f0, fs', rfl⟩
        have l0 : f0.length ≤ 40 := (v.hok.2 f0 (by rw [hfs]; exact List.mem_cons_self)).1
        have hsl := (v.room z).1
        have ec : fcells (q0 :: qs') st.held = .lst q0 (iR f0) :: fcells qs' fs' := by rw [hfs]; rfl
        have hl2 : (qR (q0 :: qs')).length < 100000 := by unfold qR; rw [List.length_map, hqs, v.hok.1]; omega
        have hpA := perm1 (oC wa oa o) (stC pn st) (fcells qs' fs') (wC c x2 a2 st2) (wC c x a' st) (dice D) (.lst pl (allR pf pt pn st)) (.lst pf (qR (q0 :: qs'))) (.lst pt (iR st.letters)) (.lst q0 (iR f0)) (.lst pl2 (dueR oa o)) T
        rw [ec]
        generalize (.lst pl2 (dueR oa o) :: oC wa oa o) ++ ((.lst pl (allR pf pt pn st) :: .lst pf (qR (q0 :: qs')) :: .lst pt (iR st.letters) :: ((.lst q0 (iR f0) :: fcells qs' fs') ++ (stC pn st ++ wC c x a' st))) ++ (wC c x2 a2 st2 ++ (dice D :: T))) = SA at hpA ⊢
        clear vw1 vw2
        refine iteFb rfl ?_
        dsimp only [sNext, sSeq, sDrop]
        refine app_perm (p := pf) (xs := qR (q0 :: qs')) hpA hl2 (fun C' q => dix1 rfl (hpA.mem_iff.mpr (show Cell.lst pl (allR pf pt pn st) ∈ _ by simp)) at0 q) (fun C' q => ⟨Nat.zero_le _, fun p => q _ _ ⟨[.lst p []], rfl⟩⟩) fun r0 SB UB hpB => ?_
        have hpB2 : SB.Perm (.lst q0 (iR f0) :: (.lst pf (qR (q0 :: qs') ++ [r0]) :: .lst pt (iR st.letters) :: ((stC pn st ++ (.lst pl (allR pf pt pn st) :: ((fcells qs' fs' ++ [.lst pl2 (dueR oa o)]) ++ (oC wa oa o ++ (wC c x a' st ++ (wC c x2 a2 st2 ++ (dice D :: T))))))) ++ UB))) := by
          refine hpB.trans ?_
          classical
          rw [List.perm_iff_count]
          intro z
          simp only [List.count_append, List.count_cons, List.count_nil]
          omega
        have mlB : Cell.lst pl (allR pf pt pn st) ∈ SB := hpB.mem_iff.mpr (by simp)
        try dsimp only [sSeq, sDrop]
        refine app_perm (p := q0) (xs := iR f0) hpB2 (by rw [iR_len]; omega) (fun C' q => dix2 (r := .val (.ref pf)) (fun C'' q' => dix1 rfl mlB at0 q') (ix_mem (hpB.mem_iff.mpr List.mem_cons_self) at0 q)) (fun C' q => q _ _ ⟨[], rfl⟩) fun r1' SC UC hpC => ?_
        have mlC : Cell.lst pl (allR pf pt pn st) ∈ SC := hpC.mem_iff.mpr (by simp)
        have hpC2 : SC.Perm (.lst pt (iR st.letters) :: .lst q0 (iR f0 ++ [r1']) :: .lst pf (qR (q0 :: qs') ++ [r0]) :: ((stC pn st ++ (.lst pl (allR pf pt pn st) :: ((fcells qs' fs' ++ [.lst pl2 (dueR oa o)]) ++ (oC wa oa o ++ (wC c x a' st ++ (wC c x2 a2 st2 ++ (dice D :: T))))))) ++ (UB ++ UC))) := by
          refine hpC.trans ?_
          classical
          rw [List.perm_iff_count]
          intro z
          simp only [List.count_append, List.count_cons, List.count_nil]
          omega
        try dsimp only [sSeq, sDrop]
        refine app_perm (p := pt) (xs := iR st.letters) hpC2 (by rw [iR_len]; omega) (fun C' q => dix1 rfl mlC (atI_nat (j := 1) rfl) q) (fun C' q => q _ _ ⟨[], rfl⟩) fun r2 SD UD hpD => ?_
        have mlD : Cell.lst pl (allR pf pt pn st) ∈ SD := hpD.mem_iff.mpr (by simp)
        have fin : ∀ (SE N' : SH), SE.Perm (.lst pt (iR st.letters ++ [r2]) :: .lst q0 (iR f0 ++ [r1']) :: .lst pf (qR (q0 :: qs') ++ [r0]) :: ((N' ++ (.lst pl (allR pf pt pn st) :: ((fcells qs' fs' ++ [.lst pl2 (dueR oa o)]) ++ (oC wa oa o ++ (wC c x a' st ++ (wC c x2 a2 st2 ++ (dice D :: T))))))) ++ ((UB ++ UC) ++ UD))) → CoreAt c Z Z2 onW often p hs wa x x2 D st o SE := by
          intro SE N' hE
          exact ⟨⟨oa, a', a2, st2, m, m2, _, hE.trans (perm2 _ _ _ _ _ _ _ _ _ _ _ _), v, rel, v2⟩, ep, eh⟩
        have hpD2 : SD.Perm (.lst pt (iR st.letters ++ [r2]) :: .lst q0 (iR f0 ++ [r1']) :: .lst pf (qR (q0 :: qs') ++ [r0]) :: ((stC pn st ++ (.lst pl (allR pf pt pn st) :: ((fcells qs' fs' ++ [.lst pl2 (dueR oa o)]) ++ (oC wa oa o ++ (wC c x a' st ++ (wC c x2 a2 st2 ++ (dice D :: T))))))) ++ ((UB ++ UC) ++ UD))) := by
          refine hpD.trans ?_
          classical
          rw [List.perm_iff_count]
          intro z
          simp only [List.count_append, List.count_cons, List.count_nil]
          omega
        refine dix1 rfl mlD (atI_nat (j := 2) rfl) ?_
        cases hin : st.inner with
        | none =>
          have es : stR pn st = .dat .none := by unfold stR; rw [hin]
          rw [es]
          exact ⟨_, _, rfl, fin SD (stC pn st) hpD2⟩
        | some i =>
          have es : stR pn st = .tp [.dat (.int i.row), .val (.ref pn)] := by unfold stR; rw [hin]
          have ecs : stC pn st = [.lst pn (iR i.names)] := by unfold stC; rw [hin]
          rw [ecs] at hpD2
          have hpD3 : SD.Perm (.lst pn (iR i.names) :: .lst pt (iR st.letters ++ [r2]) :: .lst q0 (iR f0 ++ [r1']) :: .lst pf (qR (q0 :: qs') ++ [r0]) :: ((([] : SH) ++ (.lst pl (allR pf pt pn st) :: ((fcells qs' fs' ++ [.lst pl2 (dueR oa o)]) ++ (oC wa oa o ++ (wC c x a' st ++ (wC c x2 a2 st2 ++ (dice D :: T))))))) ++ ((UB ++ UC) ++ UD))) := by
            refine hpD2.trans ?_
            classical
            rw [List.perm_iff_count]
            intro z
            simp only [List.count_append, List.count_cons, List.count_nil]
            omega
          obtain ⟨jn, hjn⟩ := List.mem_iff_getElem?.mp (hpD3.mem_iff.mpr List.mem_cons_self)
          rw [es]
          refine dix1 rfl mlD (atI_nat (j := 2) rfl) ?_
          rw [es]
          refine ⟨_, rfl, jn, _, hjn, ?_⟩
          refine ⟨_, _, rfl, fin _ [.lst pn []] ((set_perm hjn hpD3).trans ?_)⟩
          classical
          rw [List.perm_iff_count]
          intro z
          simp only [List.count_append, List.count_cons, List.count_nil]
          omega
      · clear core S'
        rintro fr S' ⟨t11, t12, rfl, core⟩
        obtain ⟨⟨oa, a, a2, st2, m, m2, T, hp', v, rel, v2⟩, ep, eh⟩ := core
        have mv2 : MoveE st2 := by
          have room := v2.room y_
          exact ⟨Z2.nN, Z2.nF, v2.ok y_ hw, by omega, by omega⟩
        refine meth_perm (a := a2) (st := st2) (T := oC wa oa o ++ (wC c x a st ++ (dice D :: T))) rfl ((hp'.trans ((perm_sw _ _ _).append_left _)).trans (perm_sw _ _ _)) ⟨x2, a2, st2, rfl, rfl, mv2, fun a3 => ?_⟩
        obtain ⟨m3, _, v3⟩ := inv_move y_ hw v2
        refine ⟨st, o, _, _, _, rfl, ⟨⟨oa, a, a3, (moveW st2).2, m, m3, T, (perm_sw _ _ _).trans ((perm_sw _ _ _).append_left _), v, rel, v3⟩, ep, eh⟩⟩
    · obtain ⟨⟨oa, a, a2, st2, m, m2, T, hp', v, rel, v2⟩, ep, eh⟩ := core
      obtain ⟨j, hj⟩ := List.mem_iff_getElem?.mp (hp'.mem_iff.mpr (show dice D ∈ _ by simp))
      refine dnextV (D := D) (n := sd) (j := j) rfl rfl hj (by omega) (by omega) fun y y0 y1 => ⟨rfl, ite2b (fun hb => ?_) (fun hb => ?_)⟩
      · refine meth_perm (a := a) (st := st) (T := oC wa oa o ++ (wC c x2 a2 st2 ++ (dice D :: T))) rfl (hp'.trans (perm_sw _ _ _)) ⟨x, a, st, rfl, rfl, True.intro, fun a3 => ?_⟩
        have hp2 : (wC c x a3 (fallW st) ++ (oC wa oa o ++ (wC c x2 a2 st2 ++ (dice D :: T)))).Perm (.dct wa (o.kv oa) :: ((.lst oa.f (fileR o.files) :: .lst oa.t (iR o.sent) :: .lst oa.j (o.jots.map OJ.r) :: oinC oa o.inn) ++ (wC c x a3 (fallW st) ++ (wC c x2 a2 st2 ++ (dice D :: T))))) := perm_sw _ _ _
        obtain ⟨jw, hjw⟩ := List.mem_iff_getElem?.mp (hp2.mem_iff.mpr List.mem_cons_self)
        refine ⟨_, rfl, jw, _, hjw, (show 12 < 100000 by decide), ?_⟩
        have hp3 := set_perm (c' := .dct wa ((oFall o).kv oa)) hjw hp2
        exact step (fallW st) (oFall o) _ ⟨⟨oa, a3, a2, st2, m, m2, oinC oa o.inn ++ T, hp3.trans (perm3 [] _ _ _ _ _ _ _ _ _), inv_fall v, rel_fall rel, v2⟩, ep, eh⟩
      · have mvok : MoveE st := by
          have room := v.room z
          exact ⟨Z.nN, Z.nF, v.ok z hw, by omega, by omega⟩
        refine meth_perm (a := a) (st := st) (T := oC wa oa o ++ (wC c x2 a2 st2 ++ (dice D :: T))) rfl (hp'.trans (perm_sw _ _ _)) ⟨x, a, st, rfl, rfl, mvok, fun a3 => ?_⟩
        have ook : OOk o := rel_ook z hw v rel (by rw [ep]; exact hp) (by rw [eh]; exact hh) (by rw [ep]; exact z4) (by rw [ep]; exact z5) rb
        refine ⟨_, rfl, rfl, oC wa oa o, wC c x a3 (moveW st).2 ++ (wC c x2 a2 st2 ++ (dice D :: T)), perm_sw _ _ _, wa, oa, o, rfl, rfl, ook, fun oa2 => ?_⟩
        obtain ⟨em, m3, v3, rel3⟩ := own_move z hw v rel
        have op := oMove_p o
        refine ⟨rfl, _, _, (moveW st).1, rfl, .dat _, by rw [em]; exact .dat _, ?_, nd_move z hw v, ?_⟩
        · cases ho : isOver st with
          | true => rw [move_over ho]; exact Nat.le_trans shp_rests.deep (by decide)
          | false => exact Nat.le_trans (told_move ho).shp.deep (by decide)
        · exact step (moveW st).2 (oMove o).2 _ ⟨⟨oa2, a3, a2, st2, m3, m2, T, List.Perm.refl _, v3, rel3, v2⟩, op.1.trans ep, op.2.trans eh⟩
  · rintro fr S' ⟨st, o, t10, t11, t12, rfl, core⟩
    exact h _
end
end K05
set_option Elab.async false
set_option linter.all false
set_option maxRecDepth 100000
set_option maxHeartbeats 0
namespace K05
open PySem PySem.Spec PyProof.Rows L2 DL PM
open K05H (dd_is_number dd_is_part dd_shape_of dd_why_not dd_need_program dd_need_handed dd_worth dd_changed dd_effect dd_named dd__law_dice dd__law_next dd__law_like dd__law_any_part dd__law_any_row dd__law_any_program dd__law_any_handed dd__law_worth dd__law_effect dd__law_pass dd__law_inner dd__law_copy dd__law_own dd__law_marks dd__law_begin dd__law_rise dd__law_move dd__law_falls dd__law_all dd__law_due dd_law dd_Effect___init__ dd_Effect_change dd_Mark___init__ dd_Inner___init__ dd_Work___init__ dd_Work_fall dd_Work_move dd_Work_rise dd_Work_go_through dd_Work_take_over dd_Work_keep dd_Work_ends dd_Work_begin dd_Work_done dd_Work_sends dd_Work_files dd_Work_sent dd_Work_stands dd_Work_kept dd_Work_end dd_Work_steps fn faA fa ts ex Rw hk ob ob_eq loose0 loose1 loose runF runT run)
theorem facts {P : Program} {w : World} {K : Fg} {h : Heap} {mg : Str → Option Value} {f : Addr} (X : K.In h) (G : h.Ns mainGlobals mg) (hfa : mg ("law" : Str) = some (.ref f)) (c : He.SaysX fa fn ts [] ex w h K) :
    ∃ fd : FuncData, (∀ (s : Shared) (v : Value), BindsTo s fd ⟨[v], []⟩ [("_law_script", v)]) ∧ ∀ base : Heap, K.In base → base.Ns mainGlobals mg → FnOk P w K mg base CX0 10 f fd ["_law_script"] (toSp K 1 spLaw) := by
  have F_is_number : FunAt K mg "is_number" s_is_number ["part", "low", "high"] := by
    obtain ⟨fd, F⟩ := c.t.d.def_ 0 (d := dd_is_number) rfl
    exact funAt_mk F (He.glo_ok X G (c.t.d.fact 0 (f := .glo "is_number") rfl)) fun _ _ _ _ _ _ us hl => match us, hl with | [_, _, _], _ => rfl
  have F_is_part : FunAt K mg "is_part" s_is_part ["part", "names", "deep"] := by
    obtain ⟨fd, F⟩ := c.t.d.def_ 1 (d := dd_is_part) rfl
    exact funAt_mk F (He.glo_ok X G (c.t.d.fact 1 (f := .glo "is_part") rfl)) fun _ _ _ _ _ _ us hl => match us, hl with | [_, _, _], _ => rfl
  have F_shape_of : FunAt K mg "shape_of" s_shape_of ["word"] := by
    obtain ⟨fd, F⟩ := c.t.d.def_ 2 (d := dd_shape_of) rfl
    exact funAt_mk F (He.glo_ok X G (c.t.d.fact 2 (f := .glo "shape_of") rfl)) fun _ _ _ _ _ _ us hl => match us, hl with | [_], _ => rfl
  have F_why_not : FunAt K mg "why_not" s_why_not ["row", "names", "files", "many"] := by
    obtain ⟨fd, F⟩ := c.t.d.def_ 3 (d := dd_why_not) rfl
    exact funAt_mk F (He.glo_ok X G (c.t.d.fact 3 (f := .glo "why_not") rfl)) fun _ _ _ _ _ _ us hl => match us, hl with | [_, _, _, _], _ => rfl
  have F_need_program : FunAt K mg "need_program" s_need_program ["program"] := by
    obtain ⟨fd, F⟩ := c.t.d.def_ 4 (d := dd_need_program) rfl
    exact funAt_mk F (He.glo_ok X G (c.t.d.fact 4 (f := .glo "need_program") rfl)) fun _ _ _ _ _ _ us hl => match us, hl with | [_], _ => rfl
  have F_need_handed : FunAt K mg "need_handed" s_need_handed ["handed"] := by
    obtain ⟨fd, F⟩ := c.t.d.def_ 5 (d := dd_need_handed) rfl
    exact funAt_mk F (He.glo_ok X G (c.t.d.fact 5 (f := .glo "need_handed") rfl)) fun _ _ _ _ _ _ us hl => match us, hl with | [_], _ => rfl
  have F_worth : FunAt K mg "worth" s_worth ["part", "names"] := by
    obtain ⟨fd, F⟩ := c.t.d.def_ 6 (d := dd_worth) rfl
    exact funAt_mk F (He.glo_ok X G (c.t.d.fact 6 (f := .glo "worth") rfl)) fun _ _ _ _ _ _ us hl => match us, hl with | [_, _], _ => rfl
  have F_changed : FunAt K mg "changed" s_changed ["found", "row", "names", "files"] := by
    obtain ⟨fd, F⟩ := c.t.d.def_ 7 (d := dd_changed) rfl
    exact funAt_mk F (He.glo_ok X G (c.t.d.fact 7 (f := .glo "changed") rfl)) fun _ _ _ _ _ _ us hl => match us, hl with | [_, _, _, _], _ => rfl
  have F_effect : FunAt K mg "effect" s_effect ["rows", "at", "names", "taken", "handed", "files"] := by
    obtain ⟨fd, F⟩ := c.t.d.def_ 8 (d := dd_effect) rfl
    exact funAt_mk F (He.glo_ok X G (c.t.d.fact 8 (f := .glo "effect") rfl)) fun _ _ _ _ _ _ us hl => match us, hl with | [_, _, _, _, _, _], _ => rfl
  have F_named : FunAt K mg "named" s_named ["found", "row", "names", "handed", "files"] := by
    obtain ⟨fd, F⟩ := c.t.d.def_ 9 (d := dd_named) rfl
    exact funAt_mk F (He.glo_ok X G (c.t.d.fact 9 (f := .glo "named") rfl)) fun _ _ _ _ _ _ us hl => match us, hl with | [_, _, _, _, _], _ => rfl
  have F__law_dice : FunAt K mg "_law_dice" s__law_dice ["_law_script"] := by
    obtain ⟨fd, F⟩ := c.t.d.def_ 10 (d := dd__law_dice) rfl
    exact funAt_mk F (He.glo_ok X G (c.t.d.fact 10 (f := .glo "_law_dice") rfl)) fun _ _ _ _ _ _ us hl => match us, hl with | [_], _ => rfl
  have F__law_next : FunAt K mg "_law_next" s__law_next ["_law_dice_here", "_law_many"] := by
    obtain ⟨fd, F⟩ := c.t.d.def_ 11 (d := dd__law_next) rfl
    exact funAt_mk F (He.glo_ok X G (c.t.d.fact 11 (f := .glo "_law_next") rfl)) fun _ _ _ _ _ _ us hl => match us, hl with | [_, _], _ => rfl
  have F__law_like : FunAt K mg "_law_like" s__law_like ["_law_found", "_law_due_here"] := by
    obtain ⟨fd, F⟩ := c.t.d.def_ 12 (d := dd__law_like) rfl
    exact funAt_mk F (He.glo_ok X G (c.t.d.fact 12 (f := .glo "_law_like") rfl)) fun _ _ _ _ _ _ us hl => match us, hl with | [_, _], _ => rfl
  have F__law_any_part : FunAt K mg "_law_any_part" s__law_any_part ["_law_d", "_law_names", "_law_deep"] := by
    obtain ⟨fd, F⟩ := c.t.d.def_ 13 (d := dd__law_any_part) rfl
    exact funAt_mk F (He.glo_ok X G (c.t.d.fact 13 (f := .glo "_law_any_part") rfl)) fun _ _ _ _ _ _ us hl => match us, hl with | [_, _, _], _ => rfl
  have F__law_any_row : FunAt K mg "_law_any_row" s__law_any_row ["_law_d", "_law_names", "_law_files", "_law_at", "_law_many"] := by
    obtain ⟨fd, F⟩ := c.t.d.def_ 14 (d := dd__law_any_row) rfl
    exact funAt_mk F (He.glo_ok X G (c.t.d.fact 14 (f := .glo "_law_any_row") rfl)) fun _ _ _ _ _ _ us hl => match us, hl with | [_, _, _, _, _], _ => rfl
  have F__law_any_program : FunAt K mg "_law_any_program" s__law_any_program ["_law_d", "_law_most"] := by
    obtain ⟨fd, F⟩ := c.t.d.def_ 15 (d := dd__law_any_program) rfl
    exact funAt_mk F (He.glo_ok X G (c.t.d.fact 15 (f := .glo "_law_any_program") rfl)) fun _ _ _ _ _ _ us hl => match us, hl with | [_, _], _ => rfl
  have F__law_any_handed : FunAt K mg "_law_any_handed" s__law_any_handed ["_law_d"] := by
    obtain ⟨fd, F⟩ := c.t.d.def_ 16 (d := dd__law_any_handed) rfl
    exact funAt_mk F (He.glo_ok X G (c.t.d.fact 16 (f := .glo "_law_any_handed") rfl)) fun _ _ _ _ _ _ us hl => match us, hl with | [_], _ => rfl
  have F__law_worth : FunAt K mg "_law_worth" s__law_worth ["_law_part", "_law_names"] := by
    obtain ⟨fd, F⟩ := c.t.d.def_ 17 (d := dd__law_worth) rfl
    exact funAt_mk F (He.glo_ok X G (c.t.d.fact 17 (f := .glo "_law_worth") rfl)) fun _ _ _ _ _ _ us hl => match us, hl with | [_, _], _ => rfl
  have F__law_effect : FunAt K mg "_law_effect" s__law_effect ["_law_p", "_law_handed", "_law_s", "_law_files"] := by
    obtain ⟨fd, F⟩ := c.t.d.def_ 18 (d := dd__law_effect) rfl
    exact funAt_mk F (He.glo_ok X G (c.t.d.fact 18 (f := .glo "_law_effect") rfl)) fun _ _ _ _ _ _ us hl => match us, hl with | [_, _, _, _], _ => rfl
  have F__law_pass : FunAt K mg "_law_pass" s__law_pass ["_law_s", "_law_e"] := by
    obtain ⟨fd, F⟩ := c.t.d.def_ 19 (d := dd__law_pass) rfl
    exact funAt_mk F (He.glo_ok X G (c.t.d.fact 19 (f := .glo "_law_pass") rfl)) fun _ _ _ _ _ _ us hl => match us, hl with | [_, _], _ => rfl
  have F__law_inner : FunAt K mg "_law_inner" s__law_inner ["_law_p"] := by
    obtain ⟨fd, F⟩ := c.t.d.def_ 20 (d := dd__law_inner) rfl
    exact funAt_mk F (He.glo_ok X G (c.t.d.fact 20 (f := .glo "_law_inner") rfl)) fun _ _ _ _ _ _ us hl => match us, hl with | [_], _ => rfl
  have F__law_copy : FunAt K mg "_law_copy" s__law_copy ["_law_s"] := by
    obtain ⟨fd, F⟩ := c.t.d.def_ 21 (d := dd__law_copy) rfl
    exact funAt_mk F (He.glo_ok X G (c.t.d.fact 21 (f := .glo "_law_copy") rfl)) fun _ _ _ _ _ _ us hl => match us, hl with | [_], _ => rfl
  have F__law_own : FunAt K mg "_law_own" s__law_own ["_law_p", "_law_handed", "_law_way", "_law_often"] := by
    obtain ⟨fd, F⟩ := c.t.d.def_ 22 (d := dd__law_own) rfl
    exact funAt_mk F (He.glo_ok X G (c.t.d.fact 22 (f := .glo "_law_own") rfl)) fun _ _ _ _ _ _ us hl => match us, hl with | [_, _, _, _], _ => rfl
  have F__law_marks : FunAt K mg "_law_marks" s__law_marks ["_law_w", "_law_s"] := by
    obtain ⟨fd, F⟩ := c.t.d.def_ 23 (d := dd__law_marks) rfl
    exact funAt_mk F (He.glo_ok X G (c.t.d.fact 23 (f := .glo "_law_marks") rfl)) fun _ _ _ _ _ _ us hl => match us, hl with | [_, _], _ => rfl
  have F__law_begin : FunAt K mg "_law_begin" s__law_begin ["_law_w", "_law_s"] := by
    obtain ⟨fd, F⟩ := c.t.d.def_ 24 (d := dd__law_begin) rfl
    exact funAt_mk F (He.glo_ok X G (c.t.d.fact 24 (f := .glo "_law_begin") rfl)) fun _ _ _ _ _ _ us hl => match us, hl with | [_, _], _ => rfl
  have F__law_rise : FunAt K mg "_law_rise" s__law_rise ["_law_w"] := by
    obtain ⟨fd, F⟩ := c.t.d.def_ 25 (d := dd__law_rise) rfl
    exact funAt_mk F (He.glo_ok X G (c.t.d.fact 25 (f := .glo "_law_rise") rfl)) fun _ _ _ _ _ _ us hl => match us, hl with | [_], _ => rfl
  have F__law_move : FunAt K mg "_law_move" s__law_move ["_law_w"] := by
    obtain ⟨fd, F⟩ := c.t.d.def_ 26 (d := dd__law_move) rfl
    exact funAt_mk F (He.glo_ok X G (c.t.d.fact 26 (f := .glo "_law_move") rfl)) fun _ _ _ _ _ _ us hl => match us, hl with | [_], _ => rfl
  have F__law_falls : FunAt K mg "_law_falls" s__law_falls ["_law_d"] := by
    obtain ⟨fd, F⟩ := c.t.d.def_ 27 (d := dd__law_falls) rfl
    exact funAt_mk F (He.glo_ok X G (c.t.d.fact 27 (f := .glo "_law_falls") rfl)) fun _ _ _ _ _ _ us hl => match us, hl with | [_], _ => rfl
  have F__law_all : FunAt K mg "_law_all" s__law_all ["_law_work"] := by
    obtain ⟨fd, F⟩ := c.t.d.def_ 28 (d := dd__law_all) rfl
    exact funAt_mk F (He.glo_ok X G (c.t.d.fact 28 (f := .glo "_law_all") rfl)) fun _ _ _ _ _ _ us hl => match us, hl with | [_], _ => rfl
  have F__law_due : FunAt K mg "_law_due" s__law_due ["_law_w"] := by
    obtain ⟨fd, F⟩ := c.t.d.def_ 29 (d := dd__law_due) rfl
    exact funAt_mk F (He.glo_ok X G (c.t.d.fact 29 (f := .glo "_law_due") rfl)) fun _ _ _ _ _ _ us hl => match us, hl with | [_], _ => rfl
  have F_law : FunAt K mg "law" s_law ["_law_script"] := by
    obtain ⟨fd, F⟩ := c.t.d.def_ 30 (d := dd_law) rfl
    exact funAt_mk F (He.glo_ok X G (c.t.d.fact 30 (f := .glo "law") rfl)) fun _ _ _ _ _ _ us hl => match us, hl with | [_], _ => rfl
  have G_Effect : mg "Effect" = some (.ref (He.ga K "Effect")) := He.glo_ok X G (c.t.d.fact 62 (f := .glo "Effect") rfl)
  have G_Mark : mg "Mark" = some (.ref (He.ga K "Mark")) := He.glo_ok X G (c.t.d.fact 63 (f := .glo "Mark") rfl)
  have G_Inner : mg "Inner" = some (.ref (He.ga K "Inner")) := He.glo_ok X G (c.t.d.fact 64 (f := .glo "Inner") rfl)
  have G_Work : mg "Work" = some (.ref (He.ga K "Work")) := He.glo_ok X G (c.t.d.fact 65 (f := .glo "Work") rfl)
  have T_Effect : Klass K (He.ga K "Effect") FE := klass_mk (c.t.d.fact 66 (f := .cls "Effect") rfl) (fun f hf => c.t.d.facts (List.mem_append_left _ (List.mem_append_left _ (List.mem_append_left _ (List.mem_append_right _ (List.mem_map_of_mem hf)))))) (by decide +kernel) (by decide)
  have T_Mark : Klass K (He.ga K "Mark") FM := klass_mk (c.t.d.fact 67 (f := .cls "Mark") rfl) (fun f hf => c.t.d.facts (List.mem_append_left _ (List.mem_append_left _ (List.mem_append_right _ (List.mem_map_of_mem hf))))) (by decide +kernel) (by decide)
  have T_Inner : Klass K (He.ga K "Inner") FI := klass_mk (c.t.d.fact 68 (f := .cls "Inner") rfl) (fun f hf => c.t.d.facts (List.mem_append_left _ (List.mem_append_right _ (List.mem_map_of_mem hf)))) (by decide +kernel) (by decide)
  have T_Work : Klass K (He.ga K "Work") FW := klass_mk (c.t.d.fact 69 (f := .cls "Work") rfl) (fun f hf => c.t.d.facts (List.mem_append_right _ (List.mem_map_of_mem hf))) (by decide +kernel) (by decide)
  have F_Effect___init__ : FunI K mg "Effect" (He.ga K "Effect") "Effect.__init__" s_Effect___init__ ["self", "row", "taken"] := by
    obtain ⟨fd, F⟩ := c.t.d.def_ 31 (d := dd_Effect___init__) rfl
    exact funI_mk F (He.mkr_ok (c.t.d.fact 70 (f := .mkr "Effect") rfl)) G_Effect (fun _ _ _ _ _ _ us hl => match us, hl with | [_, _, _], _ => rfl)
  have F_Effect_change : FunM K (He.ga K "Effect") "change" "Effect.change" s_Effect_change ["self", "file", "held", "at", "new"] := by
    obtain ⟨fd, F⟩ := c.t.d.def_ 32 (d := dd_Effect_change) rfl
    exact funM_mk F (He.meth_ok (c.t.d.fact 71 (f := .meth "Effect" "change") rfl)) (fun _ _ _ _ _ _ us hl => match us, hl with | [_, _, _, _, _], _ => rfl)
  have F_Mark___init__ : FunI K mg "Mark" (He.ga K "Mark") "Mark.__init__" s_Mark___init__ ["self", "row", "names", "taken", "passed", "letters"] := by
    obtain ⟨fd, F⟩ := c.t.d.def_ 33 (d := dd_Mark___init__) rfl
    exact funI_mk F (He.mkr_ok (c.t.d.fact 72 (f := .mkr "Mark") rfl)) G_Mark (fun _ _ _ _ _ _ us hl => match us, hl with | [_, _, _, _, _, _], _ => rfl)
  have F_Inner___init__ : FunI K mg "Inner" (He.ga K "Inner") "Inner.__init__" s_Inner___init__ ["self", "mark", "again"] := by
    obtain ⟨fd, F⟩ := c.t.d.def_ 34 (d := dd_Inner___init__) rfl
    exact funI_mk F (He.mkr_ok (c.t.d.fact 73 (f := .mkr "Inner") rfl)) G_Inner (fun _ _ _ _ _ _ us hl => match us, hl with | [_, _, _], _ => rfl)
  have F_Work___init__ : FunI K mg "Work" (He.ga K "Work") "Work.__init__" s_Work___init__ ["self", "program", "handed", "way", "often"] := by
    obtain ⟨fd, F⟩ := c.t.d.def_ 35 (d := dd_Work___init__) rfl
    exact funI_mk F (He.mkr_ok (c.t.d.fact 74 (f := .mkr "Work") rfl)) G_Work (fun _ _ _ _ _ _ us hl => match us, hl with | [_, _, _, _, _], _ => rfl)
  have F_Work_fall : FunM K (He.ga K "Work") "fall" "Work.fall" s_Work_fall ["self"] := by
    obtain ⟨fd, F⟩ := c.t.d.def_ 36 (d := dd_Work_fall) rfl
    exact funM_mk F (He.meth_ok (c.t.d.fact 75 (f := .meth "Work" "fall") rfl)) (fun _ _ _ _ _ _ us hl => match us, hl with | [_], _ => rfl)
  have F_Work_move : FunM K (He.ga K "Work") "move" "Work.move" s_Work_move ["self"] := by
    obtain ⟨fd, F⟩ := c.t.d.def_ 37 (d := dd_Work_move) rfl
    exact funM_mk F (He.meth_ok (c.t.d.fact 76 (f := .meth "Work" "move") rfl)) (fun _ _ _ _ _ _ us hl => match us, hl with | [_], _ => rfl)
  have F_Work_rise : FunM K (He.ga K "Work") "rise" "Work.rise" s_Work_rise ["self"] := by
    obtain ⟨fd, F⟩ := c.t.d.def_ 38 (d := dd_Work_rise) rfl
    exact funM_mk F (He.meth_ok (c.t.d.fact 77 (f := .meth "Work" "rise") rfl)) (fun _ _ _ _ _ _ us hl => match us, hl with | [_], _ => rfl)
  have F_Work_go_through : FunM K (He.ga K "Work") "go_through" "Work.go_through" s_Work_go_through ["self"] := by
    obtain ⟨fd, F⟩ := c.t.d.def_ 39 (d := dd_Work_go_through) rfl
    exact funM_mk F (He.meth_ok (c.t.d.fact 78 (f := .meth "Work" "go_through") rfl)) (fun _ _ _ _ _ _ us hl => match us, hl with | [_], _ => rfl)
  have F_Work_take_over : FunM K (He.ga K "Work") "take_over" "Work.take_over" s_Work_take_over ["self", "told"] := by
    obtain ⟨fd, F⟩ := c.t.d.def_ 40 (d := dd_Work_take_over) rfl
    exact funM_mk F (He.meth_ok (c.t.d.fact 79 (f := .meth "Work" "take_over") rfl)) (fun _ _ _ _ _ _ us hl => match us, hl with | [_, _], _ => rfl)
  have F_Work_keep : FunM K (He.ga K "Work") "keep" "Work.keep" s_Work_keep ["self"] := by
    obtain ⟨fd, F⟩ := c.t.d.def_ 41 (d := dd_Work_keep) rfl
    exact funM_mk F (He.meth_ok (c.t.d.fact 80 (f := .meth "Work" "keep") rfl)) (fun _ _ _ _ _ _ us hl => match us, hl with | [_], _ => rfl)
  have F_Work_ends : FunM K (He.ga K "Work") "ends" "Work.ends" s_Work_ends ["self", "how"] := by
    obtain ⟨fd, F⟩ := c.t.d.def_ 42 (d := dd_Work_ends) rfl
    exact funM_mk F (He.meth_ok (c.t.d.fact 81 (f := .meth "Work" "ends") rfl)) (fun _ _ _ _ _ _ us hl => match us, hl with | [_, _], _ => rfl)
  have F_Work_begin : FunM K (He.ga K "Work") "begin" "Work.begin" s_Work_begin ["self"] := by
    obtain ⟨fd, F⟩ := c.t.d.def_ 43 (d := dd_Work_begin) rfl
    exact funM_mk F (He.meth_ok (c.t.d.fact 82 (f := .meth "Work" "begin") rfl)) (fun _ _ _ _ _ _ us hl => match us, hl with | [_], _ => rfl)
  have F_Work_done : FunM K (He.ga K "Work") "done" "Work.done" s_Work_done ["self", "told"] := by
    obtain ⟨fd, F⟩ := c.t.d.def_ 44 (d := dd_Work_done) rfl
    exact funM_mk F (He.meth_ok (c.t.d.fact 83 (f := .meth "Work" "done") rfl)) (fun _ _ _ _ _ _ us hl => match us, hl with | [_, _], _ => rfl)
  have F_Work_sends : FunM K (He.ga K "Work") "sends" "Work.sends" s_Work_sends ["self", "told", "row"] := by
    obtain ⟨fd, F⟩ := c.t.d.def_ 45 (d := dd_Work_sends) rfl
    exact funM_mk F (He.meth_ok (c.t.d.fact 84 (f := .meth "Work" "sends") rfl)) (fun _ _ _ _ _ _ us hl => match us, hl with | [_, _, _], _ => rfl)
  have F_Work_files : FunM K (He.ga K "Work") "files" "Work.files" s_Work_files ["self"] := by
    obtain ⟨fd, F⟩ := c.t.d.def_ 46 (d := dd_Work_files) rfl
    exact funM_mk F (He.meth_ok (c.t.d.fact 85 (f := .meth "Work" "files") rfl)) (fun _ _ _ _ _ _ us hl => match us, hl with | [_], _ => rfl)
  have F_Work_sent : FunM K (He.ga K "Work") "sent" "Work.sent" s_Work_sent ["self"] := by
    obtain ⟨fd, F⟩ := c.t.d.def_ 47 (d := dd_Work_sent) rfl
    exact funM_mk F (He.meth_ok (c.t.d.fact 86 (f := .meth "Work" "sent") rfl)) (fun _ _ _ _ _ _ us hl => match us, hl with | [_], _ => rfl)
  have F_Work_stands : FunM K (He.ga K "Work") "stands" "Work.stands" s_Work_stands ["self"] := by
    obtain ⟨fd, F⟩ := c.t.d.def_ 48 (d := dd_Work_stands) rfl
    exact funM_mk F (He.meth_ok (c.t.d.fact 87 (f := .meth "Work" "stands") rfl)) (fun _ _ _ _ _ _ us hl => match us, hl with | [_], _ => rfl)
  have F_Work_kept : FunM K (He.ga K "Work") "kept" "Work.kept" s_Work_kept ["self"] := by
    obtain ⟨fd, F⟩ := c.t.d.def_ 49 (d := dd_Work_kept) rfl
    exact funM_mk F (He.meth_ok (c.t.d.fact 88 (f := .meth "Work" "kept") rfl)) (fun _ _ _ _ _ _ us hl => match us, hl with | [_], _ => rfl)
  have F_Work_end : FunM K (He.ga K "Work") "end" "Work.end" s_Work_end ["self"] := by
    obtain ⟨fd, F⟩ := c.t.d.def_ 50 (d := dd_Work_end) rfl
    exact funM_mk F (He.meth_ok (c.t.d.fact 89 (f := .meth "Work" "end") rfl)) (fun _ _ _ _ _ _ us hl => match us, hl with | [_], _ => rfl)
  have F_Work_steps : FunM K (He.ga K "Work") "steps" "Work.steps" s_Work_steps ["self"] := by
    obtain ⟨fd, F⟩ := c.t.d.def_ 51 (d := dd_Work_steps) rfl
    exact funM_mk F (He.meth_ok (c.t.d.fact 90 (f := .meth "Work" "steps") rfl)) (fun _ _ _ _ _ _ us hl => match us, hl with | [_], _ => rfl)
  have B : Blt mg := ⟨He.free_ok X G (c.t.d.fact 31 (f := .free "len") rfl), He.free_ok X G (c.t.d.fact 32 (f := .free "range") rfl), He.free_ok X G (c.t.d.fact 33 (f := .free "int") rfl), He.free_ok X G (c.t.d.fact 34 (f := .free "sum") rfl), He.free_ok X G (c.t.d.fact 35 (f := .free "max") rfl), He.free_ok X G (c.t.d.fact 36 (f := .free "min") rfl), He.free_ok X G (c.t.d.fact 37 (f := .free "sorted") rfl), He.free_ok X G (c.t.d.fact 38 (f := .free "list") rfl), He.free_ok X G (c.t.d.fact 39 (f := .free "tuple") rfl), He.free_ok X G (c.t.d.fact 40 (f := .free "isinstance") rfl), He.free_ok X G (c.t.d.fact 41 (f := .free "enumerate") rfl), He.free_ok X G (c.t.d.fact 42 (f := .free "str") rfl), He.free_ok X G (c.t.d.fact 43 (f := .free "bool") rfl), He.free_ok X G (c.t.d.fact 44 (f := .free "zip") rfl), He.free_ok X G (c.t.d.fact 45 (f := .free "set") rfl), He.free_ok X G (c.t.d.fact 46 (f := .free "dict") rfl)⟩
  obtain ⟨t_REST, c_REST⟩ := He.int_ok X G (c.t.d.fact 47 (f := .int "REST" (10007)) rfl)
  obtain ⟨t_MOST_NAMES, c_MOST_NAMES⟩ := He.int_ok X G (c.t.d.fact 48 (f := .int "MOST_NAMES" (8)) rfl)
  obtain ⟨t_MOST_FILES, c_MOST_FILES⟩ := He.int_ok X G (c.t.d.fact 49 (f := .int "MOST_FILES" (4)) rfl)
  obtain ⟨t_MOST_ROWS, c_MOST_ROWS⟩ := He.int_ok X G (c.t.d.fact 50 (f := .int "MOST_ROWS" (60)) rfl)
  obtain ⟨t_MOST_DEEP, c_MOST_DEEP⟩ := He.int_ok X G (c.t.d.fact 51 (f := .int "MOST_DEEP" (3)) rfl)
  obtain ⟨t_MOST_HANDED, c_MOST_HANDED⟩ := He.int_ok X G (c.t.d.fact 52 (f := .int "MOST_HANDED" (40)) rfl)
  obtain ⟨t_MOST_FILE, c_MOST_FILE⟩ := He.int_ok X G (c.t.d.fact 53 (f := .int "MOST_FILE" (40)) rfl)
  obtain ⟨t_MOST_STEPS, c_MOST_STEPS⟩ := He.int_ok X G (c.t.d.fact 54 (f := .int "MOST_STEPS" (1000)) rfl)
  obtain ⟨t_MOST_OFTEN, c_MOST_OFTEN⟩ := He.int_ok X G (c.t.d.fact 55 (f := .int "MOST_OFTEN" (99)) rfl)
  obtain ⟨t_BACK, c_BACK⟩ := He.str_ok X G (c.t.d.fact 56 (f := .str "BACK" "back") rfl)
  obtain ⟨t_ON, c_ON⟩ := He.str_ok X G (c.t.d.fact 57 (f := .str "ON" "on") rfl)
  have ex0 : ex K = true := c.more
  unfold ex at ex0
  obtain ⟨m_PAIRS, ex1⟩ := He.ba ex0
  obtain ⟨m_CHANGES, ex2⟩ := He.ba ex1
  obtain ⟨v_SHAPES, ex3⟩ := He.ba ex2
  have v_JUMPS := ex3
  have g_PAIRS : mg "PAIRS" = some (.ref (He.ga K "PAIRS")) := He.glo_ok X G (c.t.d.fact 58 (f := .glo "PAIRS") rfl)
  have k_PAIRS : KTup K (He.ga K "PAIRS") ((["sum", "diff", "less"] : List Str).map V.str) := kTup_mk m_PAIRS
  have g_CHANGES : mg "CHANGES" = some (.ref (He.ga K "CHANGES")) := He.glo_ok X G (c.t.d.fact 59 (f := .glo "CHANGES") rfl)
  have k_CHANGES : KTup K (He.ga K "CHANGES") ((["add", "put", "cut"] : List Str).map V.str) := kTup_mk m_CHANGES
  have g_SHAPES : mg "SHAPES" = some (.ref (He.ga K "SHAPES")) := He.glo_ok X G (c.t.d.fact 60 (f := .glo "SHAPES") rfl)
  have k_SHAPES : KTab K w (He.ga K "SHAPES") shapes := kTab_mk (saysT_tab c.t 0 rfl) v_SHAPES
  have g_JUMPS : mg "JUMPS" = some (.ref (He.ga K "JUMPS")) := He.glo_ok X G (c.t.d.fact 61 (f := .glo "JUMPS") rfl)
  have k_JUMPS : KTab K w (He.ga K "JUMPS") jumps := kTab_mk (saysT_tab c.t 1 rfl) v_JUMPS
  obtain ⟨fd, Fd⟩ := c.t.d.def_ 30 (d := dd_law) rfl
  have e := hfa.symm.trans (He.glo_ok X G (c.t.d.fact 30 (f := .glo "law") rfl))
  cases e
  refine ⟨fd, fun s v => FunD.bindsA (ps := ["_law_script"]) Fd (fun _ _ _ _ _ _ us hl => match us, hl with | [_], _ => rfl) s [v] rfl, fun base _ _ => ?_⟩
  let cs : Cs := ⟨He.ga K "Effect", He.ga K "Mark", He.ga K "Inner", He.ga K "Work"⟩
  have D_num : Def P w K mg base "is_number" 1 3 spIsNumber := ok_is_number F_is_number B
  have D_part : Def P w K mg base "is_part" 5 3 (spIsPart 3) := ok_is_part F_is_part B D_num g_PAIRS k_PAIRS c_REST 3
  have D_shape : Def P w K mg base "shape_of" 1 1 spShapeOf := ok_shape_of F_shape_of B g_SHAPES k_SHAPES g_JUMPS k_JUMPS
  have D_why : Def P w K mg base "why_not" 6 4 spWhyNot := ok_why_not F_why_not B D_num D_part D_shape c_MOST_DEEP
  have D_np : Def P w K mg base "need_program" 7 1 spNeedProgram := ok_need_program F_need_program B D_num D_why c_MOST_NAMES c_MOST_FILES c_MOST_ROWS
  have D_nh : Def P w K mg base "need_handed" 2 1 spNeedHanded := ok_need_handed F_need_handed B D_num c_MOST_HANDED c_REST
  have D_worth : Def P w K mg base "worth" 4 2 (spWorth 3) := ok_worth F_worth B c_REST 3
  have I_eff : DefI P w K mg base "Effect" cs.E 1 3 (spEffInit cs.E) := ok_eff_init F_Effect___init__ T_Effect
  have M_change : DefM P w K mg base cs.E "change" 1 5 (spChange cs.E) := ok_change F_Effect_change B T_Effect
  have D_changed : Def P w K mg base "changed" 5 4 (spChanged cs.E) := ok_changed F_changed B T_Effect D_worth M_change c_MOST_FILE
  have D_named : Def P w K mg base "named" 5 5 (spNamed cs.E) := ok_named F_named B T_Effect D_worth
  have D_effect : Def P w K mg base "effect" 6 6 (spEffect cs.E) := ok_effect F_effect B T_Effect I_eff D_worth D_changed D_named g_CHANGES k_CHANGES
  have I_mark : DefI P w K mg base "Mark" cs.M 1 6 (spMarkInit cs) := ok_mark_init F_Mark___init__ T_Mark
  have I_inner : DefI P w K mg base "Inner" cs.I 1 3 (spInnerInit cs) := ok_inner_init F_Inner___init__ B T_Mark T_Inner
  have M_to := ok_take_over (c := cs) (P := P) (w := w) (mg := mg) (base := base) (k := 0) F_Work_take_over B T_Work T_Inner T_Effect
  have M_keep := ok_keep (c := cs) (P := P) (w := w) (mg := mg) (base := base) (k := 0) F_Work_keep B T_Work T_Inner T_Mark I_mark
  have M_ends := ok_ends (c := cs) (P := P) (w := w) (mg := mg) (base := base) (k := 0) F_Work_ends T_Work
  have M_sends := ok_sends (c := cs) (P := P) (w := w) (mg := mg) (base := base) (k := 0) F_Work_sends B T_Work T_Inner T_Effect
  have M_done := ok_done (c := cs) (P := P) (w := w) (mg := mg) (base := base) (k := 0) F_Work_done B T_Work T_Inner T_Effect M_sends M_to
  have M_rise := ok_rise (c := cs) (P := P) (w := w) (mg := mg) (base := base) (k := 0) F_Work_rise B T_Work T_Inner T_Mark T_Effect I_inner c_BACK
  have M_go := ok_go_through (c := cs) (P := P) (w := w) (mg := mg) (base := base) (k := 0) F_Work_go_through B T_Work T_Inner M_to
  have M_begin := ok_begin (c := cs) (P := P) (w := w) (mg := mg) (base := base) (k := 0) F_Work_begin B T_Work T_Inner T_Effect D_effect M_ends M_keep M_to M_done c_MOST_STEPS c_ON g_CHANGES k_CHANGES
  have M_move := ok_move (c := cs) (P := P) (w := w) (mg := mg) (base := base) (k := 0) F_Work_move T_Work T_Inner M_rise M_go M_done M_begin
  have I_work : DefI P w K mg base "Work" cs.W 8 5 (spWorkInit cs) := ok_work_init F_Work___init__ B T_Work D_np D_nh D_num I_mark I_inner c_BACK c_ON c_MOST_OFTEN
  have D_next : Def P w K mg base "_law_next" 1 2 spNext := ok_next F__law_next B
  have D_apart : Def P w K mg base "_law_any_part" 5 3 (spAnyPart 3) := ok_any_part F__law_any_part B D_next 3
  have D_arow : Def P w K mg base "_law_any_row" 6 5 spAnyRow := ok_any_row F__law_any_row B D_next D_apart
  have D_aprog : Def P w K mg base "_law_any_program" 7 2 spAnyProgram := ok_any_program F__law_any_program B D_next D_arow
  have D_ahand : Def P w K mg base "_law_any_handed" 2 1 spAnyHanded := ok_any_handed F__law_any_handed B D_next
  have W : Walk P w K mg base cs := {
    B := B
    TW := T_Work
    dice := ok_dice F__law_dice B
    next := D_next
    prog := D_aprog
    hand := D_ahand
    init := I_work
    move := frameM M_move
    fall := frameM (ok_fall F_Work_fall T_Work)
    files := frameM (ok_files F_Work_files B T_Work)
    sent := frameM (ok_sent F_Work_sent B T_Work)
    end_ := frameM (ok_end F_Work_end T_Work)
    stands := frameM (ok_stands F_Work_stands B T_Work T_Inner)
    steps := frameM (ok_steps F_Work_steps T_Work)
    kept := frameM (ok_kept F_Work_kept B T_Work T_Mark) }
  have L : DefL P w K mg base "law" s_law ["_law_script"] 10 1 spLaw := ok_law F_law W (ok_work_initC F_Work___init__ B T_Work D_np (ok_need_handedC F_need_handed B D_num c_MOST_HANDED c_REST) D_num I_mark I_inner c_BACK c_ON c_MOST_OFTEN) (ok_like F__law_like B 3) (frameF (ok_all F__law_all B T_Work (frameM (ok_filesC F_Work_files B T_Work)) (frameM (ok_sentC F_Work_sent B T_Work)) (frameM (ok_standsC F_Work_stands B T_Work T_Inner)) (frameM (ok_kept F_Work_kept B T_Work T_Mark)) (frameM (ok_end F_Work_end T_Work)) (frameM (ok_steps F_Work_steps T_Work)))) (frameF (ok_due F__law_due B)) (frameF (ok_omove F__law_move B (ok_orise F__law_rise B (ok_ocopy F__law_copy B)) (ok_obegin F__law_begin B (ok_omarks F__law_marks B (ok_ocopy F__law_copy B)) (ok_oeff F__law_effect B (ok_oworth F__law_worth B 3)) (frameF (ok_opass F__law_pass B))) (frameF (ok_opass F__law_pass B)))) (ok_oown F__law_own B (ok_oinner F__law_inner B)) (ok_falls F__law_falls B D_next)
  obtain ⟨f', fd', Fu, hm, ok⟩ := L.ex
  have e1 := hfa.symm.trans hm
  cases e1
  have e2 : fd = fd' := by
    obtain ⟨oc, od, dV, kV, doc, pm, an, cdv, ct, osl, e, lk, hcd, hD, hK⟩ := Fd.ex
    obtain ⟨oc', od', kV', doc', pm', an', cdv', ct', osl', e', lk', hcd'⟩ := Fu.ex
    have lk2 := (show K.lookup (He.ga K "law") = _ from lk).symm.trans lk'
    cases lk2
    rfl
  rw [e2]
  exact ok
end K05
open PySem PySem.W PySem.Calls PyProof.Rows
set_option maxRecDepth 100000 in
set_option maxHeartbeats 0 in
theorem PySem.Challenge.cw_longwork_k05_on_move_by_move_holds : PySem.Challenge.rw_longwork_k05_on_move_by_move.Holds := by
  w_on; o_law
  refine HandSHeadRun.head_any (r := OpenLaw.row PySem.Challenge.rw_longwork_k05_on_move_by_move) (q := view (OpenLaw.row PySem.Challenge.rw_longwork_k05_on_move_by_move).prog [59]) (H := K05H.hk) (ob := K05H.ob) (M := 6000) (loose := K05H.loose) (d := HandSHeadRun.topDef (OpenLaw.row PySem.Challenge.rw_longwork_k05_on_move_by_move).prog 59) (kwd := []) K05H.ob_eq
    (by kernel_rfl) (fun s => by kernel_rfl) K05H.run (by kernel_rfl) (by kernel_rfl) (by kernel_rfl) (by rfl) (by first | assumption | decide +kernel) (by decide +kernel) ⟨rfl, rfl, rfl, rfl, rfl, by decide +kernel⟩ ?hw ?hc
  case hw => w_witness2
  case hc =>
    refine L2.walk_ofE (l := PySem.Challenge.rw_longwork_k05_on_move_by_move) (n := 63) (k := 10) (x := "_law_script") (CX := L2.CX0) rfl (by decide) (by kernel_rfl) ⟨rfl, by decide, by decide⟩ ?F (fun _ _ _ _ z => z)
    intro w mg fa h Y G hmg0
    obtain ⟨K, KX, c⟩ := Y
    have hmg : mg ("law" : PySem.Str) = some (.ref fa) := by
      have e : (HandSHeadRun.topDef (OpenLaw.row PySem.Challenge.rw_longwork_k05_on_move_by_move).prog 59).name = ("law" : PySem.Str) := by kernel_rfl
      rw [← e]
      exact hmg0
    obtain ⟨fd, hb, hF⟩ := K05.facts (P := (PySem.Challenge.rw_longwork_k05_on_move_by_move).prog) (w := w) KX G hmg c
    exact ⟨K, fd, DL.toSp K 1 K05.spLaw, KX, hb, fun H a ns hl hO hS => DL.law_sp hl hO hS fun C hC => ⟨ns, rfl, hl, hC⟩, hF⟩
