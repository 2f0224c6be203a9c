import PyProof.Rows.All
import Wide.All
import OpenK.AllK
import Wide.FinOn
import KE.GoesEnum
import KE.GoesMore
import HandS.ForMost
import HandS.TupMul
import HandS.TupAny
import HandS.ForExc
import HandS.Defaults
import HandS.Steps
import HandS.IsInst
import HandS.Style
import HandS.DictComp
import HandS.Walk
import HandS.Conv
import HandS.HeadHook1
import HandS.HeadHook2
import HandS.HeadHook3
import HandS.HeadHook4
import HandS.TupSets
import HandS.SortInts
import HandS.SortRule
import HandS.List
import HandS.More
import HandS.Iter
import HandS.Dict
import HandS.Head0
import HandS.Head1
import HandS.Head2
import HandS.HeadEnd
import KE.KStateDown
import Lean
import PySem.Challenge.RW_keptcounts_k05_whole_right_programs_over
set_option Elab.async false
set_option linter.all false
set_option maxRecDepth 100000
set_option maxHeartbeats 4000000
namespace Kc
open PySem L2
def top (i : Nat) : Stmt := PySem.Challenge.pw_keptcounts_k05_whole_right_programs_over.main.body.getD i (.Pass ⟨0, 0, 0, 0⟩)
abbrev FnP (K : PySem.W.Frag) (x qual : Str) (st : Stmt) (f : Addr) (fd : FuncData) : Prop := FunD K x qual (defArgs st) (defBody st) (defScope st) [] [] f fd
end Kc
set_option maxHeartbeats 0
namespace Kc
open PySem PySem.Spec PyProof.Rows L2
def hd0 : He.DefD := ⟨("is_index", none), "is_index", "is_index", defArgs (top 13), defBody (top 13), defScope (top 13), [], []⟩
def hd1 : He.DefD := ⟨("is_keep", none), "is_keep", "is_keep", defArgs (top 14), defBody (top 14), defScope (top 14), [], []⟩
def hd2 : He.DefD := ⟨("is_of", none), "is_of", "is_of", defArgs (top 15), defBody (top 15), defScope (top 15), [], []⟩
def hd3 : He.DefD := ⟨("is_source", none), "is_source", "is_source", defArgs (top 16), defBody (top 16), defScope (top 16), [], []⟩
def hd4 : He.DefD := ⟨("is_touch", none), "is_touch", "is_touch", defArgs (top 17), defBody (top 17), defScope (top 17), [], []⟩
def hd5 : He.DefD := ⟨("is_test", none), "is_test", "is_test", defArgs (top 18), defBody (top 18), defScope (top 18), [], []⟩
def hd6 : He.DefD := ⟨("is_step", none), "is_step", "is_step", defArgs (top 19), defBody (top 19), defScope (top 19), [], []⟩
def hd7 : He.DefD := ⟨("check_steps", none), "check_steps", "check_steps", defArgs (top 20), defBody (top 20), defScope (top 20), [], []⟩
def hd8 : He.DefD := ⟨("Program", some "__init__"), "__init__", "Program.__init__", defArgs (inClass (top 21) 0), defBody (inClass (top 21) 0), defScope (inClass (top 21) 0), [], []⟩
def hd9 : He.DefD := ⟨("Program", some "steps_of"), "steps_of", "Program.steps_of", defArgs (inClass (top 21) 3), defBody (inClass (top 21) 3), defScope (inClass (top 21) 3), [], []⟩
def hd10 : He.DefD := ⟨("true_value", none), "true_value", "true_value", defArgs (top 24), defBody (top 24), defScope (top 24), [], []⟩
def hd11 : He.DefD := ⟨("true_values", none), "true_values", "true_values", defArgs (top 25), defBody (top 25), defScope (top 25), [], []⟩
def hd12 : He.DefD := ⟨("nothing_kept", none), "nothing_kept", "nothing_kept", defArgs (top 26), defBody (top 26), defScope (top 26), [], []⟩
def hd13 : He.DefD := ⟨("Deed", some "__init__"), "__init__", "Deed.__init__", defArgs (inClass (top 27) 0), defBody (inClass (top 27) 0), defScope (inClass (top 27) 0), [], []⟩
def hd14 : He.DefD := ⟨("Deed", some "does_hold"), "does_hold", "Deed.does_hold", defArgs (inClass (top 27) 1), defBody (inClass (top 27) 1), defScope (inClass (top 27) 1), [], []⟩
def hd15 : He.DefD := ⟨("Deed", some "amount"), "amount", "Deed.amount", defArgs (inClass (top 27) 2), defBody (inClass (top 27) 2), defScope (inClass (top 27) 2), [], []⟩
def hd16 : He.DefD := ⟨("Deed", some "touch"), "touch", "Deed.touch", defArgs (inClass (top 27) 3), defBody (inClass (top 27) 3), defScope (inClass (top 27) 3), [], []⟩
def hd17 : He.DefD := ⟨("Deed", some "steps"), "steps", "Deed.steps", defArgs (inClass (top 27) 4), defBody (inClass (top 27) 4), defScope (inClass (top 27) 4), [], []⟩
def hd18 : He.DefD := ⟨("all_things", none), "all_things", "all_things", defArgs (top 30), defBody (top 30), defScope (top 30), [], []⟩
def hd19 : He.DefD := ⟨("asks_none", none), "asks_none", "asks_none", defArgs (top 31), defBody (top 31), defScope (top 31), [], []⟩
def hd20 : He.DefD := ⟨("most_others", none), "most_others", "most_others", defArgs (top 32), defBody (top 32), defScope (top 32), [], []⟩
def hd21 : He.DefD := ⟨("crowds", none), "crowds", "crowds", defArgs (top 33), defBody (top 33), defScope (top 33), [], []⟩
def hd22 : He.DefD := ⟨("news", none), "news", "news", defArgs (top 34), defBody (top 34), defScope (top 34), [], []⟩
def hd23 : He.DefD := ⟨("first_lie", none), "first_lie", "first_lie", defArgs (top 35), defBody (top 35), defScope (top 35), [], []⟩
def hd24 : He.DefD := ⟨("lie_of_new", none), "lie_of_new", "lie_of_new", defArgs (top 36), defBody (top 36), defScope (top 36), [], []⟩
def hd25 : He.DefD := ⟨("lie_of_old", none), "lie_of_old", "lie_of_old", defArgs (top 37), defBody (top 37), defScope (top 37), [], []⟩
def hd26 : He.DefD := ⟨("lie", none), "lie", "lie", defArgs (top 38), defBody (top 38), defScope (top 38), [], []⟩
def hd27 : He.DefD := ⟨("is_right", none), "is_right", "is_right", defArgs (top 39), defBody (top 39), defScope (top 39), [], []⟩
def hd28 : He.DefD := ⟨("Ledger", some "__init__"), "__init__", "Ledger.__init__", defArgs (inClass (top 41) 0), defBody (inClass (top 41) 0), defScope (inClass (top 41) 0), [], []⟩
def hd29 : He.DefD := ⟨("Ledger", some "note"), "note", "Ledger.note", defArgs (inClass (top 41) 1), defBody (inClass (top 41) 1), defScope (inClass (top 41) 1), [], []⟩
def hd30 : He.DefD := ⟨("Ledger", some "need"), "need", "Ledger.need", defArgs (inClass (top 41) 2), defBody (inClass (top 41) 2), defScope (inClass (top 41) 2), [], []⟩
def hd31 : He.DefD := ⟨("Ledger", some "touch"), "touch", "Ledger.touch", defArgs (inClass (top 41) 3), defBody (inClass (top 41) 3), defScope (inClass (top 41) 3), [], []⟩
def hd32 : He.DefD := ⟨("Ledger", some "make"), "make", "Ledger.make", defArgs (inClass (top 41) 4), defBody (inClass (top 41) 4), defScope (inClass (top 41) 4), [], []⟩
def hd33 : He.DefD := ⟨("Ledger", some "alter"), "alter", "Ledger.alter", defArgs (inClass (top 41) 5), defBody (inClass (top 41) 5), defScope (inClass (top 41) 5), [], []⟩
def hd34 : He.DefD := ⟨("Ledger", some "release"), "release", "Ledger.release", defArgs (inClass (top 41) 6), defBody (inClass (top 41) 6), defScope (inClass (top 41) 6), [], []⟩
def hd35 : He.DefD := ⟨("Ledger", some "kept"), "kept", "Ledger.kept", defArgs (inClass (top 41) 7), defBody (inClass (top 41) 7), defScope (inClass (top 41) 7), [], []⟩
def hd36 : He.DefD := ⟨("Ledger", some "anew"), "anew", "Ledger.anew", defArgs (inClass (top 41) 8), defBody (inClass (top 41) 8), defScope (inClass (top 41) 8), [], []⟩
def hd37 : He.DefD := ⟨("Ledger", some "lies"), "lies", "Ledger.lies", defArgs (inClass (top 41) 9), defBody (inClass (top 41) 9), defScope (inClass (top 41) 9), [], []⟩
def hd38 : He.DefD := ⟨("_law_begin", none), "_law_begin", "_law_begin", defArgs (top 43), defBody (top 43), defScope (top 43), [], []⟩
def hd39 : He.DefD := ⟨("_law_draw", none), "_law_draw", "_law_draw", defArgs (top 44), defBody (top 44), defScope (top 44), [], []⟩
def hd40 : He.DefD := ⟨("_law_keep", none), "_law_keep", "_law_keep", defArgs (top 45), defBody (top 45), defScope (top 45), [], []⟩
def hd41 : He.DefD := ⟨("_law_under", none), "_law_under", "_law_under", defArgs (top 46), defBody (top 46), defScope (top 46), [], []⟩
def hd42 : He.DefD := ⟨("_law_right", none), "_law_right", "_law_right", defArgs (top 47), defBody (top 47), defScope (top 47), [], []⟩
def hd43 : He.DefD := ⟨("_law_touch", none), "_law_touch", "_law_touch", defArgs (top 48), defBody (top 48), defScope (top 48), [], []⟩
def hd44 : He.DefD := ⟨("_law_step", none), "_law_step", "_law_step", defArgs (top 49), defBody (top 49), defScope (top 49), [], []⟩
def hd45 : He.DefD := ⟨("_law_spoilt", none), "_law_spoilt", "_law_spoilt", defArgs (top 50), defBody (top 50), defScope (top 50), [], []⟩
def hd46 : He.DefD := ⟨("_law_any", none), "_law_any", "_law_any", defArgs (top 51), defBody (top 51), defScope (top 51), [], []⟩
def hd47 : He.DefD := ⟨("_law_made", none), "_law_made", "_law_made", defArgs (top 52), defBody (top 52), defScope (top 52), [], []⟩
def hd48 : He.DefD := ⟨("_law_true", none), "_law_true", "_law_true", defArgs (top 53), defBody (top 53), defScope (top 53), [], []⟩
def hd49 : He.DefD := ⟨("_law_new", none), "_law_new", "_law_new", defArgs (top 54), defBody (top 54), defScope (top 54), [], []⟩
def hd50 : He.DefD := ⟨("_law_holds", none), "_law_holds", "_law_holds", defArgs (top 56), defBody (top 56), defScope (top 56), [], []⟩
def hd51 : He.DefD := ⟨("_law_touched", none), "_law_touched", "_law_touched", defArgs (top 57), defBody (top 57), defScope (top 57), [], []⟩
def hd52 : He.DefD := ⟨("_law_around", none), "_law_around", "_law_around", defArgs (top 58), defBody (top 58), defScope (top 58), [], []⟩
def hd53 : He.DefD := ⟨("_law_steps", none), "_law_steps", "_law_steps", defArgs (top 59), defBody (top 59), defScope (top 59), [], []⟩
def hd54 : He.DefD := ⟨("_law_do", none), "_law_do", "_law_do", defArgs (top 60), defBody (top 60), defScope (top 60), [], []⟩
def hd55 : He.DefD := ⟨("_law_trues", none), "_law_trues", "_law_trues", defArgs (top 61), defBody (top 61), defScope (top 61), [], []⟩
def hd56 : He.DefD := ⟨("_law_lies", none), "_law_lies", "_law_lies", defArgs (top 62), defBody (top 62), defScope (top 62), [], []⟩
def hd57 : He.DefD := ⟨("_law_number", none), "_law_number", "_law_number", defArgs (top 63), defBody (top 63), defScope (top 63), [], []⟩
def hd58 : He.DefD := ⟨("_law_deed", none), "_law_deed", "_law_deed", defArgs (top 64), defBody (top 64), defScope (top 64), [], []⟩
def hd59 : He.DefD := ⟨("_law_act", none), "_law_act", "_law_act", defArgs (top 65), defBody (top 65), defScope (top 65), [], []⟩
def hd60 : He.DefD := ⟨("law", none), "law", "law", defArgs (top 66), defBody (top 66), defScope (top 66), [], []⟩
def hfn : List He.DefD := ([hd0, hd1, hd2, hd3, hd4, hd5, hd6, hd7, hd8, hd9, hd10, hd11, hd12, hd13, hd14, hd15, hd16, hd17, hd18, hd19, hd20, hd21, hd22, hd23, hd24, hd25, hd26, hd27, hd28, hd29] : List He.DefD) ++ ([hd30, hd31, hd32, hd33, hd34, hd35, hd36, hd37, hd38, hd39, hd40, hd41, hd42, hd43, hd44, hd45, hd46, hd47, hd48, hd49, hd50, hd51, hd52, hd53, hd54, hd55, hd56, hd57, hd58, hd59] : List He.DefD) ++ ([hd60] : List He.DefD)
def hfa : List He.Fa := ([.glo "is_index", .glo "is_keep", .glo "is_of", .glo "is_source", .glo "is_touch", .glo "is_test", .glo "is_step", .glo "check_steps", .glo "true_value", .glo "true_values", .glo "nothing_kept", .glo "all_things", .glo "asks_none", .glo "most_others", .glo "crowds", .glo "news", .glo "first_lie", .glo "lie_of_new", .glo "lie_of_old", .glo "lie", .glo "is_right", .glo "_law_begin", .glo "_law_draw", .glo "_law_keep", .glo "_law_under", .glo "_law_right", .glo "_law_touch", .glo "_law_step", .glo "_law_spoilt", .glo "_law_any"] : List He.Fa) ++ ([.glo "_law_made", .glo "_law_true", .glo "_law_new", .glo "_law_holds", .glo "_law_touched", .glo "_law_around", .glo "_law_steps", .glo "_law_do", .glo "_law_trues", .glo "_law_lies", .glo "_law_number", .glo "_law_deed", .glo "_law_act", .glo "law", .glo "NAMES", .glo "WHATS", .glo "SOURCES", .glo "NUMBERS", .glo "FITTING", .glo "NOTHING", .glo "Program", .glo "Deed", .glo "Ledger", .int "MOST_KEEPS" 3, .int "MOST_STEPS" 6, .free "len", .free "isinstance", .free "int", .free "str", .free "bool"] : List He.Fa) ++ ([.free "tuple", .free "range", .free "enumerate", .free "max", .free "min", .free "sum", .free "any", .free "list", .free "sorted", .free "dict", .cls "Program", .mkr "Program", .noat "Program" "keeps", .noat "Program" "new", .noat "Program" "change", .noat "Program" "drop", .cls "Deed", .mkr "Deed", .noat "Deed" "keeps", .noat "Deed" "amounts", .noat "Deed" "around", .noat "Deed" "elder", .noat "Deed" "newer", .cls "Ledger", .mkr "Ledger", .noat "Ledger" "program", .noat "Ledger" "table", .noat "Ledger" "made", .noat "Ledger" "amounts", .noat "Ledger" "deeds"] : List He.Fa) ++ ([.noat "Ledger" "past", .meth "Program" "steps_of", .meth "Deed" "does_hold", .meth "Deed" "amount", .meth "Deed" "touch", .meth "Deed" "steps", .meth "Ledger" "note", .meth "Ledger" "need", .meth "Ledger" "touch", .meth "Ledger" "make", .meth "Ledger" "alter", .meth "Ledger" "release", .meth "Ledger" "kept", .meth "Ledger" "anew", .meth "Ledger" "lies"] : List He.Fa)
def fitA (K : PySem.W.Frag) (z : Str) : Addr := match PySem.W.nsIn K (He.ga K "FITTING") z with
  | some (some (.ref a)) => a
  | _ => 0
/-- a tuple of these, where it lies in the written part -/
def tupAt (K : PySem.W.Frag) (a : Addr) (vs : List V) : Bool := match K.lookup a with
  | none => false
  | some o => match o.cls, o.data with
    | .type c, .seq its _ => (decide (c = "tuple") && decide (its.size ≤ sizeLine)) && He.relAll vs its.toList
    | _, _ => false
theorem tupAt_ok {K : PySem.W.Frag} {a : Addr} {vs : List V} (h : tupAt K a vs = true) (H : Hp) : SqT K H a vs := by
  unfold tupAt at h
  cases hk : K.lookup a with
  | none => rw [hk] at h; cases h
  | some ob =>
    rw [hk] at h
    dsimp only at h
    split at h
    · rename_i c its n e1 e2
      simp only [Bool.and_eq_true] at h
      obtain ⟨⟨z1, z2⟩, z3⟩ := h
      refine .inr ⟨ob, its, n, hk, ?_, e2, of_decide_eq_true z2, He.relAll_ok z3⟩
      rw [e1, of_decide_eq_true z1]
    · cases h
def hts : List He.Tab := [(fun K => He.ga K "FITTING", ["add", "less", "lift", "mark", "empty", "again"]), (fun K => He.ga K "NOTHING", ["count", "sum", "most", "any"])]
def fitV : List (Str × He.Dv) := [("add", .adr fun K => fitA K "add"), ("less", .adr fun K => fitA K "less"), ("lift", .adr fun K => fitA K "lift"), ("mark", .adr fun K => fitA K "mark"), ("empty", .glo "WHATS"), ("again", .glo "WHATS")]
def hex (K : PySem.W.Frag) : Bool := He.tupB K "NAMES" [.str "new", .str "change", .str "drop"] && (He.tupB K "NUMBERS" [.int 2, .int 5, .int 11, .int 23] && (He.tupB K "WHATS" [.str "count", .str "sum", .str "most", .str "any"] && (He.tupB K "SOURCES" [.str "one", .str "elder", .str "newer"]
  && (He.valsB K (He.ga K "NOTHING") [("count", .int 0), ("sum", .int 0), ("most", .non), ("any", .bl false)] && (He.valsB K (He.ga K "FITTING") fitV
  && (tupAt K (fitA K "add") [.str "count", .str "sum"] && (tupAt K (fitA K "less") [.str "count", .str "sum"] && (tupAt K (fitA K "lift") [.str "most"] && tupAt K (fitA K "mark") [.str "any"]))))))))
abbrev hR : PySem.W.OpenRow := PySem.W.OpenLaw.row PySem.Challenge.rw_keptcounts_k05_whole_right_programs_over
abbrev hhk : PySem.W.Hook := He.hookX 6 hfa hfn hts [] hex
def hob (s : PySem.W.SharedT) : He.AlX := He.obsX 6 hfa hfn hts [] hex (HandSHeadRun.getT s)
theorem hob_eq (s : PySem.W.SharedT) : hob s = hhk.obs s.abs := He.obsX_eq (HandSHeadRun.getT_eq s)
def hloose : List Str := (["_wall", "CountError", "BadKeep", "BadStep", "NoThing", "NAMES", "WHATS", "SOURCES", "FITTING", "MOST_KEEPS", "MOST_STEPS", "is_index", "is_keep", "is_of", "is_source", "is_touch", "is_test", "is_step", "check_steps", "Program", "NOTHING", "true_value", "true_values", "nothing_kept", "Deed", "NUMBERS", "all_things", "asks_none", "most_others", "crowds"] : List Str) ++ (["news", "first_lie", "lie_of_new", "lie_of_old", "lie", "is_right", "Ledger", "_law_begin", "_law_draw", "_law_keep", "_law_under", "_law_right", "_law_touch", "_law_step", "_law_spoilt", "_law_any", "_law_made", "_law_true", "_law_new", "_law_twin", "_law_holds", "_law_touched", "_law_around", "_law_steps", "_law_do", "_law_trues", "_law_lies", "_law_number", "_law_deed", "_law_act"] : List Str)
theorem hrun_f (w : World) : HandSHeadRun.RunEq hR (PySem.W.view hR.prog [66]) hhk hob 4000 hloose (w.withFollow "special-get-raises" false) := by
  intro os
  kernel_rfl
theorem hrun_t (w : World) : HandSHeadRun.RunEq hR (PySem.W.view hR.prog [66]) hhk hob 4000 hloose (w.withFollow "special-get-raises" true) := by
  intro os
  kernel_rfl
theorem hrun (w : World) : HandSHeadRun.RunEq hR (PySem.W.view hR.prog [66]) hhk hob 4000 hloose w :=
  PySem.W.byRow2 "special-get-raises" (P := fun w => HandSHeadRun.RunEq hR (PySem.W.view hR.prog [66]) hhk hob 4000 hloose w) hrun_f hrun_t w
end Kc
set_option maxHeartbeats 4000000
/-! Two rules of the hand layer that it lacks: enumerate over a tuple; a tuple times one. -/
namespace Dl
open PySem PySem.Spec PyProof.Rows L2
open AutoSeq1 (wpAny_loadPart')
theorem meets_enumerate_newT (l : Addr) (items : Array Value) (n : Nat) (dct : Option Addr) (sl : Array (Option Value)) :
    Meets (Builtin.«enumerate.__new__» ⟨[.type "enumerate", .ref l], []⟩) (fun _ R s => s.heap.get? l = some { cls := .type "tuple", dict := dct, data := .seq items n, slots := sl } ∧
      R (.ok (.ret (.ref (s.heap.push { cls := .type "tuple_iterator", data := .fields #[.ref l, .int 0 0] }).objs.size)))
        { s with heap := (s.heap.push { cls := .type "tuple_iterator", data := .fields #[.ref l, .int 0 0] }).push { cls := .type "enumerate", data := .fields #[.none, .bool false, .ref s.heap.objs.size, rawInt 0, .none, .none] } }) :=
  .of_wp fun prog w A R s h => by
    obtain ⟨hp, g, d, tk, os⟩ := s; obtain ⟨hl, h⟩ := h
    have hsub := sub_enumerate
    have hL : Heap.IsTuple (Shared.heap ⟨hp, g, d, tk, os⟩) l items := ⟨_, hl, rfl, n, rfl⟩
    wp_walk using wpAny_loadPart' hl
    refine wpAny_stack_any fun st => wpAny_pure ?_
    split
    · rename_i c _ _ _ _ _
      cases (c == Value.type "enumerate")
      · wp_walk using wpAny_loadPart' hl, wpAny_pyIter_tuple hL
        exact ⟨_, rfl, h⟩
      · wp_walk using wpAny_loadPart' hl, wpAny_pyIter_tuple hL
        exact ⟨_, rfl, h⟩
    · wp_walk using wpAny_loadPart' hl, wpAny_pyIter_tuple hL
      exact ⟨_, rfl, h⟩
theorem call_enumerate_tuple {prog : Program} {w : World} {A : Around} {E : Value → Shared → Prop} {s : Shared} {l : Addr} {items : Array Value} {Q : Value → Shared → Prop} (hL : s.heap.IsTuple l items)
    (h : ∀ h', IsEnum h' (s.heap.objs.size + 1) s.heap.objs.size 0 .none → h'.IsTupleIter s.heap.objs.size l 0 → h'.objs.size = s.heap.objs.size + 2 →
      (∀ b o, s.heap.get? b = some o → h'.get? b = some o) → Q (.ref (s.heap.objs.size + 1)) { s with heap := h' }) :
    wpAny (model prog w) A (PySem.call (.type "enumerate") [.ref l]) Q E s := by
  obtain ⟨⟨c, dct, dt, sl⟩, hl, hc, n, hd⟩ := hL
  replace hc : c = .type "tuple" := hc
  replace hd : dt = .seq items n := hd
  subst hc hd
  refine callType_new F.called_enumerate (by decide) (F.typeCall_enumerate_1 _) (F.newCall_enumerate_1 _) (fun obj => F.args_object_init_2 obj _) F.entry_enumerate_new
    (meets_enumerate_newT l items n dct sl) ⟨hl, ?_⟩
  have hz : (s.heap.push { cls := .type "tuple_iterator", data := .fields #[.ref l, .int 0 0] }).objs.size = s.heap.objs.size + 1 := Heap.size_push ..
  show _ ∧ _
  rw [hz]
  have he : IsEnum ((s.heap.push { cls := .type "tuple_iterator", data := .fields #[.ref l, .int 0 0] }).push { cls := .type "enumerate", data := .fields #[.none, .bool false, .ref s.heap.objs.size, rawInt 0, .none, .none] }) (s.heap.objs.size + 1) s.heap.objs.size 0 .none := by
    have := Heap.get?_push_size (s.heap.push { cls := .type "tuple_iterator", data := .fields #[.ref l, .int 0 0] }) (o := { cls := .type "enumerate", data := .fields #[.none, .bool false, .ref s.heap.objs.size, rawInt 0, .none, .none] }) rfl
    rw [hz] at this; exact this
  refine ⟨⟨_, he, rfl⟩, h _ he ⟨_, Heap.get?_push_of_some _ (Heap.get?_push_size _ rfl), rfl, rfl⟩ (by rw [Heap.size_push, hz]) fun b o x => Heap.get?_push_of_some _ (Heap.get?_push_of_some _ x)⟩
/-- a tuple's iterator at its end -/
theorem draws_end {prog : Program} {w : World} {A : Around} (hh : A.handled = none) (it t : Addr) (items : Array Value) (i0 : Nat) (h0 : items.size ≤ i0) :
    Draws prog w A it [it, t] i0 (fun _ _ => False) (fun j h => j = i0 ∧ h.IsTupleIter it t i0 ∧ h.IsTuple t items) where
  live := fun _ _ st => let ⟨o, ho, _⟩ := st.2.1; ⟨o, ho⟩
  frame := fun _ _ _ st hk => ⟨st.1, st.2.1.at fun o e => hk it (by simp) o e, st.2.2.at fun o e => hk t (by simp) o e⟩
  item := fun i s Q E hi st hQ => absurd st.1 (Nat.ne_of_lt hi)
  done := fun s Q E st hE => wpAny_nextOf_tuple_end hh st.2.1 st.2.2 (by simp; exact h0) hE
def IteT (K : PySem.W.Frag) (a : Addr) : It :=
  ⟨fun i H => ∃ (xs : List V) (x : V), SqT K H a xs ∧ xs[i]? = some x, fun i H v H' => ∃ T x, v = .ref T ∧ H T = none ∧ H' = upd H T (.tup [.int (i : Nat), x]) ∧ ∀ xs, SqT K H a xs → xs[i]? = some x, fun i H => ∃ xs : List V, SqT K H a xs ∧ xs.length ≤ i⟩
theorem turn_enumT {P : Program} {w : World} {K : PySem.W.Frag} {elts : List Expr} {kk : Nat} {tpos : Pos} (a e it : Addr) (hat : a ≠ it) (hae : a ≠ e) :
    Turn P w K (.Tuple elts kk tpos) (IteT K a) [e, it] e (fun i h => (∃ old, IsEnum h e it ((i : Nat) : Int) old) ∧ h.IsTupleIter it a i ∧ e ≠ it) where
  mem := by simp
  obj := fun i h st b hb => by
    obtain ⟨⟨old, he⟩, ⟨o, ho, hc, hd⟩, _⟩ := st
    have e' : b = e ∨ b = it := by simpa using hb
    rcases e' with z | z
    · rw [z]; exact ⟨_, he, fun v q => nomatch q⟩
    · rw [z]; exact ⟨o, ho, fun v q => by rw [hd] at q; cases q⟩
  keep := fun i h h' st k => let ⟨⟨old, he⟩, hi, hne⟩ := st; ⟨⟨old, k e (by simp) _ he⟩, hi.at fun o q => k it (by simp) o q, hne⟩
  item := by
    intro X hP hw hK hc i pins s σ H E I hf st hg
    subst hP hw hK
    obtain ⟨⟨old, he⟩, hit, hne⟩ := st
    obtain ⟨xs, x, hq, hx⟩ := hg
    obtain ⟨its, rv, p, hz⟩ := I.tuple hq
    have hix : i < its.toArray.size := by
      rw [List.size_toArray, ← rv.length]
      exact (List.getElem?_eq_some_iff.mp hx).1
    have hel : e < s.heap.objs.size := Heap.lt_size he
    have hil : it < s.heap.objs.size := by obtain ⟨_, q, _⟩ := hit; exact Heap.lt_size q
    refine wpAny_pyNext_enum_itemD (Draws.tuple (A := X.A.in1) (I.ok.hd hc) it a hat its.toArray) he ⟨hit, p⟩ hix hne (by simp [hne, Ne.symm hae]) fun u h' tk hu ho hit' hT hsz hk => ?_
    obtain ⟨u', hu', ru⟩ := rv.get hx
    have eu : u' = u := by
      have hu2 : its.toArray[i]? = some u := hu
      rw [List.getElem?_toArray, hu'] at hu2
      exact Option.some.inj hu2
    subst eu
    refine ⟨_, rfl, wpAny_letOwnedTupleGo_enum (s := { s with heap := h', toks := tk + 1 }) ho fun h'' he' sb => ?_⟩
    have hT2 : h''.get? s.heap.objs.size = some { cls := .type "tuple", data := .seq #[.int i tk, u'] } := (sb.2 _ (Nat.ne_of_gt hel)).trans hT
    have new : ObjOk X.prog X.w (upd H s.heap.objs.size (.tup [.int (i : Nat), x])) h'' s.heap.objs.size (.tup [.int (i : Nat), x]) :=
      ⟨by show 2 ≤ sizeLine; decide, [.int i tk, u'], .cons ⟨_, rfl⟩ (.cons ru .nil), ⟨_, hT2, rfl, _, rfl⟩⟩
    have I1 : Inv X pins σ (upd H s.heap.objs.size (.tup [.int (i : Nat), x])) { s with heap := h'', toks := tk + 1 } :=
      I.turnedNew (ch := [e, it]) (fun b ob hb q => (sb.2 b (fun z => hb (by simp [z]))).trans (hk b ob (fun z => hb (by simp [z])) (fun z => hb (by simp [z])) q)) hf (Nat.le_refl _) new
    refine ⟨.ref s.heap.objs.size, _, I1, rfl, ⟨_, x, rfl, I.hok.fresh (Nat.le_refl _), rfl, fun ys hy => by rw [I.tuple_inj hy hq]; exact hx⟩, ⟨⟨u', ?_⟩, hit'.1.at fun o q => (sb.2 it (Ne.symm hne)).trans q, hne⟩, fun b hb => ?_⟩
    · have e1 : ((i + 1 : Nat) : Int) = (i : Int) + 1 := by omega
      rw [e1]; exact he'
    · have hb' : b < s.heap.objs.size := by
        have e' : b = e ∨ b = it := by simpa using hb
        rcases e' with z | z
        · rw [z]; exact hel
        · rw [z]; exact hil
      rw [upd_ne (Nat.ne_of_lt hb')]
      exact (hf b hb).1
  done := by
    intro X hP hw hK hc i pins s σ H E I hf st hg
    subst hP hw hK
    obtain ⟨⟨old, he⟩, hit, hne⟩ := st
    obtain ⟨xs, hq, hx⟩ := hg
    obtain ⟨its, rv, p, hz⟩ := I.tuple hq
    obtain ⟨f0, f1, f2, f3, f4, f5⟩ := hf it (by simp)
    have hl := rv.length
    have hs0 : its.toArray.size ≤ i := by rw [List.size_toArray, ← hl]; exact hx
    exact wpAny_pyNext_enum_endD (draws_end (A := X.A.in1) (I.ok.hd hc) it a its.toArray i hs0) he ⟨rfl, hit, p⟩ fun h' eb => ⟨rfl, I.turned (t' := s.toks) (fun b o hb q => eb b o hb q) f0 f1 f3 f4 f5⟩
  self := fun A i s Q E st h => let ⟨⟨_, he⟩, _⟩ := st; wpAny_pyIter_enum he h
def iEnumT (K : PySem.W.Frag) (ta : TA) : TI := fun σ H R => ta σ H fun vs H1 => ∃ a xs, vs = [.ref a] ∧ SqT K H1 a xs ∧ R (IteT K a) H1
theorem pi_enumT {X : Cx} {e : Expr} {ta : TA} {p pos tpos : Pos} {elts : List Expr} {kk : Nat} (hg : Gl X "enumerate") (hm : X.mg "enumerate" = none) (ha : PA X [e] ta) (hs : starEach [e] X.env = [(false, eval e X.env)] := by rfl) :
    PI X (.Tuple elts kk tpos) (.Call (.Name "enumerate" p) [e] [] pos) (iEnumT X.K ta) := by
  refine ⟨fun pins s σ H R I h => ?_⟩
  refine Call_ (ld_blt I hg hm boot_enumerate (PyProof.Rows.callWith_type1 (thn (ha.run pos pins s σ H _ I h) fun us s1 ⟨vs, H1, I1, r1, q1⟩ => ?_) hs rfl))
  obtain ⟨a, xs, ex, hq, q⟩ := q1
  subst ex
  cases r1 with
  | cons r rr =>
    cases rr
    cases r
    obtain ⟨its, rv, p', hz⟩ := I1.tuple hq
    have hla : a < s1.heap.objs.size := by obtain ⟨o, e, _⟩ := p'; exact Heap.lt_size e
    refine call_enumerate_tuple p' fun h' he hit hsz hk => wpAny_pyIter_enum he ?_
    have I2 : Inv X pins σ H1 { s1 with heap := h' } := I1.kept (t' := s1.toks) hk
    refine ⟨s1.heap.objs.size + 1, [s1.heap.objs.size + 1, s1.heap.objs.size], _, _, H1, rfl, I2, turn_enumT a (s1.heap.objs.size + 1) s1.heap.objs.size (Nat.ne_of_lt hla) (Nat.ne_of_lt (Nat.lt_succ_of_lt hla)), ⟨⟨.none, he⟩, hit, Nat.succ_ne_self _⟩, fun b hb => ?_, q⟩
    have e' : b = s1.heap.objs.size + 1 ∨ b = s1.heap.objs.size := by simpa using hb
    have hle : s1.heap.objs.size ≤ b := by
      rcases e' with z | z
      · rw [z]; exact Nat.le_add_right _ _
      · rw [z]; exact Nat.le_refl _
    exact I1.fpOk hle (I1.hok.fresh hle)
/-- enumerate of a list or a tuple -/
def iEnumA (K : PySem.W.Frag) (ta : TA) : TI := fun σ H R => ta σ H fun vs H1 => ∃ a xs, vs = [.ref a] ∧ ((SqL K H1 a xs ∧ R (Ite K a) H1) ∨ (SqT K H1 a xs ∧ R (IteT K a) H1))
/-- a test of which way a walked thing is taken, put off until its value is known -/
theorem pi_enumA {X : Cx} {e : Expr} {ta : TA} {p pos tpos : Pos} {elts : List Expr} {kk : Nat} (hg : Gl X "enumerate") (hm : X.mg "enumerate" = none) (ha : PA X [e] ta) (hs : starEach [e] X.env = [(false, eval e X.env)] := by rfl) :
    PI X (.Tuple elts kk tpos) (.Call (.Name "enumerate" p) [e] [] pos) (iEnumA X.K ta) := by
  refine ⟨fun pins s σ H R I h => ?_⟩
  refine Call_ (ld_blt I hg hm boot_enumerate (PyProof.Rows.callWith_type1 (thn (ha.run pos pins s σ H _ I h) fun us s1 ⟨vs, H1, I1, r1, q1⟩ => ?_) hs rfl))
  obtain ⟨a, xs, ex, hq⟩ := q1
  subst ex
  cases r1 with
  | cons r rr =>
    cases rr
    cases r
    rcases hq with ⟨hq, q⟩ | ⟨hq, q⟩
    · obtain ⟨its, rv, p', hz⟩ := I1.list hq
      refine call_enumerate_list p'.isList fun h' he hit hsz hk => wpAny_pyIter_enum he ?_
      have I2 : Inv X pins σ H1 { s1 with heap := h' } := I1.kept (t' := s1.toks) hk
      refine ⟨s1.heap.objs.size + 1, [s1.heap.objs.size + 1, s1.heap.objs.size], _, _, H1, rfl, I2, turn_enum a (s1.heap.objs.size + 1) s1.heap.objs.size, ⟨⟨.none, he⟩, hit, Nat.succ_ne_self _⟩, fun b hb => ?_, q⟩
      have e' : b = s1.heap.objs.size + 1 ∨ b = s1.heap.objs.size := by simpa using hb
      have hle : s1.heap.objs.size ≤ b := by
        rcases e' with z | z
        · rw [z]; exact Nat.le_add_right _ _
        · rw [z]; exact Nat.le_refl _
      exact I1.fpOk hle (I1.hok.fresh hle)
    · obtain ⟨its, rv, p', hz⟩ := I1.tuple hq
      have hla : a < s1.heap.objs.size := by obtain ⟨o, e, _⟩ := p'; exact Heap.lt_size e
      refine call_enumerate_tuple p' fun h' he hit hsz hk => wpAny_pyIter_enum he ?_
      have I2 : Inv X pins σ H1 { s1 with heap := h' } := I1.kept (t' := s1.toks) hk
      refine ⟨s1.heap.objs.size + 1, [s1.heap.objs.size + 1, s1.heap.objs.size], _, _, H1, rfl, I2, turn_enumT a (s1.heap.objs.size + 1) s1.heap.objs.size (Nat.ne_of_lt hla) (Nat.ne_of_lt (Nat.lt_succ_of_lt hla)), ⟨⟨.none, he⟩, hit, Nat.succ_ne_self _⟩, fun b hb => ?_, q⟩
      have e' : b = s1.heap.objs.size + 1 ∨ b = s1.heap.objs.size := by simpa using hb
      have hle : s1.heap.objs.size ≤ b := by
        rcases e' with z | z
        · rw [z]; exact Nat.le_add_right _ _
        · rw [z]; exact Nat.le_refl _
      exact I1.fpOk hle (I1.hok.fresh hle)
/-- a list or a tuple walked -/
def iSeq (K : PySem.W.Frag) (tl : TE) : TI := fun σ H R => tl σ H fun x H1 => ∃ a xs, x = .ref a ∧ ((SqL K H1 a xs ∧ R (Itl K a) H1) ∨ (SqT K H1 a xs ∧ R (Itt K a) H1))
theorem pi_seq {X : Cx} {tg l : Expr} {tl : TE} (hl : PE X l tl) : PI X tg l (iSeq X.K tl) := by
  refine ⟨fun pins s σ H R I h => ?_⟩
  refine thn (hl.run pins s σ H _ I h) fun v s1 ⟨x, H1, I1, r1, q1⟩ => ?_
  obtain ⟨a, xs, e, hq⟩ := q1
  subst e
  cases r1
  rcases hq with ⟨hq, q⟩ | ⟨hq, q⟩
  · obtain ⟨its, rv, p, hz⟩ := I1.list hq
    refine wpAny_pyIter_list p.isList ?_
    refine ⟨s1.heap.objs.size, [s1.heap.objs.size], _, _, H1, rfl, I1.kept (t' := s1.toks) fun b o e => Heap.get?_push_of_some _ e, turn_list a _, ⟨_, Heap.get?_push_size _ rfl, rfl, rfl⟩, fun b hb => ?_, q⟩
    have e : b = s1.heap.objs.size := by simpa using hb
    subst e
    exact I1.fpOk (Nat.le_refl _) (I1.hok.fresh (Nat.le_refl _))
  · obtain ⟨its, rv, p, hz⟩ := I1.tuple hq
    refine wpAny_pyIter_tuple (show s1.heap.IsTuple a its.toArray from p) ?_
    refine ⟨s1.heap.objs.size, [s1.heap.objs.size], _, _, H1, rfl, I1.kept (t' := s1.toks) fun b o e => Heap.get?_push_of_some _ e, turn_tuple a _, ⟨_, Heap.get?_push_size _ rfl, rfl, rfl⟩, fun b hb => ?_, q⟩
    have e : b = s1.heap.objs.size := by simpa using hb
    subst e
    exact I1.fpOk (Nat.le_refl _) (I1.hok.fresh (Nat.le_refl _))
/-- a tuple times one is the tuple -/
theorem tuple_mul1 (l : Addr) (items : Array Value) (n : Nat) (dd : Option Addr) (sl : Array (Option Value)) (u : Tok) :
    Meets (Builtin.«tuple.__mul__» ⟨[.ref l, .int 1 u], []⟩) (fun _ R s => s.heap.get? l = some { cls := .type "tuple", dict := dd, data := .seq items n, slots := sl } ∧ R (.ok (.ret (Value.ref l))) s) :=
  .of_wp fun prog w A R s h => by
    obtain ⟨hp, g, d, tk, os⟩ := s
    obtain ⟨hl, h⟩ := h
    have f1 := AutoSeq1.idx_int
    have c0 : (decide ((1 : Int) < -(2 ^ 63)) || decide ((1 : Int) ≥ 2 ^ 63)) = false := by decide
    have c1 : (items.isEmpty || (1 : Int) == 1) = true := by simp
    have hT : (⟨hp, g, d, tk, os⟩ : Shared).TypeIs (.ref l) "tuple" := ⟨_, hl, rfl⟩
    wp_walk using wpAny_loadPart' hl
    repeat (first
      | (refine wpAny_ite_false (decide_eq_false (by rw [c0]; exact Bool.false_ne_true)) ?_; wp_walk using wpAny_loadPart' hl)
      | (refine wpAny_ite_true (decide_eq_true c1) ?_; wp_walk using wpAny_loadPart' hl)
      | (refine wpAny_bind (wpAny_typeOf hT ?_); wp_walk using wpAny_loadPart' hl))
    exact ⟨_, rfl, h⟩
def rOneT (K : PySem.W.Frag) : R2 := fun x y H Q => ∃ l xs, x = .ref l ∧ y = .int 1 ∧ SqT K H l xs ∧ Q (.ref l) H
theorem op_oneT {X : Cx} : OpR X (binaryOp .Mult) (rOneT X.K) := by
  intro pins s σ H x y v u Q I rx ry h
  obtain ⟨l, xs, rfl, rfl, hT, q⟩ := h
  cases rx
  obtain ⟨t, rfl⟩ := ry
  obtain ⟨its, r, ⟨⟨cls, dd, data, sl⟩, ho, hc, n, hd⟩, hs⟩ := I.tuple hT
  simp only at hc hd
  subst hc hd
  exact wpAny_binaryOp_repeat_ref (T := "tuple") (U := "int") (by decide) ⟨_, ho, rfl⟩ (fun s' => typeIs_int s' 1 t) noFill_tuple_mul F.fills_int_mul F.slot_int_rmul repeat_tuple F.slot_int_index.lookup
    (call_meets F.slot_int_rmul (typeIs_int s 1 t) F.entry_int_rmul (F.args_int_rmul_2 _ _) (int_rmul_tuple 1 t l its.toArray n dd sl)
      ⟨ho, rfl, ⟨_, ho, rfl⟩, call_meets F.slot_tuple_mul ⟨_, ho, rfl⟩ F.entry_tuple_mul (F.args_tuple_mul_2 _ _) (tuple_mul1 l its.toArray n dd sl t) ⟨ho, ⟨.ref l, H, I, rfl, q⟩⟩⟩)
/-! ### the ways of an operator, whatever the values are -/
abbrev rOr (r r' : R2) : R2 := fun x y H Q => r x y H Q ∨ r' x y H Q
abbrev rAddA (K : PySem.W.Frag) : R2 := rOr (rI0 fun i j => .int (i + j)) (rOr (rCatA K) rCat)
theorem op_addA {X : Cx} : OpR X (binaryOp .Add) (rAddA X.K) := op_add.or (op_catA.or op_cat)
abbrev rMulA (K : PySem.W.Frag) : R2 := rOr (rI CMul fun i j => .int (i * j)) (rOr rRep (rOr (rRepT K) (rOneT K)))
theorem op_mulA {X : Cx} : OpR X (binaryOp .Mult) (rMulA X.K) := op_mul.or (op_rep.or (op_repT.or op_oneT))
abbrev rSlB (K : PySem.W.Frag) : V → Option Int → Option Int → Hp → VK → Prop := fun x lo hi H Q => rSlL K x lo hi H Q ∨ rSlA K x lo hi H Q
theorem sl_both {X : Cx} : SlR X (rSlB X.K) := sl_list.or sl_tupA
end Dl

/-! A layer of data trees over the hand layer: values as data, cells that change apart, what else stands kept. -/
namespace Dl
open PySem PySem.Spec L2

/-! ### data -/
inductive Da where
  | sc (v : V)
  | tup (ds : List Da)
  | lst (ds : List Da)
  | obj (C : Addr) (ns : List Str) (ds : List Da)
  | ro (ds : List Da)

section
variable (K : PySem.W.Frag) (F : Hp)
mutual
def Rp : Da → V → Prop
  | .sc x, v => v = x
  | .tup ds, v => ∃ a xs, v = .ref a ∧ SqT K F a xs ∧ RpA ds xs
  | .lst ds, v => ∃ a xs, v = .ref a ∧ F a = some (.lst xs) ∧ RpA ds xs
  | .obj C ns ds, v => ∃ a dx xs, v = .ref a ∧ F a = some (.ins C dx (ns.zip xs)) ∧ RpA ds xs
  | .ro ds, v => ∃ a xs, v = .ref a ∧ SqL K F a xs ∧ RpA ds xs
def RpA : List Da → List V → Prop
  | [], xs => xs = []
  | d :: ds, xs => ∃ y ys, xs = y :: ys ∧ Rp d y ∧ RpA ds ys
end
end

/-- a cell that may change -/
inductive MO where
  | lst (ds : List Da)
  | ins (C : Addr) (ns : List Str) (ds : List Da)
  | dK (kvs : List (Key × Da))
abbrev MH := Addr → Option MO
def updM (M : MH) (a : Addr) (o : MO) : MH := fun b => if b = a then some o else M b
def delM (M : MH) (a : Addr) : MH := fun b => if b = a then none else M b
theorem updM_same {M : MH} {a : Addr} {o : MO} : updM M a o a = some o := by unfold updM; rw [if_pos rfl]
theorem updM_ne {M : MH} {a b : Addr} {o : MO} (h : b ≠ a) : updM M a o b = M b := by unfold updM; rw [if_neg h]
theorem updM_updM {M : MH} {a : Addr} {o u : MO} : updM (updM M a o) a u = updM M a u := by
  funext b; unfold updM; split <;> rfl
theorem updM_comm {M : MH} {a b : Addr} {o u : MO} (h : a ≠ b) : updM (updM M a o) b u = updM (updM M b u) a o := by
  funext c; unfold updM
  by_cases h1 : c = a
  · by_cases h2 : c = b
    · exact absurd (h1.symm.trans h2) h
    · rw [if_neg h2, if_pos h1, if_pos h1]
  · by_cases h2 : c = b
    · rw [if_pos h2, if_neg h1, if_pos h2]
    · rw [if_neg h2, if_neg h1, if_neg h1, if_neg h2]
theorem updM_id {M : MH} {a : Addr} {o : MO} (h : M a = some o) : updM M a o = M := by
  funext b; unfold updM
  by_cases h1 : b = a
  · rw [if_pos h1, h1, h]
  · rw [if_neg h1]
theorem delM_upd {M : MH} {a : Addr} {o : MO} (h : M a = none) : delM (updM M a o) a = M := by
  funext b; unfold delM updM
  by_cases h1 : b = a
  · rw [if_pos h1, h1, h]
  · rw [if_neg h1, if_neg h1]
theorem delM_ne {M : MH} {a b : Addr} (h : b ≠ a) : delM M a b = M b := by unfold delM; rw [if_neg h]
theorem delM_comm {M : MH} {a b : Addr} {u : MO} (h : b ≠ a) : delM (updM M b u) a = updM (delM M a) b u := by
  funext c; unfold updM delM
  by_cases h1 : c = a
  · by_cases h2 : c = b
    · exact absurd (h2.symm.trans h1) h
    · rw [if_pos h1, if_neg h2, if_pos h1]
  · by_cases h2 : c = b
    · rw [if_neg h1]
      show (if c = b then some u else M c) = (if c = b then some u else _)
      rw [if_pos h2, if_pos h2]
    · rw [if_neg h1]
      show (if c = b then some u else M c) = (if c = b then some u else (if c = a then none else M c))
      rw [if_neg h2, if_neg h2, if_neg h1]
/-- M is part of M' -/
def SubM (M M' : MH) : Prop := ∀ a o, M a = some o → M' a = some o
theorem SubM.refl (M : MH) : SubM M M := fun _ _ h => h
theorem SubM.upd {M : MH} {a : Addr} {o : MO} (h : M a = none) : SubM M (updM M a o) := fun b u e => by
  rw [updM_ne]
  · exact e
  · rintro rfl
    rw [h] at e
    cases e
theorem SubM.trans {M M1 M2 : MH} (a : SubM M M1) (b : SubM M1 M2) : SubM M M2 := fun x o h => b x o (a x o h)

abbrev RpK (K : PySem.W.Frag) (F : Hp) : List (Key × Da) → List (Key × V) → Prop := Paired fun p q => p.1 = q.1 ∧ Rp K F p.2 q.2
def RpM (K : PySem.W.Frag) (F H : Hp) (a : Addr) : MO → Prop
  | .lst ds => ∃ xs, H a = some (.lst xs) ∧ RpA K F ds xs
  | .ins C ns ds => ∃ dx xs, H a = some (.ins C dx (ns.zip xs)) ∧ ns.length = xs.length ∧ RpA K F ds xs
  | .dK kvs => ∃ ys, H a = some (.dK ys) ∧ RpK K F kvs ys

structure OkH (K : PySem.W.Frag) (F : Hp) (M : MH) (G H : Hp) : Prop where
  ex : Same F H
  mu : ∀ a o, M a = some o → F a = none ∧ RpM K F H a o
  gx : Same G H
  gd : ∀ a o, G a = some o → F a = none ∧ M a = none

abbrev Env' := List (Option Da)
structure EnvD (K : PySem.W.Frag) (F : Hp) (ρ : Env') (σ : St) : Prop where
  len : ρ.length = σ.length
  at_ : ∀ (i : Nat) (d : Da), ρ[i]? = some (some d) → ∃ v, σ[i]? = some (some v) ∧ Rp K F d v

/-! ### monotony -/
section
variable {K : PySem.W.Frag} {F F' G G' H H' : Hp} {M M' : MH}
theorem sqT_mono (e : Same F F') {a : Addr} {xs : List V} (h : SqT K F a xs) : SqT K F' a xs := by
  rcases h with (h | ⟨o, h⟩) | h
  · exact .inl (.inl (e _ _ h))
  · exact .inl (.inr ⟨o, e _ _ h⟩)
  · exact .inr h
theorem sqL_mono (e : Same F F') {a : Addr} {xs : List V} (h : SqL K F a xs) : SqL K F' a xs := by
  rcases h with (h | ⟨o, h⟩) | h
  · exact .inl (.inl (e _ _ h))
  · exact .inl (.inr ⟨o, e _ _ h⟩)
  · exact .inr h
mutual
theorem Rp.mono (e : Same F F') : ∀ (d : Da) (v : V), Rp K F d v → Rp K F' d v
  | .sc x, v, h => by
    unfold Rp at h ⊢
    exact h
  | .tup ds, v, h => by
    unfold Rp at h ⊢
    obtain ⟨a, xs, e1, h1, h2⟩ := h
    exact ⟨a, xs, e1, sqT_mono e h1, RpA.mono e ds xs h2⟩
  | .lst ds, v, h => by
    unfold Rp at h ⊢
    obtain ⟨a, xs, e1, h1, h2⟩ := h
    exact ⟨a, xs, e1, e _ _ h1, RpA.mono e ds xs h2⟩
  | .obj C ns ds, v, h => by
    unfold Rp at h ⊢
    obtain ⟨a, dx, xs, e1, h1, h2⟩ := h
    exact ⟨a, dx, xs, e1, e _ _ h1, RpA.mono e ds xs h2⟩
  | .ro ds, v, h => by
    unfold Rp at h ⊢
    obtain ⟨a, xs, e1, h1, h2⟩ := h
    exact ⟨a, xs, e1, sqL_mono e h1, RpA.mono e ds xs h2⟩
theorem RpA.mono (e : Same F F') : ∀ (ds : List Da) (xs : List V), RpA K F ds xs → RpA K F' ds xs
  | [], xs, h => by
    unfold RpA at h ⊢
    exact h
  | d :: ds, xs, h => by
    unfold RpA at h ⊢
    obtain ⟨y, ys, e1, h1, h2⟩ := h
    exact ⟨y, ys, e1, Rp.mono e d y h1, RpA.mono e ds ys h2⟩
end
theorem rpA_nil {xs : List V} : RpA K F [] xs ↔ xs = [] := by unfold RpA; exact Iff.rfl
theorem rpA_cons {d : Da} {ds : List Da} {xs : List V} : RpA K F (d :: ds) xs ↔ ∃ y ys, xs = y :: ys ∧ Rp K F d y ∧ RpA K F ds ys := by
  constructor
  · intro h; unfold RpA at h; exact h
  · intro h; unfold RpA; exact h
theorem RpA.cons_ {d : Da} {ds : List Da} {x : V} {xs : List V} (h : Rp K F d x) (t : RpA K F ds xs) : RpA K F (d :: ds) (x :: xs) := rpA_cons.mpr ⟨x, xs, rfl, h, t⟩
theorem RpA.nil_ : RpA K F [] [] := rpA_nil.mpr rfl
theorem rp_sc {x v : V} : Rp K F (.sc x) v ↔ v = x := by unfold Rp; exact Iff.rfl
theorem rp_tup {ds : List Da} {v : V} : Rp K F (.tup ds) v ↔ ∃ a xs, v = .ref a ∧ SqT K F a xs ∧ RpA K F ds xs := by
  constructor
  · intro h; unfold Rp at h; exact h
  · intro h; unfold Rp; exact h
theorem rp_lst {ds : List Da} {v : V} : Rp K F (.lst ds) v ↔ ∃ a xs, v = .ref a ∧ F a = some (.lst xs) ∧ RpA K F ds xs := by
  constructor
  · intro h; unfold Rp at h; exact h
  · intro h; unfold Rp; exact h
theorem rp_obj {C : Addr} {ns : List Str} {ds : List Da} {v : V} : Rp K F (.obj C ns ds) v ↔ ∃ a dx xs, v = .ref a ∧ F a = some (.ins C dx (ns.zip xs)) ∧ RpA K F ds xs := by
  constructor
  · intro h; unfold Rp at h; exact h
  · intro h; unfold Rp; exact h
theorem rp_ro {ds : List Da} {v : V} : Rp K F (.ro ds) v ↔ ∃ a xs, v = .ref a ∧ SqL K F a xs ∧ RpA K F ds xs := by
  constructor
  · intro h; unfold Rp at h; exact h
  · intro h; unfold Rp; exact h
theorem RpA.length : ∀ {ds : List Da} {xs : List V}, RpA K F ds xs → ds.length = xs.length
  | [], xs, h => by rw [rpA_nil.mp h] <;> rfl
  | d :: ds, xs, h => by
    obtain ⟨y, ys, e1, h1, h2⟩ := rpA_cons.mp h
    rw [e1, List.length_cons, List.length_cons, RpA.length h2]
theorem RpA.get : ∀ {ds : List Da} {xs : List V} {i : Nat} {d : Da}, RpA K F ds xs → ds[i]? = some d → ∃ x, xs[i]? = some x ∧ Rp K F d x
  | [], _, i, d, _, e => by simp at e
  | d0 :: ds, xs, 0, d, h, e => by
    obtain ⟨y, ys, e1, h1, h2⟩ := rpA_cons.mp h
    simp at e
    subst e
    exact ⟨y, by rw [e1]; rfl, h1⟩
  | d0 :: ds, xs, i + 1, d, h, e => by
    obtain ⟨y, ys, e1, h1, h2⟩ := rpA_cons.mp h
    obtain ⟨x, hx, rx⟩ := RpA.get (i := i) (d := d) h2 (by simpa using e)
    exact ⟨x, by rw [e1]; simpa using hx, rx⟩
theorem RpA.get' {ds : List Da} {xs : List V} {i : Nat} {x : V} (h : RpA K F ds xs) (e : xs[i]? = some x) : ∃ d, ds[i]? = some d ∧ Rp K F d x := by
  have hi : i < ds.length := by rw [h.length]; exact (List.getElem?_eq_some_iff.mp e).1
  obtain ⟨x', e', r⟩ := h.get (i := i) (d := ds[i]) (List.getElem?_eq_getElem hi)
  rw [e] at e'
  cases e'
  exact ⟨_, List.getElem?_eq_getElem hi, r⟩
theorem RpA.append : ∀ {ds es : List Da} {xs ys : List V}, RpA K F ds xs → RpA K F es ys → RpA K F (ds ++ es) (xs ++ ys)
  | [], es, xs, ys, h, t => by
    rw [rpA_nil.mp h]
    exact t
  | d :: ds, es, xs, ys, h, t => by
    obtain ⟨y, zs, e1, h1, h2⟩ := rpA_cons.mp h
    rw [e1]
    exact RpA.cons_ h1 (RpA.append h2 t)
theorem RpA.take : ∀ {ds : List Da} {xs : List V} (n : Nat), RpA K F ds xs → RpA K F (ds.take n) (xs.take n)
  | _, _, 0, _ => by simpa using RpA.nil_
  | [], xs, n + 1, h => by
    rw [rpA_nil.mp h]
    simpa using RpA.nil_
  | d :: ds, xs, n + 1, h => by
    obtain ⟨y, ys, e1, h1, h2⟩ := rpA_cons.mp h
    rw [e1]
    exact RpA.cons_ h1 (RpA.take n h2)
theorem RpA.drop : ∀ {ds : List Da} {xs : List V} (n : Nat), RpA K F ds xs → RpA K F (ds.drop n) (xs.drop n)
  | _, _, 0, h => by simpa using h
  | [], xs, n + 1, h => by
    rw [rpA_nil.mp h]
    simpa using RpA.nil_
  | d :: ds, xs, n + 1, h => by
    obtain ⟨y, ys, e1, h1, h2⟩ := rpA_cons.mp h
    rw [e1]
    exact RpA.drop n h2
theorem RpA.set : ∀ {ds : List Da} {xs : List V} (i : Nat) {d : Da} {x : V}, RpA K F ds xs → Rp K F d x → RpA K F (ds.set i d) (xs.set i x)
  | [], xs, i, d, x, h, r => by
    rw [rpA_nil.mp h]
    simpa using RpA.nil_
  | d0 :: ds, xs, 0, d, x, h, r => by
    obtain ⟨y, ys, e1, h1, h2⟩ := rpA_cons.mp h
    rw [e1]
    exact RpA.cons_ r h2
  | d0 :: ds, xs, i + 1, d, x, h, r => by
    obtain ⟨y, ys, e1, h1, h2⟩ := rpA_cons.mp h
    rw [e1]
    exact RpA.cons_ h1 (RpA.set i h2 r)
theorem RpA.reverse : ∀ {ds : List Da} {xs : List V}, RpA K F ds xs → RpA K F ds.reverse xs.reverse
  | [], xs, h => by
    rw [rpA_nil.mp h]
    simpa using RpA.nil_
  | d :: ds, xs, h => by
    obtain ⟨y, ys, e1, h1, h2⟩ := rpA_cons.mp h
    rw [e1, List.reverse_cons, List.reverse_cons]
    exact RpA.append (RpA.reverse h2) (RpA.cons_ h1 RpA.nil_)
theorem RpA.flatRep {ds : List Da} {xs : List V} (h : RpA K F ds xs) : ∀ n : Nat, RpA K F (List.replicate n ds).flatten (List.replicate n xs).flatten
  | 0 => by simpa using RpA.nil_
  | n + 1 => by
    rw [List.replicate_succ, List.replicate_succ, List.flatten_cons, List.flatten_cons]
    exact h.append (RpA.flatRep h n)
theorem RpA.eraseIdx : ∀ {ds : List Da} {xs : List V} (i : Nat), RpA K F ds xs → RpA K F (ds.eraseIdx i) (xs.eraseIdx i)
  | [], xs, i, h => by
    rw [rpA_nil.mp h]
    simpa using RpA.nil_
  | d :: ds, xs, 0, h => by
    obtain ⟨y, ys, e1, h1, h2⟩ := rpA_cons.mp h
    rw [e1]
    exact h2
  | d :: ds, xs, i + 1, h => by
    obtain ⟨y, ys, e1, h1, h2⟩ := rpA_cons.mp h
    rw [e1]
    exact RpA.cons_ h1 (RpA.eraseIdx i h2)
/-- a list of flat values -/
theorem rpA_sc : ∀ {vs xs : List V}, RpA K F (vs.map Da.sc) xs ↔ xs = vs
  | [], xs => by rw [List.map_nil]; exact rpA_nil
  | v :: vs, xs => by
    rw [List.map_cons]
    constructor
    · intro h
      obtain ⟨y, ys, e1, h1, h2⟩ := rpA_cons.mp h
      rw [e1, rp_sc.mp h1, rpA_sc.mp h2]
    · rintro rfl
      exact RpA.cons_ (rp_sc.mpr rfl) (rpA_sc.mpr rfl)
theorem EnvD.mono {ρ : Env'} {σ : St} (h : EnvD K F ρ σ) (e : Same F F') : EnvD K F' ρ σ := ⟨h.len, fun i d q => by
  obtain ⟨v, e1, r⟩ := h.at_ i d q
  exact ⟨v, e1, Rp.mono e d v r⟩⟩
theorem EnvD.set {ρ : Env'} {σ : St} {d : Da} {v : V} (h : EnvD K F ρ σ) (i : Nat) (r : Rp K F d v) : EnvD K F (ρ.set i (some d)) (σ.set i (some v)) := ⟨by rw [List.length_set, List.length_set]; exact h.len, fun j e q => by
  by_cases hj : i = j
  · subst hj
    by_cases hi : i < ρ.length
    · rw [List.getElem?_set_self hi] at q
      cases q
      exact ⟨v, by rw [List.getElem?_set_self (by rw [← h.len]; exact hi)], r⟩
    · rw [List.getElem?_eq_none (by rw [List.length_set]; omega)] at q
      cases q
  · rw [List.getElem?_set_ne hj] at q
    rw [List.getElem?_set_ne hj]
    exact h.at_ j e q⟩
theorem EnvD.forget {ρ : Env'} {σ : St} (h : EnvD K F ρ σ) (i : Nat) (v : Option V) : EnvD K F (ρ.set i none) (σ.set i v) := ⟨by rw [List.length_set, List.length_set]; exact h.len, fun j e q => by
  by_cases hj : i = j
  · subst hj
    by_cases hi : i < ρ.length
    · rw [List.getElem?_set_self hi] at q
      cases q
    · rw [List.getElem?_eq_none (by rw [List.length_set]; omega)] at q
      cases q
  · rw [List.getElem?_set_ne hj] at q
    rw [List.getElem?_set_ne hj]
    exact h.at_ j e q⟩
theorem RpM.mono {a : Addr} (e : Same F F') (hH : H' a = H a) : ∀ {o : MO}, RpM K F H a o → RpM K F' H' a o
  | .lst ds, ⟨xs, h1, h2⟩ => ⟨xs, hH.trans h1, RpA.mono e _ _ h2⟩
  | .ins C ns ds, ⟨dx, xs, h1, hl, h2⟩ => ⟨dx, xs, hH.trans h1, hl, RpA.mono e _ _ h2⟩
  | .dK kvs, ⟨xs, h1, h2⟩ => ⟨xs, hH.trans h1, Paired.mapP h2 fun p q z => ⟨z.1, Rp.mono e _ _ z.2⟩⟩
theorem RpM.here {a : Addr} : ∀ {o : MO}, RpM K F H a o → ∃ u, H a = some u
  | .lst ds, ⟨xs, h1, h2⟩ => ⟨_, h1⟩
  | .ins C ns ds, ⟨dx, xs, h1, hl, h2⟩ => ⟨_, h1⟩
  | .dK kvs, ⟨xs, h1, h2⟩ => ⟨_, h1⟩
theorem OkH.noM (h : OkH K F M G H) {p : Addr} (hp : H p = none) : M p = none := by
  cases q : M p with
  | none => rfl
  | some o =>
    obtain ⟨u, e⟩ := (h.mu p o q).2.here
    rw [hp] at e
    cases e
theorem OkH.noF (h : OkH K F M G H) {p : Addr} (hp : H p = none) : F p = none := h.ex.free hp
theorem OkH.noG (h : OkH K F M G H) {p : Addr} (hp : H p = none) : G p = none := h.gx.free hp
theorem sm_new {p : Addr} {o : HO} (hp : H p = none) : Same H (upd H p o) := fun b u e => by
  rw [upd_ne (ne_of_none e hp)]
  exact e
theorem sm_both {p : Addr} {o : HO} (h : Same F H) : Same (upd F p o) (upd H p o) := fun b u e => by
  by_cases hb : b = p
  · subst hb
    rw [upd_same] at e ⊢
    exact e
  · rw [upd_ne hb] at e ⊢
    exact h _ _ e
theorem sm_right {p : Addr} {o : HO} (h : Same F H) (hp : F p = none) : Same F (upd H p o) := fun b u e => by
  rw [upd_ne (ne_of_none e hp)]
  exact h _ _ e
/-- a new object, never to change -/
theorem OkH.new (h : OkH K F M G H) {p : Addr} {o : HO} (hp : H p = none) : OkH K (upd F p o) M G (upd H p o) where
  ex := sm_both h.ex
  mu := fun a u e => by
    obtain ⟨h1, h2⟩ := h.mu a u e
    obtain ⟨z, hz⟩ := h2.here
    have ne : a ≠ p := ne_of_none hz hp
    refine ⟨by rw [upd_ne ne]; exact h1, h2.mono (sm_new (h.noF hp)) (upd_ne ne)⟩
  gx := sm_right h.gx (h.noG hp)
  gd := fun a u e => by
    obtain ⟨h1, h2⟩ := h.gd a u e
    have ne : a ≠ p := ne_of_none (h.gx a u e) hp
    exact ⟨by rw [upd_ne ne]; exact h1, h2⟩
/-- a new cell -/
theorem OkH.newM (h : OkH K F M G H) {p : Addr} {o : HO} {u : MO} (hp : H p = none) (r : RpM K F (upd H p o) p u) : OkH K F (updM M p u) G (upd H p o) where
  ex := sm_right h.ex (h.noF hp)
  mu := fun a z e => by
    by_cases ha : a = p
    · subst ha
      rw [updM_same] at e
      cases e
      exact ⟨h.noF hp, r⟩
    · rw [updM_ne ha] at e
      obtain ⟨h1, h2⟩ := h.mu a z e
      exact ⟨h1, h2.mono (Same.refl F) (upd_ne ha)⟩
  gx := sm_right h.gx (h.noG hp)
  gd := fun a z e => by
    obtain ⟨h1, h2⟩ := h.gd a z e
    have ne : a ≠ p := ne_of_none (h.gx a z e) hp
    exact ⟨h1, by rw [updM_ne ne]; exact h2⟩
/-- a cell is changed -/
theorem OkH.put (h : OkH K F M G H) {p : Addr} {o : HO} {u u' : MO} (hp : M p = some u) (r : RpM K F (upd H p o) p u') : OkH K F (updM M p u') G (upd H p o) where
  ex := sm_right h.ex (h.mu p u hp).1
  mu := fun a z e => by
    by_cases ha : a = p
    · subst ha
      rw [updM_same] at e
      cases e
      exact ⟨(h.mu a u hp).1, r⟩
    · rw [updM_ne ha] at e
      obtain ⟨h1, h2⟩ := h.mu a z e
      exact ⟨h1, h2.mono (Same.refl F) (upd_ne ha)⟩
  gx := sm_right h.gx (by
    cases q : G p with
    | none => rfl
    | some z =>
      rw [(h.gd p z q).2] at hp
      cases hp)
  gd := fun a z e => by
    obtain ⟨h1, h2⟩ := h.gd a z e
    have ne : a ≠ p := by
      rintro rfl
      rw [h2] at hp
      cases hp
    exact ⟨h1, by rw [updM_ne ne]; exact h2⟩
/-- fewer cells are told -/
theorem OkH.sub (h : OkH K F M G H) (s : SubM M' M) : OkH K F M' G H where
  ex := h.ex
  mu := fun a o e => h.mu a o (s a o e)
  gx := h.gx
  gd := fun a o e => by
    obtain ⟨h1, h2⟩ := h.gd a o e
    refine ⟨h1, ?_⟩
    cases q : M' a with
    | none => rfl
    | some u =>
      rw [s a u q] at h2
      cases h2
/-- a cell that changes no more -/
theorem OkH.freeze (h : OkH K F M G H) {p : Addr} {u : MO} {o : HO} (hp : M p = some u) (ho : H p = some o) : OkH K (upd F p o) (delM M p) G H where
  ex := fun b z e => by
    by_cases hb : b = p
    · subst hb
      rw [upd_same] at e
      cases e
      exact ho
    · rw [upd_ne hb] at e
      exact h.ex b z e
  mu := fun a z e => by
    have ne : a ≠ p := by
      rintro rfl
      unfold delM at e
      rw [if_pos rfl] at e
      cases e
    rw [delM_ne ne] at e
    obtain ⟨h1, h2⟩ := h.mu a z e
    exact ⟨by rw [upd_ne ne]; exact h1, h2.mono (sm_new (h.mu p u hp).1) rfl⟩
  gx := h.gx
  gd := fun a z e => by
    obtain ⟨h1, h2⟩ := h.gd a z e
    have ne : a ≠ p := by
      rintro rfl
      rw [h2] at hp
      cases hp
    exact ⟨by rw [upd_ne ne]; exact h1, by rw [delM_ne ne]; exact h2⟩
theorem sm_freeze (h : OkH K F M G H) {p : Addr} {u : MO} {o : HO} (hp : M p = some u) : Same F (upd F p o) := sm_new (h.mu p u hp).1
end
end Dl

namespace Dl
open PySem PySem.Spec L2

/-! ### what an expression, a test, arguments, a target, a statement does, by data -/
section
variable (K : PySem.W.Frag)
def EvP (te : TE) (ρ : Env') (M : MH) (P : Da → MH → Prop) : Prop :=
  ∀ (σ : St) (F G H : Hp) (Q : VK), EnvD K F ρ σ → OkH K F M G H → (∀ v d F' M' H', Same F F' → OkH K F' M' G H' → Rp K F' d v → P d M' → Q v H') → te σ H Q
def TvP (tt : TT) (ρ : Env') (M : MH) (P : Bool → MH → Prop) : Prop :=
  ∀ (σ : St) (F G H : Hp) (Q : Bool → Hp → Prop), EnvD K F ρ σ → OkH K F M G H → (∀ b F' M' H', Same F F' → OkH K F' M' G H' → P b M' → Q b H') → tt σ H Q
def AvP (ta : TA) (ρ : Env') (M : MH) (P : List Da → MH → Prop) : Prop :=
  ∀ (σ : St) (F G H : Hp) (Q : List V → Hp → Prop), EnvD K F ρ σ → OkH K F M G H → (∀ vs ds F' M' H', Same F F' → OkH K F' M' G H' → RpA K F' ds vs → P ds M' → Q vs H') → ta σ H Q
def GvP (g : TG) (d : Da) (ρ : Env') (M : MH) (P : Env' → MH → Prop) : Prop :=
  ∀ (v : V) (σ : St) (F G H : Hp) (Q : St → Hp → Prop), Rp K F d v → EnvD K F ρ σ → OkH K F M G H → (∀ σ' ρ' F' M' H', Same F F' → EnvD K F' ρ' σ' → OkH K F' M' G H' → P ρ' M' → Q σ' H') → g v σ H Q
def GsP (g : TGs) (ds : List Da) (ρ : Env') (M : MH) (P : Env' → MH → Prop) : Prop :=
  ∀ (vs : List V) (σ : St) (F G H : Hp) (Q : St → Hp → Prop), RpA K F ds vs → EnvD K F ρ σ → OkH K F M G H → (∀ σ' ρ' F' M' H', Same F F' → EnvD K F' ρ' σ' → OkH K F' M' G H' → P ρ' M' → Q σ' H') → g vs σ H Q
structure DE where
  nx : Env' → MH → Prop
  rt : Da → MH → Prop
  bk : Env' → MH → Prop := fun _ _ => False
  ct : Env' → MH → Prop := fun _ _ => False
structure Match (F G : Hp) (D : DE) (D0 : Ends) : Prop where
  nx : ∀ σ ρ F' M' H', Same F F' → EnvD K F' ρ σ → OkH K F' M' G H' → D.nx ρ M' → D0.nx σ H'
  rt : ∀ v d F' M' H', Same F F' → OkH K F' M' G H' → Rp K F' d v → D.rt d M' → D0.rt v H'
  bk : ∀ σ ρ F' M' H', Same F F' → EnvD K F' ρ σ → OkH K F' M' G H' → D.bk ρ M' → D0.bk σ H'
  ct : ∀ σ ρ F' M' H', Same F F' → EnvD K F' ρ σ → OkH K F' M' G H' → D.ct ρ M' → D0.ct σ H'
def StP (ts : TS) (ρ : Env') (M : MH) (D : DE) : Prop :=
  ∀ (σ : St) (F G H : Hp) (D0 : Ends), EnvD K F ρ σ → OkH K F M G H → Match K F G D D0 → ts D0 σ H
/-- a two-place operation on values; a one-place one; a call; a method -/
def ROp (r : R2) (d e : Da) (M : MH) (P : Da → MH → Prop) : Prop :=
  ∀ (x y : V) (F G H : Hp) (Q : VK), Rp K F d x → Rp K F e y → OkH K F M G H → (∀ v d F' M' H', Same F F' → OkH K F' M' G H' → Rp K F' d v → P d M' → Q v H') → r x y H Q
def RCl (r : List V → Hp → VK → Prop) (ds : List Da) (M : MH) (P : Da → MH → Prop) : Prop :=
  ∀ (xs : List V) (F G H : Hp) (Q : VK), RpA K F ds xs → OkH K F M G H → (∀ v d F' M' H', Same F F' → OkH K F' M' G H' → Rp K F' d v → P d M' → Q v H') → r xs H Q
def RMt (r : V → List V → Hp → VK → Prop) (d : Da) (ds : List Da) (M : MH) (P : Da → MH → Prop) : Prop :=
  ∀ (x : V) (xs : List V) (F G H : Hp) (Q : VK), Rp K F d x → RpA K F ds xs → OkH K F M G H → (∀ v d F' M' H', Same F F' → OkH K F' M' G H' → Rp K F' d v → P d M' → Q v H') → r x xs H Q
def RSet (r : V → V → V → Hp → (Hp → Prop) → Prop) (d e z : Da) (M : MH) (P : MH → Prop) : Prop :=
  ∀ (x y u : V) (F G H : Hp) (Q : Hp → Prop), Rp K F d x → Rp K F e y → Rp K F z u → OkH K F M G H → (∀ F' M' H', Same F F' → OkH K F' M' G H' → P M' → Q H') → r x y u H Q
/-- what is known of truth -/
def Tru (d : Da) (M : MH) (b : Bool) : Prop := match d with
  | .sc .non => b = false
  | .sc (.bl c) => b = c
  | .sc (.int i) => b = (i != 0)
  | .sc (.ref a) => match M a with
    | some (.lst ds) => b = !ds.isEmpty
    | _ => False
  | .tup ds => b = !ds.isEmpty
  | .lst ds => b = !ds.isEmpty
  | _ => False
end

section
variable {K : PySem.W.Frag} {ρ : Env'} {M M1 : MH} {ta tb tc te : TE} {t u : TT} {P : Da → MH → Prop} {PB : Bool → MH → Prop} {d e : Da} {i : Nat}

theorem EvP.mono {P' : Da → MH → Prop} (h : EvP K te ρ M P) (k : ∀ d M', P d M' → P' d M') : EvP K te ρ M P' := fun σ F G H Q hE hO q =>
  h σ F G H Q hE hO fun v d F' M' H' s o r p => q v d F' M' H' s o r (k d M' p)
theorem TvP.mono {P' : Bool → MH → Prop} (h : TvP K t ρ M PB) (k : ∀ d M', PB d M' → P' d M') : TvP K t ρ M P' := fun σ F G H Q hE hO q =>
  h σ F G H Q hE hO fun b F' M' H' s o p => q b F' M' H' s o (k b M' p)
/-- the value is a cell that changes no more -/
theorem ev_frzL (h : EvP K te ρ M fun d M' => ∃ a ds, d = .sc (.ref a) ∧ M' a = some (.lst ds) ∧ P (.lst ds) (delM M' a)) : EvP K te ρ M P := fun σ F G H Q hE hO q =>
  h σ F G H Q hE hO fun v d F' M' H' s o r ⟨a, ds, e, hm, p⟩ => by
    subst e
    have hv := rp_sc.mp r
    subst hv
    obtain ⟨xs, hx, rx⟩ := (o.mu a _ hm).2
    exact q _ _ (upd F' a (.lst xs)) _ H' (s.trans (sm_freeze o hm)) (o.freeze hm hx) (rp_lst.mpr ⟨a, xs, rfl, upd_same, RpA.mono (sm_freeze o hm) _ _ rx⟩) p
theorem ev_frzO (h : EvP K te ρ M fun d M' => ∃ a C ns ds, d = .sc (.ref a) ∧ M' a = some (.ins C ns ds) ∧ P (.obj C ns ds) (delM M' a)) : EvP K te ρ M P := fun σ F G H Q hE hO q =>
  h σ F G H Q hE hO fun v d F' M' H' s o r ⟨a, C, ns, ds, e, hm, p⟩ => by
    subst e
    have hv := rp_sc.mp r
    subst hv
    obtain ⟨dx, xs, hx, _, rx⟩ := (o.mu a _ hm).2
    exact q _ _ (upd F' a (.ins C dx (ns.zip xs))) _ H' (s.trans (sm_freeze o hm)) (o.freeze hm hx) (rp_obj.mpr ⟨a, dx, xs, rfl, upd_same, RpA.mono (sm_freeze o hm) _ _ rx⟩) p
theorem ev_sub (h : EvP K te ρ M fun d M' => ∃ M'', SubM M'' M' ∧ P d M'') : EvP K te ρ M P := fun σ F G H Q hE hO q =>
  h σ F G H Q hE hO fun v d F' M' H' s o r ⟨M'', z, p⟩ => q v d F' M'' H' s (o.sub z) r p

/-! ### names, constants -/
theorem ev_var (h : ρ[i]? = some (some d)) (q : P d M) : EvP K (tVar i) ρ M P := fun σ F G H Q hE hO k => by
  obtain ⟨v, e, r⟩ := hE.at_ i d h
  exact ⟨v, e, k v d F M H (Same.refl F) hO r q⟩
theorem ev_c {v : V} (q : P (.sc v) M) : EvP K (tC v) ρ M P := fun σ F G H Q hE hO k => k v (.sc v) F M H (Same.refl F) hO (rp_sc.mpr rfl) q
/-- a constant of the module that is data of the written part -/
theorem ev_k {v : V} (hd : ∀ F, Rp K F d v) (q : P d M) : EvP K (tC v) ρ M P := fun σ F G H Q hE hO k => k v d F M H (Same.refl F) hO (hd F) q

/-! ### two-place operations -/
theorem ev_op {r : R2} (h : EvP K ta ρ M fun d M1 => EvP K tb ρ M1 fun e M2 => ROp K r d e M2 P) : EvP K (tOp r ta tb) ρ M P := fun σ F G H Q hE hO k =>
  h σ F G H _ hE hO fun x d F1 M1 H1 s1 o1 r1 h1 => h1 σ F1 G H1 _ (hE.mono s1) o1 fun y e F2 M2 H2 s2 o2 r2 h2 =>
    h2 x y F2 G H2 Q (Rp.mono s2 _ _ r1) r2 o2 fun v d' F' M' H' s3 o3 r3 p => k v d' F' M' H' ((s1.trans s2).trans s3) o3 r3 p
theorem rop_I0 {g : Int → Int → V} {a b : Int} (q : P (.sc (g a b)) M) : ROp K (rI0 g) (.sc (.int a)) (.sc (.int b)) M P := fun x y F G H Q rx ry hO k => by
  have ex := rp_sc.mp rx
  have ey := rp_sc.mp ry
  subst ex ey
  exact ⟨a, b, rfl, rfl, k _ _ F M H (Same.refl F) hO (rp_sc.mpr rfl) q⟩
theorem rop_I {C : Int → Int → Prop} {g : Int → Int → V} {a b : Int} (hc : C a b) (q : P (.sc (g a b)) M) : ROp K (rI C g) (.sc (.int a)) (.sc (.int b)) M P := fun x y F G H Q rx ry hO k => by
  have ex := rp_sc.mp rx
  have ey := rp_sc.mp ry
  subst ex ey
  exact ⟨a, b, rfl, rfl, hc, k _ _ F M H (Same.refl F) hO (rp_sc.mpr rfl) q⟩
theorem rop_or1 {r r' : R2} (h : ROp K r d e M P) : ROp K (fun x y H Q => r x y H Q ∨ r' x y H Q) d e M P := fun x y F G H Q rx ry hO k => .inl (h x y F G H Q rx ry hO k)
theorem rop_or2 {r r' : R2} (h : ROp K r' d e M P) : ROp K (fun x y H Q => r x y H Q ∨ r' x y H Q) d e M P := fun x y F G H Q rx ry hO k => .inr (h x y F G H Q rx ry hO k)
theorem rop_eq {x y : V} (hs : scal x y = true) (q : P (.sc (.bl (decide (x = y)))) M) : ROp K rEq (.sc x) (.sc y) M P := fun a b F G H Q rx ry hO k => by
  have ex := rp_sc.mp rx
  have ey := rp_sc.mp ry
  subst ex ey
  exact ⟨hs, k _ _ F M H (Same.refl F) hO (rp_sc.mpr rfl) q⟩
theorem rop_ne {x y : V} (hs : scal x y = true) (q : P (.sc (.bl (!decide (x = y)))) M) : ROp K rNe (.sc x) (.sc y) M P := fun a b F G H Q rx ry hO k => by
  have ex := rp_sc.mp rx
  have ey := rp_sc.mp ry
  subst ex ey
  exact ⟨hs, k _ _ F M H (Same.refl F) hO (rp_sc.mpr rfl) q⟩
/-- is None, of a scalar; of a made thing -/
theorem rop_isN {x : V} (q : P (.sc (.bl (decide (x = .non)))) M) : ROp K rIsN (.sc x) (.sc .non) M P := fun a b F G H Q rx ry hO k => by
  have ex := rp_sc.mp rx
  have ey := rp_sc.mp ry
  subst ex ey
  exact ⟨rfl, k _ _ F M H (Same.refl F) hO (rp_sc.mpr rfl) q⟩
theorem rop_notN {x : V} (q : P (.sc (.bl (!decide (x = .non)))) M) : ROp K rNotN (.sc x) (.sc .non) M P := fun a b F G H Q rx ry hO k => by
  have ex := rp_sc.mp rx
  have ey := rp_sc.mp ry
  subst ex ey
  exact ⟨rfl, k _ _ F M H (Same.refl F) hO (rp_sc.mpr rfl) q⟩
theorem Rp.refOf {F : Hp} {v : V} (hd : ∀ x, d ≠ .sc x) (r : Rp K F d v) : ∃ a, v = .ref a := by
  cases d with
  | sc x => exact absurd rfl (hd x)
  | tup ds => obtain ⟨a, _, e, _⟩ := rp_tup.mp r; exact ⟨a, e⟩
  | lst ds => obtain ⟨a, _, e, _⟩ := rp_lst.mp r; exact ⟨a, e⟩
  | obj C ns ds => obtain ⟨a, _, _, e, _⟩ := rp_obj.mp r; exact ⟨a, e⟩
  | ro ds => obtain ⟨a, _, e, _⟩ := rp_ro.mp r; exact ⟨a, e⟩
theorem rop_isN0 (hd : ∀ x, d ≠ .sc x) (q : P (.sc (.bl false)) M) : ROp K rIsN d (.sc .non) M P := fun a b F G H Q rx ry hO k => by
  have ey := rp_sc.mp ry
  subst ey
  obtain ⟨c, rfl⟩ := Rp.refOf hd rx
  refine ⟨rfl, ?_⟩
  rw [show decide (V.ref c = V.non) = false from decide_eq_false fun z => nomatch z]
  exact k _ _ F M H (Same.refl F) hO (rp_sc.mpr rfl) q
theorem rop_notN0 (hd : ∀ x, d ≠ .sc x) (q : P (.sc (.bl true)) M) : ROp K rNotN d (.sc .non) M P := fun a b F G H Q rx ry hO k => by
  have ey := rp_sc.mp ry
  subst ey
  obtain ⟨c, rfl⟩ := Rp.refOf hd rx
  refine ⟨rfl, ?_⟩
  rw [show decide (V.ref c = V.non) = false from decide_eq_false fun z => nomatch z]
  exact k _ _ F M H (Same.refl F) hO (rp_sc.mpr rfl) q
/-- items -/
theorem atI_rp {F : Hp} {ds : List Da} {xs : List V} {z : Int} (h : RpA K F ds xs) (a : atI ds z = some d) : ∃ v, atI xs z = some v ∧ Rp K F d v := by
  unfold atI at a ⊢
  rw [← h.length]
  cases q : ixN ds.length z with
  | none =>
    rw [q] at a
    cases a
  | some j =>
    rw [q] at a
    exact h.get (show ds[j]? = some d from a)
theorem rop_ixL {ds : List Da} {z : Int} (a : atI ds z = some d) (q : P d M) : ROp K (rIxL K) (.lst ds) (.sc (.int z)) M P := fun x y F G H Q rx ry hO k => by
  obtain ⟨p, xs, rfl, hs, hr⟩ := rp_lst.mp rx
  have ey := rp_sc.mp ry
  subst ey
  obtain ⟨v, av, rv⟩ := atI_rp hr a
  exact ⟨p, xs, z, v, rfl, rfl, .inl (.inl (hO.ex _ _ hs)), av, k v d F M H (Same.refl F) hO rv q⟩
theorem rop_ixM {ds : List Da} {p : Addr} {z : Int} (hm : M p = some (.lst ds)) (a : atI ds z = some d) (q : P d M) : ROp K (rIxL K) (.sc (.ref p)) (.sc (.int z)) M P := fun x y F G H Q rx ry hO k => by
  have ex := rp_sc.mp rx
  have ey := rp_sc.mp ry
  subst ex ey
  obtain ⟨xs, hx, hr⟩ := (hO.mu p _ hm).2
  obtain ⟨v, av, rv⟩ := atI_rp hr a
  exact ⟨p, xs, z, v, rfl, rfl, .inl (.inl hx), av, k v d F M H (Same.refl F) hO rv q⟩
theorem rop_ixT {ds : List Da} {z : Int} (a : atI ds z = some d) (q : P d M) : ROp K (rIxT K) (.tup ds) (.sc (.int z)) M P := fun x y F G H Q rx ry hO k => by
  obtain ⟨p, xs, rfl, hs, hr⟩ := rp_tup.mp rx
  have ey := rp_sc.mp ry
  subst ey
  obtain ⟨v, av, rv⟩ := atI_rp hr a
  exact ⟨p, xs, z, v, rfl, rfl, sqT_mono hO.ex hs, av, k v d F M H (Same.refl F) hO rv q⟩
/-- any of the three -/
theorem rop_ix_L {ds : List Da} {z : Int} (a : atI ds z = some d) (q : P d M) : ROp K (rIx K) (.lst ds) (.sc (.int z)) M P := rop_or1 (rop_ixL a q)
theorem rop_ix_M {ds : List Da} {p : Addr} {z : Int} (hm : M p = some (.lst ds)) (a : atI ds z = some d) (q : P d M) : ROp K (rIx K) (.sc (.ref p)) (.sc (.int z)) M P := rop_or1 (rop_ixM hm a q)
theorem rop_ix_T {ds : List Da} {z : Int} (a : atI ds z = some d) (q : P d M) : ROp K (rIx K) (.tup ds) (.sc (.int z)) M P := rop_or2 (rop_or1 (rop_ixT a q))
/-- in, not in, among flat things -/
theorem rop_inT {neg : Bool} {x : V} {vs : List V} (hx : flatV x = true) (hf : vs.all flatV = true) (q : P (.sc (.bl (if neg then !inV x vs else inV x vs))) M) : ROp K (rIn K neg) (.sc x) (.tup (vs.map Da.sc)) M P := fun a b F G H Q rx ry hO k => by
  have ex := rp_sc.mp rx
  subst ex
  obtain ⟨p, xs, rfl, hs, hr⟩ := rp_tup.mp ry
  have ev := rpA_sc.mp hr
  subst ev
  exact ⟨p, _, rfl, .inr (sqT_mono hO.ex hs), hx, hf, k _ _ F M H (Same.refl F) hO (rp_sc.mpr rfl) q⟩
theorem rop_inL {neg : Bool} {x : V} {vs : List V} (hx : flatV x = true) (hf : vs.all flatV = true) (q : P (.sc (.bl (if neg then !inV x vs else inV x vs))) M) : ROp K (rIn K neg) (.sc x) (.lst (vs.map Da.sc)) M P := fun a b F G H Q rx ry hO k => by
  have ex := rp_sc.mp rx
  subst ex
  obtain ⟨p, xs, rfl, hs, hr⟩ := rp_lst.mp ry
  have ev := rpA_sc.mp hr
  subst ev
  exact ⟨p, _, rfl, .inl (.inl (.inl (hO.ex _ _ hs))), hx, hf, k _ _ F M H (Same.refl F) hO (rp_sc.mpr rfl) q⟩
/-- tuple + tuple -/
theorem rop_catA {ds es : List Da} (hz : ds.length + es.length ≤ 100000) (q : P (.tup (ds ++ es)) M) : ROp K (rCatA K) (.tup ds) (.tup es) M P := fun x y F G H Q rx ry hO k => by
  obtain ⟨a, xs, rfl, ha, ra⟩ := rp_tup.mp rx
  obtain ⟨b, ys, rfl, hb, rb⟩ := rp_tup.mp ry
  have l1 := ra.length
  have l2 := rb.length
  have hl : xs.length + ys.length ≤ sizeLine := Nat.le_trans (by omega) (show 100000 ≤ sizeLine by decide)
  refine ⟨a, b, xs, ys, rfl, rfl, sqT_mono hO.ex ha, sqT_mono hO.ex hb, hl, ?_⟩
  have rab := ra.append rb
  refine ⟨fun e => ?_, fun e1 e2 => ?_, fun e1 e2 p hp => ?_⟩
  · have ed : ds = [] := List.eq_nil_of_length_eq_zero (by rw [l1, e] <;> rfl)
    subst ed
    exact k _ _ F M H (Same.refl F) hO (rp_tup.mpr ⟨b, ys, rfl, hb, rb⟩) q
  · have ee : es = [] := List.eq_nil_of_length_eq_zero (by rw [l2, e2] <;> rfl)
    subst ee
    rw [List.append_nil] at q
    exact k _ _ F M H (Same.refl F) hO (rp_tup.mpr ⟨a, xs, rfl, ha, ra⟩) q
  · exact k _ _ (upd F p (.tup (xs ++ ys))) M _ (sm_new (hO.noF hp)) (hO.new hp) (rp_tup.mpr ⟨p, _, rfl, .inl (.inl upd_same), RpA.mono (sm_new (hO.noF hp)) _ _ rab⟩) q
end
end Dl

namespace Dl
open PySem PySem.Spec L2
theorem sz_of {n : Nat} (h : n ≤ 100000) : n ≤ sizeLine := Nat.le_trans h (by decide)
theorem sz_lt {n : Nat} (h : n < 100000) : n < sizeLine := Nat.lt_of_lt_of_le h (by decide)
section
variable {K : PySem.W.Frag} {ρ : Env'} {M M1 : MH} {ta tb tc te : TE} {t u : TT} {P : Da → MH → Prop} {PB : Bool → MH → Prop} {d e : Da} {i : Nat}

/-! ### lists: +, *, slices -/
/-- the list at d's value: its items, as they stand -/
def LstAt (d : Da) (M : MH) (ds : List Da) : Prop := match d with
  | .lst es => es = ds
  | .sc (.ref p) => M p = some (.lst ds)
  | _ => False
theorem lstAt {F G H : Hp} {x : V} {ds : List Da} (h : LstAt d M ds) (r : Rp K F d x) (hO : OkH K F M G H) : ∃ a xs, x = .ref a ∧ H a = some (.lst xs) ∧ RpA K F ds xs := by
  cases d with
  | lst es =>
    obtain ⟨a, xs, e1, h1, h2⟩ := rp_lst.mp r
    have e : es = ds := h
    subst e
    exact ⟨a, xs, e1, hO.ex _ _ h1, h2⟩
  | sc v =>
    have e := rp_sc.mp r
    subst e
    cases x with
    | ref p =>
      have hm : M p = some (.lst ds) := h
      obtain ⟨xs, hx, rx⟩ := (hO.mu p _ hm).2
      exact ⟨p, xs, rfl, hx, rx⟩
    | _ => exact h.elim
  | tup es => exact h.elim
  | obj C ns es => exact h.elim
  | ro es => exact h.elim
theorem fin_lst {F G H : Hp} {Q : VK} {ds : List Da} {xs : List V} {p : Addr} (hO : OkH K F M G H) (hp : H p = none) (r : RpA K F ds xs) (q : P (.lst ds) M)
    (k : ∀ v d F' M' H', Same F F' → OkH K F' M' G H' → Rp K F' d v → P d M' → Q v H') : Q (.ref p) (upd H p (.lst xs)) :=
  k _ _ (upd F p (.lst xs)) M _ (sm_new (hO.noF hp)) (hO.new hp) (rp_lst.mpr ⟨p, _, rfl, upd_same, RpA.mono (sm_new (hO.noF hp)) _ _ r⟩) q
theorem fin_tup {F G H : Hp} {Q : VK} {ds : List Da} {xs : List V} {p : Addr} (hO : OkH K F M G H) (hp : H p = none) (r : RpA K F ds xs) (q : P (.tup ds) M)
    (k : ∀ v d F' M' H', Same F F' → OkH K F' M' G H' → Rp K F' d v → P d M' → Q v H') : Q (.ref p) (upd H p (.tup xs)) :=
  k _ _ (upd F p (.tup xs)) M _ (sm_new (hO.noF hp)) (hO.new hp) (rp_tup.mpr ⟨p, _, rfl, .inl (.inl upd_same), RpA.mono (sm_new (hO.noF hp)) _ _ r⟩) q
/-- a new list that is to change -/
theorem fin_cell {F G H : Hp} {Q : VK} {ds : List Da} {xs : List V} {p : Addr} (hO : OkH K F M G H) (hp : H p = none) (r : RpA K F ds xs) (q : ∀ p, M p = none → P (.sc (.ref p)) (updM M p (.lst ds)))
    (k : ∀ v d F' M' H', Same F F' → OkH K F' M' G H' → Rp K F' d v → P d M' → Q v H') : Q (.ref p) (upd H p (.lst xs)) :=
  k _ _ F (updM M p (.lst ds)) _ (Same.refl F) (hO.newM hp ⟨xs, upd_same, r⟩) (rp_sc.mpr rfl) (q p (hO.noM hp))
theorem fin_v {F G H : Hp} {Q : VK} {v : V} (hO : OkH K F M G H) (q : P (.sc v) M) (k : ∀ v d F' M' H', Same F F' → OkH K F' M' G H' → Rp K F' d v → P d M' → Q v H') : Q v H :=
  k _ _ F M _ (Same.refl F) hO (rp_sc.mpr rfl) q
theorem rop_cat {ds es : List Da} (hd : LstAt d M ds) (he : LstAt e M es) (hz : ds.length + es.length ≤ 100000) (q : P (.lst (ds ++ es)) M) : ROp K rCat d e M P := fun x y F G H Q rx ry hO k => by
  obtain ⟨a, xs, rfl, ha, ra⟩ := lstAt hd rx hO
  obtain ⟨b, ys, rfl, hb, rb⟩ := lstAt he ry hO
  have l1 := ra.length
  have l2 := rb.length
  exact ⟨a, b, xs, ys, rfl, rfl, ha, hb, sz_of (by omega), fun p hp => fin_lst hO hp (ra.append rb) q k⟩
theorem rop_rep {ds : List Da} {n : Int} (hd : LstAt d M ds) (h0 : 0 ≤ n) (h1 : n ≤ 1000) (hz : ds.length ≤ 100) (q : P (.lst (List.replicate n.toNat ds).flatten) M) : ROp K rRep d (.sc (.int n)) M P := fun x y F G H Q rx ry hO k => by
  obtain ⟨a, xs, rfl, ha, ra⟩ := lstAt hd rx hO
  have ey := rp_sc.mp ry
  subst ey
  have l1 := ra.length
  have hm : xs.length * n.toNat ≤ 100 * 1000 := Nat.mul_le_mul (by omega) (by omega)
  exact ⟨a, n, xs, rfl, rfl, ha, by omega, by omega, sz_of (by omega), fun p hp => fin_lst hO hp (ra.flatRep _) q k⟩
theorem rop_repT {ds : List Da} {n : Int} (hn : ds ≠ []) (h0 : 2 ≤ n) (h1 : n ≤ 1000) (hz : ds.length ≤ 100) (q : P (.tup (List.replicate n.toNat ds).flatten) M) : ROp K (rRepT K) (.tup ds) (.sc (.int n)) M P := fun x y F G H Q rx ry hO k => by
  obtain ⟨a, xs, rfl, ha, ra⟩ := rp_tup.mp rx
  have ey := rp_sc.mp ry
  subst ey
  have l1 := ra.length
  refine ⟨a, n, xs, rfl, rfl, sqT_mono hO.ex ha, ?_, h0, h1, by omega, fun p hp => fin_tup hO hp (ra.flatRep _) q k⟩
  rintro rfl
  exact hn (List.eq_nil_of_length_eq_zero l1)
/-- a tuple once -/
theorem rop_oneT {ds : List Da} (q : P (.tup ds) M) : ROp K (rOneT K) (.tup ds) (.sc (.int 1)) M P := fun x y F G H Q rx ry hO k => by
  obtain ⟨a, xs, rfl, ha, ra⟩ := rp_tup.mp rx
  have ey := rp_sc.mp ry
  subst ey
  exact ⟨a, xs, rfl, rfl, sqT_mono hO.ex ha, k _ _ F M H (Same.refl F) hO (rp_tup.mpr ⟨a, xs, rfl, ha, ra⟩) q⟩

/-! ### if-expressions, and, or, not -/
theorem ev_if (h : TvP K t ρ M fun b M1 => if b = true then EvP K ta ρ M1 P else EvP K tb ρ M1 P) : EvP K (tIf t ta tb) ρ M P := fun σ F G H Q hE hO k =>
  h σ F G H _ hE hO fun b F1 M1 H1 s1 o1 h1 => by
    cases b with
    | true =>
      show ta σ H1 Q
      exact (show EvP K ta ρ M1 P from h1) σ F1 G H1 Q (hE.mono s1) o1 fun v d F' M' H' s o r p => k v d F' M' H' (s1.trans s) o r p
    | false =>
      show tb σ H1 Q
      exact (show EvP K tb ρ M1 P from h1) σ F1 G H1 Q (hE.mono s1) o1 fun v d F' M' H' s o r p => k v d F' M' H' (s1.trans s) o r p
theorem ev_andV (h : EvP K ta ρ M fun d M1 => ∃ c, d = .sc (.bl c) ∧ if c = true then EvP K tb ρ M1 P else P (.sc (.bl false)) M1) : EvP K (tAndV ta tb) ρ M P := fun σ F G H Q hE hO k =>
  h σ F G H _ hE hO fun v d F1 M1 H1 s1 o1 r1 ⟨c, e, h1⟩ => by
    subst e
    refine ⟨c, rp_sc.mp r1, ?_⟩
    cases c with
    | true =>
      show tb σ H1 Q
      exact (show EvP K tb ρ M1 P from h1) σ F1 G H1 Q (hE.mono s1) o1 fun v d F' M' H' s o r p => k v d F' M' H' (s1.trans s) o r p
    | false =>
      show Q (.bl false) H1
      exact k _ _ F1 M1 H1 s1 o1 (rp_sc.mpr rfl) h1
theorem ev_orV (h : EvP K ta ρ M fun d M1 => ∃ c, d = .sc (.bl c) ∧ if c = true then P (.sc (.bl true)) M1 else EvP K tb ρ M1 P) : EvP K (tOrV ta tb) ρ M P := fun σ F G H Q hE hO k =>
  h σ F G H _ hE hO fun v d F1 M1 H1 s1 o1 r1 ⟨c, e, h1⟩ => by
    subst e
    refine ⟨c, rp_sc.mp r1, ?_⟩
    cases c with
    | true =>
      show Q (.bl true) H1
      exact k _ _ F1 M1 H1 s1 o1 (rp_sc.mpr rfl) h1
    | false =>
      show tb σ H1 Q
      exact (show EvP K tb ρ M1 P from h1) σ F1 G H1 Q (hE.mono s1) o1 fun v d F' M' H' s o r p => k v d F' M' H' (s1.trans s) o r p
theorem ev_notV (h : EvP K ta ρ M fun d M1 => ∃ c, d = .sc (.bl c) ∧ P (.sc (.bl (!c))) M1) : EvP K (tNotV ta) ρ M P := fun σ F G H Q hE hO k =>
  h σ F G H _ hE hO fun v d F1 M1 H1 s1 o1 r1 ⟨c, e, h1⟩ => by
    subst e
    exact ⟨c, rp_sc.mp r1, k _ _ F1 M1 H1 s1 o1 (rp_sc.mpr rfl) h1⟩
/-- a < b < c -/
theorem ev_chain {r r' : R2} (h : EvP K ta ρ M fun d M1 => EvP K tb ρ M1 fun e M2 => ROp K r d e M2 fun z M3 => ∃ c, z = .sc (.bl c) ∧ if c = true then EvP K tc ρ M3 fun f M4 => ROp K r' e f M4 P else P (.sc (.bl false)) M3) : EvP K (tChain r r' ta tb tc) ρ M P := fun σ F G H Q hE hO k =>
  h σ F G H _ hE hO fun x d F1 M1 H1 s1 o1 r1 h1 => h1 σ F1 G H1 _ (hE.mono s1) o1 fun y e F2 M2 H2 s2 o2 r2 h2 =>
    h2 x y F2 G H2 _ (Rp.mono s2 _ _ r1) r2 o2 fun v d' F3 M3 H3 s3 o3 r3 ⟨c, e1, h3⟩ => by
      subst e1
      refine ⟨c, rp_sc.mp r3, ?_⟩
      cases c with
      | true =>
        rw [if_pos rfl]
        exact (show EvP K tc ρ M3 _ from h3) σ F3 G H3 _ (hE.mono ((s1.trans s2).trans s3)) o3 fun z f F4 M4 H4 s4 o4 r4 h4 =>
          h4 y z F4 G H4 Q (Rp.mono (s3.trans s4) _ _ r2) r4 o4 fun v d F' M' H' s o r p => k v d F' M' H' ((((s1.trans s2).trans s3).trans s4).trans s) o r p
      | false =>
        rw [if_neg Bool.false_ne_true]
        exact k _ _ F3 M3 H3 ((s1.trans s2).trans s3) o3 (rp_sc.mpr rfl) h3

/-! ### tests -/
theorem tv_test (h : EvP K ta ρ M fun d M1 => ∃ c, d = .sc (.bl c) ∧ PB c M1) : TvP K (tTest ta) ρ M PB := fun σ F G H Q hE hO k =>
  h σ F G H _ hE hO fun v d F1 M1 H1 s1 o1 r1 ⟨c, e, h1⟩ => by
    subst e
    exact ⟨c, rp_sc.mp r1, k c F1 M1 H1 s1 o1 h1⟩
theorem tv_B (h : EvP K ta ρ M fun d M1 => ∃ c, d = .sc (.bl c) ∧ PB c M1) : TvP K (tB ta) ρ M PB := tv_test h
theorem tv_and (h : TvP K t ρ M fun b M1 => if b = true then TvP K u ρ M1 PB else PB false M1) : TvP K (tAnd t u) ρ M PB := fun σ F G H Q hE hO k =>
  h σ F G H _ hE hO fun b F1 M1 H1 s1 o1 h1 => by
    cases b with
    | true =>
      show u σ H1 Q
      exact (show TvP K u ρ M1 PB from h1) σ F1 G H1 Q (hE.mono s1) o1 fun b F' M' H' s o p => k b F' M' H' (s1.trans s) o p
    | false =>
      show Q false H1
      exact k _ F1 M1 H1 s1 o1 h1
theorem tv_or (h : TvP K t ρ M fun b M1 => if b = true then PB true M1 else TvP K u ρ M1 PB) : TvP K (tOr t u) ρ M PB := fun σ F G H Q hE hO k =>
  h σ F G H _ hE hO fun b F1 M1 H1 s1 o1 h1 => by
    cases b with
    | true =>
      show Q true H1
      exact k _ F1 M1 H1 s1 o1 h1
    | false =>
      show u σ H1 Q
      exact (show TvP K u ρ M1 PB from h1) σ F1 G H1 Q (hE.mono s1) o1 fun b F' M' H' s o p => k b F' M' H' (s1.trans s) o p
theorem tv_not (h : TvP K t ρ M fun b M1 => PB (!b) M1) : TvP K (tNot t) ρ M PB := fun σ F G H Q hE hO k =>
  h σ F G H _ hE hO fun b F1 M1 H1 s1 o1 h1 => k (!b) F1 M1 H1 s1 o1 h1
theorem tv_yes (h : PB true M) : TvP K tYes ρ M PB := fun σ F G H Q hE hO k => k true F M H (Same.refl F) hO h
/-- by truth -/
theorem truV {F G H : Hp} {x : V} {b : Bool} (h : Tru d M b) (r : Rp K F d x) (hO : OkH K F M G H) : TruV K x H b := by
  cases d with
  | sc v =>
    have e := rp_sc.mp r
    subst e
    cases x with
    | non => exact h
    | bl c => exact h
    | int i => exact h
    | ref a =>
      have h' : (match M a with | some (.lst ds) => b = !ds.isEmpty | _ => False) := h
      cases hm : M a with
      | none =>
        rw [hm] at h'
        exact h'.elim
      | some o =>
        rw [hm] at h'
        cases o with
        | lst ds =>
          obtain ⟨xs, hx, rx⟩ := (hO.mu a _ hm).2
          refine .inl ⟨xs, .inl (.inl hx), ?_⟩
          have e : b = !ds.isEmpty := h'
          have l := rx.length
          rw [e]
          cases ds <;> cases xs <;> simp_all
        | _ => exact h'.elim
    | _ => exact h.elim
  | tup ds =>
    obtain ⟨a, xs, rfl, hs, rx⟩ := rp_tup.mp r
    refine .inr (.inl ⟨xs, sqT_mono hO.ex hs, ?_⟩)
    have e : b = !ds.isEmpty := h
    have l := rx.length
    rw [e]
    cases ds <;> cases xs <;> simp_all
  | lst ds =>
    obtain ⟨a, xs, rfl, hs, rx⟩ := rp_lst.mp r
    refine .inl ⟨xs, .inl (.inl (hO.ex _ _ hs)), ?_⟩
    have e : b = !ds.isEmpty := h
    have l := rx.length
    rw [e]
    cases ds <;> cases xs <;> simp_all
  | obj C ns ds => exact h.elim
  | ro ds => exact h.elim
theorem tv_tru (h : EvP K ta ρ M fun d M1 => ∃ b, Tru d M1 b ∧ PB b M1) : TvP K (fun σ H Q => ta σ H fun x H' => ∃ k, TruV K x H' k ∧ Q k H') ρ M PB := fun σ F G H Q hE hO k =>
  h σ F G H _ hE hO fun v d F1 M1 H1 s1 o1 r1 ⟨b, hb, h1⟩ => ⟨b, truV hb r1 o1, k b F1 M1 H1 s1 o1 h1⟩

/-! ### arguments, displays -/
theorem av_nil {PA : List Da → MH → Prop} (q : PA [] M) : AvP K tNil ρ M PA := fun σ F G H Q hE hO k => k [] [] F M H (Same.refl F) hO RpA.nil_ q
theorem av_cons {ta : TE} {tr : TA} {PA : List Da → MH → Prop} (h : EvP K ta ρ M fun d M1 => AvP K tr ρ M1 fun ds M2 => PA (d :: ds) M2) : AvP K (tCons ta tr) ρ M PA := fun σ F G H Q hE hO k =>
  h σ F G H _ hE hO fun v d F1 M1 H1 s1 o1 r1 h1 => h1 σ F1 G H1 _ (hE.mono s1) o1 fun vs ds F2 M2 H2 s2 o2 r2 h2 =>
    k (v :: vs) (d :: ds) F2 M2 H2 (s1.trans s2) o2 (RpA.cons_ (Rp.mono s2 _ _ r1) r2) h2
theorem ev_tup {ta : TA} (h : AvP K ta ρ M fun ds M1 => ds.length ≤ 100000 ∧ P (.tup ds) M1) : EvP K (tTup ta) ρ M P := fun σ F G H Q hE hO k =>
  h σ F G H _ hE hO fun vs ds F1 M1 H1 s1 o1 r1 ⟨hl, p⟩ => ⟨sz_of (by rw [← r1.length]; exact hl), fun a ha => fin_tup (P := P) o1 ha r1 p fun v d F' M' H' s o r p' => k v d F' M' H' (s1.trans s) o r p'⟩
theorem ev_lst {ta : TA} (h : AvP K ta ρ M fun ds M1 => ds.length ≤ 100000 ∧ P (.lst ds) M1) : EvP K (tLst ta) ρ M P := fun σ F G H Q hE hO k =>
  h σ F G H _ hE hO fun vs ds F1 M1 H1 s1 o1 r1 ⟨hl, p⟩ => ⟨sz_of (by rw [← r1.length]; exact hl), fun a ha => fin_lst (P := P) o1 ha r1 p fun v d F' M' H' s o r p' => k v d F' M' H' (s1.trans s) o r p'⟩
theorem ev_lstM {ta : TA} (h : AvP K ta ρ M fun ds M1 => ds.length ≤ 100000 ∧ ∀ p, M1 p = none → P (.sc (.ref p)) (updM M1 p (.lst ds))) : EvP K (tLst ta) ρ M P := fun σ F G H Q hE hO k =>
  h σ F G H _ hE hO fun vs ds F1 M1 H1 s1 o1 r1 ⟨hl, p⟩ => ⟨sz_of (by rw [← r1.length]; exact hl), fun a ha => fin_cell (P := P) o1 ha r1 p fun v d F' M' H' s o r p' => k v d F' M' H' (s1.trans s) o r p'⟩

/-! ### fields -/
/-- the thing's class, names, fields -/
def InsAt (d : Da) (M : MH) (C : Addr) (ns : List Str) (ds : List Da) : Prop := match d with
  | .obj C' ns' ds' => C' = C ∧ ns' = ns ∧ ds' = ds
  | .sc (.ref p) => M p = some (.ins C ns ds)
  | _ => False
theorem insAt {F G H : Hp} {x : V} {C : Addr} {ns : List Str} {ds : List Da} (h : InsAt d M C ns ds) (r : Rp K F d x) (hO : OkH K F M G H) : ∃ a dx xs, x = .ref a ∧ H a = some (.ins C dx (ns.zip xs)) ∧ RpA K F ds xs := by
  cases d with
  | obj C' ns' ds' =>
    obtain ⟨a, dx, xs, e1, h1, h2⟩ := rp_obj.mp r
    obtain ⟨rfl, rfl, rfl⟩ := h
    exact ⟨a, dx, xs, e1, hO.ex _ _ h1, h2⟩
  | sc v =>
    have e := rp_sc.mp r
    subst e
    cases x with
    | ref p =>
      have hm : M p = some (.ins C ns ds) := h
      obtain ⟨dx, xs, hx, _, rx⟩ := (hO.mu p _ hm).2
      exact ⟨p, dx, xs, rfl, hx, rx⟩
    | _ => exact h.elim
  | ro es => exact h.elim
  | tup es => exact h.elim
  | lst es => exact h.elim
def fldD (f : Str) : List Str → List Da → Option Da
  | n :: ns, d :: ds => if f = n then some d else fldD f ns ds
  | _, _ => none
theorem fld_lookup {F : Hp} {f : Str} : ∀ {ns : List Str} {ds : List Da} {xs : List V}, RpA K F ds xs → fldD f ns ds = some d → ∃ v, (ns.zip xs).lookup f = some v ∧ Rp K F d v
  | [], ds, xs, _, h => by cases h
  | n :: ns, [], xs, _, h => by cases h
  | n :: ns, d0 :: ds, xs, r, h => by
    obtain ⟨y, ys, e1, h1, h2⟩ := rpA_cons.mp r
    subst e1
    unfold fldD at h
    rw [List.zip_cons_cons, List.lookup_cons]
    by_cases hf : f = n
    · rw [if_pos hf] at h
      cases h
      exact ⟨y, by rw [show (f == n) = true from beq_iff_eq.mpr hf], h1⟩
    · rw [if_neg hf] at h
      obtain ⟨v, e, rv⟩ := fld_lookup h2 h
      exact ⟨v, by rw [show (f == n) = false from beq_eq_false_iff_ne.mpr hf]; exact e, rv⟩
theorem ev_fld {f : Str} {C : Addr} {ns : List Str} (c : Cls K C) (n : NoAttr K C f) (h : EvP K ta ρ M fun d M1 => ∃ ds z, InsAt d M1 C ns ds ∧ fldD f ns ds = some z ∧ P z M1) : EvP K (tFld K ta f) ρ M P := fun σ F G H Q hE hO k =>
  h σ F G H _ hE hO fun v d F1 M1 H1 s1 o1 r1 ⟨ds, z, hi, hf, p⟩ => by
    obtain ⟨a, dx, xs, rfl, hx, rx⟩ := insAt hi r1 o1
    obtain ⟨w, hw, rw'⟩ := fld_lookup rx hf
    exact ⟨a, C, dx, _, w, rfl, hx, c, n, hw, k w z F1 M1 H1 s1 o1 rw' p⟩

/-! ### calls -/
abbrev Spd := List Da → MH → (Da → MH → Prop) → Prop
/-- a promise by data -/
def spOf (K : PySem.W.Frag) (S : Spd) : Sp := fun vs H Q _ => ∃ F G M ds P, RpA K F ds vs ∧ OkH K F M G H ∧ S ds M P ∧ ∀ v d F' M' H', Same F F' → OkH K F' M' G H' → Rp K F' d v → P d M' → Q v H'
theorem ev_call {S : Spd} {E : XK} {ta : TA} (h : AvP K ta ρ M fun ds M1 => S ds M1 P) : EvP K (tCall (spOf K S) [] E ta) ρ M P := fun σ F G H Q hE hO k =>
  h σ F G H _ hE hO fun vs ds F1 M1 H1 s1 o1 r1 p => ⟨F1, G, M1, ds, P, by rw [List.append_nil]; exact r1, o1, p, fun v d F' M' H' s o r p' => k v d F' M' H' (s1.trans s) o r p'⟩
theorem lookup_none {m : Str} : ∀ {ns : List Str} {xs : List V}, m ∉ ns → (ns.zip xs).lookup m = none
  | [], _, _ => rfl
  | n :: ns, [], _ => rfl
  | n :: ns, x :: xs, h => by
    rw [List.zip_cons_cons, List.lookup_cons]
    have h1 : m ≠ n := fun e => h (by rw [e]; exact List.mem_cons_self)
    rw [show (m == n) = false from beq_eq_false_iff_ne.mpr h1]
    exact lookup_none fun z => h (List.mem_cons_of_mem _ z)
theorem ev_meth {S : Spd} {E : XK} {ta : TE} {tr : TA} {C : Addr} {m : Str} (h : EvP K ta ρ M fun d M1 => ∃ ns es, InsAt d M1 C ns es ∧ m ∉ ns ∧ AvP K tr ρ M1 fun ds M2 => S (d :: ds) M2 P) : EvP K (tMeth C m (spOf K S) [] E ta tr) ρ M P := fun σ F G H Q hE hO k =>
  h σ F G H _ hE hO fun v d F1 M1 H1 s1 o1 r1 ⟨ns, es, hi, hm, h1⟩ => by
    obtain ⟨a, dx, xs, rfl, hx, rx⟩ := insAt hi r1 o1
    refine ⟨a, dx, _, rfl, hx, lookup_none hm, ?_⟩
    exact h1 σ F1 G H1 _ (hE.mono s1) o1 fun vs ds F2 M2 H2 s2 o2 r2 p => ⟨F2, G, M2, d :: ds, P, by rw [List.append_nil]; exact RpA.cons_ (Rp.mono s2 _ _ r1) r2, o2, p, fun v d F' M' H' s o r p' => k v d F' M' H' ((s1.trans s2).trans s) o r p'⟩
theorem ev_make {S : Spd} {E : XK} {ta : TA} {C : Addr} (h : AvP K ta ρ M fun ds M1 => ∀ x, M1 x = none → S (.sc (.ref x) :: ds) (updM M1 x (.ins C [] [])) fun d M2 => d = .sc .non ∧ P (.sc (.ref x)) M2) : EvP K (tMake C (spOf K S) [] E ta) ρ M P := fun σ F G H Q hE hO k =>
  h σ F G H _ hE hO fun vs ds F1 M1 H1 s1 o1 r1 p => fun x dx nx ndx ne => by
    have o2 : OkH K F1 M1 G (upd H1 dx (.own x)) := ⟨sm_right o1.ex (o1.noF ndx), fun a o e => by
      obtain ⟨h1, h2⟩ := o1.mu a o e
      obtain ⟨z, hz⟩ := h2.here
      exact ⟨h1, h2.mono (Same.refl F1) (upd_ne (ne_of_none hz ndx))⟩, sm_right o1.gx (o1.noG ndx), o1.gd⟩
    have nx2 : upd H1 dx (.own x) x = none := by rw [upd_ne (Ne.symm ne)]; exact nx
    have o3 : OkH K F1 (updM M1 x (.ins C [] [])) G (upd (upd H1 dx (.own x)) x (.ins C dx [])) := o2.newM nx2 ⟨dx, [], upd_same, rfl, RpA.nil_⟩
    refine ⟨F1, G, _, .sc (.ref x) :: ds, fun d M2 => d = .sc .non ∧ P (.sc (.ref x)) M2, by rw [List.append_nil]; exact RpA.cons_ (rp_sc.mpr rfl) r1, o3, p x (o1.noM nx), fun v d F' M' H' s o r p' => ?_⟩
    obtain ⟨e, p'⟩ := p'
    subst e
    exact ⟨rp_sc.mp r, k (.ref x) (.sc (.ref x)) F' M' H' (s1.trans s) o (rp_sc.mpr rfl) p'⟩

/-! ### built-in functions -/
theorem ev_cb {r : List V → Hp → VK → Prop} {ta : TA} (h : AvP K ta ρ M fun ds M1 => RCl K r ds M1 P) : EvP K (tCB r ta) ρ M P := fun σ F G H Q hE hO k =>
  h σ F G H _ hE hO fun vs ds F1 M1 H1 s1 o1 r1 p => p vs F1 G H1 Q r1 o1 fun v d F' M' H' s o r p' => k v d F' M' H' (s1.trans s) o r p'
theorem rpA_one {F : Hp} {xs : List V} (h : RpA K F [d] xs) : ∃ x, xs = [x] ∧ Rp K F d x := by
  obtain ⟨y, ys, e1, h1, h2⟩ := rpA_cons.mp h
  rw [rpA_nil.mp h2] at e1
  exact ⟨y, e1, h1⟩
theorem rpA_two {F : Hp} {xs : List V} (h : RpA K F [d, e] xs) : ∃ x y, xs = [x, y] ∧ Rp K F d x ∧ Rp K F e y := by
  obtain ⟨y, ys, e1, h1, h2⟩ := rpA_cons.mp h
  obtain ⟨x, e2, h3⟩ := rpA_one h2
  rw [e2] at e1
  exact ⟨y, x, e1, h1, h3⟩
/-- how long -/
def LenAt (d : Da) (M : MH) (n : Nat) : Prop := match d with
  | .tup ds => n = ds.length
  | .lst ds => n = ds.length
  | .sc (.ref p) => ∃ ds, M p = some (.lst ds) ∧ n = ds.length
  | _ => False
abbrev rLen (K : PySem.W.Frag) : List V → Hp → VK → Prop := fun xs H Q => ∃ x n, xs = [x] ∧ LenV K x H n ∧ Q (.int n) H
theorem rcl_len {n : Nat} (h : LenAt d M n) (q : P (.sc (.int n)) M) : RCl K (rLen K) [d] M P := fun xs F G H Q rx hO k => by
  obtain ⟨x, rfl, r⟩ := rpA_one rx
  refine ⟨x, n, rfl, ?_, fin_v hO q k⟩
  cases d with
  | tup ds =>
    obtain ⟨a, xs, rfl, hs, rx⟩ := rp_tup.mp r
    exact .inr ⟨xs, sqT_mono hO.ex hs, (show n = ds.length from h).trans rx.length⟩
  | lst ds =>
    obtain ⟨a, xs, rfl, hs, rx⟩ := rp_lst.mp r
    exact .inl ⟨xs, .inl (.inl (hO.ex _ _ hs)), (show n = ds.length from h).trans rx.length⟩
  | obj C ns ds => exact h.elim
  | ro ds => exact h.elim
  | sc v =>
    have e := rp_sc.mp r
    subst e
    cases x with
    | ref p =>
      obtain ⟨ds, hm, hn⟩ := (show ∃ ds, M p = some (.lst ds) ∧ n = ds.length from h)
      obtain ⟨xs, hx, rx⟩ := (hO.mu p _ hm).2
      exact .inl ⟨xs, .inl (.inl hx), hn.trans rx.length⟩
    | _ => exact h.elim
abbrev rInt : List V → Hp → VK → Prop := fun xs H Q => (∃ i, xs = [.int i] ∧ Q (.int i) H) ∨ ∃ k, xs = [.bl k] ∧ Q (.int (if k then 1 else 0)) H
theorem rcl_int {z : Int} (q : P (.sc (.int z)) M) : RCl K rInt [.sc (.int z)] M P := fun xs F G H Q rx hO k => by
  obtain ⟨x, rfl, r⟩ := rpA_one rx
  have e := rp_sc.mp r
  subst e
  exact .inl ⟨z, rfl, fin_v hO q k⟩
theorem rcl_intB {b : Bool} (q : P (.sc (.int (if b then 1 else 0))) M) : RCl K rInt [.sc (.bl b)] M P := fun xs F G H Q rx hO k => by
  obtain ⟨x, rfl, r⟩ := rpA_one rx
  have e := rp_sc.mp r
  subst e
  exact .inr ⟨b, rfl, fin_v hO q k⟩
/-- sum, max of ints; max, min of two -/
theorem ints_of {F G H : Hp} {x : V} {ns : List Int} (h : LstAt d M (ns.map fun n => Da.sc (.int n))) (r : Rp K F d x) (hO : OkH K F M G H) : ∃ a, x = .ref a ∧ SqL K H a (ns.map V.int) := by
  obtain ⟨a, xs, e, hx, rx⟩ := lstAt h r hO
  have : (ns.map fun n => Da.sc (.int n)) = (ns.map V.int).map Da.sc := by rw [List.map_map] <;> rfl
  rw [this] at rx
  have e2 := rpA_sc.mp rx
  subst e2
  exact ⟨a, e, .inl (.inl hx)⟩
theorem rcl_sum {ns : List Int} (h : LstAt d M (ns.map fun n => Da.sc (.int n))) (q : P (.sc (.int ns.sum)) M) : RCl K (rSum K) [d] M P := fun xs F G H Q rx hO k => by
  obtain ⟨x, rfl, r⟩ := rpA_one rx
  obtain ⟨a, rfl, hs⟩ := ints_of h r hO
  exact ⟨a, ns, rfl, hs, fin_v hO q k⟩
theorem rcl_max {ns : List Int} (h : LstAt d M (ns.map fun n => Da.sc (.int n))) (h0 : 0 < ns.length) (q : ∀ m, m ∈ ns → (∀ y, y ∈ ns → y ≤ m) → P (.sc (.int m)) M) : RCl K (rMax K) [d] M P := fun xs F G H Q rx hO k => by
  obtain ⟨x, rfl, r⟩ := rpA_one rx
  obtain ⟨a, rfl, hs⟩ := ints_of h r hO
  exact ⟨a, ns, rfl, hs, h0, fun m hm hle => fin_v hO (q m hm hle) k⟩
abbrev rMx2 : List V → Hp → VK → Prop := fun xs H Q => ∃ i j, xs = [.int i, .int j] ∧ Q (.int (if j > i then j else i)) H
abbrev rMn2 : List V → Hp → VK → Prop := fun xs H Q => ∃ i j, xs = [.int i, .int j] ∧ Q (.int (if j < i then j else i)) H
theorem rcl_max2 {a b : Int} (q : P (.sc (.int (max a b))) M) : RCl K rMx2 [.sc (.int a), .sc (.int b)] M P := fun xs F G H Q rx hO k => by
  obtain ⟨x, y, rfl, r1, r2⟩ := rpA_two rx
  have e1 := rp_sc.mp r1
  have e2 := rp_sc.mp r2
  subst e1 e2
  refine ⟨a, b, rfl, ?_⟩
  have e : (if b > a then b else a) = max a b := by split <;> omega
  rw [e]
  exact fin_v hO q k
theorem rcl_min2 {a b : Int} (q : P (.sc (.int (min a b))) M) : RCl K rMn2 [.sc (.int a), .sc (.int b)] M P := fun xs F G H Q rx hO k => by
  obtain ⟨x, y, rfl, r1, r2⟩ := rpA_two rx
  have e1 := rp_sc.mp r1
  have e2 := rp_sc.mp r2
  subst e1 e2
  refine ⟨a, b, rfl, ?_⟩
  have e : (if b < a then b else a) = min a b := by split <;> omega
  rw [e]
  exact fin_v hO q k
theorem rcl_any {bs : List Bool} (h : LstAt d M (bs.map fun n => Da.sc (.bl n))) (q : P (.sc (.bl (bs.any id))) M) : RCl K (rAny K) [d] M P := fun xs F G H Q rx hO k => by
  obtain ⟨x, rfl, r⟩ := rpA_one rx
  obtain ⟨a, xs, rfl, hx, rx⟩ := lstAt h r hO
  have : (bs.map fun n => Da.sc (.bl n)) = (bs.map V.bl).map Da.sc := by rw [List.map_map] <;> rfl
  rw [this] at rx
  have e2 := rpA_sc.mp rx
  subst e2
  exact ⟨a, bs, rfl, .inl (.inl hx), fin_v hO q k⟩
/-- a sequence's items -/
def SeqAt (d : Da) (M : MH) (ds : List Da) : Prop := match d with
  | .tup es => es = ds
  | .ro es => es = ds
  | _ => LstAt d M ds
theorem seqAt {F G H : Hp} {x : V} {ds : List Da} (h : SeqAt d M ds) (r : Rp K F d x) (hO : OkH K F M G H) : ∃ a xs, x = .ref a ∧ (SqL K H a xs ∨ SqT K H a xs) ∧ RpA K F ds xs := by
  cases d with
  | tup es =>
    obtain ⟨a, xs, e1, h1, h2⟩ := rp_tup.mp r
    have e : es = ds := h
    subst e
    exact ⟨a, xs, e1, .inr (sqT_mono hO.ex h1), h2⟩
  | lst es =>
    obtain ⟨a, xs, e1, h1, h2⟩ := lstAt (d := .lst es) h r hO
    exact ⟨a, xs, e1, .inl (.inl (.inl h1)), h2⟩
  | sc v =>
    obtain ⟨a, xs, e1, h1, h2⟩ := lstAt (d := .sc v) h r hO
    exact ⟨a, xs, e1, .inl (.inl (.inl h1)), h2⟩
  | obj C ns es => exact h.elim
  | ro es =>
    obtain ⟨a, xs, e1, h1, h2⟩ := rp_ro.mp r
    have e : es = ds := h
    subst e
    exact ⟨a, xs, e1, .inl (sqL_mono hO.ex h1), h2⟩
abbrev rList (K : PySem.W.Frag) : List V → Hp → VK → Prop := fun xs H Q => ∃ p ys, xs = [.ref p] ∧ (SqL K H p ys ∨ SqT K H p ys) ∧ ∀ l, H l = none → Q (.ref l) (upd H l (.lst ys))
abbrev rTuple (K : PySem.W.Frag) : List V → Hp → VK → Prop := fun xs H Q => ∃ p ys, xs = [.ref p] ∧ ((SqL K H p ys ∧ ∀ l, H l = none → Q (.ref l) (upd H l (.tup ys))) ∨ (SqT K H p ys ∧ Q (.ref p) H))
theorem rcl_list {ds : List Da} (h : SeqAt d M ds) (q : P (.lst ds) M) : RCl K (rList K) [d] M P := fun xs F G H Q rx hO k => by
  obtain ⟨x, rfl, r⟩ := rpA_one rx
  obtain ⟨a, ys, rfl, hs, ry⟩ := seqAt h r hO
  exact ⟨a, ys, rfl, hs, fun l hl => fin_lst hO hl ry q k⟩
theorem rcl_listM {ds : List Da} (h : SeqAt d M ds) (q : ∀ p, M p = none → P (.sc (.ref p)) (updM M p (.lst ds))) : RCl K (rList K) [d] M P := fun xs F G H Q rx hO k => by
  obtain ⟨x, rfl, r⟩ := rpA_one rx
  obtain ⟨a, ys, rfl, hs, ry⟩ := seqAt h r hO
  exact ⟨a, ys, rfl, hs, fun l hl => fin_cell hO hl ry q k⟩
theorem rcl_tuple {ds : List Da} (h : SeqAt d M ds) (q : P (.tup ds) M) : RCl K (rTuple K) [d] M P := fun xs F G H Q rx hO k => by
  obtain ⟨x, rfl, r⟩ := rpA_one rx
  cases d with
  | tup es =>
    obtain ⟨a, xs, rfl, h1, h2⟩ := rp_tup.mp r
    have e : es = ds := h
    subst e
    exact ⟨a, xs, rfl, .inr ⟨sqT_mono hO.ex h1, k _ _ F M H (Same.refl F) hO (rp_tup.mpr ⟨a, xs, rfl, h1, h2⟩) q⟩⟩
  | lst es =>
    obtain ⟨a, xs, rfl, h1, h2⟩ := lstAt (d := .lst es) h r hO
    exact ⟨a, xs, rfl, .inl ⟨.inl (.inl h1), fun l hl => fin_tup hO hl h2 q k⟩⟩
  | sc v =>
    obtain ⟨a, xs, rfl, h1, h2⟩ := lstAt (d := .sc v) h r hO
    exact ⟨a, xs, rfl, .inl ⟨.inl (.inl h1), fun l hl => fin_tup hO hl h2 q k⟩⟩
  | obj C ns es => exact h.elim
  | ro es =>
    obtain ⟨a, xs, rfl, h1, h2⟩ := rp_ro.mp r
    have e : es = ds := h
    subst e
    exact ⟨a, xs, rfl, .inl ⟨sqL_mono hO.ex h1, fun l hl => fin_tup hO hl h2 q k⟩⟩
/-- isinstance with a built-in class -/
def tyD : Da → Option String
  | .sc .non => some "NoneType"
  | .sc (.bl _) => some "bool"
  | .sc (.int _) => some "int"
  | .sc (.str _) => some "str"
  | .tup _ => some "tuple"
  | .lst _ => some "list"
  | _ => none
theorem tyX {F G H : Hp} {x : V} {T : String} (h : tyD d = some T) (r : Rp K F d x) (hO : OkH K F M G H) : TyX K H x (.type T) := by
  cases d with
  | sc v =>
    have e := rp_sc.mp r
    subst e
    cases x with
    | non => cases h; exact .base .non
    | bl b => cases h; exact .base (.bl b)
    | int b => cases h; exact .base (.int b)
    | str b => cases h; exact .base (.str b)
    | _ => cases h
  | tup ds =>
    cases h
    obtain ⟨a, xs, rfl, h1, h2⟩ := rp_tup.mp r
    rcases h1 with (h1 | ⟨o, h1⟩) | ⟨o, its, n, h1, h3, _⟩
    · exact .base (.tup (hO.ex _ _ h1))
    · exact .fTuple (hO.ex _ _ h1)
    · exact .kTuple h1 h3
  | lst ds =>
    cases h
    obtain ⟨a, xs, rfl, h1, h2⟩ := rp_lst.mp r
    exact .base (.lst (hO.ex _ _ h1))
  | obj C ns ds => cases h
  | ro ds => cases h
theorem rcl_isi {T U : String} {b : Bool} (h : tyD d = some T) (hk : kitB T U = some b) (q : P (.sc (.bl b)) M) : RCl K (rIsi K) [d, .sc (.ty U)] M P := fun xs F G H Q rx hO k => by
  obtain ⟨x, y, rfl, r1, r2⟩ := rpA_two rx
  have e2 := rp_sc.mp r2
  subst e2
  exact ⟨x, .ty U, .type T, .type U, b, rfl, .ty U, tyX h r1 hO, kit_ty hk, fin_v hO q k⟩
end
end Dl

namespace Dl
open PySem PySem.Spec L2
section
variable {K : PySem.W.Frag} {ρ : Env'} {M M1 : MH} {ta tb tc te : TE} {t u : TT} {ts us : TS} {P : Da → MH → Prop} {PB : Bool → MH → Prop} {D : DE} {d e : Da} {i : Nat}

theorem putL {F G H : Hp} {p : Addr} {u : MO} {ds : List Da} {xs : List V} (hO : OkH K F M G H) (hm : M p = some u) (r : RpA K F ds xs) : OkH K F (updM M p (.lst ds)) G (upd H p (.lst xs)) := hO.put (u' := .lst ds) hm ⟨xs, upd_same, r⟩
theorem putI {F G H : Hp} {p C dx : Addr} {u : MO} {ns : List Str} {ds : List Da} {xs : List V} (hO : OkH K F M G H) (hm : M p = some u) (hl : ns.length = xs.length) (r : RpA K F ds xs) : OkH K F (updM M p (.ins C ns ds)) G (upd H p (.ins C dx (ns.zip xs))) := hO.put (u' := .ins C ns ds) hm ⟨dx, xs, upd_same, hl, r⟩
theorem putDK {F G H : Hp} {p : Addr} {u : MO} {kvs : List (Key × Da)} {ys : List (Key × V)} (hO : OkH K F M G H) (hm : M p = some u) (r : RpK K F kvs ys) : OkH K F (updM M p (.dK kvs)) G (upd H p (.dK ys)) := hO.put (u' := .dK kvs) hm ⟨ys, upd_same, r⟩
/-! ### statements -/
theorem Match.mono {F F' G : Hp} {D0 : Ends} (m : Match K F G D D0) (s : Same F F') : Match K F' G D D0 :=
  ⟨fun σ ρ F2 M2 H2 s2 => m.nx σ ρ F2 M2 H2 (s.trans s2), fun v d F2 M2 H2 s2 => m.rt v d F2 M2 H2 (s.trans s2), fun σ ρ F2 M2 H2 s2 => m.bk σ ρ F2 M2 H2 (s.trans s2), fun σ ρ F2 M2 H2 s2 => m.ct σ ρ F2 M2 H2 (s.trans s2)⟩
theorem stp_mono {D' : DE} (h : StP K ts ρ M D) (h1 : ∀ ρ' M', D.nx ρ' M' → D'.nx ρ' M') (h2 : ∀ d M', D.rt d M' → D'.rt d M') (h3 : ∀ ρ' M', D.bk ρ' M' → D'.bk ρ' M') (h4 : ∀ ρ' M', D.ct ρ' M' → D'.ct ρ' M') : StP K ts ρ M D' :=
  fun σ F G H D0 hE hO m => h σ F G H D0 hE hO ⟨fun σ ρ F2 M2 H2 s e o p => m.nx σ ρ F2 M2 H2 s e o (h1 _ _ p), fun v d F2 M2 H2 s o r p => m.rt v d F2 M2 H2 s o r (h2 _ _ p), fun σ ρ F2 M2 H2 s e o p => m.bk σ ρ F2 M2 H2 s e o (h3 _ _ p), fun σ ρ F2 M2 H2 s e o p => m.ct σ ρ F2 M2 H2 s e o (h4 _ _ p)⟩
/-- fewer cells are told at the ends -/
theorem stp_sub {N : MH → MH → Prop} (hN : ∀ M M', N M M' → SubM M' M) (h : StP K ts ρ M ⟨fun ρ' M' => ∃ M'', N M' M'' ∧ D.nx ρ' M'', fun d M' => ∃ M'', N M' M'' ∧ D.rt d M'', fun ρ' M' => ∃ M'', N M' M'' ∧ D.bk ρ' M'', fun ρ' M' => ∃ M'', N M' M'' ∧ D.ct ρ' M''⟩) : StP K ts ρ M D :=
  fun σ F G H D0 hE hO m => h σ F G H D0 hE hO ⟨fun σ ρ F2 M2 H2 s e o ⟨M'', n, p⟩ => m.nx σ ρ F2 M'' H2 s e (o.sub (hN _ _ n)) p, fun v d F2 M2 H2 s o r ⟨M'', n, p⟩ => m.rt v d F2 M'' H2 s (o.sub (hN _ _ n)) r p,
    fun σ ρ F2 M2 H2 s e o ⟨M'', n, p⟩ => m.bk σ ρ F2 M'' H2 s e (o.sub (hN _ _ n)) p, fun σ ρ F2 M2 H2 s e o ⟨M'', n, p⟩ => m.ct σ ρ F2 M'' H2 s e (o.sub (hN _ _ n)) p⟩
theorem stp_forget (h : StP K ts (ρ.set i none) M D) : StP K ts ρ M D := fun σ F G H D0 hE hO m => by
  have := hE.forget i (σ.getD i none)
  have e : σ.set i (σ.getD i none) = σ := by
    apply List.ext_getElem?
    intro j
    by_cases hj : i = j
    · subst hj
      by_cases hi : i < σ.length
      · rw [List.getElem?_set_self hi, List.getD_eq_getElem?_getD, List.getElem?_eq_getElem hi] <;> rfl
      · rw [List.getElem?_eq_none (by rw [List.length_set]; omega), List.getElem?_eq_none (by omega)]
    · rw [List.getElem?_set_ne hj]
  rw [e] at this
  exact h σ F G H D0 this hO m
/-- the list at the cell p, that the slot i holds, changes no more -/
theorem stp_frzL {p : Addr} {ds : List Da} (hi : ρ[i]? = some (some (.sc (.ref p)))) (hm : M p = some (.lst ds)) (h : StP K ts (ρ.set i (some (.lst ds))) (delM M p) D) : StP K ts ρ M D := fun σ F G H D0 hE hO m => by
  obtain ⟨v, ev, r⟩ := hE.at_ i _ hi
  have e := rp_sc.mp r
  subst e
  obtain ⟨xs, hx, rx⟩ := (hO.mu p _ hm).2
  have s := sm_freeze (o := .lst xs) hO hm
  have hE2 := (hE.mono s).set i (rp_lst.mpr ⟨p, xs, rfl, upd_same, RpA.mono s _ _ rx⟩)
  have e : σ.set i (some (.ref p)) = σ := by
    apply List.ext_getElem?
    intro j
    by_cases hj : i = j
    · subst hj
      rw [List.getElem?_set_self (List.getElem?_eq_some_iff.mp ev).1, ev]
    · rw [List.getElem?_set_ne hj]
  rw [e] at hE2
  exact h σ _ G H D0 hE2 (hO.freeze hm hx) (m.mono s)
theorem stp_seq (h : StP K ts ρ M { D with nx := fun ρ' M' => StP K us ρ' M' D }) : StP K (tSeq ts us) ρ M D := fun σ F G H D0 hE hO m =>
  h σ F G H { D0 with nx := us D0 } hE hO ⟨fun σ' ρ' F' M' H' s e o p => p σ' F' G H' D0 e o (m.mono s), m.rt, m.bk, m.ct⟩
theorem stp_next (h : D.nx ρ M) : StP K tNext ρ M D := fun σ F G H D0 hE hO m => m.nx σ ρ F M H (Same.refl F) hE hO h
theorem stp_brk (h : D.bk ρ M) : StP K tBreak ρ M D := fun σ F G H D0 hE hO m => m.bk σ ρ F M H (Same.refl F) hE hO h
theorem stp_cont (h : D.ct ρ M) : StP K tCont ρ M D := fun σ F G H D0 hE hO m => m.ct σ ρ F M H (Same.refl F) hE hO h
theorem stp_drop (h : EvP K te ρ M fun _ M1 => D.nx ρ M1) : StP K (tDrop te) ρ M D := fun σ F G H D0 hE hO m =>
  h σ F G H _ hE hO fun v d F1 M1 H1 s1 o1 r1 p => m.nx σ ρ F1 M1 H1 s1 (hE.mono s1) o1 p
theorem stp_ret (h : EvP K te ρ M D.rt) : StP K (tRet te) ρ M D := fun σ F G H D0 hE hO m => h σ F G H _ hE hO fun v d F1 M1 H1 s1 o1 r1 p => m.rt v d F1 M1 H1 s1 o1 r1 p
theorem stp_retN (h : D.rt (.sc .non) M) : StP K tRetN ρ M D := fun σ F G H D0 hE hO m => m.rt .non (.sc .non) F M H (Same.refl F) hO (rp_sc.mpr rfl) h
theorem stp_if (h : TvP K t ρ M fun b M1 => if b = true then StP K ts ρ M1 D else StP K us ρ M1 D) : StP K (tIfS t ts us) ρ M D := fun σ F G H D0 hE hO m =>
  h σ F G H _ hE hO fun b F1 M1 H1 s1 o1 p => by
    cases b with
    | true =>
      show ts D0 σ H1
      exact (show StP K ts ρ M1 D from p) σ F1 G H1 D0 (hE.mono s1) o1 (m.mono s1)
    | false =>
      show us D0 σ H1
      exact (show StP K us ρ M1 D from p) σ F1 G H1 D0 (hE.mono s1) o1 (m.mono s1)
theorem stp_asg {g : TG} (h : EvP K te ρ M fun d M1 => GvP K g d ρ M1 D.nx) : StP K (tAsg te g) ρ M D := fun σ F G H D0 hE hO m =>
  h σ F G H _ hE hO fun v d F1 M1 H1 s1 o1 r1 p => p v σ F1 G H1 _ r1 (hE.mono s1) o1 fun σ' ρ' F' M' H' s e o q => m.nx σ' ρ' F' M' H' (s1.trans s) e o q
theorem gv_name {PE : Env' → MH → Prop} (h : PE (ρ.set i (some d)) M) : GvP K (gName i) d ρ M PE := fun v σ F G H Q r hE hO k => k _ _ F M H (Same.refl F) (hE.set i r) hO h
theorem stp_set (h : EvP K te ρ M fun d M1 => D.nx (ρ.set i (some d)) M1) : StP K (tAsg te (gName i)) ρ M D := stp_asg (h.mono fun d M' p => gv_name p)
/-- a = b for a tuple of two names -/
theorem gv_sub {to ti : TE} {r : TSet} {PE : Env' → MH → Prop} (h : EvP K to ρ M fun o M1 => EvP K ti ρ M1 fun z M2 => RSet K r o z d M2 fun M3 => PE ρ M3) : GvP K (gSub to ti r) d ρ M PE := fun v σ F G H Q rv hE hO k =>
  h σ F G H _ hE hO fun x o F1 M1 H1 s1 o1 r1 h1 => h1 σ F1 G H1 _ (hE.mono s1) o1 fun y z F2 M2 H2 s2 o2 r2 h2 =>
    h2 x y v F2 G H2 _ (Rp.mono s2 _ _ r1) r2 (Rp.mono (s1.trans s2) _ _ rv) o2 fun F3 M3 H3 s3 o3 p => k σ ρ F3 M3 H3 ((s1.trans s2).trans s3) (hE.mono ((s1.trans s2).trans s3)) o3 p
theorem rset_L {p : Addr} {ds : List Da} {z : Int} {j : Nat} {PM : MH → Prop} (hm : M p = some (.lst ds)) (hj : ixN ds.length z = some j) (q : PM (updM M p (.lst (ds.set j d)))) : RSet K rSetL (.sc (.ref p)) (.sc (.int z)) d M PM := fun x y u F G H Q r1 r2 r3 hO k => by
  have e1 := rp_sc.mp r1
  have e2 := rp_sc.mp r2
  subst e1 e2
  obtain ⟨xs, hx, rx⟩ := (hO.mu p _ hm).2
  exact ⟨p, xs, z, j, rfl, rfl, hx, by rw [← rx.length]; exact hj, k F _ _ (Same.refl F) (putL hO hm (rx.set j r3)) q⟩
theorem stp_never (h : False) : StP K tNever ρ M D := h.elim
/-- o.f = v -/
theorem fld_put {F : Hp} {f : Str} {d : Da} {v : V} : ∀ {ns : List Str} {ds : List Da} {xs : List V}, ns.length = xs.length → RpA K F ds xs → Rp K F d v →
    ∃ (ns' : List Str) (ds' : List Da) (xs' : List V), putF f v (ns.zip xs) = ns'.zip xs' ∧ ns'.length = xs'.length ∧ RpA K F ds' xs' ∧ (f ∈ ns → ns' = ns) ∧ (f ∉ ns → ns' = ns ++ [f] ∧ ds' = ds ++ [d]) ∧ ∀ j, ns[j]? = some f → f ∉ ns.take j → ds' = ds.set j d
  | [], ds, xs, hl, r, rv => by
    have ex : xs = [] := List.eq_nil_of_length_eq_zero hl.symm
    subst ex
    have ed : ds = [] := List.eq_nil_of_length_eq_zero r.length
    subst ed
    exact ⟨[f], [d], [v], rfl, rfl, RpA.cons_ rv RpA.nil_, fun h => by simp at h, fun _ => ⟨rfl, rfl⟩, fun j hj => by simp at hj⟩
  | n :: ns, ds, [], hl, r, rv => by simp at hl
  | n :: ns, [], x :: xs, hl, r, rv => by
    have := r.length
    simp at this
  | n :: ns, d0 :: ds, x :: xs, hl, r, rv => by
    obtain ⟨y, ys, e1, h1, h2⟩ := rpA_cons.mp r
    injection e1 with e1 e2
    subst e1 e2
    rw [List.zip_cons_cons]
    have ep : putF f v ((n, x) :: ns.zip xs) = (if n = f then (n, v) :: ns.zip xs else (n, x) :: putF f v (ns.zip xs)) := rfl
    rw [ep]
    by_cases hn : n = f
    · rw [if_pos hn]
      subst hn
      refine ⟨n :: ns, d :: ds, v :: xs, rfl, by simpa using hl, RpA.cons_ rv h2, fun _ => rfl, fun h => absurd List.mem_cons_self h, fun j hj hj2 => ?_⟩
      cases j with
      | zero => rfl
      | succ j =>
        rw [List.take_succ_cons] at hj2
        exact absurd List.mem_cons_self hj2
    · rw [if_neg hn]
      obtain ⟨ns', ds', xs', e1, e2, e3, e4, e5, e6⟩ := fld_put (f := f) (d := d) (v := v) (ns := ns) (ds := ds) (xs := xs) (by simpa using hl) h2 rv
      refine ⟨n :: ns', d0 :: ds', x :: xs', by rw [e1] <;> rfl, by simpa using e2, RpA.cons_ h1 e3, fun h => ?_, fun h => ?_, fun j hj hj2 => ?_⟩
      · rcases List.mem_cons.mp h with h | h
        · exact absurd h.symm hn
        · rw [e4 h]
      · obtain ⟨z1, z2⟩ := e5 fun z => h (List.mem_cons_of_mem _ z)
        rw [z1, z2] <;> exact ⟨rfl, rfl⟩
      · cases j with
        | zero =>
          simp at hj
          exact absurd hj hn
        | succ j =>
          rw [List.take_succ_cons] at hj2
          rw [e6 j (by simpa using hj) fun z => hj2 (List.mem_cons_of_mem _ z)] <;> rfl
/-- a field that is new -/
theorem stp_fldN {tv : TE} {f : Str} {C : Addr} (c : Cls K C) (n : NoAttr K C f)
    (h : EvP K tv ρ M fun z M1 => EvP K ta ρ M1 fun o M2 => ∃ p ns ds, o = .sc (.ref p) ∧ M2 p = some (.ins C ns ds) ∧ f ∉ ns ∧ ns.length < 1000 ∧ D.nx ρ (updM M2 p (.ins C (ns ++ [f]) (ds ++ [z])))) : StP K (sFld K ta tv f) ρ M D := fun σ F G H D0 hE hO m =>
  h σ F G H _ hE hO fun v z F1 M1 H1 s1 o1 r1 h1 => h1 σ F1 G H1 _ (hE.mono s1) o1 fun x o F2 M2 H2 s2 o2 r2 ⟨p, ns, ds, e, hm, hf, hl, q⟩ => by
    subst e
    have ex := rp_sc.mp r2
    subst ex
    obtain ⟨dx, xs, hx, hlen, rx⟩ := (o2.mu p _ hm).2
    obtain ⟨ns', ds', xs', e1, e2, e3, _, e5, _⟩ := fld_put (f := f) hlen rx (Rp.mono s2 _ _ r1)
    obtain ⟨z1, z2⟩ := e5 hf
    subst z1 z2
    refine ⟨p, C, dx, _, rfl, hx, c, n, by rw [List.length_zip]; omega, ?_⟩
    rw [e1]
    exact m.nx σ ρ F2 _ _ (s1.trans s2) (hE.mono (s1.trans s2)) (putI o2 hm e2 e3) q
/-- a field that is there, at the j-th place -/
theorem stp_fldS {tv : TE} {f : Str} {C : Addr} (c : Cls K C) (n : NoAttr K C f)
    (h : EvP K tv ρ M fun z M1 => EvP K ta ρ M1 fun o M2 => ∃ p ns ds j, o = .sc (.ref p) ∧ M2 p = some (.ins C ns ds) ∧ ns[j]? = some f ∧ f ∉ ns.take j ∧ ns.length < 1000 ∧ D.nx ρ (updM M2 p (.ins C ns (ds.set j z)))) : StP K (sFld K ta tv f) ρ M D := fun σ F G H D0 hE hO m =>
  h σ F G H _ hE hO fun v z F1 M1 H1 s1 o1 r1 h1 => h1 σ F1 G H1 _ (hE.mono s1) o1 fun x o F2 M2 H2 s2 o2 r2 ⟨p, ns, ds, j, e, hm, hj, hj2, hl, q⟩ => by
    subst e
    have ex := rp_sc.mp r2
    subst ex
    obtain ⟨dx, xs, hx, hlen, rx⟩ := (o2.mu p _ hm).2
    obtain ⟨ns', ds', xs', e1, e2, e3, e4, _, e6⟩ := fld_put (f := f) hlen rx (Rp.mono s2 _ _ r1)
    have z1 := e4 (List.mem_of_getElem? hj)
    have z2 := e6 j hj hj2
    subst z1 z2
    refine ⟨p, C, dx, _, rfl, hx, c, n, by rw [List.length_zip]; omega, ?_⟩
    rw [e1]
    exact m.nx σ ρ F2 _ _ (s1.trans s2) (hE.mono (s1.trans s2)) (putI o2 hm e2 e3) q

/-! ### methods of lists -/
theorem ev_bm {T : String} {r : V → List V → Hp → VK → Prop} {to : TE} {tr : TA} (h : EvP K to ρ M fun o M1 => ∃ p ds, o = .sc (.ref p) ∧ M1 p = some (.lst ds) ∧ T = "list" ∧ AvP K tr ρ M1 fun es M2 => RMt K r o es M2 P) : EvP K (tBM K T r to tr) ρ M P := fun σ F G H Q hE hO k =>
  h σ F G H _ hE hO fun v o F1 M1 H1 s1 o1 r1 ⟨p, ds, e, hm, hT, h1⟩ => by
    subst e
    have ex := rp_sc.mp r1
    subst ex
    obtain ⟨xs, hx, rx⟩ := (o1.mu p _ hm).2
    refine ⟨.inl ⟨hT, xs, .inl (.inl hx)⟩, ?_⟩
    exact h1 σ F1 G H1 _ (hE.mono s1) o1 fun vs es F2 M2 H2 s2 o2 r2 h2 => h2 _ vs F2 G H2 Q (rp_sc.mpr rfl) r2 o2 fun v d F' M' H' s o r p => k v d F' M' H' ((s1.trans s2).trans s) o r p
theorem rmt_append {p : Addr} {ds : List Da} (hm : M p = some (.lst ds)) (hl : ds.length < 100000) (q : P (.sc .non) (updM M p (.lst (ds ++ [d])))) : RMt K rAppend (.sc (.ref p)) [d] M P := fun x vs F G H Q r1 r2 hO k => by
  have ex := rp_sc.mp r1
  subst ex
  obtain ⟨y, rfl, ry⟩ := rpA_one r2
  obtain ⟨xs, hx, rx⟩ := (hO.mu p _ hm).2
  exact ⟨p, xs, y, rfl, rfl, hx, sz_lt (by rw [← rx.length]; exact hl), k _ _ F _ _ (Same.refl F) (putL hO hm (rx.append (RpA.cons_ ry RpA.nil_))) (rp_sc.mpr rfl) q⟩
theorem rmt_popAt {p : Addr} {ds : List Da} {j : Nat} {e : Da} (hm : M p = some (.lst ds)) (hj : ds[j]? = some e) (hl : ds.length ≤ 1000) (q : P e (updM M p (.lst (ds.eraseIdx j)))) : RMt K rPopAt (.sc (.ref p)) [.sc (.int j)] M P := fun x vs F G H Q r1 r2 hO k => by
  have ex := rp_sc.mp r1
  subst ex
  obtain ⟨y, rfl, ry⟩ := rpA_one r2
  have ey := rp_sc.mp ry
  subst ey
  obtain ⟨xs, hx, rx⟩ := (hO.mu p _ hm).2
  obtain ⟨z, hz, rz⟩ := rx.get hj
  have hjl : j < ds.length := (List.getElem?_eq_some_iff.mp hj).1
  have l := rx.length
  refine ⟨p, xs, j, j, z, rfl, rfl, hx, by omega, by omega, ?_, hz, k _ _ F _ _ (Same.refl F) (putL hO hm (rx.eraseIdx j)) rz q⟩
  unfold seqIndex?
  split
  · omega
  · first
    | rfl
    | (rw [if_pos (by omega)]; simp)
    | simp <;> omega
end
end Dl

namespace Dl
open PySem PySem.Spec L2

/-! ### targets of names -/
def setAll : St → List Nat → List V → St
  | σ, j :: js, y :: ys => setAll (σ.set j (some y)) js ys
  | σ, _, _ => σ
def setAllD : Env' → List Nat → List Da → Env'
  | ρ, j :: js, d :: ds => setAllD (ρ.set j (some d)) js ds
  | ρ, _, _ => ρ
def wipeD (ρ : Env') : List Nat → Env'
  | [] => ρ
  | v :: vs => (wipeD ρ vs).set v none
theorem wipe_get (σ : St) (i : Nat) : ∀ vs : List Nat, (wipe σ vs)[i]? = if i ∈ vs then (σ[i]?).map fun _ => none else σ[i]?
  | [] => by simp [wipe]
  | v :: vs => by
    unfold wipe
    by_cases h : v = i
    · subst h
      rw [if_pos List.mem_cons_self]
      by_cases hl : v < σ.length
      · rw [List.getElem?_set_self (by rw [wipe_length]; exact hl), List.getElem?_eq_getElem hl] <;> rfl
      · rw [List.getElem?_eq_none (by rw [List.length_set, wipe_length]; omega), List.getElem?_eq_none (by omega)] <;> rfl
    · rw [List.getElem?_set_ne h, wipe_get σ i vs]
      by_cases hi : i ∈ vs
      · rw [if_pos hi, if_pos (List.mem_cons_of_mem _ hi)]
      · rw [if_neg hi, if_neg fun z => (List.mem_cons.mp z).elim (fun z => h z.symm) hi]
theorem wipe_set {σ : St} {j : Nat} {x : Option V} {vs : List Nat} (h : j ∈ vs) : wipe (σ.set j x) vs = wipe σ vs := by
  apply List.ext_getElem?
  intro i
  rw [wipe_get, wipe_get]
  by_cases hi : i ∈ vs
  · rw [if_pos hi, if_pos hi]
    by_cases e : j = i
    · subst e
      by_cases hl : j < σ.length
      · rw [List.getElem?_set_self hl, List.getElem?_eq_getElem hl] <;> rfl
      · rw [List.getElem?_eq_none (by rw [List.length_set]; omega), List.getElem?_eq_none (by omega)]
    · rw [List.getElem?_set_ne e]
  · rw [if_neg hi, if_neg hi]
    rw [List.getElem?_set_ne]
    rintro rfl
    exact hi h
theorem wipe_wipe {σ : St} {vs : List Nat} : wipe (wipe σ vs) vs = wipe σ vs := by
  apply List.ext_getElem?
  intro i
  rw [wipe_get, wipe_get]
  by_cases hi : i ∈ vs
  · rw [if_pos hi, if_pos hi, Option.map_map] <;> rfl
  · rw [if_neg hi, if_neg hi]
theorem wipe_setAll {vs : List Nat} : ∀ {js : List Nat} {ys : List V} {σ : St}, (∀ j ∈ js, j ∈ vs) → wipe (setAll σ js ys) vs = wipe σ vs
  | [], _, σ, _ => by unfold setAll; rfl
  | j :: js, [], σ, _ => by unfold setAll; rfl
  | j :: js, y :: ys, σ, h => by
    unfold setAll
    rw [wipe_setAll fun i hi => h i (List.mem_cons_of_mem _ hi), wipe_set (h j List.mem_cons_self)]
section
variable {K : PySem.W.Frag} {ρ : Env'} {M M1 : MH} {ta tb tc te : TE} {t u tt : TT} {ts us tb' : TS} {P : Da → MH → Prop} {PB : Bool → MH → Prop} {D : DE} {d e : Da} {i : Nat}
theorem EnvD.wipe {F : Hp} {σ : St} (h : EnvD K F ρ σ) : ∀ vs : List Nat, EnvD K F (wipeD ρ vs) (L2.wipe σ vs)
  | [] => h
  | v :: vs => (EnvD.wipe h vs).forget v none
theorem EnvD.setAll {F : Hp} : ∀ {js : List Nat} {ds : List Da} {ys : List V} {ρ : Env'} {σ : St}, EnvD K F ρ σ → RpA K F ds ys → EnvD K F (setAllD ρ js ds) (Dl.setAll σ js ys)
  | [], ds, ys, ρ, σ, h, r => by unfold setAllD Dl.setAll; exact h
  | j :: js, [], ys, ρ, σ, h, r => by
    rw [rpA_nil.mp r]
    unfold setAllD Dl.setAll
    exact h
  | j :: js, d :: ds, ys, ρ, σ, h, r => by
    obtain ⟨y, zs, e1, h1, h2⟩ := rpA_cons.mp r
    subst e1
    unfold setAllD Dl.setAll
    exact EnvD.setAll (h.set j h1) h2
/-- a target that stores xs at the slots js, given d -/
def TgOk (K : PySem.W.Frag) (g : TG) (js : List Nat) (d : Da) (xs : List Da) : Prop :=
  ∀ (v : V) (F H : Hp) (σ : St) (Q : St → Hp → Prop), Rp K F d v → Same F H → (∀ ys, RpA K F xs ys → Q (setAll σ js ys) H) → g v σ H Q
theorem tg_name : TgOk K (gName i) [i] d [d] := fun v F H σ Q r s k => k [v] (RpA.cons_ r RpA.nil_)
/-- names one behind another -/
def gNames : List Nat → TGs
  | [] => gNil
  | j :: js => gCons (gName j) (gNames js)
theorem gNames_run : ∀ {js : List Nat} {ys : List V} {σ : St} {H : Hp} {Q : St → Hp → Prop}, ys.length = js.length → Q (setAll σ js ys) H → gNames js ys σ H Q
  | [], [], σ, H, Q, _, q => ⟨rfl, q⟩
  | [], _ :: _, σ, H, Q, h, q => by simp at h
  | _ :: _, [], σ, H, Q, h, q => by simp at h
  | j :: js, y :: ys, σ, H, Q, h, q => ⟨y, ys, rfl, gNames_run (by simpa using h) q⟩
theorem tg_tup {js : List Nat} {n : Nat} {xs : List Da} (hn : js.length = n) (hl : xs.length = n) : TgOk K (gTup K n (gNames js)) js (.tup xs) xs := fun v F H σ Q r s k => by
  obtain ⟨a, ys, e1, h1, h2⟩ := rp_tup.mp r
  exact ⟨a, ys, e1, sqT_mono s h1, by rw [← h2.length]; exact hl, gNames_run (by rw [← h2.length, hl, hn]) (k ys h2)⟩
theorem gv_tg {g : TG} {js : List Nat} {xs : List Da} {PE : Env' → MH → Prop} (h : TgOk K g js d xs) (q : PE (setAllD ρ js xs) M) : GvP K g d ρ M PE := fun v σ F G H Q r hE hO k =>
  h v F H σ Q r hO.ex fun ys ry => k _ _ F M H (Same.refl F) (hE.setAll ry) hO q

/-! ### what a for walks -/
structure SW (K : PySem.W.Frag) (J : It) (ds : List Da) (F : Hp) : Prop where
  go : ∀ i H, i < ds.length → Same F H → J.go i H
  stop : ∀ H, Same F H → J.stop ds.length H
  yld : ∀ i F1 M G H x H', i < ds.length → Same F F1 → OkH K F1 M G H → J.yld i H x H' → ∃ F2 d, Same F1 F2 ∧ OkH K F2 M G H' ∧ ds[i]? = some d ∧ Rp K F2 d x
def SrP (K : PySem.W.Frag) (wi : TI) (ρ : Env') (M : MH) (P : List Da → MH → Prop) : Prop :=
  ∀ (σ : St) (F G H : Hp) (R : It → Hp → Prop), EnvD K F ρ σ → OkH K F M G H → (∀ J ds F' M' H', Same F F' → OkH K F' M' G H' → SW K J ds F' → P ds M' → R J H') → wi σ H R
theorem sw_list {F : Hp} {a : Addr} {ds : List Da} {xs : List V} (h : F a = some (.lst xs)) (r : RpA K F ds xs) : SW K (Itl K a) ds F where
  go := fun i H hi s => by
    obtain ⟨x, hx, _⟩ := r.get (List.getElem?_eq_getElem hi)
    exact ⟨xs, x, .inl (.inl (s _ _ h)), hx⟩
  stop := fun H s => ⟨xs, .inl (.inl (s _ _ h)), by rw [r.length]; exact Nat.le_refl _⟩
  yld := fun i F1 M G H x H' hi s o y => by
    obtain ⟨e, y⟩ := y
    subst e
    have hx := y xs (.inl (.inl (o.ex _ _ (s _ _ h))))
    obtain ⟨d, hd, rd⟩ := r.get' hx
    exact ⟨F1, d, Same.refl F1, o, hd, Rp.mono s _ _ rd⟩
theorem sw_tup {F : Hp} {a : Addr} {ds : List Da} {xs : List V} (h : SqT K F a xs) (r : RpA K F ds xs) : SW K (Itt K a) ds F where
  go := fun i H hi s => by
    obtain ⟨x, hx, _⟩ := r.get (List.getElem?_eq_getElem hi)
    exact ⟨xs, x, sqT_mono s h, hx⟩
  stop := fun H s => ⟨xs, sqT_mono s h, by rw [r.length]; exact Nat.le_refl _⟩
  yld := fun i F1 M G H x H' hi s o y => by
    obtain ⟨e, y⟩ := y
    subst e
    have hx := y xs (sqT_mono o.ex (sqT_mono s h))
    obtain ⟨d, hd, rd⟩ := r.get' hx
    exact ⟨F1, d, Same.refl F1, o, hd, Rp.mono s _ _ rd⟩
def rngD (lo : Int) (n : Nat) : List Da := (List.range n).map fun i => .sc (.int (lo + (i : Nat)))
theorem rngD_length {lo : Int} {n : Nat} : (rngD lo n).length = n := by unfold rngD; rw [List.length_map, List.length_range]
theorem rngD_get {lo : Int} {n i : Nat} {d : Da} (h : (rngD lo n)[i]? = some d) : i < n ∧ d = .sc (.int (lo + (i : Nat))) := by
  unfold rngD at h
  rw [List.getElem?_map] at h
  by_cases hi : i < n
  · rw [List.getElem?_range hi] at h
    cases h
    exact ⟨hi, rfl⟩
  · rw [List.getElem?_eq_none (by rw [List.length_range]; omega)] at h
    cases h
theorem sw_range {F : Hp} {lo : Int} {n : Nat} : SW K (Itr lo n) (rngD lo n) F where
  go := fun i H hi s => by
    rw [rngD_length] at hi
    exact hi
  stop := fun H s => by
    rw [rngD_length]
    exact Nat.le_refl n
  yld := fun i F1 M G H x H' hi s o y => by
    obtain ⟨e, y⟩ := y
    subst e y
    rw [rngD_length] at hi
    exact ⟨F1, .sc (.int (lo + (i : Nat))), Same.refl F1, o, by unfold rngD; rw [List.getElem?_map, List.getElem?_range hi] <;> rfl, rp_sc.mpr rfl⟩
def enumD (ds : List Da) : List Da := (List.range ds.length).map fun i => .tup [.sc (.int (i : Nat)), ds.getD i (.sc .non)]
theorem enumD_length {ds : List Da} : (enumD ds).length = ds.length := by unfold enumD; rw [List.length_map, List.length_range]
theorem enumD_get {ds : List Da} {i : Nat} {d : Da} (h : (enumD ds)[i]? = some d) : ∃ e, ds[i]? = some e ∧ d = .tup [.sc (.int (i : Nat)), e] := by
  unfold enumD at h
  rw [List.getElem?_map] at h
  by_cases hi : i < ds.length
  · rw [List.getElem?_range hi] at h
    cases h
    exact ⟨ds[i], List.getElem?_eq_getElem hi, by simp only [List.getD_eq_getElem?_getD, List.getElem?_eq_getElem hi, Option.getD_some]⟩
  · rw [List.getElem?_eq_none (by rw [List.length_range]; omega)] at h
    cases h
theorem enumD_at {ds : List Da} {i : Nat} {e : Da} (h : ds[i]? = some e) : (enumD ds)[i]? = some (.tup [.sc (.int (i : Nat)), e]) := by
  have hi := (List.getElem?_eq_some_iff.mp h).1
  unfold enumD
  rw [List.getElem?_map, List.getElem?_range hi]
  simp only [Option.map_some, List.getD_eq_getElem?_getD, h, Option.getD_some]
theorem sw_enum {F : Hp} {a : Addr} {ds : List Da} {xs : List V} (h : F a = some (.lst xs)) (r : RpA K F ds xs) : SW K (Ite K a) (enumD ds) F where
  go := fun i H hi s => by
    rw [enumD_length] at hi
    obtain ⟨x, hx, _⟩ := r.get (List.getElem?_eq_getElem hi)
    exact ⟨xs, x, .inl (.inl (s _ _ h)), hx⟩
  stop := fun H s => ⟨xs, .inl (.inl (s _ _ h)), by rw [enumD_length, r.length]; exact Nat.le_refl _⟩
  yld := fun i F1 M G H x H' hi s o y => by
    obtain ⟨T, z, e, hT, e2, y⟩ := y
    subst e e2
    have hx := y xs (.inl (.inl (o.ex _ _ (s _ _ h))))
    obtain ⟨d, hd, rd⟩ := r.get' hx
    refine ⟨upd F1 T (.tup [.int (i : Nat), z]), _, sm_new (o.noF hT), o.new hT, enumD_at hd, rp_tup.mpr ⟨T, _, rfl, .inl (.inl upd_same), ?_⟩⟩
    exact RpA.cons_ (rp_sc.mpr rfl) (RpA.cons_ (Rp.mono (s.trans (sm_new (o.noF hT))) _ _ rd) RpA.nil_)
theorem sr_list {tl : TE} {P : List Da → MH → Prop} (h : EvP K tl ρ M fun d M1 => ∃ ds, d = .lst ds ∧ P ds M1) : SrP K (iList K tl) ρ M P := fun σ F G H R hE hO k =>
  h σ F G H _ hE hO fun v d F1 M1 H1 s1 o1 r1 ⟨ds, e, p⟩ => by
    subst e
    obtain ⟨a, xs, rfl, hx, rx⟩ := rp_lst.mp r1
    exact ⟨a, rfl, ⟨xs, .inl (.inl (o1.ex _ _ hx))⟩, k _ ds F1 M1 H1 s1 o1 (sw_list hx rx) p⟩
theorem sr_tup {tl : TE} {P : List Da → MH → Prop} (h : EvP K tl ρ M fun d M1 => ∃ ds, d = .tup ds ∧ P ds M1) : SrP K (iTup K tl) ρ M P := fun σ F G H R hE hO k =>
  h σ F G H _ hE hO fun v d F1 M1 H1 s1 o1 r1 ⟨ds, e, p⟩ => by
    subst e
    obtain ⟨a, xs, rfl, hx, rx⟩ := rp_tup.mp r1
    exact ⟨a, rfl, ⟨xs, sqT_mono o1.ex hx⟩, k _ ds F1 M1 H1 s1 o1 (sw_tup hx rx) p⟩
theorem sr_range1 {ta : TA} {P : List Da → MH → Prop} (h : AvP K ta ρ M fun ds M1 => ∃ n : Int, ds = [.sc (.int n)] ∧ -100000 ≤ n ∧ n ≤ 100000 ∧ P (rngD 0 n.toNat) M1) : SrP K (iRng1 ta) ρ M P := fun σ F G H R hE hO k =>
  h σ F G H _ hE hO fun vs ds F1 M1 H1 s1 o1 r1 ⟨n, e, h0, h1, p⟩ => by
    subst e
    obtain ⟨x, rfl, rx⟩ := rpA_one r1
    have ex := rp_sc.mp rx
    subst ex
    exact ⟨n, rfl, by omega, by omega, k _ _ F1 M1 H1 s1 o1 sw_range p⟩
theorem sr_range2 {ta : TA} {P : List Da → MH → Prop} (h : AvP K ta ρ M fun ds M1 => ∃ m n : Int, ds = [.sc (.int m), .sc (.int n)] ∧ (-100000 ≤ m ∧ m ≤ 100000 ∧ -100000 ≤ n ∧ n ≤ 100000) ∧ P (rngD m (n - m).toNat) M1) : SrP K (iRng2 ta) ρ M P := fun σ F G H R hE hO k =>
  h σ F G H _ hE hO fun vs ds F1 M1 H1 s1 o1 r1 ⟨m, n, e, h0, p⟩ => by
    subst e
    obtain ⟨x, y, rfl, rx, ry⟩ := rpA_two r1
    have ex := rp_sc.mp rx
    have ey := rp_sc.mp ry
    subst ex ey
    exact ⟨m, n, rfl, by omega, k _ _ F1 M1 H1 s1 o1 sw_range p⟩
theorem sr_enum {ta : TA} {P : List Da → MH → Prop} (h : AvP K ta ρ M fun es M1 => ∃ ds, es = [.lst ds] ∧ P (enumD ds) M1) : SrP K (iEnum K ta) ρ M P := fun σ F G H R hE hO k =>
  h σ F G H _ hE hO fun vs es F1 M1 H1 s1 o1 r1 ⟨ds, e, p⟩ => by
    subst e
    obtain ⟨x, rfl, rx⟩ := rpA_one r1
    obtain ⟨a, xs, rfl, hx, rx⟩ := rp_lst.mp rx
    exact ⟨a, xs, rfl, .inl (.inl (o1.ex _ _ hx)), k _ _ F1 M1 H1 s1 o1 (sw_enum hx rx) p⟩

/-! ### for -/
theorem stp_for {wi : TI} {g : TG} {js : List Nat} (h : SrP K wi ρ M fun ds M1 => ∃ I : Nat → Env' → MH → Prop, I 0 ρ M1 ∧
      (∀ i d ρ' M', ds[i]? = some d → I i ρ' M' → ∃ xs, TgOk K g js d xs ∧ StP K tb' (setAllD ρ' js xs) M' { D with nx := I (i + 1), ct := I (i + 1), bk := D.nx }) ∧ ∀ ρ' M', I ds.length ρ' M' → D.nx ρ' M') : StP K (tFor wi g tb') ρ M D := fun σ F G H D0 hE hO m =>
  h σ F G H _ hE hO fun J ds F1 M1 H1 s1 o1 w ⟨I, i0, hs, hd⟩ => by
    refine ⟨fun i m σ' H' => m = ds.length - i ∧ i ≤ ds.length ∧ ∃ ρ' F' M', Same F1 F' ∧ EnvD K F' ρ' σ' ∧ OkH K F' M' G H' ∧ I i ρ' M', ⟨ds.length, by simp, Nat.zero_le _, ρ, F1, M1, Same.refl F1, hE.mono s1, o1, i0⟩, ?_⟩
    rintro i n σ' H' ⟨rfl, hi, ρ', F', M', s2, e2, o2, p⟩
    by_cases hlt : i < ds.length
    · refine .inr ⟨w.go i H' hlt fun b o q => o2.ex _ _ (s2 _ _ q), fun σ3 H3 => ∃ ρ3 F3 M3, Same F1 F3 ∧ EnvD K F3 ρ3 σ3 ∧ OkH K F3 M3 G H3 ∧ I (i + 1) ρ3 M3, fun σ3 H3 q => ⟨ds.length - (i + 1), by omega, rfl, hlt, q⟩, fun x H2 y => ?_⟩
      obtain ⟨F2, d, s3, o3, hd3, r3⟩ := w.yld i F' M' G H' x H2 hlt s2 o2 y
      obtain ⟨xs, tg, st⟩ := hs i d ρ' M' hd3 p
      refine tg x F2 H2 σ' _ r3 o3.ex fun ys ry => ?_
      refine st (setAll σ' js ys) F2 G H2 _ ((e2.mono s3).setAll ry) o3 ⟨fun σ4 ρ4 F4 M4 H4 s4 e4 o4 q4 => ?_, fun v d F4 M4 H4 s4 o4 r4 q4 => ?_, fun σ4 ρ4 F4 M4 H4 s4 e4 o4 q4 => ?_, fun σ4 ρ4 F4 M4 H4 s4 e4 o4 q4 => ?_⟩
      · exact ⟨ρ4, F4, M4, (s2.trans s3).trans s4, e4, o4, q4⟩
      · exact m.rt v d F4 M4 H4 (((s1.trans s2).trans s3).trans s4) o4 r4 q4
      · exact m.nx σ4 ρ4 F4 M4 H4 (((s1.trans s2).trans s3).trans s4) e4 o4 q4
      · exact ⟨ρ4, F4, M4, (s2.trans s3).trans s4, e4, o4, q4⟩
    · have e : i = ds.length := by omega
      subst e
      exact .inl ⟨w.stop H' fun b o q => o2.ex _ _ (s2 _ _ q), m.nx σ' ρ' F' M' H' (s1.trans s2) e2 o2 (hd ρ' M' p)⟩

/-! ### comprehensions -/
theorem OkH.hide {F G H : Hp} {p : Addr} {o : HO} (h : OkH K F M G H) (hp : H p = none) : OkH K F M (upd G p o) (upd H p o) where
  ex := sm_right h.ex (h.noF hp)
  mu := fun a u e => by
    obtain ⟨h1, h2⟩ := h.mu a u e
    obtain ⟨z, hz⟩ := h2.here
    exact ⟨h1, h2.mono (Same.refl F) (upd_ne (ne_of_none hz hp))⟩
  gx := sm_both h.gx
  gd := fun a u e => by
    by_cases ha : a = p
    · subst ha
      exact ⟨h.noF hp, h.noM hp⟩
    · rw [upd_ne ha] at e
      exact h.gd a u e
theorem OkH.rehide {F G H : Hp} {p : Addr} {o o' : HO} (h : OkH K F M (upd G p o) H) : OkH K F M (upd G p o') (upd H p o') where
  ex := sm_right h.ex (h.gd p o upd_same).1
  mu := fun a u e => by
    obtain ⟨h1, h2⟩ := h.mu a u e
    have ne : a ≠ p := by
      rintro rfl
      rw [(h.gd a o upd_same).2] at e
      cases e
    exact ⟨h1, h2.mono (Same.refl F) (upd_ne ne)⟩
  gx := fun b u e => by
    by_cases hb : b = p
    · subst hb
      rw [upd_same] at e ⊢
      exact e
    · rw [upd_ne hb] at e ⊢
      exact h.gx b u (by rw [upd_ne hb]; exact e)
  gd := fun a u e => by
    by_cases ha : a = p
    · subst ha
      exact h.gd a o upd_same
    · rw [upd_ne ha] at e
      exact h.gd a u (by rw [upd_ne ha]; exact e)
theorem OkH.show_ {F G H : Hp} {p : Addr} {o : HO} (h : OkH K F M (upd G p o) H) (hG : G p = none) : OkH K (upd F p o) M G H ∧ Same F (upd F p o) := by
  have nF := (h.gd p o upd_same).1
  have nM := (h.gd p o upd_same).2
  have hp : H p = some o := h.gx p o upd_same
  refine ⟨⟨fun b u e => ?_, fun a u e => ?_, fun b u e => ?_, fun a u e => ?_⟩, sm_new nF⟩
  · by_cases hb : b = p
    · subst hb
      rw [upd_same] at e
      cases e
      exact hp
    · rw [upd_ne hb] at e
      exact h.ex b u e
  · obtain ⟨h1, h2⟩ := h.mu a u e
    have ne : a ≠ p := by
      rintro rfl
      rw [nM] at e
      cases e
    exact ⟨by rw [upd_ne ne]; exact h1, h2.mono (sm_new nF) rfl⟩
  · have ne : b ≠ p := by
      rintro rfl
      rw [hG] at e
      cases e
    exact h.gx b u (by rw [upd_ne ne]; exact e)
  · have ne : a ≠ p := by
      rintro rfl
      rw [hG] at e
      cases e
    obtain ⟨h1, h2⟩ := h.gd a u (by rw [upd_ne ne]; exact e)
    exact ⟨by rw [upd_ne ne]; exact h1, h2⟩
theorem ev_lc {wi : TI} {g : TG} {vs js : List Nat} (hj : ∀ j ∈ js, j ∈ vs) (h : SrP K wi ρ M fun ds M1 => ∃ I : Nat → List Da → MH → Prop, I 0 [] M1 ∧
      (∀ i d acc M', ds[i]? = some d → I i acc M' → ∃ xs, TgOk K g js d xs ∧ TvP K tt (setAllD (wipeD ρ vs) js xs) M' fun b M2 =>
        if b = true then acc.length < 100000 ∧ EvP K te (setAllD (wipeD ρ vs) js xs) M2 fun y M3 => I (i + 1) (acc ++ [y]) M3 else I (i + 1) acc M2) ∧ ∀ acc M', I ds.length acc M' → P (.lst acc) M') : EvP K (tLc wi g tt te vs) ρ M P := fun σ F G H Q hE hO k =>
  h σ F G H _ hE hO fun J ds F1 M1 H1 s1 o1 w ⟨I, i0, hs, hd⟩ => fun Dl hDl => by
    have hG : G Dl = none := o1.noG hDl
    refine ⟨fun i m H' => m = ds.length - i ∧ i ≤ ds.length ∧ ∃ F' M' acc ys, Same F1 F' ∧ OkH K F' M' (upd G Dl (.lst ys)) H' ∧ RpA K F' acc ys ∧ I i acc M', ⟨ds.length, by simp, Nat.zero_le _, F1, M1, [], [], Same.refl F1, o1.hide hDl, RpA.nil_, i0⟩, ?_⟩
    rintro i n H' ⟨rfl, hi, F', M', acc, ys, s2, o2, racc, p⟩
    by_cases hlt : i < ds.length
    · refine .inr ⟨w.go i H' hlt fun b o q => o2.ex _ _ (s2 _ _ q), fun H3 => ∃ F3 M3 acc ys, Same F1 F3 ∧ OkH K F3 M3 (upd G Dl (.lst ys)) H3 ∧ RpA K F3 acc ys ∧ I (i + 1) acc M3, fun H3 q => ⟨ds.length - (i + 1), by omega, rfl, hlt, q⟩, fun x H2 y => ?_⟩
      obtain ⟨F2, d, s3, o3, hd3, r3⟩ := w.yld i F' M' _ H' x H2 hlt s2 o2 y
      obtain ⟨xs, tg, tv⟩ := hs i d acc M' hd3 p
      refine tg x F2 H2 (wipe σ vs) _ r3 o3.ex fun zs rz => ⟨by rw [wipe_setAll hj, wipe_wipe], ?_⟩
      have e3 : EnvD K F2 (setAllD (wipeD ρ vs) js xs) (setAll (wipe σ vs) js zs) := (((hE.wipe vs).mono ((s1.trans s2).trans s3))).setAll rz
      refine tv _ F2 _ H2 _ e3 o3 fun b F4 M4 H4 s4 o4 q4 => ?_
      cases b with
      | true =>
        rw [if_pos rfl]
        obtain ⟨hl, ev⟩ := (show acc.length < 100000 ∧ EvP K te (setAllD (wipeD ρ vs) js xs) M4 fun y M3 => I (i + 1) (acc ++ [y]) M3 from q4)
        refine ev _ F4 _ H4 _ (e3.mono s4) o4 fun v z F5 M5 H5 s5 o5 r5 q5 => ?_
        refine ⟨ys, o5.gx _ _ upd_same, sz_lt (by rw [← racc.length]; exact hl), F5, M5, acc ++ [z], ys ++ [v], ((s2.trans s3).trans s4).trans s5, o5.rehide, ?_, q5⟩
        exact (RpA.mono ((s3.trans s4).trans s5) _ _ racc).append (RpA.cons_ r5 RpA.nil_)
      | false =>
        rw [if_neg Bool.false_ne_true]
        exact ⟨F4, M4, acc, ys, (s2.trans s3).trans s4, o4, RpA.mono (s3.trans s4) _ _ racc, q4⟩
    · have e : i = ds.length := by omega
      subst e
      obtain ⟨o6, s6⟩ := o2.show_ hG
      exact .inl ⟨w.stop H' fun b o q => o2.ex _ _ (s2 _ _ q), k _ _ _ M' H' ((s1.trans s2).trans s6) o6 (rp_lst.mpr ⟨Dl, ys, rfl, upd_same, RpA.mono s6 _ _ racc⟩) (hd acc M' p)⟩
/-- two fors: the inner one's source may speak of the outer one's names -/
theorem ev_lc2 {wi wi1 : TI} {g g1 : TG} {tt1 : TT} {vs vs1 js js1 : List Nat} (hj : ∀ j ∈ js, j ∈ vs) (hj1 : ∀ j ∈ js1, j ∈ vs1) (h : SrP K wi ρ M fun ds M1 => ∃ I : Nat → List Da → MH → Prop, I 0 [] M1 ∧
      (∀ i d acc M', ds[i]? = some d → I i acc M' → ∃ xs, TgOk K g js d xs ∧ TvP K tt (setAllD (wipeD ρ vs) js xs) M' fun b M2 =>
        if b = true then SrP K wi1 (setAllD (wipeD ρ vs) js xs) M2 fun es M3 => ∃ L : Nat → List Da → MH → Prop, L 0 acc M3 ∧
          (∀ l e acc1 M4, es[l]? = some e → L l acc1 M4 → ∃ zs, TgOk K g1 js1 e zs ∧ TvP K tt1 (setAllD (wipeD (setAllD (wipeD ρ vs) js xs) vs1) js1 zs) M4 fun b M5 =>
            if b = true then acc1.length < 100000 ∧ EvP K te (setAllD (wipeD (setAllD (wipeD ρ vs) js xs) vs1) js1 zs) M5 fun y M6 => L (l + 1) (acc1 ++ [y]) M6 else L (l + 1) acc1 M5) ∧
          ∀ acc1 M4, L es.length acc1 M4 → I (i + 1) acc1 M4
        else I (i + 1) acc M2) ∧ ∀ acc M', I ds.length acc M' → P (.lst acc) M') : EvP K (tLc2 wi g tt wi1 g1 tt1 te vs vs1) ρ M P := fun σ F G H Q hE hO k =>
  h σ F G H _ hE hO fun J ds F1 M1 H1 s1 o1 w ⟨I, i0, hs, hd⟩ => fun Dl hDl => by
    have hG : G Dl = none := o1.noG hDl
    refine ⟨fun i m H' => m = ds.length - i ∧ i ≤ ds.length ∧ ∃ F' M' acc ys, Same F1 F' ∧ OkH K F' M' (upd G Dl (.lst ys)) H' ∧ RpA K F' acc ys ∧ I i acc M', ⟨ds.length, by simp, Nat.zero_le _, F1, M1, [], [], Same.refl F1, o1.hide hDl, RpA.nil_, i0⟩, ?_⟩
    rintro i n H' ⟨rfl, hi, F', M', acc, ys, s2, o2, racc, p⟩
    by_cases hlt : i < ds.length
    · refine .inr ⟨w.go i H' hlt fun b o q => o2.ex _ _ (s2 _ _ q), fun H3 => ∃ F3 M3 acc ys, Same F1 F3 ∧ OkH K F3 M3 (upd G Dl (.lst ys)) H3 ∧ RpA K F3 acc ys ∧ I (i + 1) acc M3, fun H3 q => ⟨ds.length - (i + 1), by omega, rfl, hlt, q⟩, fun x H2 y => ?_⟩
      obtain ⟨F2, d, s3, o3, hd3, r3⟩ := w.yld i F' M' _ H' x H2 hlt s2 o2 y
      obtain ⟨xs, tg, tv⟩ := hs i d acc M' hd3 p
      refine tg x F2 H2 (wipe σ vs) _ r3 o3.ex fun zs rz => ⟨by rw [wipe_setAll hj, wipe_wipe], ?_⟩
      have e3 : EnvD K F2 (setAllD (wipeD ρ vs) js xs) (setAll (wipe σ vs) js zs) := (((hE.wipe vs).mono ((s1.trans s2).trans s3))).setAll rz
      refine tv _ F2 _ H2 _ e3 o3 fun b F4 M4 H4 s4 o4 q4 => ?_
      cases b with
      | false =>
        rw [if_neg Bool.false_ne_true]
        exact ⟨F4, M4, acc, ys, (s2.trans s3).trans s4, o4, RpA.mono (s3.trans s4) _ _ racc, q4⟩
      | true =>
        rw [if_pos rfl]
        have q4' := (show SrP K wi1 (setAllD (wipeD ρ vs) js xs) M4 _ from q4)
        refine q4' _ F4 _ H4 _ (e3.mono s4) o4 fun J1 es F5 M5 H5 s5 o5 w1 ⟨L, l0, ls, ld⟩ => ?_
        refine ⟨fun j m H' => m = es.length - j ∧ j ≤ es.length ∧ ∃ F' M' acc ys, Same F5 F' ∧ OkH K F' M' (upd G Dl (.lst ys)) H' ∧ RpA K F' acc ys ∧ L j acc M', ⟨es.length, by simp, Nat.zero_le _, F5, M5, acc, ys, Same.refl F5, o5, RpA.mono ((s3.trans s4).trans s5) _ _ racc, l0⟩, ?_⟩
        rintro j n6 H6 ⟨rfl, hj6, F6, M6, acc6, ys6, s6, o6, racc6, p6⟩
        by_cases hlt6 : j < es.length
        · refine .inr ⟨w1.go j H6 hlt6 fun b o q => o6.ex _ _ (s6 _ _ q), fun H3 => ∃ F3 M3 acc ys, Same F5 F3 ∧ OkH K F3 M3 (upd G Dl (.lst ys)) H3 ∧ RpA K F3 acc ys ∧ L (j + 1) acc M3, fun H3 q => ⟨es.length - (j + 1), by omega, rfl, hlt6, q⟩, fun x7 H7 y7 => ?_⟩
          obtain ⟨F7, e7, s7, o7, hd7, r7⟩ := w1.yld j F6 M6 _ H6 x7 H7 hlt6 s6 o6 y7
          obtain ⟨xs7, tg7, tv7⟩ := ls j e7 acc6 M6 hd7 p6
          refine tg7 x7 F7 H7 (wipe (setAll (wipe σ vs) js zs) vs1) _ r7 o7.ex fun ws rw' => ⟨by rw [wipe_setAll hj1, wipe_wipe], ?_⟩
          have e8 : EnvD K F7 (setAllD (wipeD (setAllD (wipeD ρ vs) js xs) vs1) js1 xs7) (setAll (wipe (setAll (wipe σ vs) js zs) vs1) js1 ws) := ((e3.mono (((s4.trans s5).trans s6).trans s7)).wipe vs1).setAll rw'
          refine tv7 _ F7 _ H7 _ e8 o7 fun b F9 M9 H9 s9 o9 q9 => ?_
          cases b with
          | true =>
            rw [if_pos rfl]
            obtain ⟨hl, ev⟩ := (show acc6.length < 100000 ∧ EvP K te _ M9 fun y M3 => L (j + 1) (acc6 ++ [y]) M3 from q9)
            refine ev _ F9 _ H9 _ (e8.mono s9) o9 fun v z F10 M10 H10 s10 o10 r10 q10 => ?_
            refine ⟨ys6, o10.gx _ _ upd_same, sz_lt (by rw [← racc6.length]; exact hl), F10, M10, acc6 ++ [z], ys6 ++ [v], ((s6.trans s7).trans s9).trans s10, o10.rehide, ?_, q10⟩
            exact (RpA.mono ((s7.trans s9).trans s10) _ _ racc6).append (RpA.cons_ r10 RpA.nil_)
          | false =>
            rw [if_neg Bool.false_ne_true]
            exact ⟨F9, M9, acc6, ys6, (s6.trans s7).trans s9, o9, RpA.mono (s7.trans s9) _ _ racc6, q9⟩
        · have e : j = es.length := by omega
          subst e
          exact .inl ⟨w1.stop H6 fun b o q => o6.ex _ _ (s6 _ _ q), F6, M6, acc6, ys6, (((s2.trans s3).trans s4).trans s5).trans s6, o6, racc6, ld acc6 M6 p6⟩
    · have e : i = ds.length := by omega
      subst e
      obtain ⟨o6, s6⟩ := o2.show_ hG
      exact .inl ⟨w.stop H' fun b o q => o2.ex _ _ (s2 _ _ q), k _ _ _ M' H' ((s1.trans s2).trans s6) o6 (rp_lst.mpr ⟨Dl, ys, rfl, upd_same, RpA.mono s6 _ _ racc⟩) (hd acc M' p)⟩
end
end Dl

namespace Dl
open PySem PySem.Spec L2
section
variable {K : PySem.W.Frag} {ρ : Env'} {M M1 : MH} {ta tb tc te : TE} {t u tt : TT} {ts us : TS} {P : Da → MH → Prop} {PB : Bool → MH → Prop} {D : DE} {d e : Da} {i : Nat}

/-! ### slices -/
def OvP (K : PySem.W.Frag) (to : TO) (ρ : Env') (M : MH) (P : Option Int → MH → Prop) : Prop :=
  ∀ (σ : St) (F G H : Hp) (Q : Option Int → Hp → Prop), EnvD K F ρ σ → OkH K F M G H → (∀ o F' M' H', Same F F' → OkH K F' M' G H' → P o M' → Q o H') → to σ H Q
theorem ov_none {PO : Option Int → MH → Prop} (q : PO none M) : OvP K tNoPart ρ M PO := fun σ F G H Q hE hO k => k none F M H (Same.refl F) hO q
theorem ov_some {PO : Option Int → MH → Prop} (h : EvP K te ρ M fun d M1 => ∃ z, d = .sc (.int z) ∧ PO (some z) M1) : OvP K (tPart te) ρ M PO := fun σ F G H Q hE hO k =>
  h σ F G H _ hE hO fun v d F1 M1 H1 s1 o1 r1 ⟨z, e, p⟩ => by
    subst e
    exact ⟨z, rp_sc.mp r1, k _ F1 M1 H1 s1 o1 p⟩
def RSl (K : PySem.W.Frag) (r : V → Option Int → Option Int → Hp → VK → Prop) (d : Da) (lo hi : Option Int) (M : MH) (P : Da → MH → Prop) : Prop :=
  ∀ (x : V) (F G H : Hp) (Q : VK), Rp K F d x → OkH K F M G H → (∀ v d F' M' H', Same F F' → OkH K F' M' G H' → Rp K F' d v → P d M' → Q v H') → r x lo hi H Q
theorem ev_sl {r : V → Option Int → Option Int → Hp → VK → Prop} {tl th : TO} (h : EvP K te ρ M fun d M1 => OvP K tl ρ M1 fun lo M2 => OvP K th ρ M2 fun hi M3 => RSl K r d lo hi M3 P) : EvP K (tSl r te tl th) ρ M P := fun σ F G H Q hE hO k =>
  h σ F G H _ hE hO fun x d F1 M1 H1 s1 o1 r1 h1 => h1 σ F1 G H1 _ (hE.mono s1) o1 fun lo F2 M2 H2 s2 o2 h2 => h2 σ F2 G H2 _ (hE.mono (s1.trans s2)) o2 fun hi F3 M3 H3 s3 o3 h3 =>
    h3 x F3 G H3 Q (Rp.mono (s2.trans s3) _ _ r1) o3 fun v d F' M' H' s o r p => k v d F' M' H' (((s1.trans s2).trans s3).trans s) o r p
def cutD (xs : List Da) (lo hi : Option Int) : List Da := (xs.drop (HT.sIx xs.length 0 lo)).take (HT.sIx xs.length xs.length hi - HT.sIx xs.length 0 lo)
theorem rpA_cut {F : Hp} {ds : List Da} {xs : List V} {lo hi : Option Int} (h : RpA K F ds xs) : RpA K F (cutD ds lo hi) (cutV xs lo hi) := by
  unfold cutD cutV
  rw [h.length]
  exact (h.drop _).take _
theorem rsl_L {ds : List Da} {lo hi : Option Int} (hd : LstAt d M ds) (q : P (.lst (cutD ds lo hi)) M) : RSl K (rSlB K) d lo hi M P := fun x F G H Q rx hO k => by
  obtain ⟨a, xs, rfl, ha, ra⟩ := lstAt hd rx hO
  exact .inl ⟨a, xs, rfl, .inl (.inl ha), fun p hp => fin_lst hO hp (rpA_cut ra) q k⟩
theorem cutV_whole {xs : List V} {lo hi : Option Int} (h : HT.sIx xs.length 0 lo = 0 ∧ HT.sIx xs.length xs.length hi = xs.length) : cutV xs lo hi = xs := by
  unfold cutV
  rw [h.1, h.2]
  simp
theorem rsl_T {ds : List Da} {lo hi : Option Int} (q : P (.tup (cutD ds lo hi)) M) : RSl K (rSlB K) (.tup ds) lo hi M P := fun x F G H Q rx hO k => by
  obtain ⟨a, xs, rfl, ha, ra⟩ := rp_tup.mp rx
  refine .inr ⟨a, xs, rfl, sqT_mono hO.ex ha, fun hw => ?_, fun _ p hp => fin_tup hO hp (rpA_cut ra) q k⟩
  have rc := rpA_cut (lo := lo) (hi := hi) ra
  rw [cutV_whole hw] at rc
  exact k _ _ F M H (Same.refl F) hO (rp_tup.mpr ⟨a, xs, rfl, ha, rc⟩) q
/-- xs[::-1] -/
theorem ev_rev (h : EvP K te ρ M fun d M1 => ∃ ds, LstAt d M1 ds ∧ P (.lst ds.reverse) M1) : EvP K (tRevL K te) ρ M P := fun σ F G H Q hE hO k =>
  h σ F G H _ hE hO fun x d F1 M1 H1 s1 o1 r1 ⟨ds, hd, p⟩ => by
    obtain ⟨a, xs, rfl, ha, ra⟩ := lstAt hd r1 o1
    exact ⟨a, xs, rfl, .inl (.inl ha), fun q hq => fin_lst (P := P) o1 hq ra.reverse p fun v d F' M' H' s o r p' => k v d F' M' H' (s1.trans s) o r p'⟩

/-! ### more methods of lists -/
abbrev rInsert : V → List V → Hp → VK → Prop := fun x vs H Q => ∃ (l : Addr) (xs : List V) (i : Int) (y : V), x = .ref l ∧ vs = [.int i, y] ∧ H l = some (.lst xs) ∧ xs.length < sizeLine ∧ 0 ≤ i ∧ i < 2 ^ 63 ∧ Q .non (upd H l (.lst (xs.take i.toNat ++ [y] ++ xs.drop i.toNat)))
theorem rmt_insert {p : Addr} {ds : List Da} {z : Int} (hm : M p = some (.lst ds)) (hl : ds.length < 1000) (h0 : 0 ≤ z) (h1 : z ≤ 1000) (q : P (.sc .non) (updM M p (.lst (ds.take z.toNat ++ [d] ++ ds.drop z.toNat)))) : RMt K rInsert (.sc (.ref p)) [.sc (.int z), d] M P := fun x vs F G H Q r1 r2 hO k => by
  have ex := rp_sc.mp r1
  subst ex
  obtain ⟨y, w, rfl, ry, rw'⟩ := rpA_two r2
  have ey := rp_sc.mp ry
  subst ey
  obtain ⟨xs, hx, rx⟩ := (hO.mu p _ hm).2
  have l := rx.length
  exact ⟨p, xs, z, w, rfl, rfl, hx, sz_lt (by omega), h0, by omega, k _ _ F _ _ (Same.refl F) (putL hO hm (((rx.take _).append (RpA.cons_ rw' RpA.nil_)).append (rx.drop _))) (rp_sc.mpr rfl) q⟩

/-! ### sources of either kind -/
theorem sr_seq {tl : TE} {P : List Da → MH → Prop} (h : EvP K tl ρ M fun d M1 => ∃ ds, (d = .lst ds ∨ d = .tup ds) ∧ P ds M1) : SrP K (iSeq K tl) ρ M P := fun σ F G H R hE hO k =>
  h σ F G H _ hE hO fun v d F1 M1 H1 s1 o1 r1 ⟨ds, e, p⟩ => by
    rcases e with e | e
    · subst e
      obtain ⟨a, xs, rfl, hx, rx⟩ := rp_lst.mp r1
      exact ⟨a, xs, rfl, .inl ⟨.inl (.inl (o1.ex _ _ hx)), k _ ds F1 M1 H1 s1 o1 (sw_list hx rx) p⟩⟩
    · subst e
      obtain ⟨a, xs, rfl, hx, rx⟩ := rp_tup.mp r1
      exact ⟨a, xs, rfl, .inr ⟨sqT_mono o1.ex hx, k _ ds F1 M1 H1 s1 o1 (sw_tup hx rx) p⟩⟩
theorem sw_enumT {F : Hp} {a : Addr} {ds : List Da} {xs : List V} (h : SqT K F a xs) (r : RpA K F ds xs) : SW K (IteT K a) (enumD ds) F where
  go := fun i H hi s => by
    rw [enumD_length] at hi
    obtain ⟨x, hx, _⟩ := r.get (List.getElem?_eq_getElem hi)
    exact ⟨xs, x, sqT_mono s h, hx⟩
  stop := fun H s => ⟨xs, sqT_mono s h, by rw [enumD_length, r.length]; exact Nat.le_refl _⟩
  yld := fun i F1 M G H x H' hi s o y => by
    obtain ⟨T, z, e, hT, e2, y⟩ := y
    subst e e2
    have hx := y xs (sqT_mono o.ex (sqT_mono s h))
    obtain ⟨d, hd, rd⟩ := r.get' hx
    refine ⟨upd F1 T (.tup [.int (i : Nat), z]), _, sm_new (o.noF hT), o.new hT, enumD_at hd, rp_tup.mpr ⟨T, _, rfl, .inl (.inl upd_same), ?_⟩⟩
    exact RpA.cons_ (rp_sc.mpr rfl) (RpA.cons_ (Rp.mono (s.trans (sm_new (o.noF hT))) _ _ rd) RpA.nil_)
theorem sr_enumA {ta : TA} {P : List Da → MH → Prop} (h : AvP K ta ρ M fun es M1 => ∃ ds, (es = [.lst ds] ∨ es = [.tup ds]) ∧ P (enumD ds) M1) : SrP K (iEnumA K ta) ρ M P := fun σ F G H R hE hO k =>
  h σ F G H _ hE hO fun vs es F1 M1 H1 s1 o1 r1 ⟨ds, e, p⟩ => by
    rcases e with e | e
    · subst e
      obtain ⟨x, rfl, rx⟩ := rpA_one r1
      obtain ⟨a, xs, rfl, hx, rx⟩ := rp_lst.mp rx
      exact ⟨a, xs, rfl, .inl ⟨.inl (.inl (o1.ex _ _ hx)), k _ _ F1 M1 H1 s1 o1 (sw_enum hx rx) p⟩⟩
    · subst e
      obtain ⟨x, rfl, rx⟩ := rpA_one r1
      obtain ⟨a, xs, rfl, hx, rx⟩ := rp_tup.mp rx
      exact ⟨a, xs, rfl, .inr ⟨sqT_mono o1.ex hx, k _ _ F1 M1 H1 s1 o1 (sw_enumT hx rx) p⟩⟩

/-! ### dicts that change -/
def valD (kvs : List (Key × Da)) (k : Key) : Option Da := (kvs.find? fun kv => decide (kv.1 = k)).map (·.2)
def putD (kvs : List (Key × Da)) (k : Key) (v : Da) : List (Key × Da) :=
  if (kvs.any fun kv => decide (kv.1 = k)) = true then kvs.map (fun kv => if kv.1 = k then (kv.1, v) else kv) else kvs ++ [(k, v)]
def dropD (kvs : List (Key × Da)) (k : Key) : List (Key × Da) := kvs.filter fun kv => decide (kv.1 ≠ k)
theorem rpK_val {F : Hp} {k : Key} : ∀ {kvs : List (Key × Da)} {ys : List (Key × V)}, RpK K F kvs ys → valD kvs k = some d → ∃ v, valV ys k = some v ∧ Rp K F d v
  | _, _, .nil, h => by cases h
  | (k1, d1) :: r, (k2, v2) :: r2, .cons ⟨e1, e2⟩ t, h => by
    have e1' : k1 = k2 := e1
    subst e1'
    by_cases hk : k1 = k
    · have : valD ((k1, d1) :: r) k = some d1 := by simp [valD, List.find?_cons, hk]
      rw [this] at h
      cases h
      exact ⟨v2, valV_pos hk, e2⟩
    · have : valD ((k1, d1) :: r) k = valD r k := by simp [valD, List.find?_cons, hk]
      rw [this] at h
      obtain ⟨v, hv, rv⟩ := rpK_val t h
      exact ⟨v, by rw [valV_neg hk]; exact hv, rv⟩
theorem rpK_none {F : Hp} {k : Key} : ∀ {kvs : List (Key × Da)} {ys : List (Key × V)}, RpK K F kvs ys → valD kvs k = none → valV ys k = none
  | _, _, .nil, h => rfl
  | (k1, d1) :: r, (k2, v2) :: r2, .cons ⟨e1, e2⟩ t, h => by
    have e1' : k1 = k2 := e1
    subst e1'
    by_cases hk : k1 = k
    · have : valD ((k1, d1) :: r) k = some d1 := by simp [valD, List.find?_cons, hk]
      rw [this] at h
      cases h
    · have : valD ((k1, d1) :: r) k = valD r k := by simp [valD, List.find?_cons, hk]
      rw [this] at h
      rw [valV_neg hk]
      exact rpK_none t h
theorem rpK_any {F : Hp} {k : Key} : ∀ {kvs : List (Key × Da)} {ys : List (Key × V)}, RpK K F kvs ys → (kvs.any fun kv => decide (kv.1 = k)) = ys.any fun kv => decide (kv.1 = k)
  | _, _, .nil => rfl
  | (k1, d1) :: r, (k2, v2) :: r2, .cons ⟨e1, e2⟩ t => by
    have e1' : k1 = k2 := e1
    subst e1'
    rw [List.any_cons, List.any_cons, rpK_any t]
theorem rpK_map {F : Hp} {k : Key} {v : V} (rv : Rp K F d v) : ∀ {kvs : List (Key × Da)} {ys : List (Key × V)}, RpK K F kvs ys → RpK K F (kvs.map fun kv => if kv.1 = k then (kv.1, d) else kv) (ys.map fun kv => if kv.1 = k then (kv.1, v) else kv)
  | _, _, .nil => .nil
  | (k1, d1) :: r, (k2, v2) :: r2, .cons ⟨e1, e2⟩ t => by
    have e1' : k1 = k2 := e1
    subst e1'
    rw [List.map_cons, List.map_cons]
    refine .cons ?_ (rpK_map rv t)
    by_cases hk : k1 = k
    · rw [if_pos hk, if_pos hk]
      exact ⟨rfl, rv⟩
    · rw [if_neg hk, if_neg hk]
      exact ⟨rfl, e2⟩
theorem rpK_snoc {F : Hp} {k : Key} {v : V} (rv : Rp K F d v) : ∀ {kvs : List (Key × Da)} {ys : List (Key × V)}, RpK K F kvs ys → RpK K F (kvs ++ [(k, d)]) (ys ++ [(k, v)])
  | _, _, .nil => .cons ⟨rfl, rv⟩ .nil
  | _, _, .cons h t => .cons h (rpK_snoc rv t)
theorem rpK_put {F : Hp} {k : Key} {v : V} {kvs : List (Key × Da)} {ys : List (Key × V)} (h : RpK K F kvs ys) (rv : Rp K F d v) : RpK K F (putD kvs k d) (putK ys k v) := by
  unfold putD putK
  rw [rpK_any h]
  split
  · exact rpK_map rv h
  · exact rpK_snoc rv h
theorem rpK_drop {F : Hp} {k : Key} : ∀ {kvs : List (Key × Da)} {ys : List (Key × V)}, RpK K F kvs ys → RpK K F (dropD kvs k) (dropK ys k)
  | _, _, .nil => .nil
  | (k1, d1) :: r, (k2, v2) :: r2, .cons ⟨e1, e2⟩ t => by
    have e1' : k1 = k2 := e1
    subst e1'
    unfold dropD dropK
    rw [List.filter_cons, List.filter_cons]
    by_cases hk : k1 = k
    · rw [if_neg (by simp [hk]), if_neg (by simp [hk])]
      exact rpK_drop t
    · rw [if_pos (by simp [hk]), if_pos (by simp [hk])]
      exact .cons ⟨rfl, e2⟩ (rpK_drop t)
theorem rpK_len {F : Hp} : ∀ {kvs : List (Key × Da)} {ys : List (Key × V)}, RpK K F kvs ys → kvs.length = ys.length
  | _, _, .nil => rfl
  | _, _, .cons h t => congrArg Nat.succ (rpK_len t)
def keyD : Da → Option Key
  | .sc (.int i) => some (.inl i)
  | .sc (.str x) => some (.inr x)
  | _ => none
theorem keyD_v {F : Hp} {y : V} {k : Key} (h : keyD d = some k) (r : Rp K F d y) : y = kV k := by
  cases d with
  | sc v =>
    have e := rp_sc.mp r
    subst e
    cases y <;> cases h <;> rfl
  | _ => cases h
theorem ev_dget {td ty : TE} (h : EvP K td ρ M fun o M1 => EvP K ty ρ M1 fun y M2 => ∃ p kvs k z, o = .sc (.ref p) ∧ M2 p = some (.dK kvs) ∧ keyD y = some k ∧ valD kvs k = some z ∧ P z M2) : EvP K (tDGet td ty) ρ M P := fun σ F G H Q hE hO k =>
  h σ F G H _ hE hO fun x o F1 M1 H1 s1 o1 r1 h1 => h1 σ F1 G H1 _ (hE.mono s1) o1 fun y z F2 M2 H2 s2 o2 r2 ⟨p, kvs, ky, w, e, hm, hk, hv, q⟩ => by
    subst e
    have ex := rp_sc.mp r1
    subst ex
    have ey := keyD_v hk r2
    subst ey
    obtain ⟨ys, hy, ry⟩ := (o2.mu p _ hm).2
    obtain ⟨v, ev, rv⟩ := rpK_val ry hv
    exact ⟨p, v, rfl, by rw [← ev]; exact DGet.k hy, k v w F2 M2 H2 (s1.trans s2) o2 rv q⟩
theorem stp_dput {td ty tv : TE} (h : EvP K tv ρ M fun v M1 => EvP K td ρ M1 fun o M2 => EvP K ty ρ M2 fun y M3 => ∃ p kvs k, o = .sc (.ref p) ∧ M3 p = some (.dK kvs) ∧ keyD y = some k ∧ kvs.length < 100000 ∧ D.nx ρ (updM M3 p (.dK (putD kvs k v)))) : StP K (sDPut td ty tv) ρ M D := fun σ F G H D0 hE hO m =>
  h σ F G H _ hE hO fun v z F1 M1 H1 s1 o1 r1 h1 => h1 σ F1 G H1 _ (hE.mono s1) o1 fun x o F2 M2 H2 s2 o2 r2 h2 => h2 σ F2 G H2 _ (hE.mono (s1.trans s2)) o2 fun y w F3 M3 H3 s3 o3 r3 ⟨p, kvs, k, e, hm, hk, hl, q⟩ => by
    subst e
    have ex := rp_sc.mp r2
    subst ex
    have ey := keyD_v hk r3
    subst ey
    obtain ⟨ys, hy, ry⟩ := (o3.mu p _ hm).2
    refine ⟨p, _, rfl, DPut.k hy (sz_lt (by rw [← rpK_len ry]; exact hl)), ?_⟩
    exact m.nx σ ρ F3 _ _ ((s1.trans s2).trans s3) (hE.mono ((s1.trans s2).trans s3)) (putDK o3 hm (rpK_put ry (Rp.mono (s2.trans s3) _ _ r1))) q
/-- a display -/
def PvP (K : PySem.W.Frag) : List (TE × TE) → Env' → MH → (List (Da × Da) → MH → Prop) → Prop
  | [], _, M, P => P [] M
  | (tk, tv) :: r, ρ, M, P => EvP K tk ρ M fun k M1 => EvP K tv ρ M1 fun v M2 => PvP K r ρ M2 fun ps M3 => P ((k, v) :: ps) M3
def PairsR (K : PySem.W.Frag) (F : Hp) : List (Da × Da) → List (V × V) → Prop := Paired fun p q => Rp K F p.1 q.1 ∧ Rp K F p.2 q.2
theorem pairs_run {σ : St} {G : Hp} : ∀ {trs : List (TE × TE)} {M : MH} {PP : List (Da × Da) → MH → Prop} {F H : Hp} {Q : List (V × V) → Hp → Prop}, PvP K trs ρ M PP → EnvD K F ρ σ → OkH K F M G H →
    (∀ vs ps F' M' H', Same F F' → OkH K F' M' G H' → PairsR K F' ps vs → PP ps M' → Q vs H') → tPairs trs σ H Q
  | [], M, PP, F, H, Q, h, hE, hO, k => k [] [] F M H (Same.refl F) hO .nil h
  | (tk, tv) :: r, M, PP, F, H, Q, h, hE, hO, k =>
    (show EvP K tk ρ M _ from h) σ F G H _ hE hO fun x d F1 M1 H1 s1 o1 r1 h1 => h1 σ F1 G H1 _ (hE.mono s1) o1 fun y e F2 M2 H2 s2 o2 r2 h2 =>
      pairs_run h2 (hE.mono (s1.trans s2)) o2 fun vs ps F3 M3 H3 s3 o3 r3 p => k _ _ F3 M3 H3 ((s1.trans s2).trans s3) o3 (.cons ⟨Rp.mono (s2.trans s3) _ _ r1, Rp.mono s3 _ _ r2⟩ r3) p
def mergeD (kvs more : List (Key × Da)) : List (Key × Da) := more.foldl (fun acc kv => putD acc kv.1 kv.2) kvs
theorem rpK_merge {F : Hp} : ∀ {more : List (Key × Da)} {ms : List (Key × V)} {kvs : List (Key × Da)} {ys : List (Key × V)}, RpK K F more ms → RpK K F kvs ys → RpK K F (mergeD kvs more) (mergeK ys ms)
  | _, _, kvs, ys, .nil, h => h
  | (k1, d1) :: r, (k2, v2) :: r2, kvs, ys, .cons ⟨e1, e2⟩ t, h => by
    have e1' : k1 = k2 := e1
    subst e1'
    exact rpK_merge (more := r) (ms := r2) t (rpK_put h e2)
def keysD : List (Da × Da) → Option (List (Key × Da))
  | [] => some []
  | (k, v) :: r => match keyD k, keysD r with
    | some k, some r => some ((k, v) :: r)
    | _, _ => none
theorem keysD_run {F : Hp} : ∀ {ps : List (Da × Da)} {vs : List (V × V)} {kvs : List (Key × Da)}, PairsR K F ps vs → keysD ps = some kvs → ∃ ys : List (Key × V), vs = ys.map (fun kv => (kV kv.1, kv.2)) ∧ RpK K F kvs ys
  | _, _, kvs, .nil, h => by
    have e : kvs = [] := (Option.some.inj h).symm
    subst e
    exact ⟨[], rfl, .nil⟩
  | (k1, d1) :: r, (k2, v2) :: r2, kvs, .cons ⟨e1, e2⟩ t, h => by
    unfold keysD at h
    cases hk : keyD k1 with
    | none =>
      rw [hk] at h
      cases h
    | some k =>
      cases hr : keysD r with
      | none =>
        rw [hk, hr] at h
        cases h
      | some r' =>
        rw [hk, hr] at h
        have e : (k, d1) :: r' = kvs := Option.some.inj h
        subst e
        obtain ⟨ys, ey, ry⟩ := keysD_run t hr
        have e3 := keyD_v hk e1
        exact ⟨(k, v2) :: ys, by rw [List.map_cons, ← ey, ← e3], .cons ⟨rfl, e2⟩ ry⟩
theorem ev_disp {trs : List (TE × TE)} (h : PvP K trs ρ M fun ps M1 => ∃ kvs, keysD ps = some kvs ∧ kvs.length ≤ 15 ∧ ∀ p, M1 p = none → P (.sc (.ref p)) (updM M1 p (.dK (mergeD [] kvs)))) : EvP K (tDisp trs) ρ M P := fun σ F G H Q hE hO k => fun p hp => by
  have oh := hO.hide (o := .dK []) hp
  refine pairs_run h hE oh fun vs ps F1 M1 H1 s1 o1 r1 ⟨kvs, hk, hl, q⟩ => ?_
  obtain ⟨ys, ey, ry⟩ := keysD_run r1 hk
  have hp1 : H1 p = some (.dK []) := o1.gx _ _ upd_same
  refine ⟨hp1, ys, ey, by rw [← rpK_len ry]; exact hl, ?_⟩
  have nM := (o1.gd p _ upd_same).2
  have nF := (o1.gd p _ upd_same).1
  have hG : G p = none := hO.noG hp
  have rm := rpK_merge ry (kvs := []) (ys := []) .nil
  have o2 : OkH K F1 (updM M1 p (.dK (mergeD [] kvs))) G (upd H1 p (.dK (mergeK [] ys))) := by
    have o3 := o1.rehide (o' := .dK (mergeK [] ys))
    refine ⟨o3.ex, fun a u e => ?_, fun b u e => ?_, fun a u e => ?_⟩
    · by_cases ha : a = p
      · subst ha
        rw [updM_same] at e
        cases e
        exact ⟨nF, _, upd_same, rm⟩
      · rw [updM_ne ha] at e
        exact o3.mu a u e
    · have ne : b ≠ p := by
        rintro rfl
        rw [hG] at e
        cases e
      exact o3.gx b u (by rw [upd_ne ne]; exact e)
    · have ne : a ≠ p := by
        rintro rfl
        rw [hG] at e
        cases e
      obtain ⟨h1, h2⟩ := o3.gd a u (by rw [upd_ne ne]; exact e)
      exact ⟨h1, by rw [updM_ne ne]; exact h2⟩
  exact k _ _ F1 _ _ s1 o2 (rp_sc.mpr rfl) (q p nM)
/-- a dict comprehension -/
theorem ev_dc {wi : TI} {g : TG} {tk tv : TE} {vs js : List Nat} (hj : ∀ j ∈ js, j ∈ vs) (h : SrP K wi ρ M fun ds M1 => ∃ I : Nat → List (Key × Da) → MH → Prop, I 0 [] M1 ∧
      (∀ i d acc M', ds[i]? = some d → I i acc M' → ∃ xs, TgOk K g js d xs ∧ TvP K tt (setAllD (wipeD ρ vs) js xs) M' fun b M2 =>
        if b = true then acc.length < 100000 ∧ EvP K tk (setAllD (wipeD ρ vs) js xs) M2 fun y M3 => EvP K tv (setAllD (wipeD ρ vs) js xs) M3 fun z M4 => ∃ k, keyD y = some k ∧ I (i + 1) (putD acc k z) M4 else I (i + 1) acc M2) ∧
      ∀ acc M', I ds.length acc M' → ∀ p, M' p = none → P (.sc (.ref p)) (updM M' p (.dK acc))) : EvP K (tDc wi g tt tk tv vs) ρ M P := fun σ F G H Q hE hO k =>
  h σ F G H _ hE hO fun J ds F1 M1 H1 s1 o1 w ⟨I, i0, hs, hd⟩ => fun Dl hDl => by
    have hG : G Dl = none := o1.noG hDl
    refine ⟨fun i m H' => m = ds.length - i ∧ i ≤ ds.length ∧ ∃ F' M' acc ys, Same F1 F' ∧ OkH K F' M' (upd G Dl (.dK ys)) H' ∧ RpK K F' acc ys ∧ I i acc M', ⟨ds.length, by simp, Nat.zero_le _, F1, M1, [], [], Same.refl F1, o1.hide hDl, .nil, i0⟩, ?_⟩
    rintro i n H' ⟨rfl, hi, F', M', acc, ys, s2, o2, racc, p⟩
    by_cases hlt : i < ds.length
    · refine .inr ⟨w.go i H' hlt fun b o q => o2.ex _ _ (s2 _ _ q), fun H3 => ∃ F3 M3 acc ys, Same F1 F3 ∧ OkH K F3 M3 (upd G Dl (.dK ys)) H3 ∧ RpK K F3 acc ys ∧ I (i + 1) acc M3, fun H3 q => ⟨ds.length - (i + 1), by omega, rfl, hlt, q⟩, fun x H2 y => ?_⟩
      obtain ⟨F2, d, s3, o3, hd3, r3⟩ := w.yld i F' M' _ H' x H2 hlt s2 o2 y
      obtain ⟨xs, tg, tv'⟩ := hs i d acc M' hd3 p
      refine tg x F2 H2 (wipe σ vs) _ r3 o3.ex fun zs rz => ⟨by rw [wipe_setAll hj, wipe_wipe], ?_⟩
      have e3 : EnvD K F2 (setAllD (wipeD ρ vs) js xs) (setAll (wipe σ vs) js zs) := (((hE.wipe vs).mono ((s1.trans s2).trans s3))).setAll rz
      refine tv' _ F2 _ H2 _ e3 o3 fun b F4 M4 H4 s4 o4 q4 => ?_
      cases b with
      | true =>
        rw [if_pos rfl]
        obtain ⟨hl, ev⟩ := (show acc.length < 100000 ∧ EvP K tk (setAllD (wipeD ρ vs) js xs) M4 _ from q4)
        refine ev _ F4 _ H4 _ (e3.mono s4) o4 fun v z F5 M5 H5 s5 o5 r5 q5 => ?_
        refine q5 _ F5 _ H5 _ (e3.mono (s4.trans s5)) o5 fun v2 z2 F6 M6 H6 s6 o6 r6 ⟨ky, hk, q6⟩ => ?_
        have rk : RpK K F6 acc ys := Paired.mapP racc fun p q z => ⟨z.1, Rp.mono (((s3.trans s4).trans s5).trans s6) _ _ z.2⟩
        refine ⟨ys, ky, keyD_v hk r5, o6.gx _ _ upd_same, sz_lt (by rw [← rpK_len racc]; exact hl), F6, M6, putD acc ky z2, putK ys ky v2, (((s2.trans s3).trans s4).trans s5).trans s6, o6.rehide, rpK_put rk r6, q6⟩
      | false =>
        rw [if_neg Bool.false_ne_true]
        exact ⟨F4, M4, acc, ys, (s2.trans s3).trans s4, o4, Paired.mapP racc fun p q z => ⟨z.1, Rp.mono (s3.trans s4) _ _ z.2⟩, q4⟩
    · have e : i = ds.length := by omega
      subst e
      refine .inl ⟨w.stop H' fun b o q => o2.ex _ _ (s2 _ _ q), ?_⟩
      have nM := (o2.gd Dl _ upd_same).2
      have nF := (o2.gd Dl _ upd_same).1
      have hx : H' Dl = some (.dK ys) := o2.gx _ _ upd_same
      have o3 : OkH K F' (updM M' Dl (.dK acc)) G H' := by
        refine ⟨o2.ex, fun a u e => ?_, fun b u e => ?_, fun a u e => ?_⟩
        · by_cases ha : a = Dl
          · subst ha
            rw [updM_same] at e
            cases e
            exact ⟨nF, _, hx, racc⟩
          · rw [updM_ne ha] at e
            exact o2.mu a u e
        · have ne : b ≠ Dl := by
            rintro rfl
            rw [hG] at e
            cases e
          exact o2.gx b u (by rw [upd_ne ne]; exact e)
        · have ne : a ≠ Dl := by
            rintro rfl
            rw [hG] at e
            cases e
          obtain ⟨h1, h2⟩ := o2.gd a u (by rw [upd_ne ne]; exact e)
          exact ⟨h1, by rw [updM_ne ne]; exact h2⟩
      exact k _ _ F' _ H' (s1.trans s2) o3 (rp_sc.mpr rfl) (hd acc M' p Dl nM)

/-! ### tables of the written part -/
abbrev rInKD (K : PySem.W.Frag) (a : Addr) : R2 := fun x y H Q => ∃ (z : Str) (r : Option Value), x = .str z ∧ y = .ref a ∧ PySem.W.nsIn K a z = some r ∧ Q (.bl r.isSome) H
abbrev rNotInKD (K : PySem.W.Frag) (a : Addr) : R2 := fun x y H Q => ∃ (z : Str) (r : Option Value), x = .str z ∧ y = .ref a ∧ PySem.W.nsIn K a z = some r ∧ Q (.bl (!r.isSome)) H
abbrev rItemKD (K : PySem.W.Frag) (a : Addr) : R2 := fun x y H Q => ∃ (z : Str) (u0 : Value) (v0 : V), x = .ref a ∧ y = .str z ∧ PySem.W.nsIn K a z = some (some u0) ∧ RelV v0 u0 ∧ Q v0 H
theorem rop_notInKD {a : Addr} {z : Str} {r : Option Value} (h : PySem.W.nsIn K a z = some r) (q : P (.sc (.bl (!r.isSome))) M) : ROp K (rNotInKD K a) (.sc (.str z)) (.sc (.ref a)) M P := fun x y F G H Q rx ry hO k => by
  have ex := rp_sc.mp rx
  have ey := rp_sc.mp ry
  subst ex ey
  exact ⟨z, r, rfl, rfl, h, fin_v hO q k⟩
theorem rop_itemKD {a : Addr} {z : Str} {u0 : Value} {v0 : V} (h : PySem.W.nsIn K a z = some (some u0)) (rv : RelV v0 u0) (hd : ∀ F, Rp K F d v0) (q : P d M) : ROp K (rItemKD K a) (.sc (.ref a)) (.sc (.str z)) M P := fun x y F G H Q rx ry hO k => by
  have ex := rp_sc.mp rx
  have ey := rp_sc.mp ry
  subst ex ey
  exact ⟨z, u0, v0, rfl, rfl, h, rv, k _ _ F M H (Same.refl F) hO (hd F) q⟩
end

/-! ### a def keeps its promise -/
theorem start_env {K : PySem.W.Frag} {F : Hp} {N : List Str} {ds : List Da} {vs : List V} (r : RpA K F ds vs) : EnvD K F (ds.map some ++ List.replicate (N.length - ds.length) none) (L2.start N vs) := by
  unfold L2.start
  refine ⟨by rw [List.length_append, List.length_append, List.length_map, List.length_map, List.length_replicate, List.length_replicate, r.length], fun i d h => ?_⟩
  by_cases hi : i < ds.length
  · rw [List.getElem?_append_left (by rw [List.length_map]; exact hi), List.getElem?_map, List.getElem?_eq_getElem hi] at h
    have e : ds[i] = d := Option.some.inj (Option.some.inj h)
    obtain ⟨x, hx, rx⟩ := r.get (show ds[i]? = some d by rw [List.getElem?_eq_getElem hi, e])
    exact ⟨x, by rw [List.getElem?_append_left (by rw [List.length_map, ← r.length]; exact hi), List.getElem?_map, hx] <;> rfl, rx⟩
  · rw [List.getElem?_append_right (by rw [List.length_map]; omega), List.getElem?_replicate] at h
    split at h <;> cases h
theorem ok_fn {P : Program} {w : World} {K : PySem.W.Frag} {mg : Str → Option Value} {base : Heap} {x qual : Str} {params : Arguments} {body : List Stmt} {scope : Scope} {f : Addr} {fd : FuncData} {N ps : List Str} {k : Nat} {S : Spd}
    (F : FunD K x qual params body scope [] [] f fd) (Sc : FnScope N ps scope) (hl : ∀ ds M Q, S ds M Q → ds.length = ps.length)
    (h : ∀ (cdv : Value) (A : Around) (outer : List Env) (s : Shared) (H : Hp) (E : XK), Room k (A.deeper (PyProof.Rows.envOfC qual scope s.heap.objs.size f cdv)) →
      ∃ t, PSs (cxOf CX0 P w K mg base N qual scope f cdv A outer s H E).nox body t ∧ ∀ ds M Q, S ds M Q → StP K t (ds.map some ++ List.replicate (N.length - ds.length) none) M ⟨fun _ M' => Q (.sc .non) M', Q, fun _ _ => False, fun _ _ => False⟩) :
    FnOk P w K mg base CX0 (k + 1) f fd ps (spOf K S) := by
  refine F.ok Sc (fun vs H Q E ⟨F0, G, M, ds, Q', r, o, hS, kk⟩ => by rw [← r.length]; exact hl ds M Q' hS) fun cdv A outer s H vs Q E hr ⟨F0, G, M, ds, Q', r, o, hS, kk⟩ => ?_
  obtain ⟨t, ht, hd⟩ := h cdv A outer s H E hr
  refine ⟨t, PSs.nox ht, hd ds M Q' hS (L2.start N vs) F0 G H _ (start_env r) o ⟨fun σ ρ F' M' H' s e o p => kk _ _ F' M' H' s o (rp_sc.mpr rfl) p, kk, fun _ _ _ _ _ _ _ _ z => z.elim, fun _ _ _ _ _ _ _ _ z => z.elim⟩⟩
end Dl

namespace Dl
open PySem PySem.Spec L2
/-- xs[i], by values -/
theorem pget_list {X : Cx} : PGet X (rIxL X.K) := by
  intro pins s σ H x y v u Q I rx ry h
  obtain ⟨p, xs, i, z, rfl, rfl, hq, he, q⟩ := h
  cases rx
  obtain ⟨t, rfl⟩ := ry
  obtain ⟨its, r, pl, hz⟩ := I.list hq
  obtain ⟨j, h1, h2, h3, h4, h5⟩ := atI_get he
  obtain ⟨w, ew, rw'⟩ := r.get h2
  have hl := r.length
  have hn := line63
  have fin : EP X pins σ Q w s := ⟨z, H, I, rw', q⟩
  by_cases h0 : 0 ≤ i
  · have hj : i.toNat = j := by
      rw [seqIndex_of h0 h5] at h1
      exact Option.some.inj h1
    exact wpAny_getItem_list pl.isList h0 (by omega) (by rw [hj]; simpa using ew) fin
  · have hj : (i + (its.toArray.size : Int)).toNat = j := by
      rw [seqIndex_neg (by omega) h4] at h1
      rw [List.size_toArray, ← hl]
      exact Option.some.inj h1
    exact wpAny_getItem_list_neg pl.isList (by omega) (by rw [List.size_toArray] <;> omega) (by omega) (by rw [hj]; simpa using ew) fin

/-! ### what may be called -/
structure Cal (P : Program) (w : World) (K : PySem.W.Frag) (mg : Str → Option Value) (base : Heap) (k : Nat) (x : Str) (ps : List Str) (S : Spd) : Prop where
  ex : ∃ f fd, mg x = some (.ref f) ∧ FnOk P w K mg base CX0 k f fd ps (spOf K S) ∧ PySem.W.keepIn K (.ref f) = true ∧ Binds K fd ps []
structure CalM (P : Program) (w : World) (K : PySem.W.Frag) (mg : Str → Option Value) (base : Heap) (C : Addr) (k : Nat) (m : Str) (ps : List Str) (S : Spd) : Prop where
  cl : Cls K C
  ex : ∃ f fd, Meth K C m f ∧ FnOk P w K mg base CX0 k f fd ps (spOf K S) ∧ Binds K fd ps []
structure CalC (P : Program) (w : World) (K : PySem.W.Frag) (mg : Str → Option Value) (base : Heap) (C : Addr) (k : Nat) (x : Str) (ps : List Str) (S : Spd) : Prop where
  ex : ∃ f fd, mg x = some (.ref C) ∧ Mk K C f ∧ FnOk P w K mg base CX0 k f fd ps (spOf K S) ∧ Binds K fd ps []
section
variable {X : Cx} {k j : Nat} {C : Addr} {ps : List Str} {S : Spd} {x m : Str} {p pos apos : Pos} {e o : Expr} {es : List Expr} {ta : TE} {t : TA}
theorem pe_calD (c : Cal X.prog X.w X.K X.mg X.base k x ps S) (hr : Room k X.A) (hg : Gl X x) (ha : PA X (e :: es) t) (hdb : (x == ("__debug__" : Str)) = false := by decide)
    (he : starEach (e :: es) X.env = (false, eval e X.env) :: starEach es X.env := by rfl) (hpl : (backTo pos (starEach es X.env)).any (·.1) = false := by rfl) : PE X (.Call (.Name x p) (e :: es) [] pos) (tCall (spOf X.K S) [] E0 t) := by
  obtain ⟨f, fd, hm, F, hk, hb⟩ := c.ex
  exact pe_call F hr hg hm hk hb .nil pass0 ha hdb he hpl
theorem pe_metD {pl : Sem Bool} (c : CalM X.prog X.w X.K X.mg X.base C k m ps S) (hr : Room k X.A) (he : PE X o ta) (ha : PA X (e :: es) t)
    (hst : starEach (e :: es) X.env = (false, eval e X.env) :: starEach es X.env := by rfl) (hpl : (backTo pos (starEach es X.env)).any (·.1) = false := by rfl)
    (ht : eval (.Call (.Attribute o m apos) (e :: es) [] pos) X.env = (do
      let ov ← eval o X.env
      standAt apos.atName
      let (f, first) ← holding [ov] (getMethod ov m pl)
      callWith pos f first (backTo pos (starEach (e :: es) X.env)) (backToKw pos (keywordEach [] X.env))) := by rfl) : PE X (.Call (.Attribute o m apos) (e :: es) [] pos) (tMeth C m (spOf X.K S) [] E0 ta t) := by
  obtain ⟨f, fd, hm, F, hb⟩ := c.ex
  exact pe_meth he c.cl hm F hr hb .nil pass0 ha hst hpl ht
theorem pe_met0D {pl : Sem Bool} (c : CalM X.prog X.w X.K X.mg X.base C k m ps S) (hr : Room k X.A) (he : PE X o ta)
    (ht : eval (.Call (.Attribute o m apos) [] [] pos) X.env = (do
      let ov ← eval o X.env
      standAt apos.atName
      let (f, first) ← holding [ov] (getMethod ov m pl)
      callWith pos f first (backTo pos (starEach [] X.env)) (backToKw pos (keywordEach [] X.env))) := by rfl) : PE X (.Call (.Attribute o m apos) [] [] pos) (tMeth C m (spOf X.K S) [] E0 ta tNil) := by
  obtain ⟨f, fd, hm, F, hb⟩ := c.ex
  exact pe_meth0 he c.cl hm F hr hb .nil pass0 ht
theorem pe_makD (c : CalC X.prog X.w X.K X.mg X.base C k x ps S) (hr : Room (k + 1) X.A) (hg : Gl X x) (ha : PA X (e :: es) t) (hdb : (x == ("__debug__" : Str)) = false := by decide)
    (he : starEach (e :: es) X.env = (false, eval e X.env) :: starEach es X.env := by rfl) (hpl : (backTo pos (starEach es X.env)).any (·.1) = false := by rfl) : PE X (.Call (.Name x p) (e :: es) [] pos) (tMake C (spOf X.K S) [] E0 t) := by
  obtain ⟨f, fd, hm, M, F, hb⟩ := c.ex
  exact pe_make M F hr hg hm hb .nil pass0 ha hdb he hpl
/-- d[k] of a written table -/
theorem pe_ixTab {a b : Expr} {tb : TE} {d : Addr} {es : Array DictEntry} {n : Nat} (D : KDict X.K X.w d es n) (ha : PE X a ta) (hb : PE X b tb) (hs : NoSl b) : PE X (.Subscript a b pos) (tOp (rItemKD X.K d) ta tb) := by
  refine ⟨fun pins s σ H Q I h => ?_⟩
  refine subD_of PySem.F.slot_dict_getitem.lookup hs (thn (ha.run pins s σ H _ I h) fun u s1 ⟨x, H1, I1, rx, q1⟩ => thn (hb.run pins s1 σ H1 _ I1 q1) fun iv s2 ⟨y, H2, I2, ry, z, u0, v0, ex, ey, e, r, q2⟩ => ?_)
  subst ex ey
  obtain rfl : u = Value.ref d := rx
  exact ⟨kd_type D I2, op_item_kd D pins s2 σ H2 (.ref d) (.str z) _ _ Q I2 (show RelV (.ref d) (.ref d) from rfl) ry ⟨z, u0, v0, rfl, rfl, e, r, q2⟩⟩
end
section
variable {P : Program} {w : World} {K : PySem.W.Frag} {mg : Str → Option Value} {base : Heap} {x qual : Str} {params : Arguments} {body : List Stmt} {scope : Scope} {f C : Addr} {fd : FuncData} {ps : List Str} {k : Nat} {S : Spd}
theorem cal_mk (F : FunD K x qual params body scope [] [] f fd) (g : mg x = some (.ref f)) (ok : FnOk P w K mg base CX0 k f fd ps (spOf K S)) (b : Binds K fd ps []) : Cal P w K mg base k x ps S := ⟨f, fd, g, ok, F.kp, b⟩
end
section
variable {K : PySem.W.Frag} {ρ : Env'} {M M1 : MH} {ta tb tc te : TE} {t u tt : TT} {ts us : TS} {P : Da → MH → Prop} {PB : Bool → MH → Prop} {D : DE} {d e : Da} {i : Nat}
/-- a, b = e1, e2 -/
theorem stp_par {i j : Nat} {ta : TA} (h : AvP K ta ρ M fun ds M1 => ∃ d e, ds = [d, e] ∧ D.nx ((ρ.set i (some d)).set j (some e)) M1) : StP K (tPar i j ta) ρ M D := fun σ F G H D0 hE hO m =>
  h σ F G H _ hE hO fun vs ds F1 M1 H1 s1 o1 r1 ⟨d, e, ed, p⟩ => by
    subst ed
    obtain ⟨x, y, rfl, r2, r3⟩ := rpA_two r1
    exact ⟨x, y, rfl, m.nx _ _ F1 M1 H1 s1 (((hE.mono s1).set i r2).set j r3) o1 p⟩
/-- x += e -/
theorem stp_aug {i : Nat} {f : Int → Int → Int} {a : Int} (hx : ρ[i]? = some (some (.sc (.int a)))) (h : EvP K te ρ M fun d M1 => ∃ b, d = .sc (.int b) ∧ D.nx (ρ.set i (some (.sc (.int (f a b))))) M1) : StP K (tAug i te (ipI f)) ρ M D := fun σ F G H D0 hE hO m => by
  obtain ⟨v, ev, r⟩ := hE.at_ i _ hx
  have e := rp_sc.mp r
  subst e
  refine ⟨_, ev, h σ F G H _ hE hO fun y d F1 M1 H1 s1 o1 r1 ⟨b, ed, p⟩ => ?_⟩
  subst ed
  have ey := rp_sc.mp r1
  subst ey
  exact ⟨a, b, rfl, rfl, m.nx _ _ F1 M1 H1 s1 ((hE.mono s1).set i (rp_sc.mpr rfl)) o1 p⟩
/-- o[i] += e, o a list that changes -/
theorem stp_augL {to ti : TE} {f : Int → Int → Int} (h : EvP K to ρ M fun o M1 => EvP K ti ρ M1 fun z M2 => ∃ (p : Addr) (ds : List Da) (j : Nat) (a : Int), o = .sc (.ref p) ∧ z = .sc (.int j) ∧ M2 p = some (.lst ds) ∧ ds[j]? = some (.sc (.int a)) ∧
      EvP K te ρ M2 fun y M3 => ∃ b ds3, y = .sc (.int b) ∧ M3 p = some (.lst ds3) ∧ ds3.length = ds.length ∧ D.nx ρ (updM M3 p (.lst (ds3.set j (.sc (.int (f a b))))))) : StP K (tAugS to ti te (rIxL K) (ipI f) rSetL) ρ M D := fun σ F G H D0 hE hO m =>
  h σ F G H _ hE hO fun x o F1 M1 H1 s1 o1 r1 h1 => h1 σ F1 G H1 _ (hE.mono s1) o1 fun y z F2 M2 H2 s2 o2 r2 ⟨p, ds, j, a, eo, ez, hm, hj, h3⟩ => by
    subst eo ez
    have ex := rp_sc.mp r1
    have ey := rp_sc.mp r2
    subst ex ey
    obtain ⟨xs, hx, rx⟩ := (o2.mu p _ hm).2
    obtain ⟨v, hv, rv⟩ := rx.get hj
    have ev := rp_sc.mp rv
    subst ev
    have hjl : j < ds.length := (List.getElem?_eq_some_iff.mp hj).1
    have l := rx.length
    refine ⟨p, xs, j, _, rfl, rfl, .inl (.inl hx), atI_nat hv, ?_⟩
    refine h3 σ F2 G H2 _ (hE.mono (s1.trans s2)) o2 fun y3 d3 F3 M3 H3 s3 o3 r3 ⟨b, ds3, ed, hm3, hl3, q⟩ => ?_
    subst ed
    have e3 := rp_sc.mp r3
    subst e3
    obtain ⟨xs3, hx3, rx3⟩ := (o3.mu p _ hm3).2
    have l3 := rx3.length
    refine ⟨a, b, rfl, rfl, p, xs3, j, j, rfl, rfl, hx3, ?_, m.nx _ _ F3 _ _ ((s1.trans s2).trans s3) (hE.mono ((s1.trans s2).trans s3)) (putL o3 hm3 (rx3.set j (rp_sc.mpr rfl))) q⟩
    unfold ixN
    rw [if_pos (by omega), if_pos (by omega), Int.toNat_natCast]
/-- the ends -/
abbrev DR (Q : Da → MH → Prop) : DE := ⟨fun _ M' => Q (.sc .non) M', Q, fun _ _ => False, fun _ _ => False⟩
end
/-- at the ends only the cells of M0 are told -/
theorem stp_to {K : PySem.W.Frag} {ρ : Env'} {M : MH} {ts : TS} {D : DE} (M0 : MH) (h : StP K ts ρ M ⟨fun ρ' M' => SubM M0 M' ∧ D.nx ρ' M0, fun d M' => SubM M0 M' ∧ D.rt d M0, fun ρ' M' => SubM M0 M' ∧ D.bk ρ' M0, fun ρ' M' => SubM M0 M' ∧ D.ct ρ' M0⟩) : StP K ts ρ M D :=
  stp_sub (N := fun M' M'' => M'' = M0 ∧ SubM M0 M') (fun M1 M2 ⟨e, s⟩ => by subst e; exact s) (stp_mono h (fun ρ' M' ⟨s, p⟩ => ⟨M0, ⟨rfl, s⟩, p⟩) (fun ρ' M' ⟨s, p⟩ => ⟨M0, ⟨rfl, s⟩, p⟩) (fun ρ' M' ⟨s, p⟩ => ⟨M0, ⟨rfl, s⟩, p⟩) (fun ρ' M' ⟨s, p⟩ => ⟨M0, ⟨rfl, s⟩, p⟩))
theorem pv_nil {K : PySem.W.Frag} {ρ : Env'} {M : MH} {P : List (Da × Da) → MH → Prop} (h : P [] M) : PvP K [] ρ M P := h
theorem pv_cons {K : PySem.W.Frag} {ρ : Env'} {M : MH} {tk tv : TE} {r : List (TE × TE)} {P : List (Da × Da) → MH → Prop} (h : EvP K tk ρ M fun k M1 => EvP K tv ρ M1 fun v M2 => PvP K r ρ M2 fun ps M3 => P ((k, v) :: ps) M3) : PvP K ((tk, tv) :: r) ρ M P := h
/-- in, not in, among flat things that are written -/
def scAll : List Da → Option (List V)
  | [] => some []
  | .sc v :: r => match scAll r with
    | some vs => some (v :: vs)
    | none => none
  | _ :: _ => none
theorem scAll_eq : ∀ {ds : List Da} {vs : List V}, scAll ds = some vs → ds = vs.map Da.sc
  | [], vs, h => by
    cases h
    rfl
  | .sc v :: r, vs, h => by
    unfold scAll at h
    cases hr : scAll r with
    | none =>
      rw [hr] at h
      cases h
    | some ws =>
      rw [hr] at h
      cases h
      rw [List.map_cons, scAll_eq hr]
  | .tup _ :: _, vs, h => by cases h
  | .lst _ :: _, vs, h => by cases h
  | .obj _ _ _ :: _, vs, h => by cases h
theorem rop_inS {K : PySem.W.Frag} {M : MH} {P : Da → MH → Prop} {neg : Bool} {x : V} {ds : List Da} {vs : List V} (hs : scAll ds = some vs) (hx : flatV x = true) (hf : vs.all flatV = true) (q : P (.sc (.bl (if neg then !inV x vs else inV x vs))) M) : ROp K (rIn K neg) (.sc x) (.tup ds) M P := by
  rw [scAll_eq hs]
  exact rop_inT hx hf q
/-- a branch whose test is known -/
theorem ifT {b : Bool} {A B : Prop} (h : b = true) (q : A) : if b = true then A else B := by rw [if_pos h]; exact q
theorem ifF {b : Bool} {A B : Prop} (h : b = false) (q : B) : if b = true then A else B := by rw [h, if_neg Bool.false_ne_true]; exact q
theorem ifB {b : Bool} {A B : Prop} (h1 : b = true → A) (h2 : b = false → B) : if b = true then A else B := by
  cases b with
  | true => exact h1 rfl
  | false => exact h2 rfl
end Dl

/-! Comprehensions that only map. -/
namespace Dl
open PySem PySem.Spec L2
section
variable {K : PySem.W.Frag} {ρ : Env'} {M : MH} {te : TE} {P : Da → MH → Prop}
theorem take_succ_some {α : Type} {l : List α} {i : Nat} {e : α} (h : l[i]? = some e) : l.take (i + 1) = l.take i ++ [e] := by
  rw [List.take_add_one, h]
  rfl
theorem get_lt {α β : Type} {l : List α} {k : List β} {i : Nat} {d : α} (hl : k.length = l.length) (h : l[i]? = some d) : ∃ e, k[i]? = some e :=
  ⟨_, List.getElem?_eq_getElem (by rw [hl]; exact (List.getElem?_eq_some_iff.mp h).1)⟩
theorem ev_lcMap {wi : TI} {g : TG} {vs : List Nat} (js : List Nat) (hj : ∀ j ∈ js, j ∈ vs) (h : SrP K wi ρ M fun ds M1 => ∃ es : List Da, es.length = ds.length ∧ es.length < 100000 ∧
      (∀ (i : Nat) (d e : Da), ds[i]? = some d → es[i]? = some e → ∃ xs, TgOk K g js d xs ∧ EvP K te (setAllD (wipeD ρ vs) js xs) M1 fun y M3 => y = e ∧ M1 = M3) ∧ P (.lst es) M1) : EvP K (tLc wi g tYes te vs) ρ M P :=
  ev_lc hj (fun σ F G H Q hE hO k => h σ F G H Q hE hO fun J ds F1 M1 H1 s1 o1 w ⟨es, hl, hz, hs, q⟩ => k J ds F1 M1 H1 s1 o1 w ⟨fun i acc M' => acc = es.take i ∧ M1 = M', ⟨rfl, rfl⟩, fun i d acc M' hd ⟨ea, em⟩ => by
    subst ea em
    obtain ⟨e, he⟩ := get_lt hl hd
    obtain ⟨xs, tg, ev⟩ := hs i d e hd he
    refine ⟨xs, tg, tv_yes ?_⟩
    rw [if_pos rfl]
    refine ⟨by rw [List.length_take]; omega, ev.mono fun y M3 ⟨e1, e2⟩ => ?_⟩
    subst e1 e2
    exact ⟨(take_succ_some he).symm, rfl⟩, fun acc M' ⟨ea, em⟩ => by
    subst ea em
    rw [← hl, List.take_length]
    exact q⟩)
theorem flat_split {α : Type} {ess : List (List α)} {i : Nat} {es : List α} (h : ess[i]? = some es) : ess.flatten = (ess.take i).flatten ++ (es ++ (ess.drop (i + 1)).flatten) := by
  obtain ⟨hi, e⟩ := List.getElem?_eq_some_iff.mp h
  rw [← List.flatten_cons, ← List.flatten_append, ← e, List.getElem_cons_drop, List.take_append_drop]
theorem ev_lc2Map {wi wi1 : TI} {g g1 : TG} {vs vs1 : List Nat} (js js1 : List Nat) (hj : ∀ j ∈ js, j ∈ vs) (hj1 : ∀ j ∈ js1, j ∈ vs1) (h : SrP K wi ρ M fun ds M1 => ∃ ess : List (List Da), ess.length = ds.length ∧ ess.flatten.length < 100000 ∧
      (∀ (i : Nat) (d : Da) (es : List Da), ds[i]? = some d → ess[i]? = some es → ∃ xs, TgOk K g js d xs ∧ SrP K wi1 (setAllD (wipeD ρ vs) js xs) M1 fun fs M3 => M1 = M3 ∧ es.length = fs.length ∧
        ∀ (l : Nat) (f e : Da), fs[l]? = some f → es[l]? = some e → ∃ zs, TgOk K g1 js1 f zs ∧ EvP K te (setAllD (wipeD (setAllD (wipeD ρ vs) js xs) vs1) js1 zs) M1 fun y M3 => y = e ∧ M1 = M3) ∧ P (.lst ess.flatten) M1) : EvP K (tLc2 wi g tYes wi1 g1 tYes te vs vs1) ρ M P :=
  ev_lc2 hj hj1 (fun σ F G H Q hE hO k => h σ F G H Q hE hO fun J ds F1 M1 H1 s1 o1 w ⟨ess, hl, hz, hs, q⟩ => k J ds F1 M1 H1 s1 o1 w ⟨fun i acc M' => acc = (ess.take i).flatten ∧ M1 = M', ⟨rfl, rfl⟩, fun i d acc M' hd ⟨ea, em⟩ => by
    subst ea em
    obtain ⟨es, he⟩ := get_lt hl hd
    obtain ⟨xs, tg, sr⟩ := hs i d es hd he
    have hfl := flat_split he
    refine ⟨xs, tg, tv_yes ?_⟩
    rw [if_pos rfl]
    refine fun σ F G H Q hE hO k => sr σ F G H Q hE hO fun J fs F1 M1' H1 s1 o1 w ⟨em, hfs, hs1⟩ => ?_
    subst em
    refine k J fs F1 _ H1 s1 o1 w ⟨fun l acc1 M' => acc1 = (ess.take i).flatten ++ es.take l ∧ M1 = M', ⟨by simp, rfl⟩, fun l f acc1 M4 hf ⟨ea, em⟩ => ?_, fun acc1 M4 ⟨ea, em⟩ => ?_⟩
    · subst ea em
      obtain ⟨e, hee⟩ := get_lt hfs hf
      obtain ⟨zs, tg1, ev⟩ := hs1 l f e hf hee
      refine ⟨zs, tg1, tv_yes ?_⟩
      rw [if_pos rfl]
      refine ⟨?_, ev.mono fun y M3 ⟨e1, e2⟩ => ?_⟩
      · rw [hfl] at hz
        simp only [List.length_append, List.length_take] at hz ⊢
        omega
      · subst e1 e2
        exact ⟨by rw [take_succ_some hee, List.append_assoc], rfl⟩
    · subst ea em
      refine ⟨?_, rfl⟩
      rw [← hfs, List.take_length, take_succ_some he, List.flatten_append]
      simp, fun acc M' ⟨ea, em⟩ => by
    subst ea em
    rw [← hl, List.take_length]
    exact q⟩)
end
end Dl

namespace Dl
open PySem PySem.Spec PyProof.Rows L2
section
variable {X : Cx}
/-- name = {..} on one line, the name a local -/
theorem ps_setDc {i : Nat} {y : Str} {py : Pos} {kx vx tg iter : Expr} {ifs : List Expr} {scope : Scope} {own : List (Str × Nat)} {pos spos : Pos} {wi : TI} {g : TG} {tt : TT} {tk tv : TE} (hc : X.calm = true) (hN : X.N.Nodup) (hy : X.N[i]? = some y) (hyl : X.env.scope.names.lookup y = some .local)
    (hsw : swapsWith (.DictComp kx vx [⟨tg, iter, ifs, 0⟩] scope pos) (some (.Name y py)) spos.line X.env = pure true) (hi : PI X tg iter wi) (ok : BlkOk X.N X.env.scope scope own)
    (hg : ∀ (s : Shared) (H : Hp) (C : Addr) (cl : List (Str × Addr)) (fp : List Addr), PG (X.blk s H scope (compEnvC scope cl C X.env) fp) tg g) (ht : ∀ (s : Shared) (H : Hp) (C : Addr) (cl : List (Str × Addr)) (fp : List Addr), PTs (X.blk s H scope (compEnvC scope cl C X.env) fp) ifs tt)
    (hk : ∀ (s : Shared) (H : Hp) (C : Addr) (cl : List (Str × Addr)) (fp : List Addr), PE (X.blk s H scope (compEnvC scope cl C X.env) fp) kx tk)
    (he : ∀ (s : Shared) (H : Hp) (C : Addr) (cl : List (Str × Addr)) (fp : List Addr), PE (X.blk s H scope (compEnvC scope cl C X.env) fp) vx tv) (hs : ∀ x, foldedSetIterable iter X.env x = pure x := by intro _; rfl) :
    PS X (.Assign [.Name y py] (.DictComp kx vx [⟨tg, iter, ifs, 0⟩] scope pos) spos) (tAsg (tDc wi g tt tk tv (own.map (·.2))) (gName i)) := by
  refine ⟨fun pins s σ H D I h => ?_⟩
  rw [exec_Assign_Name_used _ _ _ _ hsw]
  refine wpAny_bind (wpAny_standAt (wpAny_bind ?_))
  show wpAny _ X.A (do let _ ← comprehension (.DictComp kx vx [⟨tg, iter, ifs, 0⟩] scope pos) scope X.env (firstIterPos [⟨tg, iter, ifs, 0⟩] pos) newDict false (eval iter X.env) (some (assign (.Name y py) X.env))) _ _ s
  have h : tDc wi g tt tk tv (own.map (·.2)) σ H (fun x H1 => gName i x σ H1 D.nx) := h
  refine wpAny_bind (thn (dc_core (Qf := fun _ s' => SP X pins D .next s') hc hN I hi ok hg ht hk he hs h fun L C s' m H' I' q hn f => ?_) fun _ s' hq => wpAny_pure (wpAny_pure hq))
  show wpAny _ _ (assign (.Name y py) X.env (.ref L)) _ _ _
  refine wpAny_assign_Name (store_ok2 (v := V.ref L) I' hN hy (.inl hyl) rfl (fun s2 I2 ⟨a, sb, ha⟩ => ?_) (.inr hyl))
  obtain ⟨f0, f1, f2, f3, f4, f5⟩ := f
  have haC : C ≠ a := by
    rcases ha with z | z
    · rw [z]; exact f1
    · exact fun e => f4 y a z e.symm
  refine ⟨m, hn.sameBut sb haC, fun h3 sb3 => ?_⟩
  exact ⟨_, H', I2.turned (t' := s2.toks) (fun b o hb e => (sb3.2 b hb).trans e) f0 f1 f3 f4 f5, q⟩
theorem sw_trueD {kx vx : Expr} {gs : List Comprehension} {scope : Scope} {pos py : Pos} {y : Str} {l : Nat} {env : Env} (hk : env.scope.kind = .function) (hy : env.scope.names.lookup y = some .local) (hl : (py.line == pos.line) = true)
    (ha : (scope.names.any fun (n, k) => n == y && (k == .local || k == .cell)) = false) : swapsWith (.DictComp kx vx gs scope pos) (some (.Name y py)) l env = pure true := by
  have ky : env.kindOf y = some .local := hy
  have hb : env.blockKind = .function := by unfold Env.blockKind; rw [hk]; rfl
  unfold swapsWith
  simp only [hb, ky, ha, Expr.pos, hl]
  rfl
end
end Dl

/-! The rules with K said, for blocks of comprehensions. -/
namespace Dl
open PySem PySem.Spec PyProof.Rows L2
section
variable {X : Cx} {K : PySem.W.Frag} {k : Nat} {C : Addr} {ps : List Str} {S : Spd} {x m : Str} {p pos apos : Pos} {e o : Expr} {es : List Expr} {ta : TE} {t : TA}
theorem k_pi_seq {tg l : Expr} {tl : TE} (hl : PE X l tl) (hK : X.K = K := by rfl) : PI X tg l (iSeq K tl) := hK ▸ pi_seq hl
theorem k_pi_enumA {e : Expr} {ta : TA} {p pos tpos : Pos} {elts : List Expr} {kk : Nat} (hg : Gl X "enumerate") (hm : X.mg "enumerate" = none) (ha : PA X [e] ta) (hs : starEach [e] X.env = [(false, eval e X.env)] := by rfl) (hK : X.K = K := by rfl) :
    PI X (.Tuple elts kk tpos) (.Call (.Name "enumerate" p) [e] [] pos) (iEnumA K ta) := hK ▸ pi_enumA hg hm ha hs
theorem k_pg_tup {es : List Expr} {k : Nat} {t : TGs} {n : Nat} (hc : X.calm = true) (h : PGs X es t)
    (hn : (assignEach es X.env).length = n := by rfl) (hst : (assignEach es X.env).findIdx? (·.1) = none := by rfl) (hK : X.K = K := by rfl) : PG X (.Tuple es k pos) (gTup K n t) := hK ▸ pg_tup hc h hn hst
theorem k_pe_fld {f : Str} (he : PE X e ta) (hb : attributeBase e f X.env (eval e X.env) = eval e X.env) (hK : X.K = K := by rfl) : PE X (.Attribute e f pos) (tFld K ta f) := hK ▸ pe_fld he hb
theorem k_ix_seq (hK : X.K = K := by rfl) : IxR X (rIx K) := hK ▸ ix_seq
theorem k_op_in_seq (hK : X.K = K := by rfl) : OpR X (compareOp .In) (rIn K false) := hK ▸ op_in_seq
theorem k_op_notIn_seq (hK : X.K = K := by rfl) : OpR X (compareOp .NotIn) (rIn K true) := hK ▸ op_notIn_seq
theorem k_op_addA (hK : X.K = K := by rfl) : OpR X (binaryOp .Add) (rAddA K) := hK ▸ op_addA
theorem k_op_mulA (hK : X.K = K := by rfl) : OpR X (binaryOp .Mult) (rMulA K) := hK ▸ op_mulA
theorem k_sl_both (hK : X.K = K := by rfl) : SlR X (rSlB K) := hK ▸ sl_both
theorem k_call_len (hK : X.K = K := by rfl) : CallR X (.builtin "len") (rLen K) := hK ▸ call_len
theorem k_call_isi (hK : X.K = K := by rfl) : CallR X (.builtin "isinstance") (rIsi K) := hK ▸ call_isi
theorem k_cr_sum (hc : X.calm = true) (hK : X.K = K := by rfl) : CallR X (.builtin "sum") (rSum K) := hK ▸ cr_sum hc
theorem k_cr_max (hc : X.calm = true) (hK : X.K = K := by rfl) : CallR X (.builtin "max") (rMax K) := hK ▸ cr_max hc
theorem k_cr_any (hc : X.calm = true) (hK : X.K = K := by rfl) : CallR X (.builtin "any") (rAny K) := hK ▸ cr_any hc
theorem k_call_list_of (hK : X.K = K := by rfl) : CallR X (.type "list") (rList K) := hK ▸ call_list_of
theorem k_call_tuple_of (hK : X.K = K := by rfl) : CallR X (.type "tuple") (rTuple K) := hK ▸ call_tuple_of
theorem k_pt_truth {a : Expr} (ha : PE X a ta) (he : ∀ whole, isTrue a X.env whole = (do let v ← whole; standAt a.pos; holding [v] (truthy v))) (hK : X.K = K := by rfl) :
    PT X a (fun σ H Q => ta σ H fun x H' => ∃ k, TruV K x H' k ∧ Q k H') := hK ▸ pt_truth ha he
variable {P : Program} {w : World} {mg : Str → Option Value} {base : Heap}
theorem k_calD (c : Cal P w K mg base k x ps S) (hr : Room k X.A) (hg : Gl X x) (ha : PA X (e :: es) t) (hdb : (x == ("__debug__" : Str)) = false := by decide)
    (he : starEach (e :: es) X.env = (false, eval e X.env) :: starEach es X.env := by rfl) (hpl : (backTo pos (starEach es X.env)).any (·.1) = false := by rfl)
    (h1 : X.prog = P := by rfl) (h2 : X.w = w := by rfl) (h3 : X.K = K := by rfl) (h4 : X.mg = mg := by rfl) (h5 : X.base = base := by rfl) : PE X (.Call (.Name x p) (e :: es) [] pos) (tCall (spOf K S) [] E0 t) := by
  subst h1 h2 h3 h4 h5
  exact pe_calD c hr hg ha hdb he hpl
theorem k_metD {pl : Sem Bool} (c : CalM P w K mg base C k m ps S) (hr : Room k X.A) (he : PE X o ta) (ha : PA X (e :: es) t)
    (hst : starEach (e :: es) X.env = (false, eval e X.env) :: starEach es X.env := by rfl) (hpl : (backTo pos (starEach es X.env)).any (·.1) = false := by rfl)
    (ht : eval (.Call (.Attribute o m apos) (e :: es) [] pos) X.env = (do
      let ov ← eval o X.env
      standAt apos.atName
      let (f, first) ← holding [ov] (getMethod ov m pl)
      callWith pos f first (backTo pos (starEach (e :: es) X.env)) (backToKw pos (keywordEach [] X.env))) := by rfl)
    (h1 : X.prog = P := by rfl) (h2 : X.w = w := by rfl) (h3 : X.K = K := by rfl) (h4 : X.mg = mg := by rfl) (h5 : X.base = base := by rfl) : PE X (.Call (.Attribute o m apos) (e :: es) [] pos) (tMeth C m (spOf K S) [] E0 ta t) := by
  subst h1 h2 h3 h4 h5
  exact pe_metD c hr he ha hst hpl ht
theorem k_met0D {pl : Sem Bool} (c : CalM P w K mg base C k m ps S) (hr : Room k X.A) (he : PE X o ta)
    (ht : eval (.Call (.Attribute o m apos) [] [] pos) X.env = (do
      let ov ← eval o X.env
      standAt apos.atName
      let (f, first) ← holding [ov] (getMethod ov m pl)
      callWith pos f first (backTo pos (starEach [] X.env)) (backToKw pos (keywordEach [] X.env))) := by rfl)
    (h1 : X.prog = P := by rfl) (h2 : X.w = w := by rfl) (h3 : X.K = K := by rfl) (h4 : X.mg = mg := by rfl) (h5 : X.base = base := by rfl) : PE X (.Call (.Attribute o m apos) [] [] pos) (tMeth C m (spOf K S) [] E0 ta tNil) := by
  subst h1 h2 h3 h4 h5
  exact pe_met0D c hr he ht
theorem k_makD (c : CalC P w K mg base C k x ps S) (hr : Room (k + 1) X.A) (hg : Gl X x) (ha : PA X (e :: es) t) (hdb : (x == ("__debug__" : Str)) = false := by decide)
    (he : starEach (e :: es) X.env = (false, eval e X.env) :: starEach es X.env := by rfl) (hpl : (backTo pos (starEach es X.env)).any (·.1) = false := by rfl)
    (h1 : X.prog = P := by rfl) (h2 : X.w = w := by rfl) (h3 : X.K = K := by rfl) (h4 : X.mg = mg := by rfl) (h5 : X.base = base := by rfl) : PE X (.Call (.Name x p) (e :: es) [] pos) (tMake C (spOf K S) [] E0 t) := by
  subst h1 h2 h3 h4 h5
  exact pe_makD c hr hg ha hdb he hpl
end
section
variable {K : PySem.W.Frag} {ρ : Env'} {M : MH} {ts : TS} {D : DE}
/-- the new thing that is given back stands still from here on -/
theorem stp_frzO (h : StP K ts ρ M { D with rt := fun d M' => ∃ a C ns ds, d = .sc (.ref a) ∧ M' a = some (.ins C ns ds) ∧ D.rt (.obj C ns ds) (delM M' a) }) : StP K ts ρ M D := fun σ F G H D0 hE hO m =>
  h σ F G H D0 hE hO ⟨m.nx, fun v d F' M' H' s o r ⟨a, C, ns, ds, e, hm, p⟩ => by
    subst e
    have hv := rp_sc.mp r
    subst hv
    obtain ⟨dx, xs, hx, _, rx⟩ := (o.mu a _ hm).2
    exact m.rt _ _ (upd F' a (.ins C dx (ns.zip xs))) _ H' (s.trans (sm_freeze o hm)) (o.freeze hm hx) (rp_obj.mpr ⟨a, dx, xs, rfl, upd_same, RpA.mono (sm_freeze o hm) _ _ rx⟩) p, m.bk, m.ct⟩
theorem stp_frzR (h : StP K ts ρ M { D with rt := fun d M' => ∃ a ds, d = .sc (.ref a) ∧ M' a = some (.lst ds) ∧ D.rt (.lst ds) (delM M' a) }) : StP K ts ρ M D := fun σ F G H D0 hE hO m =>
  h σ F G H D0 hE hO ⟨m.nx, fun v d F' M' H' s o r ⟨a, ds, e, hm, p⟩ => by
    subst e
    have hv := rp_sc.mp r
    subst hv
    obtain ⟨xs, hx, rx⟩ := (o.mu a _ hm).2
    exact m.rt _ _ (upd F' a (.lst xs)) _ H' (s.trans (sm_freeze o hm)) (o.freeze hm hx) (rp_lst.mpr ⟨a, xs, rfl, upd_same, RpA.mono (sm_freeze o hm) _ _ rx⟩) p, m.bk, m.ct⟩
theorem ev_ifV {t : TT} {ta tb : TE} {P : Da → MH → Prop} (v : Da) (h : TvP K t ρ M fun b M1 => M = M1 ∧ if b = true then EvP K ta ρ M (fun d M2 => d = v ∧ M = M2) else EvP K tb ρ M (fun d M2 => d = v ∧ M = M2)) (q : P v M) : EvP K (tIf t ta tb) ρ M P :=
  ev_if (h.mono fun b M' ⟨e, p⟩ => by
    subst e
    cases b with
    | true => exact EvP.mono p fun d M2 ⟨ed, em⟩ => by subst ed em; exact q
    | false => exact EvP.mono p fun d M2 ⟨ed, em⟩ => by subst ed em; exact q)
theorem stp_cut {us : TS} (R : Env' → MH → Prop) (h1 : StP K ts ρ M { D with nx := R }) (h2 : ∀ ρ' M', R ρ' M' → StP K us ρ' M' D) : StP K (tSeq ts us) ρ M D :=
  stp_seq (stp_mono h1 h2 (fun _ _ p => p) (fun _ _ p => p) (fun _ _ p => p))
theorem SubM.del {M M' : MH} {a : Addr} (h : SubM M M') (ha : M a = none) : SubM M (delM M' a) := fun b o e => by
  rw [delM_ne (fun z => by rw [z, ha] at e; cases e)]
  exact h b o e
theorem SubM.upd' {M M' : MH} {a : Addr} {o : MO} (h : SubM M M') (ha : M a = none) : SubM M (updM M' a o) := fun b u e => by
  rw [updM_ne (fun z => by rw [z, ha] at e; cases e)]
  exact h b u e
end
end Dl

/-! The program as plain functions. -/
namespace Kc
open PySem L2 Dl

inductive What where
  | count | sum | most | any
  deriving DecidableEq
def What.s : What → Str
  | .count => "count"
  | .sum => "sum"
  | .most => "most"
  | .any => "any"
structure Keep where
  what : What
  kind : Option Int
  deriving DecidableEq
inductive Src where
  | one | elder | newer
  deriving DecidableEq
def Src.s : Src → Str
  | .one => "one"
  | .elder => "elder"
  | .newer => "newer"
inductive Touch where
  | add (k : Nat) (s : Src) | less (k : Nat) (s : Src) | lift (k : Nat) | mark (k : Nat) | empty (k : Nat) | again (k : Nat)
  deriving DecidableEq
inductive Test where
  | elder (c : Int) | newer (c : Int) | moved | none (k : Nat) | top (k : Nat)
  deriving DecidableEq
structure Step where
  test : Option Test
  touch : Touch
  deriving DecidableEq
inductive Pn where
  | new | change | drop
  deriving DecidableEq
def Pn.s : Pn → Str
  | .new => "new"
  | .change => "change"
  | .drop => "drop"
structure Prog where
  keeps : List Keep
  new : List Step
  change : List Step
  drop : List Step
  deriving DecidableEq
def Prog.steps (p : Prog) : Pn → List Step
  | .new => p.new
  | .change => p.change
  | .drop => p.drop
def Prog.with (p : Prog) (n : Pn) (l : List Step) : Prog := match n with
  | .new => { p with new := l }
  | .change => { p with change := l }
  | .drop => { p with drop := l }

/-! ### as data -/
abbrev sD (x : Str) : Da := .sc (.str x)
abbrev iD (i : Int) : Da := .sc (.int i)
def kindV : Option Int → V
  | none => .non
  | some k => .int k
abbrev kindD (k : Option Int) : Da := .sc (kindV k)
abbrev keepD (k : Keep) : Da := .tup [sD k.what.s, kindD k.kind]
abbrev touchD : Touch → Da
  | .add k s => .tup [sD "add", iD k, sD s.s]
  | .less k s => .tup [sD "less", iD k, sD s.s]
  | .lift k => .tup [sD "lift", iD k]
  | .mark k => .tup [sD "mark", iD k]
  | .empty k => .tup [sD "empty", iD k]
  | .again k => .tup [sD "again", iD k]
abbrev testD : Test → Da
  | .elder c => .tup [sD "elder", iD c]
  | .newer c => .tup [sD "newer", iD c]
  | .moved => .tup [sD "moved"]
  | .none k => .tup [sD "none", iD k]
  | .top k => .tup [sD "top", iD k]
abbrev stepD (s : Step) : Da := match s.test with
  | none => touchD s.touch
  | some t => .tup [sD "if", testD t, touchD s.touch]
abbrev progN : List Str := ["keeps", "new", "change", "drop"]
abbrev progD (C : Addr) (p : Prog) : Da := .obj C progN [.tup (p.keeps.map keepD), .tup (p.new.map stepD), .tup (p.change.map stepD), .tup (p.drop.map stepD)]
abbrev deedN : List Str := ["keeps", "amounts", "around", "elder", "newer"]
abbrev Thing := Int × Int
abbrev thingD (t : Thing) : Da := .tup [iD t.1, iD t.2]

abbrev optD : Option Thing → Da
  | none => .sc .non
  | some t => thingD t
/-! ### what is right in form -/
def KeepOk (k : Keep) : Prop := k.kind = none ∨ k.kind = some 0 ∨ k.kind = some 1
def SrcOk (n : Pn) (s : Src) : Prop := (s = .elder → n ≠ .new) ∧ (s = .newer → n ≠ .drop)
def AddOk (n : Pn) (ks : List Keep) (k : Nat) (s : Src) : Prop := SrcOk n s ∧ ∃ kp, ks[k]? = some kp ∧ (kp.what = .sum ∨ (kp.what = .count ∧ s = .one))
def TouchOk (n : Pn) (ks : List Keep) : Touch → Prop
  | .add k s => AddOk n ks k s
  | .less k s => AddOk n ks k s
  | .lift k => n ≠ .drop ∧ ∃ kp, ks[k]? = some kp ∧ kp.what = .most
  | .mark k => ∃ kp, ks[k]? = some kp ∧ kp.what = .any
  | .empty k => ∃ kp, ks[k]? = some kp
  | .again k => ∃ kp, ks[k]? = some kp
def TestOk (n : Pn) (ks : List Keep) : Test → Prop
  | .elder c => n ≠ .new ∧ (c = 0 ∨ c = 1)
  | .newer c => n ≠ .drop ∧ (c = 0 ∨ c = 1)
  | .moved => n = .change
  | .none k => ∃ kp, ks[k]? = some kp ∧ kp.what = .count
  | .top k => n ≠ .new ∧ ∃ kp, ks[k]? = some kp ∧ kp.what = .most
def StepOk (n : Pn) (ks : List Keep) (s : Step) : Prop := TouchOk n ks s.touch ∧ ∀ t, s.test = some t → TestOk n ks t
structure Valid (p : Prog) : Prop where
  k1 : 1 ≤ p.keeps.length
  k3 : p.keeps.length ≤ 3
  ok : ∀ k ∈ p.keeps, KeepOk k
  len : ∀ n, (p.steps n).length ≤ 6
  st : ∀ n, ∀ s ∈ p.steps n, StepOk n p.keeps s

/-! ### things and kept values -/
def numbersOf (k : Keep) (ts : List Thing) : List Int := (ts.filter fun t => match k.kind with
  | none => true
  | some c => decide (t.1 = c)).map (·.2)
def maxV : List Int → V
  | [] => .non
  | x :: xs => .int (xs.foldl max x)
def trueValue (k : Keep) (ts : List Thing) : V := match k.what with
  | .count => .int (numbersOf k ts).length
  | .sum => .int (numbersOf k ts).sum
  | .any => .bl (decide (0 < (numbersOf k ts).length))
  | .most => maxV (numbersOf k ts)
def trueValues (ks : List Keep) (ts : List Thing) : List V := ks.map fun k => trueValue k ts
structure DeedS where
  keeps : List Keep
  around : List Thing
  elder : Option Thing
  newer : Option Thing
def DeedS.el (d : DeedS) : Thing := d.elder.getD (0, 0)
def DeedS.nw (d : DeedS) : Thing := d.newer.getD (0, 0)
def DeedS.keep (d : DeedS) (k : Nat) : Keep := d.keeps.getD k ⟨.count, none⟩
def amt (d : DeedS) : Src → Int
  | .one => 1
  | .elder => d.el.2
  | .newer => d.nw.2
def addV : V → Int → V
  | .int a, n => .int (a + n)
  | v, _ => v
def subV : V → Int → V
  | .int a, n => .int (a - n)
  | v, _ => v
def liftV : V → Int → V
  | .int a, n => if a < n then .int n else .int a
  | _, n => .int n
def nothing : What → V
  | .count => .int 0
  | .sum => .int 0
  | .most => .non
  | .any => .bl false
def at_ (am : List V) (k : Nat) : V := am.getD k .non
def touch (d : DeedS) (am : List V) : Touch → List V
  | .add k s => am.set k (addV (at_ am k) (amt d s))
  | .less k s => am.set k (subV (at_ am k) (amt d s))
  | .lift k => am.set k (liftV (at_ am k) d.nw.2)
  | .mark k => am.set k (.bl true)
  | .empty k => am.set k (nothing (d.keep k).what)
  | .again k => am.set k (trueValue (d.keep k) d.around)
def holds (d : DeedS) (am : List V) : Test → Bool
  | .elder c => decide (d.el.1 = c)
  | .newer c => decide (d.nw.1 = c)
  | .moved => !decide (d.el.1 = d.nw.1)
  | .none k => decide (at_ am k = .int 0)
  | .top k => decide (at_ am k = .int d.el.2)
def runStep (d : DeedS) (am : List V) (s : Step) : List V := match s.test with
  | none => touch d am s.touch
  | some t => if holds d am t = true then touch d am s.touch else am
def run (d : DeedS) (ss : List Step) (am : List V) : List V := ss.foldl (runStep d) am

/-! ### what kept values are -/
def TyV : What → V → Prop
  | .count, v => ∃ i, v = .int i
  | .sum, v => ∃ i, v = .int i
  | .most, v => v = .non ∨ ∃ i, v = .int i
  | .any, v => ∃ b, v = .bl b
structure TyA (ks : List Keep) (am : List V) : Prop where
  len : am.length = ks.length
  ty : ∀ (i : Nat) k v, ks[i]? = some k → am[i]? = some v → TyV k.what v
structure DeedOk (n : Pn) (d : DeedS) : Prop where
  k3 : d.keeps.length ≤ 3
  el : n ≠ .new → ∃ t, d.elder = some t
  nw : n ≠ .drop → ∃ t, d.newer = some t
theorem at_some {am : List V} {i : Nat} {v : V} (h : am[i]? = some v) : at_ am i = v := by
  unfold at_
  rw [List.getD_eq_getElem?_getD, h] <;> rfl
theorem tyV_true (k : Keep) (ts : List Thing) : TyV k.what (trueValue k ts) := by
  unfold trueValue
  cases k.what with
  | count => exact ⟨_, rfl⟩
  | sum => exact ⟨_, rfl⟩
  | any => exact ⟨_, rfl⟩
  | most =>
    show _ ∨ _
    cases numbersOf k ts with
    | nil => exact .inl rfl
    | cons x xs => exact .inr ⟨_, rfl⟩
theorem tyA_true (ks : List Keep) (ts : List Thing) : TyA ks (trueValues ks ts) := by
  refine ⟨by unfold trueValues; rw [List.length_map], fun i k v hk hv => ?_⟩
  unfold trueValues at hv
  rw [List.getElem?_map, hk] at hv
  cases hv
  exact tyV_true k ts
theorem TyA.at_ {ks : List Keep} {am : List V} (h : TyA ks am) {i : Nat} {k : Keep} (hk : ks[i]? = some k) : ∃ v, am[i]? = some v ∧ TyV k.what v := by
  have hi : i < am.length := by rw [h.len]; exact (List.getElem?_eq_some_iff.mp hk).1
  exact ⟨am[i], List.getElem?_eq_getElem hi, h.ty i k _ hk (List.getElem?_eq_getElem hi)⟩
theorem TyA.set {ks : List Keep} {am : List V} (h : TyA ks am) {i : Nat} {k : Keep} {v : V} (hk : ks[i]? = some k) (hv : TyV k.what v) : TyA ks (am.set i v) := by
  refine ⟨by rw [List.length_set]; exact h.len, fun j k' v' hk' hv' => ?_⟩
  by_cases e : i = j
  · subst e
    rw [hk] at hk'
    cases hk'
    rw [List.getElem?_set_self (by rw [h.len]; exact (List.getElem?_eq_some_iff.mp hk).1)] at hv'
    cases hv'
    exact hv
  · rw [List.getElem?_set_ne e] at hv'
    exact h.ty j k' v' hk' hv'
theorem tyV_nothing (x : What) : TyV x (nothing x) := by
  cases x <;> first | exact ⟨_, rfl⟩ | exact .inl rfl
theorem tyA_touch {n : Pn} {d : DeedS} {am : List V} {t : Touch} (h : TyA d.keeps am) (ht : TouchOk n d.keeps t) : TyA d.keeps (touch d am t) := by
  have keep : ∀ {k : Nat} {kp : Keep}, d.keeps[k]? = some kp → d.keep k = kp := fun {k kp} e => by
    unfold DeedS.keep
    rw [List.getD_eq_getElem?_getD, e] <;> rfl
  cases t with
  | add k s =>
    obtain ⟨_, kp, hk, hw⟩ := ht
    obtain ⟨v, hv, tv⟩ := h.at_ hk
    refine h.set hk ?_
    rw [at_some hv]
    rcases hw with hw | ⟨hw, _⟩ <;> rw [hw] at tv ⊢ <;> obtain ⟨z, rfl⟩ := tv <;> exact ⟨_, rfl⟩
  | less k s =>
    obtain ⟨_, kp, hk, hw⟩ := ht
    obtain ⟨v, hv, tv⟩ := h.at_ hk
    refine h.set hk ?_
    rw [at_some hv]
    rcases hw with hw | ⟨hw, _⟩ <;> rw [hw] at tv ⊢ <;> obtain ⟨z, rfl⟩ := tv <;> exact ⟨_, rfl⟩
  | lift k =>
    obtain ⟨_, kp, hk, hw⟩ := ht
    obtain ⟨v, hv, tv⟩ := h.at_ hk
    refine h.set hk ?_
    rw [at_some hv]
    rw [hw] at tv ⊢
    rcases tv with rfl | ⟨z, rfl⟩
    · exact .inr ⟨_, rfl⟩
    · show TyV .most (if z < d.nw.2 then V.int d.nw.2 else V.int z)
      split <;> exact .inr ⟨_, rfl⟩
  | mark k =>
    obtain ⟨kp, hk, hw⟩ := ht
    refine h.set hk ?_
    rw [hw]
    exact ⟨_, rfl⟩
  | empty k =>
    obtain ⟨kp, hk⟩ := ht
    refine h.set hk ?_
    rw [keep hk]
    exact tyV_nothing _
  | again k =>
    obtain ⟨kp, hk⟩ := ht
    refine h.set hk ?_
    rw [keep hk]
    exact tyV_true _ _
theorem tyA_step {n : Pn} {d : DeedS} {am : List V} {s : Step} (h : TyA d.keeps am) (hs : StepOk n d.keeps s) : TyA d.keeps (runStep d am s) := by
  unfold runStep
  cases s.test with
  | none => exact tyA_touch h hs.1
  | some t =>
    show TyA d.keeps (if holds d am t = true then touch d am s.touch else am)
    split
    · exact tyA_touch h hs.1
    · exact h
theorem tyA_run {n : Pn} {d : DeedS} : ∀ {ss : List Step} {am : List V}, TyA d.keeps am → (∀ s ∈ ss, StepOk n d.keeps s) → TyA d.keeps (run d ss am)
  | [], am, h, _ => h
  | s :: ss, am, h, hs => tyA_run (ss := ss) (tyA_step h (hs s List.mem_cons_self)) fun x hx => hs x (List.mem_cons_of_mem _ hx)

/-! ### what holds for all histories -/
def numbers : List Int := [2, 5, 11, 23]
def allThings : List Thing := [(0, 2), (0, 5), (0, 11), (0, 23), (1, 2), (1, 5), (1, 11), (1, 23)]
def Step.asksNone (s : Step) : Bool := match s.test with
  | some (.none _) => true
  | _ => false
def asksNone (p : Prog) : Bool := (p.new ++ p.change ++ p.drop).any Step.asksNone
def mostOthers (p : Prog) : Nat := if asksNone p = true then max 2 (max p.new.length (max p.change.length p.drop.length)) else 2
def rowsOf (k : Int) (n : Nat) : List (List Thing) := if n = 0 then [[]] else numbers.map fun m => List.replicate n (k, m)
def crowdsAt (many first : Nat) : List (List Thing) := (rowsOf 0 first).flatMap fun r => (rowsOf 1 (many - first)).map fun o => r ++ o
def crowds (many most : Nat) : List (List Thing) := (List.range (min many most + 1 - (many - most))).flatMap fun i => crowdsAt many (many - most + i)
inductive Dd where
  | new (k n : Int) | change (t : Nat) (k n : Int) | drop (t : Nat)
  deriving DecidableEq
abbrev ddD : Dd → Da
  | .new k n => .tup [sD "new", iD k, iD n]
  | .change t k n => .tup [sD "change", iD t, iD k, iD n]
  | .drop t => .tup [sD "drop", iD t]
def news (ts : List Thing) : List Dd := ts.map fun t => .new t.1 t.2
def firstLie (p : Prog) (ss : List Step) (before after : List Thing) (elder newer : Option Thing) : Option Nat :=
  (List.range p.keeps.length).find? fun i => !decide (at_ (run ⟨p.keeps, after, elder, newer⟩ ss (trueValues p.keeps before)) i = at_ (trueValues p.keeps after) i)
abbrev Lie := List Dd × Nat
def lieOfNew (p : Prog) (many most : Nat) : Option Lie := (crowds many most).findSome? fun c => allThings.findSome? fun nw =>
  (firstLie p p.new c (c ++ [nw]) none (some nw)).map fun i => (news c ++ [.new nw.1 nw.2], i)
def lieOfOld (p : Prog) (many most : Nat) : Option Lie := (crowds many most).findSome? fun c => allThings.findSome? fun el =>
  match firstLie p p.drop (c ++ [el]) c (some el) none with
  | some i => some (news (c ++ [el]) ++ [.drop (c.length + 1)], i)
  | none => allThings.findSome? fun nw => (firstLie p p.change (c ++ [el]) (c ++ [nw]) (some el) (some nw)).map fun i => (news (c ++ [el]) ++ [.change (c.length + 1) nw.1 nw.2], i)
def lieAt (p : Prog) (most many : Nat) : Option Lie := match (if many ≤ 2 * most then lieOfNew p many most else none) with
  | some x => some x
  | none => if 0 < many then lieOfOld p (many - 1) most else none
def lie (p : Prog) : Option Lie := (List.range (2 * mostOthers p + 2)).findSome? (lieAt p (mostOthers p))
def isRight (p : Prog) : Bool := (lie p).isNone
abbrev lieD : Option Lie → Da
  | none => .sc .non
  | some (h, i) => .tup [.lst (h.map ddD), iD i]
abbrev idxD : Option Nat → Da
  | none => .sc .non
  | some i => iD i
end Kc

/-! The promises, by data; what the text's top leaves. -/
namespace Kc
open PySem L2 Dl
theorem pe_globI {X : Cx} {x : Str} {i : Int} {pos : Pos} (hg : Gl X x) (h : ∃ t, X.mg x = some (.int i t)) (hd : (x == ("__debug__" : Str)) = false := by decide) : PE X (.Name x pos) (tC (.int i)) := by
  obtain ⟨t, e⟩ := h
  exact pe_glob hg e ⟨t, rfl⟩ hd
abbrev namesD : Da := .tup [sD "new", sD "change", sD "drop"]
abbrev whatsD : Da := .tup ([V.str "count", V.str "sum", V.str "most", V.str "any"].map Da.sc)
abbrev sourcesD : Da := .tup ([V.str "one", V.str "elder", V.str "newer"].map Da.sc)
abbrev numbersD : Da := .tup (numbers.map iD)
def fitS : Touch → Str
  | .add .. => "add"
  | .less .. => "less"
  | .lift .. => "lift"
  | .mark .. => "mark"
  | .empty .. => "empty"
  | .again .. => "again"
def fitW : Touch → List V
  | .add .. => [V.str "count", V.str "sum"]
  | .less .. => [V.str "count", V.str "sum"]
  | .lift .. => [V.str "most"]
  | .mark .. => [V.str "any"]
  | .empty .. => [V.str "count", V.str "sum", V.str "most", V.str "any"]
  | .again .. => [V.str "count", V.str "sum", V.str "most", V.str "any"]
/-- what the text's top leaves -/
structure Tx (w : World) (K : PySem.W.Frag) (mg : Str → Option Value) : Prop where
  b_len : mg "len" = none
  b_isinstance : mg "isinstance" = none
  b_int : mg "int" = none
  b_str : mg "str" = none
  b_bool : mg "bool" = none
  b_tuple : mg "tuple" = none
  b_range : mg "range" = none
  b_enumerate : mg "enumerate" = none
  b_max : mg "max" = none
  b_min : mg "min" = none
  b_sum : mg "sum" = none
  b_any : mg "any" = none
  b_list : mg "list" = none
  b_sorted : mg "sorted" = none
  b_dict : mg "dict" = none
  g_NAMES : mg "NAMES" = some (.ref (He.ga K "NAMES"))
  d_NAMES : ∀ F, Rp K F namesD (.ref (He.ga K "NAMES"))
  g_WHATS : mg "WHATS" = some (.ref (He.ga K "WHATS"))
  d_WHATS : ∀ F, Rp K F whatsD (.ref (He.ga K "WHATS"))
  g_SOURCES : mg "SOURCES" = some (.ref (He.ga K "SOURCES"))
  d_SOURCES : ∀ F, Rp K F sourcesD (.ref (He.ga K "SOURCES"))
  g_NUMBERS : mg "NUMBERS" = some (.ref (He.ga K "NUMBERS"))
  d_NUMBERS : ∀ F, Rp K F numbersD (.ref (He.ga K "NUMBERS"))
  g_MOST_KEEPS : ∃ t, mg "MOST_KEEPS" = some (.int 3 t)
  g_MOST_STEPS : ∃ t, mg "MOST_STEPS" = some (.int 6 t)
  g_FITTING : mg "FITTING" = some (.ref (He.ga K "FITTING"))
  fit : ∃ es n, KDict K w (He.ga K "FITTING") es n
  v_FITTING : ∀ (t : Touch), ∃ u v, PySem.W.nsIn K (He.ga K "FITTING") (fitS t) = some (some u) ∧ RelV v u ∧ ∀ F, Rp K F (.tup ((fitW t).map Da.sc)) v
  g_NOTHING : mg "NOTHING" = some (.ref (He.ga K "NOTHING"))
  noth : ∃ es n, KDict K w (He.ga K "NOTHING") es n
  v_NOTHING : ∀ (x : What), ∃ u, PySem.W.nsIn K (He.ga K "NOTHING") x.s = some (some u) ∧ RelV (nothing x) u
  c_Program : Cls K (He.ga K "Program")
  c_Deed : Cls K (He.ga K "Deed")
  n_Program : ∀ f ∈ progN, NoAttr K (He.ga K "Program") f
  n_Deed : ∀ f ∈ deedN, NoAttr K (He.ga K "Deed") f
theorem kit_int_int : kitB "int" "int" = some true := by decide +kernel
theorem kit_int_bool : kitB "int" "bool" = some false := by decide +kernel
theorem kit_int_str : kitB "int" "str" = some false := by decide +kernel
theorem kit_int_tuple : kitB "int" "tuple" = some false := by decide +kernel
theorem kit_int_list : kitB "int" "list" = some false := by decide +kernel
theorem kit_bool_int : kitB "bool" "int" = some true := by decide +kernel
theorem kit_bool_bool : kitB "bool" "bool" = some true := by decide +kernel
theorem kit_bool_str : kitB "bool" "str" = some false := by decide +kernel
theorem kit_bool_tuple : kitB "bool" "tuple" = some false := by decide +kernel
theorem kit_bool_list : kitB "bool" "list" = some false := by decide +kernel
theorem kit_str_int : kitB "str" "int" = some false := by decide +kernel
theorem kit_str_bool : kitB "str" "bool" = some false := by decide +kernel
theorem kit_str_str : kitB "str" "str" = some true := by decide +kernel
theorem kit_str_tuple : kitB "str" "tuple" = some false := by decide +kernel
theorem kit_str_list : kitB "str" "list" = some false := by decide +kernel
theorem kit_tuple_int : kitB "tuple" "int" = some false := by decide +kernel
theorem kit_tuple_bool : kitB "tuple" "bool" = some false := by decide +kernel
theorem kit_tuple_str : kitB "tuple" "str" = some false := by decide +kernel
theorem kit_tuple_tuple : kitB "tuple" "tuple" = some true := by decide +kernel
theorem kit_tuple_list : kitB "tuple" "list" = some false := by decide +kernel
theorem kit_list_int : kitB "list" "int" = some false := by decide +kernel
theorem kit_list_bool : kitB "list" "bool" = some false := by decide +kernel
theorem kit_list_str : kitB "list" "str" = some false := by decide +kernel
theorem kit_list_tuple : kitB "list" "tuple" = some false := by decide +kernel
theorem kit_list_list : kitB "list" "list" = some true := by decide +kernel
theorem kit_NoneType_int : kitB "NoneType" "int" = some false := by decide +kernel
theorem kit_NoneType_bool : kitB "NoneType" "bool" = some false := by decide +kernel
theorem kit_NoneType_str : kitB "NoneType" "str" = some false := by decide +kernel
theorem kit_NoneType_tuple : kitB "NoneType" "tuple" = some false := by decide +kernel
theorem kit_NoneType_list : kitB "NoneType" "list" = some false := by decide +kernel
/-- a list or a tuple of these -/
def SeqOf (d : Da) (ds : List Da) : Prop := d = .lst ds ∨ d = .tup ds

/-! ### programs -/
def S_is_index : Spd := fun ds M P => ∃ a b : Int, ds = [iD a, iD b] ∧ P (.sc (.bl (decide (0 ≤ a) && decide (a < b)))) M
def S_is_keep : Spd := fun ds M P => ∃ k, ds = [keepD k] ∧ KeepOk k ∧ P (.sc (.bl true)) M
/-- is_of for an index that is one -/
def S_is_of : Spd := fun ds M P => ∃ (kd : Da) (ks : List Keep) (i : Nat) (vs : List V) (kp : Keep), ds = [kd, iD i, .tup (vs.map Da.sc)] ∧ SeqOf kd (ks.map keepD) ∧ ks[i]? = some kp ∧ vs.all flatV = true ∧ P (.sc (.bl (inV (.str kp.what.s) vs))) M
def S_is_source : Spd := fun ds M P => ∃ (s : Src) (n : Pn), ds = [sD s.s, sD n.s] ∧ SrcOk n s ∧ P (.sc (.bl true)) M
def S_is_touch : Spd := fun ds M P => ∃ (t : Touch) (n : Pn) (kd : Da) (ks : List Keep), ds = [touchD t, sD n.s, kd] ∧ SeqOf kd (ks.map keepD) ∧ ks.length ≤ 3 ∧ TouchOk n ks t ∧ P (.sc (.bl true)) M
def S_is_test : Spd := fun ds M P => ∃ (t : Test) (n : Pn) (kd : Da) (ks : List Keep), ds = [testD t, sD n.s, kd] ∧ SeqOf kd (ks.map keepD) ∧ ks.length ≤ 3 ∧ TestOk n ks t ∧ P (.sc (.bl true)) M
def S_is_step : Spd := fun ds M P => ∃ (s : Step) (n : Pn) (kd : Da) (ks : List Keep), ds = [stepD s, sD n.s, kd] ∧ SeqOf kd (ks.map keepD) ∧ ks.length ≤ 3 ∧ StepOk n ks s ∧ P (.sc (.bl true)) M
def S_check_steps : Spd := fun ds M P => ∃ (n : Pn) (sd : Da) (ss : List Step) (kd : Da) (ks : List Keep), ds = [sD n.s, sd, kd] ∧ SeqOf sd (ss.map stepD) ∧ SeqOf kd (ks.map keepD) ∧ ks.length ≤ 3 ∧ ss.length ≤ 6 ∧ (∀ s ∈ ss, StepOk n ks s) ∧ P (.sc .non) M
def S_Program_init (C : Addr) : Spd := fun ds M P => ∃ (x : Addr) (kd nd cd dd : Da) (p : Prog), ds = [.sc (.ref x), kd, nd, cd, dd] ∧ M x = some (.ins C [] []) ∧ SeqOf kd (p.keeps.map keepD) ∧ SeqOf nd (p.new.map stepD) ∧ SeqOf cd (p.change.map stepD) ∧ SeqOf dd (p.drop.map stepD) ∧ Valid p ∧
  P (.sc .non) (updM M x (.ins C progN [.tup (p.keeps.map keepD), .tup (p.new.map stepD), .tup (p.change.map stepD), .tup (p.drop.map stepD)]))
def S_steps_of (C : Addr) : Spd := fun ds M P => ∃ (p : Prog) (n : Pn), ds = [progD C p, sD n.s] ∧ P (.tup ((p.steps n).map stepD)) M
def S_with_steps (C : Addr) : Spd := fun ds M P => ∃ (p : Prog) (n : Pn) (sd : Da) (ss : List Step), ds = [progD C p, sD n.s, sd] ∧ SeqOf sd (ss.map stepD) ∧ Valid (p.with n ss) ∧ P (progD C (p.with n ss)) M
/-! ### things, kept values -/
def ThOk (d : Da) (ts : List Thing) : Prop := d = .lst (ts.map thingD)
def S_true_value : Spd := fun ds M P => ∃ (k : Keep) (ts : List Thing), ds = [keepD k, .lst (ts.map thingD)] ∧ ts.length ≤ 10000 ∧ P (.sc (trueValue k ts)) M
def S_true_values : Spd := fun ds M P => ∃ (kd : Da) (ks : List Keep) (ts : List Thing), ds = [kd, .lst (ts.map thingD)] ∧ SeqOf kd (ks.map keepD) ∧ ks.length ≤ 3 ∧ ts.length ≤ 10000 ∧ P (.lst ((trueValues ks ts).map Da.sc)) M
/-- a deed that is being done: at x, its kept values at l -/
def DeedAt (C : Addr) (M : MH) (x l : Addr) (d : DeedS) (am : List V) : Prop :=
  M x = some (.ins C deedN [.tup (d.keeps.map keepD), .sc (.ref l), .lst (d.around.map thingD), optD d.elder, optD d.newer]) ∧ M l = some (.lst (am.map Da.sc)) ∧ x ≠ l
def S_Deed_init (C : Addr) : Spd := fun ds M P => ∃ (x : Addr) (am : List V) (d : DeedS), ds = [.sc (.ref x), .tup (d.keeps.map keepD), .lst (am.map Da.sc), .lst (d.around.map thingD), optD d.elder, optD d.newer] ∧ M x = some (.ins C [] []) ∧
  ∀ l, M l = none → P (.sc .non) (updM (updM M x (.ins C deedN [.tup (d.keeps.map keepD), .sc (.ref l), .lst (d.around.map thingD), optD d.elder, optD d.newer])) l (.lst (am.map Da.sc)))
def S_does_hold (C : Addr) : Spd := fun ds M P => ∃ (x l : Addr) (d : DeedS) (am : List V) (n : Pn) (t : Test), ds = [.sc (.ref x), testD t] ∧ DeedAt C M x l d am ∧ DeedOk n d ∧ TyA d.keeps am ∧ TestOk n d.keeps t ∧ P (.sc (.bl (holds d am t))) M
def S_amount (C : Addr) : Spd := fun ds M P => ∃ (x l : Addr) (d : DeedS) (am : List V) (n : Pn) (s : Src), ds = [.sc (.ref x), sD s.s] ∧ DeedAt C M x l d am ∧ DeedOk n d ∧ SrcOk n s ∧ P (iD (amt d s)) M
def S_touch (C : Addr) : Spd := fun ds M P => ∃ (x l : Addr) (d : DeedS) (am : List V) (n : Pn) (t : Touch), ds = [.sc (.ref x), touchD t] ∧ DeedAt C M x l d am ∧ DeedOk n d ∧ TyA d.keeps am ∧ TouchOk n d.keeps t ∧ d.around.length ≤ 10000 ∧ P (.sc .non) (updM M l (.lst ((touch d am t).map Da.sc)))
def S_steps (C : Addr) : Spd := fun ds M P => ∃ (x l : Addr) (d : DeedS) (am : List V) (n : Pn) (sd : Da) (ss : List Step), ds = [.sc (.ref x), sd] ∧ SeqOf sd (ss.map stepD) ∧ DeedAt C M x l d am ∧ DeedOk n d ∧ TyA d.keeps am ∧ (∀ s ∈ ss, StepOk n d.keeps s) ∧ d.around.length ≤ 10000 ∧
  P (.sc (.ref l)) (updM M l (.lst ((run d ss am).map Da.sc)))
end Kc

/-! Promises of what decides. -/
namespace Kc
open PySem L2 Dl
theorem subU {M : MH} {a : Addr} {o : MO} {A : Prop} (h : M a = none) (q : A) : SubM M (updM M a o) ∧ A := ⟨SubM.upd h, q⟩
theorem decInt {a b : Int} : decide (V.int a = V.int b) = decide (a = b) := by
  by_cases h : a = b
  · rw [h, decide_eq_true rfl, decide_eq_true rfl]
  · rw [decide_eq_false h, decide_eq_false (fun z => h (by injection z))]
theorem set_same {α : Type} : ∀ {l : List α} {k : Nat} {v : α}, l[k]? = some v → l.set k v = l
  | [], _, _, h => by cases h
  | x :: l, 0, v, h => by cases h; rfl
  | x :: l, k + 1, v, h => by rw [List.set_cons_succ, set_same (l := l) h]
theorem keep_at {d : DeedS} {k : Nat} {kp : Keep} (e : d.keeps[k]? = some kp) : d.keep k = kp := by
  unfold DeedS.keep
  rw [List.getD_eq_getElem?_getD, e] <;> rfl
abbrev crowdD (c : List Thing) : Da := .tup (c.map thingD)
def S_all_things : Spd := fun ds M P => ds = [numbersD] ∧ P (.lst (allThings.map thingD)) M
def S_asks_none (C : Addr) : Spd := fun ds M P => ∃ p, ds = [progD C p] ∧ Valid p ∧ P (.sc (.bl (asksNone p))) M
def S_most_others (C : Addr) : Spd := fun ds M P => ∃ p, ds = [progD C p] ∧ Valid p ∧ P (iD (mostOthers p)) M
def S_crowds : Spd := fun ds M P => ∃ many most : Nat, ds = [iD many, iD most] ∧ most ≤ 8 ∧ many ≤ 40 ∧ P (.lst ((crowds many most).map crowdD)) M
def S_news : Spd := fun ds M P => ∃ (d : Da) (ts : List Thing), ds = [d] ∧ SeqOf d (ts.map thingD) ∧ ts.length ≤ 1000 ∧ P (.lst ((news ts).map ddD)) M
def S_first_lie (C : Addr) : Spd := fun ds M P => ∃ (p : Prog) (ss : List Step) (before after : List Thing) (elder newer : Option Thing) (n : Pn), ds = [progD C p, .tup (ss.map stepD), .lst (before.map thingD), .lst (after.map thingD), optD elder, optD newer] ∧
  p.keeps.length ≤ 3 ∧ DeedOk n ⟨p.keeps, after, elder, newer⟩ ∧ (∀ s ∈ ss, StepOk n p.keeps s) ∧ before.length ≤ 10000 ∧ after.length ≤ 10000 ∧ P (idxD (firstLie p ss before after elder newer)) M
def S_lie_of_new (C : Addr) : Spd := fun ds M P => ∃ (p : Prog) (many most : Nat), ds = [progD C p, iD many, iD most] ∧ Valid p ∧ most ≤ 8 ∧ many ≤ 40 ∧ P (lieD (lieOfNew p many most)) M
def S_lie_of_old (C : Addr) : Spd := fun ds M P => ∃ (p : Prog) (many most : Nat), ds = [progD C p, iD many, iD most] ∧ Valid p ∧ most ≤ 8 ∧ many ≤ 40 ∧ P (lieD (lieOfOld p many most)) M
def S_lie (C : Addr) : Spd := fun ds M P => ∃ p, ds = [progD C p] ∧ Valid p ∧ P (lieD (lie p)) M
def S_is_right (C : Addr) : Spd := fun ds M P => ∃ p, ds = [progD C p] ∧ Valid p ∧ P (.sc (.bl (isRight p))) M
theorem mostOthers_le {p : Prog} (h : Valid p) : mostOthers p ≤ 6 := by
  have h1 := h.len .new
  have h2 := h.len .change
  have h3 := h.len .drop
  have e1 : p.steps .new = p.new := rfl
  have e2 : p.steps .change = p.change := rfl
  have e3 : p.steps .drop = p.drop := rfl
  rw [e1] at h1
  rw [e2] at h2
  rw [e3] at h3
  unfold mostOthers
  split <;> omega
theorem mostOthers_ge (p : Prog) : 2 ≤ mostOthers p := by
  unfold mostOthers
  split <;> omega
def inKind (kk : Option Int) (t : Thing) : Bool := match kk with
  | none => true
  | some c => decide (t.1 = c)
theorem numbersOf_snoc (k : Keep) (ts : List Thing) (t : Thing) : numbersOf k (ts ++ [t]) = numbersOf k ts ++ numbersOf k [t] := by
  unfold numbersOf
  rw [List.filter_append, List.map_append]
theorem numbersOf_in {kw : What} {kk : Option Int} {t : Thing} (h : inKind kk t = true) : numbersOf ⟨kw, kk⟩ [t] = [t.2] := by
  unfold numbersOf
  rw [List.filter_cons_of_pos (by cases kk <;> exact h)]
  rfl
theorem numbersOf_out {kw : What} {kk : Option Int} {t : Thing} (h : inKind kk t = false) : numbersOf ⟨kw, kk⟩ [t] = [] := by
  unfold numbersOf
  rw [List.filter_cons_of_neg]
  · rfl
  · intro z
    cases kk with
    | none => cases h
    | some c => exact Bool.false_ne_true ((show decide (t.1 = c) = false from h).symm.trans z)
theorem numbersOf_le (k : Keep) (ts : List Thing) : (numbersOf k ts).length ≤ ts.length := by
  unfold numbersOf
  rw [List.length_map]
  exact List.length_filter_le _ _
theorem foldl_max_mem : ∀ (xs : List Int) (x : Int), xs.foldl max x ∈ x :: xs
  | [], x => List.mem_cons_self
  | y :: ys, x => by
    have h := foldl_max_mem ys (max x y)
    show ys.foldl max (max x y) ∈ _
    rcases List.mem_cons.mp h with e | e
    · rw [e]
      rcases Int.le_total x y with h1 | h1
      · rw [Int.max_eq_right h1]; exact List.mem_cons_of_mem _ List.mem_cons_self
      · rw [Int.max_eq_left h1]; exact List.mem_cons_self
    · exact List.mem_cons_of_mem _ (List.mem_cons_of_mem _ e)
theorem foldl_max_le : ∀ (xs : List Int) (x : Int), ∀ y ∈ x :: xs, y ≤ xs.foldl max x
  | [], x, y, h => by
    rcases List.mem_cons.mp h with e | e
    · rw [e]; exact Int.le_refl _
    · cases e
  | z :: zs, x, y, h => by
    have ih := foldl_max_le zs (max x z)
    show y ≤ zs.foldl max (max x z)
    rcases List.mem_cons.mp h with e | e
    · rw [e]; exact Int.le_trans (Int.le_max_left x z) (ih _ List.mem_cons_self)
    · rcases List.mem_cons.mp e with e | e
      · rw [e]; exact Int.le_trans (Int.le_max_right x z) (ih _ List.mem_cons_self)
      · exact ih y (List.mem_cons_of_mem _ e)
theorem maxV_eq {x m : Int} {xs : List Int} (h : m ∈ x :: xs) (h2 : ∀ y, y ∈ x :: xs → y ≤ m) : xs.foldl max x = m :=
  Int.le_antisymm (h2 _ (foldl_max_mem xs x)) (foldl_max_le xs x m h)
theorem scal_ty {x : What} {v u : V} (h : TyV x v) (h2 : TyV x u) : scal v u = true := by
  cases x with
  | count => obtain ⟨a, rfl⟩ := h; obtain ⟨b, rfl⟩ := h2; rfl
  | sum => obtain ⟨a, rfl⟩ := h; obtain ⟨b, rfl⟩ := h2; rfl
  | any => obtain ⟨a, rfl⟩ := h; obtain ⟨b, rfl⟩ := h2; rfl
  | most => rcases h with rfl | ⟨a, rfl⟩ <;> rcases h2 with rfl | ⟨b, rfl⟩ <;> rfl
theorem rowsOf_le (k : Int) (n : Nat) : (rowsOf k n).length ≤ 4 := by
  unfold rowsOf
  split
  · exact Nat.le_of_ble_eq_true rfl
  · rw [List.length_map]
    exact Nat.le_refl 4
theorem rowsOf_mem {k : Int} {n : Nat} {r : List Thing} (h : r ∈ rowsOf k n) : r.length = n := by
  unfold rowsOf at h
  split at h
  · rename_i e
    rw [List.mem_singleton.mp h, e] <;> rfl
  · obtain ⟨m, _, rfl⟩ := List.mem_map.mp h
    exact List.length_replicate
theorem flatMap_le {α β : Type} {f : α → List β} {c : Nat} (hf : ∀ x, (f x).length ≤ c) : ∀ l : List α, (l.flatMap f).length ≤ c * l.length
  | [] => Nat.zero_le _
  | x :: l => by
    rw [List.flatMap_cons, List.length_append, List.length_cons, Nat.mul_succ]
    have := hf x
    have := flatMap_le hf l
    omega
theorem crowdsAt_le (many first : Nat) : (crowdsAt many first).length ≤ 16 := by
  unfold crowdsAt
  have h := flatMap_le (f := fun r => (rowsOf 1 (many - first)).map fun o => r ++ o) (c := 4) (fun r => by rw [List.length_map]; exact rowsOf_le _ _) (rowsOf 0 first)
  have := rowsOf_le 0 first
  omega
theorem crowds_mem {many most : Nat} {c : List Thing} (h : c ∈ crowds many most) : c.length = many := by
  unfold crowds at h
  obtain ⟨i, hi, h⟩ := List.mem_flatMap.mp h
  unfold crowdsAt at h
  obtain ⟨r, hr, h⟩ := List.mem_flatMap.mp h
  obtain ⟨o, ho, rfl⟩ := List.mem_map.mp h
  rw [List.length_append, rowsOf_mem hr, rowsOf_mem ho]
  have := List.mem_range.mp hi
  omega
theorem crowds_le (many most : Nat) : (crowds many most).length ≤ 16 * (most + 1) := by
  unfold crowds
  have h := flatMap_le (f := fun i => crowdsAt many (many - most + i)) (c := 16) (fun i => crowdsAt_le _ _) (List.range (min many most + 1 - (many - most)))
  rw [List.length_range] at h
  omega
theorem replicate_flat {α : Type} (x : α) : ∀ n : Nat, (List.replicate n [x]).flatten = List.replicate n x
  | 0 => rfl
  | n + 1 => by rw [List.replicate_succ, List.flatten_cons, replicate_flat x n, List.replicate_succ]; rfl
theorem findSome_hit {α β : Type} {f : α → Option β} {l : List α} {i : Nat} {x : α} {y : β} (hx : l[i]? = some x) (h : (l.take i).findSome? f = none) (hf : f x = some y) : l.findSome? f = some y := by
  have e : l = l.take (i + 1) ++ l.drop (i + 1) := (List.take_append_drop _ _).symm
  rw [take_succ_some hx] at e
  rw [e, List.findSome?_append, List.findSome?_append, h]
  show ((List.findSome? f [x]).or _) = _
  rw [List.findSome?_cons, hf]
  rfl
theorem findSome_snoc {α β : Type} {f : α → Option β} {l : List α} {i : Nat} {x : α} (hx : l[i]? = some x) (h : (l.take i).findSome? f = none) (hf : f x = none) : (l.take (i + 1)).findSome? f = none := by
  rw [take_succ_some hx, List.findSome?_append, h]
  show List.findSome? f [x] = none
  rw [List.findSome?_cons, hf]
  rfl
end Kc

/-! Promises of the laws' own helpers: draws, programs right and spoilt. -/
namespace Kc
open PySem L2 Dl
structure DrSt where
  script : List Int
  pos : Int
  big : Int
  seed : Int
structure DrSt.Ok (s : DrSt) : Prop where
  pos : 0 ≤ s.pos
  big : 0 ≤ s.big
abbrev DrSt.l (s : DrSt) : List Da := [.lst (s.script.map iD), iD s.pos, iD s.big, iD s.seed]
/-- the draws' list at a -/
def DrAt (M : MH) (a : Addr) : Prop := ∃ s : DrSt, M a = some (.lst s.l) ∧ s.Ok
def S_law_begin : Spd := fun ds M P => ∃ script : List Int, ds = [.ro (script.map iD)] ∧ ∀ p, M p = none → P (.sc (.ref p)) (updM M p (.lst (DrSt.l ⟨script, 0, 0, 7⟩)))
def S_law_draw : Spd := fun ds M P => ∃ (a : Addr) (st : DrSt) (many : Nat), ds = [.sc (.ref a), iD many] ∧ M a = some (.lst st.l) ∧ st.Ok ∧ 1 ≤ many ∧ many ≤ 1000 ∧
  ∀ (r : Nat) (st' : DrSt), st'.Ok → r < many → P (iD r) (updM M a (.lst st'.l))
def S_law_keep : Spd := fun ds M P => ∃ (a : Addr) (st : DrSt), ds = [.sc (.ref a)] ∧ M a = some (.lst st.l) ∧ st.Ok ∧
  ∀ (k : Keep) (st' : DrSt), st'.Ok → KeepOk k → P (keepD k) (updM M a (.lst st'.l))
/-- the step, under a test where the keep has a kind -/
def under (kp : Keep) (t : Int → Test) (c : Touch) : Step := match kp.kind with
  | none => ⟨none, c⟩
  | some z => ⟨some (t z), c⟩
def S_law_under : Spd := fun ds M P => ∃ (kp : Keep) (w : Bool) (c : Touch), ds = [keepD kp, sD (if w then "newer" else "elder"), touchD c] ∧ P (stepD (under kp (if w then .newer else .elder) c)) M
def rNew (i : Nat) (kp : Keep) : List Step := match kp.what with
  | .count => [under kp .newer (.add i .one)]
  | .sum => [under kp .newer (.add i .newer)]
  | .most => [under kp .newer (.lift i)]
  | .any => [under kp .newer (.mark i)]
def rChange (i : Nat) (kp : Keep) : List Step := match kp.what with
  | .count => if kp.kind = none then [] else [under kp .elder (.less i .one), under kp .newer (.add i .one)]
  | .sum => [under kp .elder (.less i .elder), under kp .newer (.add i .newer)]
  | .most => [⟨none, .again i⟩]
  | .any => [⟨none, .again i⟩]
def rDrop (i : Nat) (kp : Keep) : List Step := match kp.what with
  | .count => [under kp .elder (.less i .one)]
  | .sum => [under kp .elder (.less i .elder)]
  | .most => [⟨some (.top i), .again i⟩]
  | .any => [⟨none, .again i⟩]
def kAt (ks : List Keep) (i : Nat) : Keep := ks.getD i ⟨.count, none⟩
def rightP (ks : List Keep) : Prog := ⟨ks, (List.range ks.length).flatMap fun i => rNew i (kAt ks i), (List.range ks.length).flatMap fun i => rChange i (kAt ks i), (List.range ks.length).flatMap fun i => rDrop i (kAt ks i)⟩
abbrev partsL (p : Prog) : List Da := [.lst (p.keeps.map keepD), .lst (p.new.map stepD), .lst (p.change.map stepD), .lst (p.drop.map stepD)]
def S_law_right : Spd := fun ds M P => ∃ (a : Addr) (st : DrSt) (most : Nat), ds = [.sc (.ref a), iD most] ∧ M a = some (.lst st.l) ∧ st.Ok ∧ 1 ≤ most ∧ most ≤ 3 ∧
  ∀ (ks : List Keep) (st' : DrSt) (p : Addr), st'.Ok → 1 ≤ ks.length → ks.length ≤ most → (∀ k ∈ ks, KeepOk k) → M p = none → P (.sc (.ref p)) (updM (updM M a (.lst st'.l)) p (.lst (partsL (rightP ks))))
def Pn.at_ : Pn → Nat
  | .new => 1
  | .change => 2
  | .drop => 3
def S_law_touch : Spd := fun ds M P => ∃ (a : Addr) (st : DrSt) (ks : List Keep) (n : Pn), ds = [.sc (.ref a), .lst (ks.map keepD), iD n.at_] ∧ M a = some (.lst st.l) ∧ st.Ok ∧ 1 ≤ ks.length ∧ ks.length ≤ 3 ∧
  ∀ (t : Touch) (st' : DrSt), st'.Ok → TouchOk n ks t → P (touchD t) (updM M a (.lst st'.l))
def S_law_step : Spd := fun ds M P => ∃ (a : Addr) (st : DrSt) (ks : List Keep) (n : Pn), ds = [.sc (.ref a), .lst (ks.map keepD), iD n.at_] ∧ M a = some (.lst st.l) ∧ st.Ok ∧ 1 ≤ ks.length ∧ ks.length ≤ 3 ∧ (∀ k ∈ ks, KeepOk k) ∧
  ∀ (s : Step) (st' : DrSt), st'.Ok → StepOk n ks s → P (stepD s) (updM M a (.lst st'.l))
/-- one spoiling of a procedure -/
inductive Sp (n : Pn) (ks : List Keep) (l : List Step) : List Step → Prop where
  | same : Sp n ks l l
  | move (i j : Nat) (s : Step) : l[i]? = some s → j ≤ (l.eraseIdx i).length → Sp n ks l ((l.eraseIdx i).take j ++ [s] ++ (l.eraseIdx i).drop j)
  | out (i : Nat) : Sp n ks l (l.eraseIdx i)
  | put (i : Nat) (s : Step) : l.length < 5 → StepOk n ks s → Sp n ks l (l.take i ++ [s] ++ l.drop i)
  | set (i : Nat) (s : Step) : i < l.length → StepOk n ks s → Sp n ks l (l.set i s)
inductive Gen : Nat → Prog → Prop where
  | right (ks : List Keep) : 1 ≤ ks.length → ks.length ≤ 3 → (∀ k ∈ ks, KeepOk k) → Gen 0 (rightP ks)
  | spoil (m : Nat) (p : Prog) (n : Pn) (l : List Step) : Gen m p → Sp n p.keeps (p.steps n) l → Gen (m + 1) (p.with n l)
def S_law_spoilt : Spd := fun ds M P => ∃ (a : Addr) (st : DrSt) (p : Prog), ds = [.sc (.ref a), .lst (partsL p)] ∧ M a = some (.lst st.l) ∧ st.Ok ∧ Valid p ∧
  ∀ (n : Pn) (l : List Step) (st' : DrSt) (q : Addr), st'.Ok → Sp n p.keeps (p.steps n) l → M q = none → P (.sc (.ref q)) (updM (updM M a (.lst st'.l)) q (.lst (partsL (p.with n l))))
def S_law_any : Spd := fun ds M P => ∃ (a : Addr) (st : DrSt) (most : Nat), ds = [.sc (.ref a), iD most] ∧ M a = some (.lst st.l) ∧ st.Ok ∧ 1 ≤ most ∧ most ≤ 3 ∧
  ∀ (m : Nat) (p : Prog) (st' : DrSt) (q : Addr), st'.Ok → m ≤ 2 → Gen m p → p.keeps.length ≤ most → M q = none → P (.sc (.ref q)) (updM (updM M a (.lst st'.l)) q (.lst (partsL p)))
def S_law_made (C : Addr) : Spd := fun ds M P => ∃ (d : Da) (p : Prog), ds = [d] ∧ LstAt d M (partsL p) ∧ Valid p ∧ P (progD C p) M
theorem pickL {α : Type} {f : α → Da} {ts : List α} {r : Nat} (h : r < ts.length) : atI (ts.map f) (r : Int) = some (f ts[r]) :=
  atI_nat (by rw [List.getElem?_map, List.getElem?_eq_getElem h] <;> rfl)
theorem kAt_get {ks : List Keep} {i : Nat} (h : i < ks.length) : ks[i]? = some (kAt ks i) := by
  unfold kAt
  rw [List.getD_eq_getElem?_getD, List.getElem?_eq_getElem h] <;> rfl
theorem range_succ_flat {α : Type} (f : Nat → List α) (i : Nat) : (List.range (i + 1)).flatMap f = (List.range i).flatMap f ++ f i := by
  rw [List.range_succ, List.flatMap_append, List.flatMap_singleton]
theorem rNew_le (i : Nat) (k : Keep) : (rNew i k).length ≤ 2 := by
  unfold rNew
  cases k.what <;> exact Nat.le_of_ble_eq_true rfl
theorem rChange_le (i : Nat) (k : Keep) : (rChange i k).length ≤ 2 := by
  unfold rChange
  cases k.what <;> first | exact Nat.le_of_ble_eq_true rfl | (show (if _ then _ else _ : List Step).length ≤ 2; split <;> exact Nat.le_of_ble_eq_true rfl)
theorem rDrop_le (i : Nat) (k : Keep) : (rDrop i k).length ≤ 2 := by
  unfold rDrop
  cases k.what <;> exact Nat.le_of_ble_eq_true rfl
/-- three lists that grow, beside the rest -/
def MM (N : MH) (p q r : Addr) (n c d : List Da) : MH := updM (updM (updM N p (.lst n)) q (.lst c)) r (.lst d)
section
variable {N : MH} {p q r : Addr} {n c d x : List Da} (h1 : p ≠ q) (h2 : p ≠ r) (h3 : q ≠ r)
include h1 h2 in
theorem MM1 : MM N p q r n c d p = some (.lst n) := by unfold MM; rw [updM_ne h2, updM_ne h1, updM_same]
include h3 in
theorem MM2 : MM N p q r n c d q = some (.lst c) := by unfold MM; rw [updM_ne h3, updM_same]
theorem MM3 : MM N p q r n c d r = some (.lst d) := by unfold MM; rw [updM_same]
include h1 h2 in
theorem MMu1 : updM (MM N p q r n c d) p (.lst x) = MM N p q r x c d := by
  unfold MM
  rw [updM_comm h2.symm, updM_comm h1.symm, updM_updM]
include h3 in
theorem MMu2 : updM (MM N p q r n c d) q (.lst x) = MM N p q r n x d := by
  unfold MM
  rw [updM_comm h3.symm, updM_updM]
theorem MMu3 : updM (MM N p q r n c d) r (.lst x) = MM N p q r n c x := by
  unfold MM
  rw [updM_updM]
include h1 h2 h3 in
theorem MMdel (hp : N p = none) (hq : N q = none) (hr : N r = none) : delM (delM (delM (MM N p q r n c d) p) q) r = N := by
  funext b
  unfold MM delM updM
  by_cases e1 : b = r
  · rw [if_pos e1, e1, hr]
  · by_cases e2 : b = q
    · rw [if_neg e1, if_pos e2, e2, hq]
    · by_cases e3 : b = p
      · rw [if_neg e1, if_neg e2, if_pos e3, e3, hp]
      · simp only [if_neg e1, if_neg e2, if_neg e3]
end
end Kc
namespace Kc
open PySem L2 Dl
theorem under_ok {n : Pn} {ks : List Keep} {kp : Keep} {t : Int → Test} {c : Touch} (hk : KeepOk kp) (hc : TouchOk n ks c) (ht : ∀ z, z = 0 ∨ z = 1 → TestOk n ks (t z)) : StepOk n ks (under kp t c) := by
  unfold under
  cases hkk : kp.kind with
  | none => exact ⟨hc, fun t h => by cases h⟩
  | some z =>
    refine ⟨hc, fun t' h => ?_⟩
    cases h
    refine ht z ?_
    rcases hk with h | h | h <;> rw [hkk] at h <;> cases h
    · exact .inl rfl
    · exact .inr rfl
theorem right_valid {ks : List Keep} (h1 : 1 ≤ ks.length) (h3 : ks.length ≤ 3) (ho : ∀ k ∈ ks, KeepOk k) : Valid (rightP ks) where
  k1 := h1
  k3 := h3
  ok := ho
  len := by
    intro n
    cases n with
    | new =>
      have := flatMap_le (f := fun i => rNew i (kAt ks i)) (fun i => rNew_le i (kAt ks i)) (List.range ks.length)
      rw [List.length_range] at this
      show ((List.range ks.length).flatMap fun i => rNew i (kAt ks i)).length ≤ 6
      omega
    | change =>
      have := flatMap_le (f := fun i => rChange i (kAt ks i)) (fun i => rChange_le i (kAt ks i)) (List.range ks.length)
      rw [List.length_range] at this
      show ((List.range ks.length).flatMap fun i => rChange i (kAt ks i)).length ≤ 6
      omega
    | drop =>
      have := flatMap_le (f := fun i => rDrop i (kAt ks i)) (fun i => rDrop_le i (kAt ks i)) (List.range ks.length)
      rw [List.length_range] at this
      show ((List.range ks.length).flatMap fun i => rDrop i (kAt ks i)).length ≤ 6
      omega
  st := by
    intro n s hs
    have get : ∀ i, i ∈ List.range ks.length → ks[i]? = some (kAt ks i) ∧ KeepOk (kAt ks i) := fun i hi => by
      have h := kAt_get (List.mem_range.mp hi)
      exact ⟨h, ho _ (List.mem_of_getElem? h)⟩
    cases n with
    | new =>
      obtain ⟨i, hi, hs⟩ := List.mem_flatMap.mp hs
      obtain ⟨hg, hk⟩ := get i hi
      show StepOk .new ks s
      generalize kAt ks i = kp at hg hk hs
      obtain ⟨kw, kk⟩ := kp
      have tn : ∀ z : Int, z = 0 ∨ z = 1 → TestOk .new ks (.newer z) := fun z hz => ⟨by decide, hz⟩
      cases kw with
      | count => rw [List.mem_singleton.mp hs]; exact under_ok hk ⟨⟨(by intro h; cases h), (by intro h; cases h)⟩, _, hg, .inr ⟨rfl, rfl⟩⟩ tn
      | sum => rw [List.mem_singleton.mp hs]; exact under_ok hk ⟨⟨(by intro h; cases h), (by intro _; decide)⟩, _, hg, .inl rfl⟩ tn
      | most => rw [List.mem_singleton.mp hs]; exact under_ok hk ⟨by decide, _, hg, rfl⟩ tn
      | any => rw [List.mem_singleton.mp hs]; exact under_ok hk ⟨_, hg, rfl⟩ tn
    | change =>
      obtain ⟨i, hi, hs⟩ := List.mem_flatMap.mp hs
      obtain ⟨hg, hk⟩ := get i hi
      show StepOk .change ks s
      generalize kAt ks i = kp at hg hk hs
      obtain ⟨kw, kk⟩ := kp
      have tn : ∀ z : Int, z = 0 ∨ z = 1 → TestOk .change ks (.newer z) := fun z hz => ⟨by decide, hz⟩
      have te : ∀ z : Int, z = 0 ∨ z = 1 → TestOk .change ks (.elder z) := fun z hz => ⟨by decide, hz⟩
      have two : ∀ (a b : Step), StepOk .change ks a → StepOk .change ks b → ∀ s ∈ [a, b], StepOk .change ks s := by
        intro a b ha hb s hs
        rcases List.mem_cons.mp hs with e | hs
        · rw [e]; exact ha
        · rw [List.mem_singleton.mp hs]; exact hb
      cases kw with
      | count =>
        have one : AddOk .change ks i .one := ⟨⟨(by intro h; cases h), (by intro h; cases h)⟩, _, hg, .inr ⟨rfl, rfl⟩⟩
        cases kk with
        | none => cases hs
        | some z => exact two _ _ (under_ok hk (c := .less i .one) one te) (under_ok hk (c := .add i .one) one tn) s hs
      | sum => exact two _ _ (under_ok hk (c := .less i .elder) ⟨⟨(by intro _; decide), (by intro _; decide)⟩, _, hg, .inl rfl⟩ te) (under_ok hk (c := .add i .newer) ⟨⟨(by intro _; decide), (by intro _; decide)⟩, _, hg, .inl rfl⟩ tn) s hs
      | most => rw [List.mem_singleton.mp hs]; exact ⟨⟨_, hg⟩, fun t h => by cases h⟩
      | any => rw [List.mem_singleton.mp hs]; exact ⟨⟨_, hg⟩, fun t h => by cases h⟩
    | drop =>
      obtain ⟨i, hi, hs⟩ := List.mem_flatMap.mp hs
      obtain ⟨hg, hk⟩ := get i hi
      show StepOk .drop ks s
      generalize kAt ks i = kp at hg hk hs
      obtain ⟨kw, kk⟩ := kp
      have te : ∀ z : Int, z = 0 ∨ z = 1 → TestOk .drop ks (.elder z) := fun z hz => ⟨by decide, hz⟩
      cases kw with
      | count => rw [List.mem_singleton.mp hs]; exact under_ok hk (c := .less i .one) ⟨⟨(by intro h; cases h), (by intro h; cases h)⟩, _, hg, .inr ⟨rfl, rfl⟩⟩ te
      | sum => rw [List.mem_singleton.mp hs]; exact under_ok hk (c := .less i .elder) ⟨⟨(by intro _; decide), (by intro h; cases h)⟩, _, hg, .inl rfl⟩ te
      | most => rw [List.mem_singleton.mp hs]; exact ⟨⟨_, hg⟩, fun t h => by cases h; exact ⟨by decide, _, hg, rfl⟩⟩
      | any => rw [List.mem_singleton.mp hs]; exact ⟨⟨_, hg⟩, fun t h => by cases h⟩
theorem sp_len {n : Pn} {ks : List Keep} {l l' : List Step} (h : Sp n ks l l') (hl : l.length ≤ 6) : l'.length ≤ 6 := by
  cases h with
  | same => exact hl
  | move i j s hs hj =>
    have hi : i < l.length := (List.getElem?_eq_some_iff.mp hs).1
    have he : (l.eraseIdx i).length = l.length - 1 := List.length_eraseIdx_of_lt hi
    simp only [List.length_append, List.length_take, List.length_drop, List.length_cons, List.length_nil]
    omega
  | out i => exact Nat.le_trans (List.length_eraseIdx_le ..) hl
  | put i s h5 _ =>
    simp only [List.length_append, List.length_take, List.length_drop, List.length_cons, List.length_nil]
    omega
  | set i s _ _ => rw [List.length_set]; exact hl
theorem sp_mem {n : Pn} {ks : List Keep} {l l' : List Step} (h : Sp n ks l l') (ho : ∀ s ∈ l, StepOk n ks s) : ∀ s ∈ l', StepOk n ks s := by
  intro x hx
  cases h with
  | same => exact ho x hx
  | move i j s hs hj =>
    rcases List.mem_append.mp hx with h | h
    · rcases List.mem_append.mp h with h | h
      · exact ho x (List.mem_of_mem_eraseIdx (List.mem_of_mem_take h))
      · rw [List.mem_singleton.mp h]; exact ho s (List.mem_of_getElem? hs)
    · exact ho x (List.mem_of_mem_eraseIdx (List.mem_of_mem_drop h))
  | out i => exact ho x (List.mem_of_mem_eraseIdx hx)
  | put i s h5 hs =>
    rcases List.mem_append.mp hx with h | h
    · rcases List.mem_append.mp h with h | h
      · exact ho x (List.mem_of_mem_take h)
      · rw [List.mem_singleton.mp h]; exact hs
    · exact ho x (List.mem_of_mem_drop h)
  | set i s _ hs =>
    rcases List.mem_or_eq_of_mem_set hx with h | h
    · exact ho x h
    · rw [h]; exact hs
theorem with_valid {p : Prog} {n : Pn} {l : List Step} (h : Valid p) (h6 : l.length ≤ 6) (ho : ∀ s ∈ l, StepOk n p.keeps s) : Valid (p.with n l) := by
  have hk : (p.with n l).keeps = p.keeps := by cases n <;> rfl
  have hst : ∀ m, (p.with n l).steps m = if m = n then l else p.steps m := by intro m; cases n <;> cases m <;> rfl
  refine ⟨by rw [hk]; exact h.k1, by rw [hk]; exact h.k3, by rw [hk]; exact h.ok, fun m => ?_, fun m s hs => ?_⟩
  · rw [hst]
    split
    · exact h6
    · exact h.len m
  · rw [hst] at hs
    rw [hk]
    by_cases e : m = n
    · subst e
      rw [if_pos rfl] at hs
      exact ho s hs
    · rw [if_neg e] at hs
      exact h.st m s hs
theorem gen_valid {m : Nat} {p : Prog} (h : Gen m p) : Valid p := by
  induction h with
  | right ks h1 h3 ho => exact right_valid h1 h3 ho
  | spoil m p n l _ hsp ih => exact with_valid ih (sp_len hsp (ih.len n)) (sp_mem hsp (ih.st n))
end Kc
namespace Kc
theorem eraseIdx_mapD {α β : Type} (f : α → β) : ∀ (l : List α) (i : Nat), (l.map f).eraseIdx i = (l.eraseIdx i).map f
  | [], _ => rfl
  | _ :: _, 0 => rfl
  | x :: l, i + 1 => by
    show f x :: (l.map f).eraseIdx i = f x :: (l.eraseIdx i).map f
    rw [eraseIdx_mapD f l i]
end Kc

/-! sorted() of a list of tuples of small numbers, all of one length. -/
namespace Dl
open PySem PySem.Spec L2
section
variable {X : Cx}
abbrev rSort1 (K : PySem.W.Frag) : List V → Hp → VK → Prop := fun vs H Q => ∃ (a : Addr) (xs : List V), vs = [V.ref a] ∧ SqL K H a xs ∧ xs.length < 2 ∧ (∀ x ∈ xs, ∃ t, x = V.ref t) ∧ ∀ p, H p = none → Q (.ref p) (upd H p (.lst xs))
abbrev rSortA (K : PySem.W.Frag) : List V → Hp → VK → Prop := fun vs H Q => rSort1 K vs H Q ∨ ∃ (d : Nat) (B : Int), 1 ≤ d ∧ rSortU K d B vs H Q
theorem swo_none {α : Type} : SrtO.Swo (fun (_ _ : α) => false) := ⟨fun _ _ h => (by cases h), fun _ _ _ _ _ => rfl⟩
theorem perm_short {α : Type} : ∀ {l m : List α}, l.Perm m → m.length < 2 → l = m
  | l, [], h, _ => h.eq_nil
  | l, [x], h, _ => List.perm_singleton.mp h
  | l, _ :: _ :: _, _, h => absurd h (by simp)
theorem cr_sort1 : CallR X (.builtin "sorted") (rSort1 X.K) := by
  intro pins s σ H vs us Q I r h
  obtain ⟨a, xs, rfl, hs, h1, hx, q⟩ := h
  obtain ⟨its, rv, hl, hz⟩ := I.list hs
  rw [Vals.ref1 r]
  obtain ⟨e1, e2⟩ := bkV_refs rv hx
  have hil : its.length < 2 := by rw [← rv.length]; exact h1
  refine SrtO.sorted_ord (ltv := fun _ _ => false) swo_none hl.isList (by rw [← rv.length]; exact hz) (fun h2 => absurd h2 (by omega)) fun out _ h2 => ?_
  obtain ⟨ep, he'⟩ := PyProof.Rows.sortedAll_at s.heap its out.toArray
  have eo : out = its := perm_short h2.perm hil
  subst eo
  have hlen : xs.length ≤ sizeLine := hz
  exact ⟨.ref _, upd H (s.heap.objs.size + 1) (.lst xs), I.laid (t' := s.toks) (fun _ _ => PyProof.Rows.sortedAll_old) (Nat.le_succ _) ⟨hlen, out, ep, rv, he'⟩, rfl, q _ (I.hok.fresh (Nat.le_succ _))⟩
theorem cr_sortA : CallR X (.builtin "sorted") (rSortA X.K) := fun pins s σ H vs us Q I r h => by
  rcases h with h | ⟨d, B, hd, h⟩
  · exact cr_sort1 pins s σ H vs us Q I r h
  · exact cr_sortT hd pins s σ H vs us Q I r h
end
section
variable {K : PySem.W.Frag} {F : Hp}
theorem rpA_perm {ys xs : List V} (h : ys.Perm xs) : ∀ {ds : List Da}, RpA K F ds xs → ∃ es : List Da, es.Perm ds ∧ RpA K F es ys := by
  induction h with
  | nil =>
    intro ds r
    cases ds with
    | nil => exact ⟨[], .nil, RpA.nil_⟩
    | cons d ds => obtain ⟨y, ys, e, _⟩ := rpA_cons.mp r; cases e
  | cons x _ ih =>
    intro ds r
    cases ds with
    | nil => cases rpA_nil.mp r
    | cons d ds =>
      obtain ⟨y, ys, e, h1, h2⟩ := rpA_cons.mp r
      cases e
      obtain ⟨es, p, q⟩ := ih h2
      exact ⟨d :: es, p.cons d, RpA.cons_ h1 q⟩
  | swap x y l =>
    intro ds r
    cases ds with
    | nil => cases rpA_nil.mp r
    | cons d ds =>
      obtain ⟨z, zs, e, h1, h2⟩ := rpA_cons.mp r
      cases e
      cases ds with
      | nil => cases rpA_nil.mp h2
      | cons d2 ds =>
        obtain ⟨z2, zs2, e2, h3, h4⟩ := rpA_cons.mp h2
        cases e2
        exact ⟨d2 :: d :: ds, .swap _ _ _, RpA.cons_ h3 (RpA.cons_ h1 h4)⟩
  | trans _ _ ih1 ih2 =>
    intro ds r
    obtain ⟨es, p, q⟩ := ih2 r
    obtain ⟨fs, p2, q2⟩ := ih1 q
    exact ⟨fs, p2.trans p, q2⟩
theorem perm_map {α β : Type} {f : α → β} {l : List α} {es : List β} (h : es.Perm (l.map f)) : ∃ l' : List α, l'.Perm l ∧ es = l'.map f := by
  generalize hm : l.map f = m at h
  induction h generalizing l with
  | nil =>
    exact ⟨[], by rw [List.map_eq_nil_iff.mp hm], rfl⟩
  | cons x _ ih =>
    cases l with
    | nil => cases hm
    | cons a l =>
      cases hm
      obtain ⟨l', p, e⟩ := ih rfl
      exact ⟨a :: l', p.cons a, by rw [e]; rfl⟩
  | swap x y _ =>
    cases l with
    | nil => cases hm
    | cons a l =>
      cases l with
      | nil => cases hm
      | cons b l =>
        cases hm
        exact ⟨b :: a :: l, .swap _ _ _, rfl⟩
  | trans _ _ ih1 ih2 =>
    obtain ⟨l1, p1, e1⟩ := ih2 hm
    obtain ⟨l2, p2, e2⟩ := ih1 e1.symm
    exact ⟨l2, p2.trans p1, e2⟩
end
end Dl
namespace Kc
open PySem PySem.Spec L2 Dl
abbrev ordD (o : List Nat) : Da := .tup (o.map fun i => iD (i : Nat))
def codeO (o : List Nat) : Int := TS.code 10 (o.map fun i : Nat => (i : Int))
theorem rpA_nums {K : PySem.W.Frag} {F : Hp} : ∀ {o : List Nat} {xs : List V}, RpA K F (o.map fun i => iD (i : Nat)) xs → xs = (o.map fun i : Nat => (i : Int)).map V.int
  | [], xs, r => rpA_nil.mp r
  | i :: o, xs, r => by
    obtain ⟨y, ys, e, h1, h2⟩ := rpA_cons.mp r
    subst e
    rw [rp_sc.mp h1, rpA_nums h2]
    rfl
theorem rpA_mem {K : PySem.W.Frag} {F : Hp} : ∀ {ds : List Da} {xs : List V} {x : V}, RpA K F ds xs → x ∈ xs → ∃ d ∈ ds, Rp K F d x
  | [], xs, x, r, hx => by rw [rpA_nil.mp r] at hx; cases hx
  | d :: ds, xs, x, r, hx => by
    obtain ⟨y, ys, e, h1, h2⟩ := rpA_cons.mp r
    subst e
    rcases List.mem_cons.mp hx with e | hx
    · exact ⟨d, List.mem_cons_self, e ▸ h1⟩
    · obtain ⟨d', h, h'⟩ := rpA_mem h2 hx
      exact ⟨d', List.mem_cons_of_mem _ h, h'⟩
theorem rp_ord {K : PySem.W.Frag} {F H : Hp} {o : List Nat} {x : V} (s : ∀ a o, F a = some o → H a = some o) (r : Rp K F (ordD o) x) : TupI K H x (o.map fun i : Nat => (i : Int)) := by
  obtain ⟨a, xs, e, hs, rx⟩ := rp_tup.mp r
  rw [rpA_nums rx] at hs
  exact ⟨a, e, sqT_mono s hs⟩
theorem rcl_sortO {K : PySem.W.Frag} {M : MH} {P : Da → MH → Prop} {d : Da} {os : List (List Nat)} {n : Nat} (hd : LstAt d M (os.map ordD)) (h64 : os.length < 64) (hn : ∀ o ∈ os, o.length = n) (hb : ∀ o ∈ os, ∀ m ∈ o, m < 10)
    (h0 : n = 0 → os.length < 2) (q : ∀ os' : List (List Nat), os'.Perm os → (1 ≤ n → os'.Pairwise fun x y => codeO x ≤ codeO y) → P (.lst (os'.map ordD)) M) : RCl K (rSortA K) [d] M P := fun xs F G H Q rx hO k => by
  obtain ⟨x, rfl, r1⟩ := rpA_one rx
  obtain ⟨a, xs, ex, ha, rv⟩ := lstAt hd r1 hO
  subst ex
  have l := rv.length
  rw [List.length_map] at l
  have hT : ∀ x ∈ xs, ∃ o ∈ os, TupI K H x (o.map fun i : Nat => (i : Int)) := by
    intro x hx
    obtain ⟨d', hd', r'⟩ := rpA_mem rv hx
    obtain ⟨o, ho, rfl⟩ := List.mem_map.mp hd'
    exact ⟨o, ho, rp_ord hO.ex r'⟩
  by_cases hn0 : n = 0
  · refine .inl ⟨a, xs, rfl, .inl (.inl ha), by have := h0 hn0; omega, fun x hx => ?_, fun p hp => ?_⟩
    · obtain ⟨o, _, t, e, _⟩ := hT x hx
      exact ⟨t, e⟩
    · exact fin_lst hO hp rv (q os (.refl _) (fun h => absurd h (by omega))) k
  · refine .inr ⟨n, 10, by omega, a, xs, rfl, .inl (.inl ha), by omega, fun x hx => ?_, fun ys p hp hw hnew => ?_⟩
    · obtain ⟨o, ho, ht⟩ := hT x hx
      refine ⟨_, ht, by rw [List.length_map]; exact hn o ho, fun m hm => ?_⟩
      obtain ⟨i, hi, rfl⟩ := List.mem_map.mp hm
      have := hb o ho i hi
      omega
    · obtain ⟨es, pe, re⟩ := rpA_perm hp rv
      obtain ⟨os', po, rfl⟩ := perm_map pe
      refine fin_lst hO hnew re (q os' po fun _ => ?_) k
      clear pe po
      have go : ∀ (os' : List (List Nat)) (ys : List V), RpA K F (os'.map ordD) ys → ys.Pairwise (fun x y => ∀ n m, TupI K H x n → TupI K H y m → TS.code 10 n ≤ TS.code 10 m) → os'.Pairwise fun x y => codeO x ≤ codeO y := by
        intro os'
        induction os' with
        | nil => intro ys _ _; exact .nil
        | cons o os' ih =>
          intro ys r hw
          obtain ⟨y, ys', e, h1, h2⟩ := rpA_cons.mp r
          subst e
          obtain ⟨w1, w2⟩ := List.pairwise_cons.mp hw
          refine List.pairwise_cons.mpr ⟨fun o2 ho2 => ?_, ih ys' h2 w2⟩
          obtain ⟨j, hj, ej⟩ := List.getElem_of_mem ho2
          have hg : (os'.map ordD)[j]? = some (ordD o2) := by rw [List.getElem?_map, List.getElem?_eq_getElem hj, ej] <;> rfl
          obtain ⟨v, hv, rv⟩ := h2.get hg
          exact w1 v (List.mem_of_getElem? hv) _ _ (rp_ord hO.ex h1) (rp_ord hO.ex rv)
      exact go os' ys re hw
end Kc

/-! Orders, steps that are not needed; the laws' like; defs that call themselves. -/
namespace Kc
open PySem L2 Dl
theorem cut_take {ds : List Da} {i : Nat} (h : i ≤ ds.length) : cutD ds none (some (i : Int)) = ds.take i := by
  unfold cutD
  rw [HT.sIx_none, HT.sIx_nat, Nat.min_eq_left h]
  rfl
theorem cut_drop {ds : List Da} {i : Nat} (h : i ≤ ds.length) : cutD ds (some (i : Int)) none = ds.drop i := by
  unfold cutD
  rw [HT.sIx_none, HT.sIx_nat, Nat.min_eq_left h]
  exact List.take_of_length_le (by rw [List.length_drop]; omega)
/-- never called -/
theorem cal_never {P : Program} {w : World} {K : PySem.W.Frag} {mg : Str → Option Value} {base : Heap} {x qual : Str} {st : Stmt} {f : Addr} {fd : FuncData} {ps : List Str} {S : Spd} (hS : ∀ ds M Q, ¬ S ds M Q)
    (F : FunD K x qual (defArgs st) (defBody st) (defScope st) [] [] f fd) (g : mg x = some (.ref f)) (b : Binds K fd ps []) (k : Nat) : Cal P w K mg base k x ps S :=
  cal_mk F g ⟨fun vs H Q E h => by obtain ⟨F, G, M, ds, P, _, _, h, _⟩ := h; exact (hS _ _ _ h).elim, fun A outer s H args us vs Q E hr he hb hv h => by obtain ⟨F, G, M, ds, P, _, _, h, _⟩ := h; exact (hS _ _ _ h).elim⟩ b

/-! ### orders -/
def notIn (o : List Nat) (i : Nat) : Bool := !inV (.int i) (o.map fun j : Nat => V.int j)
def ordStep (many : Nat) (f : List (List Nat)) : List (List Nat) := f.flatMap fun o => ((List.range many).filter (notIn o)).map fun i => o ++ [i]
def ordIter (many : Nat) : Nat → List (List Nat)
  | 0 => [[]]
  | i + 1 => ordStep many (ordIter many i)
def allOrders (many : Nat) : List (List Nat) := ordIter many many
def lawOrders : Nat → List (List Nat)
  | 0 => [[]]
  | n + 1 => (lawOrders n).flatMap fun o => (List.range (n + 1)).map fun p => o.take p ++ [n] ++ o.drop p
def pickS (l : List Step) (o : List Nat) : List Step := o.map fun i => l.getD i ⟨none, .again 0⟩
def ordersM (p : Prog) (n : Pn) : List (List Nat) := (allOrders (p.steps n).length).filter fun o => isRight (p.with n (pickS (p.steps n) o))
def needlessM (p : Prog) (n : Pn) : List Nat := (List.range (p.steps n).length).filter fun i => isRight (p.with n ((p.steps n).eraseIdx i))
theorem ordIter_len (many : Nat) : ∀ i, (ordIter many i).length ≤ many ^ i
  | 0 => Nat.le_refl _
  | i + 1 => by
    have h := flatMap_le (f := fun o => ((List.range many).filter (notIn o)).map fun i => o ++ [i]) (c := many) (fun o => by
      rw [List.length_map]
      exact Nat.le_trans (List.length_filter_le _ _) (by rw [List.length_range]; exact Nat.le_refl _)) (ordIter many i)
    have ih := ordIter_len many i
    rw [Nat.pow_succ, Nat.mul_comm]
    exact Nat.le_trans h (Nat.mul_le_mul_left _ ih)
theorem ordIter_mem (many : Nat) : ∀ i, ∀ o ∈ ordIter many i, o.length = i ∧ ∀ j ∈ o, j < many
  | 0, o, h => by
    rw [List.mem_singleton.mp h]
    exact ⟨rfl, fun j hj => by cases hj⟩
  | i + 1, o, h => by
    obtain ⟨o', ho', h⟩ := List.mem_flatMap.mp h
    obtain ⟨j, hj, rfl⟩ := List.mem_map.mp h
    obtain ⟨h1, h2⟩ := ordIter_mem many i o' ho'
    refine ⟨by rw [List.length_append, h1]; rfl, fun z hz => ?_⟩
    rcases List.mem_append.mp hz with h | h
    · exact h2 z h
    · rw [List.mem_singleton.mp h]
      exact List.mem_range.mp (List.mem_filter.mp hj).1
theorem lawOrders_mem : ∀ n, ∀ o ∈ lawOrders n, o.length = n ∧ ∀ j ∈ o, j < n
  | 0, o, h => by
    rw [List.mem_singleton.mp h]
    exact ⟨rfl, fun j hj => by cases hj⟩
  | n + 1, o, h => by
    obtain ⟨o', ho', h⟩ := List.mem_flatMap.mp h
    obtain ⟨p, hp, rfl⟩ := List.mem_map.mp h
    obtain ⟨h1, h2⟩ := lawOrders_mem n o' ho'
    have hp := List.mem_range.mp hp
    refine ⟨by simp only [List.length_append, List.length_take, List.length_drop, List.length_cons, List.length_nil]; omega, fun z hz => ?_⟩
    rcases List.mem_append.mp hz with h | h
    · rcases List.mem_append.mp h with h | h
      · have := h2 z (List.mem_of_mem_take h)
        omega
      · have := List.mem_singleton.mp h
        omega
    · have := h2 z (List.mem_of_mem_drop h)
      omega
theorem orders_same : ∀ n, n ≤ 3 → ∀ os : List (List Nat), os.Perm (lawOrders n) → (1 ≤ n → os.Pairwise fun x y => codeO x ≤ codeO y) → os = allOrders n := by
  intro n hn os hp hw
  by_cases h0 : n = 0
  · subst h0
    exact List.perm_singleton.mp hp
  have key : (allOrders n).Perm (lawOrders n) ∧ (allOrders n).Pairwise (fun x y => codeO x ≤ codeO y) ∧ ∀ a ∈ lawOrders n, ∀ b ∈ lawOrders n, codeO a ≤ codeO b → codeO b ≤ codeO a → a = b := by
    match n, hn, h0 with
    | 1, _, _ => exact ⟨by decide, by decide, by decide⟩
    | 2, _, _ => exact ⟨by decide, by decide, by decide⟩
    | 3, _, _ => exact ⟨by decide +kernel, by decide +kernel, by decide +kernel⟩
  obtain ⟨k1, k2, k3⟩ := key
  refine List.Perm.eq_of_pairwise (fun a b ha hb => k3 a (hp.mem_iff.mp ha) b (k1.mem_iff.mp hb)) (hw (by omega)) k2 (hp.trans k1.symm)
def S_all_orders : Spd := fun ds M P => ∃ many : Nat, ds = [iD many] ∧ many ≤ 3 ∧ P (.lst ((allOrders many).map ordD)) M
def S_law_orders (n : Nat) : Spd := fun ds M P => ∃ many : Nat, many < n ∧ ds = [iD many] ∧ many ≤ 3 ∧ P (.lst ((lawOrders many).map ordD)) M
def S_orders (C : Addr) : Spd := fun ds M P => ∃ (p : Prog) (n : Pn), ds = [progD C p, sD n.s] ∧ Valid p ∧ (p.steps n).length ≤ 3 ∧ P (.lst ((ordersM p n).map ordD)) M
def S_needless (C : Addr) : Spd := fun ds M P => ∃ (p : Prog) (n : Pn), ds = [progD C p, sD n.s] ∧ Valid p ∧ P (.lst ((needlessM p n).map fun i : Nat => iD i)) M
theorem pickS_mem {l : List Step} {o : List Nat} (h : ∀ j ∈ o, j < l.length) : ∀ s ∈ pickS l o, s ∈ l := by
  intro s hs
  obtain ⟨i, hi, rfl⟩ := List.mem_map.mp hs
  rw [List.getD_eq_getElem?_getD, List.getElem?_eq_getElem (h i hi)]
  exact List.getElem_mem _
/-! ### like -/
def Lk : Nat → Da → Prop
  | 0, _ => False
  | n + 1, d => match d with
    | .sc v => v = .non ∨ (∃ b, v = .bl b) ∨ (∃ i, v = .int i) ∨ ∃ s, v = .str s
    | .tup ds => ds.length ≤ 1000 ∧ ∀ d ∈ ds, Lk n d
    | .lst ds => ds.length ≤ 1000 ∧ ∀ d ∈ ds, Lk n d
    | _ => False
def S_law_like (n : Nat) : Spd := fun ds M P => ∃ d, ds = [d, d] ∧ Lk n d ∧ P (.sc (.bl true)) M
theorem cut_le {ds : List Da} {i : Nat} : cutD ds none (some (i : Int)) = ds.take i := by
  unfold cutD
  rw [HT.sIx_none, HT.sIx_nat]
  show List.take (min i ds.length - 0) (List.drop 0 ds) = _
  rw [List.drop_zero, Nat.sub_zero, List.take_eq_take_iff, Nat.min_assoc, Nat.min_self]
theorem with_steps_same (p : Prog) (n : Pn) (l : List Step) : (p.with n l).steps n = l := by cases n <;> rfl
theorem with_with (p : Prog) (n : Pn) (l l' : List Step) : (p.with n l).with n l' = p.with n l' := by cases n <;> rfl
theorem lk_int (n : Nat) (z : Int) : Lk (n + 1) (iD z) := .inr (.inr (.inl ⟨z, rfl⟩))
theorem lk_ords {os : List (List Nat)} (h : os.length ≤ 1000) (ho : ∀ o ∈ os, o.length ≤ 1000) : Lk 4 (.lst (os.map ordD)) := by
  refine ⟨by rw [List.length_map]; exact h, fun d hd => ?_⟩
  obtain ⟨o, hm, rfl⟩ := List.mem_map.mp hd
  refine ⟨by rw [List.length_map]; exact ho o hm, fun d hd => ?_⟩
  obtain ⟨i, _, rfl⟩ := List.mem_map.mp hd
  exact lk_int _ _
theorem lk_ints {os : List Nat} (h : os.length ≤ 1000) : Lk 4 (.lst (os.map fun i : Nat => iD i)) := by
  refine ⟨by rw [List.length_map]; exact h, fun d hd => ?_⟩
  obtain ⟨o, hm, rfl⟩ := List.mem_map.mp hd
  exact lk_int _ _
end Kc

/-! The plain law of reckoning again, of kinds and of keeps exchanged. -/
namespace Kc
open PySem L2 Dl
/-! ### how many deeds a lie has -/
def manyM (p : Prog) : Nat := match lie p with
  | none => 0
  | some (h, _) => h.length
theorem fsome_iff {α β : Type} {f : α → Option β} : ∀ {l : List α}, (l.findSome? f).isSome = true ↔ ∃ x ∈ l, (f x).isSome = true
  | [] => ⟨fun h => (by cases h), fun ⟨x, h, _⟩ => (by cases h)⟩
  | y :: l => by
    rw [List.findSome?_cons]
    cases hy : f y with
    | none =>
      refine (fsome_iff (l := l)).trans ⟨fun ⟨x, h, e⟩ => ⟨x, List.mem_cons_of_mem _ h, e⟩, fun ⟨x, h, e⟩ => ?_⟩
      rcases List.mem_cons.mp h with h | h
      · rw [h, hy] at e; cases e
      · exact ⟨x, h, e⟩
    | some z => exact ⟨fun _ => ⟨y, List.mem_cons_self, by rw [hy]; rfl⟩, fun _ => rfl⟩
theorem fsome_val {α β : Type} {f : α → Option β} {y : β} : ∀ {l : List α}, l.findSome? f = some y → ∃ x ∈ l, f x = some y
  | [], h => by cases h
  | x :: l, h => by
    rw [List.findSome?_cons] at h
    cases hx : f x with
    | none =>
      rw [hx] at h
      obtain ⟨z, hz, e⟩ := fsome_val (l := l) h
      exact ⟨z, List.mem_cons_of_mem _ hz, e⟩
    | some z =>
      rw [hx] at h
      cases h
      exact ⟨x, List.mem_cons_self, hx⟩
theorem new_len {p : Prog} {many most : Nat} {h : List Dd} {i : Nat} (e : lieOfNew p many most = some (h, i)) : h.length = many + 1 := by
  obtain ⟨c, hc, e⟩ := fsome_val e
  obtain ⟨nw, _, e⟩ := fsome_val e
  obtain ⟨j, _, e⟩ := Option.map_eq_some_iff.mp e
  cases e
  rw [List.length_append]
  show (List.map _ c).length + 1 = _
  rw [List.length_map, crowds_mem hc]
theorem old_len {p : Prog} {many most : Nat} {h : List Dd} {i : Nat} (e : lieOfOld p many most = some (h, i)) : h.length = many + 2 := by
  obtain ⟨c, hc, e⟩ := fsome_val e
  obtain ⟨el, _, e⟩ := fsome_val e
  have hl : (news (c ++ [el])).length = many + 1 := by
    show (List.map _ _).length = _
    rw [List.length_map, List.length_append, crowds_mem hc]
    rfl
  cases hd : firstLie p p.drop (c ++ [el]) c (some el) none with
  | some j =>
    rw [hd] at e
    cases e
    rw [List.length_append, hl]
    rfl
  | none =>
    rw [hd] at e
    obtain ⟨nw, _, e⟩ := fsome_val e
    obtain ⟨j, _, e⟩ := Option.map_eq_some_iff.mp e
    cases e
    rw [List.length_append, hl]
    rfl
theorem lieAt_len {p : Prog} {most many : Nat} {h : List Dd} {i : Nat} (e : lieAt p most many = some (h, i)) : h.length = many + 1 := by
  unfold lieAt at e
  cases hn : (if many ≤ 2 * most then lieOfNew p many most else none) with
  | some x =>
    rw [hn] at e
    cases e
    split at hn
    · exact new_len hn
    · cases hn
  | none =>
    rw [hn] at e
    have e : (if 0 < many then lieOfOld p (many - 1) most else none) = some (h, i) := e
    split at e
    · have := old_len e
      omega
    · cases e
/-- the least of a range, by what is found there -/
theorem least_same {α : Type} {f g : Nat → Option (List α × Nat)} (hf : ∀ m h i, f m = some (h, i) → h.length = m + 1) (hg : ∀ m h i, g m = some (h, i) → h.length = m + 1) :
    ∀ (l : List Nat), (∀ m ∈ l, (f m).isSome = (g m).isSome) → ((l.findSome? f).map fun x => x.1.length) = (l.findSome? g).map fun x => x.1.length
  | [], _ => rfl
  | m :: l, h => by
    have hm := h m List.mem_cons_self
    rw [List.findSome?_cons, List.findSome?_cons]
    cases e1 : f m with
    | none =>
      cases e2 : g m with
      | none => exact least_same hf hg l fun x hx => h x (List.mem_cons_of_mem _ hx)
      | some y => rw [e1, e2] at hm; cases hm
    | some x =>
      cases e2 : g m with
      | none => rw [e1, e2] at hm; cases hm
      | some y =>
        show some x.1.length = some y.1.length
        rw [hf m x.1 x.2 e1, hg m y.1 y.2 e2]
theorem many_same {p p' : Prog} (hm : mostOthers p' = mostOthers p) (h : ∀ m, (lieAt p' (mostOthers p) m).isSome = (lieAt p (mostOthers p) m).isSome) : manyM p' = manyM p := by
  have e := least_same (f := lieAt p' (mostOthers p)) (g := lieAt p (mostOthers p)) (fun m h i e => lieAt_len e) (fun m h i e => lieAt_len e) (List.range (2 * mostOthers p + 2)) fun m _ => h m
  have e1 : lie p' = (List.range (2 * mostOthers p + 2)).findSome? (lieAt p' (mostOthers p)) := by unfold lie; rw [hm]
  have e2 : lie p = (List.range (2 * mostOthers p + 2)).findSome? (lieAt p (mostOthers p)) := rfl
  rw [← e1, ← e2] at e
  unfold manyM
  cases h1 : lie p' with
  | none =>
    cases h2 : lie p with
    | none => rfl
    | some y => rw [h1, h2] at e; cases e
  | some x =>
    cases h2 : lie p with
    | none => rw [h1, h2] at e; cases e
    | some y =>
      rw [h1, h2] at e
      exact Option.some.inj e
theorem many_zero (p : Prog) : (manyM p = 0) ↔ isRight p = true := by
  unfold manyM isRight
  cases h : lie p with
  | none => exact ⟨fun _ => rfl, fun _ => rfl⟩
  | some x =>
    refine ⟨fun e => ?_, fun e => by cases e⟩
    obtain ⟨m, _, e1⟩ := fsome_val (show (List.range (2 * mostOthers p + 2)).findSome? (lieAt p (mostOthers p)) = some x from h)
    have hl := lieAt_len (h := x.1) (i := x.2) e1
    have e : x.1.length = 0 := e
    omega
theorem lieAt_some {p : Prog} {most many : Nat} : (lieAt p most many).isSome = true ↔ (many ≤ 2 * most ∧ (lieOfNew p many most).isSome = true) ∨ (0 < many ∧ (lieOfOld p (many - 1) most).isSome = true) := by
  unfold lieAt
  by_cases h1 : many ≤ 2 * most
  · rw [if_pos h1]
    cases hn : lieOfNew p many most with
    | some x => exact ⟨fun _ => .inl ⟨h1, rfl⟩, fun _ => rfl⟩
    | none =>
      show (if 0 < many then _ else _ : Option Lie).isSome = true ↔ _
      by_cases h2 : 0 < many
      · rw [if_pos h2]
        exact ⟨fun h => .inr ⟨h2, h⟩, fun h => h.elim (fun z => (by cases z.2)) fun z => z.2⟩
      · rw [if_neg h2]
        exact ⟨fun h => (by cases h), fun h => h.elim (fun z => (by cases z.2)) fun z => absurd z.1 h2⟩
  · rw [if_neg h1]
    show (if 0 < many then _ else _ : Option Lie).isSome = true ↔ _
    by_cases h2 : 0 < many
    · rw [if_pos h2]
      exact ⟨fun h => .inr ⟨h2, h⟩, fun h => h.elim (fun z => absurd z.1 h1) fun z => z.2⟩
    · rw [if_neg h2]
      exact ⟨fun h => (by cases h), fun h => h.elim (fun z => absurd z.1 h1) fun z => absurd z.1 h2⟩
theorem new_some {p : Prog} {many most : Nat} : (lieOfNew p many most).isSome = true ↔ ∃ c ∈ crowds many most, ∃ nw ∈ allThings, (firstLie p p.new c (c ++ [nw]) none (some nw)).isSome = true := by
  unfold lieOfNew
  refine fsome_iff.trans ⟨fun ⟨c, hc, h⟩ => ?_, fun ⟨c, hc, nw, hn, h⟩ => ⟨c, hc, fsome_iff.mpr ⟨nw, hn, ?_⟩⟩⟩
  · obtain ⟨nw, hn, h⟩ := fsome_iff.mp h
    exact ⟨c, hc, nw, hn, by rw [Option.isSome_map] at h; exact h⟩
  · rw [Option.isSome_map]
    exact h
theorem old_some {p : Prog} {many most : Nat} : (lieOfOld p many most).isSome = true ↔ ∃ c ∈ crowds many most, ∃ el ∈ allThings, (firstLie p p.drop (c ++ [el]) c (some el) none).isSome = true ∨ ∃ nw ∈ allThings, (firstLie p p.change (c ++ [el]) (c ++ [nw]) (some el) (some nw)).isSome = true := by
  unfold lieOfOld
  refine fsome_iff.trans ⟨fun ⟨c, hc, h⟩ => ?_, fun ⟨c, hc, el, he, h⟩ => ⟨c, hc, fsome_iff.mpr ⟨el, he, ?_⟩⟩⟩
  · obtain ⟨el, he, h⟩ := fsome_iff.mp h
    refine ⟨c, hc, el, he, ?_⟩
    cases hd : firstLie p p.drop (c ++ [el]) c (some el) none with
    | some j => exact .inl rfl
    | none =>
      rw [hd] at h
      obtain ⟨nw, hn, h⟩ := fsome_iff.mp h
      exact .inr ⟨nw, hn, by rw [Option.isSome_map] at h; exact h⟩
  · cases hd : firstLie p p.drop (c ++ [el]) c (some el) none with
    | some j => rfl
    | none =>
      rw [hd] at h
      rcases h with h | ⟨nw, hn, h⟩
      · cases h
      · exact fsome_iff.mpr ⟨nw, hn, by rw [Option.isSome_map]; exact h⟩
theorem fl_some {p : Prog} {ss : List Step} {before after : List Thing} {el nw : Option Thing} : (firstLie p ss before after el nw).isSome = true ↔ ∃ i, i < p.keeps.length ∧ at_ (run ⟨p.keeps, after, el, nw⟩ ss (trueValues p.keeps before)) i ≠ at_ (trueValues p.keeps after) i := by
  unfold firstLie
  rw [List.find?_isSome]
  refine ⟨fun ⟨i, hi, h⟩ => ⟨i, List.mem_range.mp hi, ?_⟩, fun ⟨i, hi, h⟩ => ⟨i, List.mem_range.mpr hi, ?_⟩⟩
  · simp at h
    exact h
  · simp
    exact h
/-! ### again for each keep, last -/
def agains (n : Nat) : List Step := (List.range n).map fun k => ⟨none, .again k⟩
theorem run_append {d : DeedS} {a b : List Step} {am : List V} : run d (a ++ b) am = run d b (run d a am) := by
  unfold run
  rw [List.foldl_append]
theorem run_agains {d : DeedS} {am : List V} : ∀ n, n ≤ am.length → ∀ i, i < n → at_ (run d (agains n) am) i = trueValue (d.keep i) d.around ∧ (run d (agains n) am).length = am.length
  | 0, _, i, hi => absurd hi (Nat.not_lt_zero i)
  | n + 1, hn, i, hi => by
    have e : run d (agains (n + 1)) am = (run d (agains n) am).set n (trueValue (d.keep n) d.around) := by
      unfold agains
      rw [List.range_succ, List.map_append, run_append]
      rfl
    have hl : (run d (agains n) am).length = am.length := by
      by_cases h0 : n = 0
      · subst h0; rfl
      · exact (run_agains n (by omega) 0 (by omega)).2
    rw [e]
    refine ⟨?_, by rw [List.length_set, hl]⟩
    by_cases hin : i = n
    · subst hin
      exact at_some (List.getElem?_set_self (by omega))
    · have ih := (run_agains (d := d) (am := am) n (by omega) i (by omega)).1
      unfold at_ at ih ⊢
      rw [List.getD_eq_getElem?_getD] at ih ⊢
      rw [List.getElem?_set_ne (by omega)]
      exact ih
end Kc

namespace Kc
open PySem L2 Dl
/-! ### kinds exchanged -/
def turnT : Test → Test
  | .elder c => .elder (1 - c)
  | .newer c => .newer (1 - c)
  | t => t
def turnS (s : Step) : Step := ⟨s.test.map turnT, s.touch⟩
def turnK (k : Keep) : Keep := ⟨k.what, k.kind.map fun c => 1 - c⟩
def turnP (p : Prog) : Prog := ⟨p.keeps.map turnK, p.new.map turnS, p.change.map turnS, p.drop.map turnS⟩
def tau (t : Thing) : Thing := (1 - t.1, t.2)
theorem one_sub (c : Int) : 1 - (1 - c) = c := by omega
theorem turnT_turnT (t : Test) : turnT (turnT t) = t := by
  cases t with
  | elder c => show Test.elder (1 - (1 - c)) = _; rw [one_sub]
  | newer c => show Test.newer (1 - (1 - c)) = _; rw [one_sub]
  | moved => rfl
  | none k => rfl
  | top k => rfl
theorem turnS_turnS (s : Step) : turnS (turnS s) = s := by
  obtain ⟨te, tc⟩ := s
  cases te with
  | none => rfl
  | some t => show (⟨some (turnT (turnT t)), tc⟩ : Step) = _; rw [turnT_turnT]
theorem turnK_turnK (k : Keep) : turnK (turnK k) = k := by
  obtain ⟨w, k⟩ := k
  cases k with
  | none => rfl
  | some c => show (⟨w, some (1 - (1 - c))⟩ : Keep) = _; rw [one_sub]
theorem map_map_id {α : Type} {f : α → α} (h : ∀ x, f (f x) = x) (l : List α) : (l.map f).map f = l := by
  rw [List.map_map]
  have e : f ∘ f = id := funext h
  rw [e, List.map_id]
theorem turnP_turnP (p : Prog) : turnP (turnP p) = p := by
  obtain ⟨k, a, b, c⟩ := p
  show (⟨(k.map turnK).map turnK, (a.map turnS).map turnS, (b.map turnS).map turnS, (c.map turnS).map turnS⟩ : Prog) = _
  rw [map_map_id turnK_turnK, map_map_id turnS_turnS, map_map_id turnS_turnS, map_map_id turnS_turnS]
theorem numbers_turn (k : Keep) (ts : List Thing) : numbersOf (turnK k) (ts.map tau) = numbersOf k ts := by
  obtain ⟨w, kk⟩ := k
  induction ts with
  | nil => rfl
  | cons t ts ih =>
    have e1 : ∀ (k : Keep) (t : Thing) (ts : List Thing), numbersOf k (t :: ts) = numbersOf k [t] ++ numbersOf k ts := by
      intro k t ts
      unfold numbersOf
      rw [show t :: ts = [t] ++ ts from rfl, List.filter_append, List.map_append]
    rw [List.map_cons, e1, e1 _ t ts, ih]
    congr 1
    have hin : inKind (turnK ⟨w, kk⟩).kind (tau t) = inKind kk t := by
      cases kk with
      | none => rfl
      | some c =>
        show decide (1 - t.1 = 1 - c) = decide (t.1 = c)
        by_cases h : t.1 = c
        · rw [decide_eq_true h, decide_eq_true (by omega)]
        · rw [decide_eq_false h, decide_eq_false (by omega)]
    cases h : inKind kk t with
    | true =>
      rw [h] at hin
      rw [numbersOf_in (kw := w) h]
      exact numbersOf_in (kw := w) (kk := (turnK ⟨w, kk⟩).kind) hin
    | false =>
      rw [h] at hin
      rw [numbersOf_out (kw := w) h]
      exact numbersOf_out (kw := w) (kk := (turnK ⟨w, kk⟩).kind) hin
theorem numbers_perm {k : Keep} {ts us : List Thing} (h : ts.Perm us) : (numbersOf k ts).Perm (numbersOf k us) := by
  unfold numbersOf
  exact (h.filter _).map _
theorem sum_perm {l m : List Int} (h : l.Perm m) : l.sum = m.sum := by
  induction h with
  | nil => rfl
  | cons x _ ih => rw [List.sum_cons, List.sum_cons, ih]
  | swap x y l => rw [List.sum_cons, List.sum_cons, List.sum_cons, List.sum_cons]; omega
  | trans _ _ a b => rw [a, b]
theorem maxV_perm {l m : List Int} (h : l.Perm m) : maxV l = maxV m := by
  cases l with
  | nil => rw [List.nil_perm.mp h]
  | cons x xs =>
    cases m with
    | nil => exact absurd h.length_eq (by simp)
    | cons y ys =>
      show V.int (xs.foldl max x) = V.int (ys.foldl max y)
      rw [maxV_eq (h.mem_iff.mpr (foldl_max_mem ys y)) fun z hz => foldl_max_le ys y z (h.mem_iff.mp hz)]
theorem true_perm {k : Keep} {ts us : List Thing} (h : ts.Perm us) : trueValue k ts = trueValue k us := by
  have hp := numbers_perm (k := k) h
  unfold trueValue
  cases k.what with
  | count => show V.int _ = V.int _; rw [hp.length_eq]
  | sum => show V.int _ = V.int _; rw [sum_perm hp]
  | any => show V.bl _ = V.bl _; rw [hp.length_eq]
  | most => exact maxV_perm hp
theorem true_turn {k : Keep} {ts us : List Thing} (h : us.Perm (ts.map tau)) : trueValue (turnK k) us = trueValue k ts := by
  rw [true_perm h]
  unfold trueValue
  rw [numbers_turn]
  rfl
theorem trues_turn {ks : List Keep} {ts us : List Thing} (h : us.Perm (ts.map tau)) : trueValues (ks.map turnK) us = trueValues ks ts := by
  unfold trueValues
  rw [List.map_map]
  exact List.map_congr_left fun k _ => true_turn h
structure TurnD (d d' : DeedS) : Prop where
  keeps : d'.keeps = d.keeps.map turnK
  around : d'.around.Perm (d.around.map tau)
  elder : d'.elder = d.elder.map tau
  newer : d'.newer = d.newer.map tau
theorem turn_keep {d d' : DeedS} (h : TurnD d d') (k : Nat) : d'.keep k = turnK (d.keep k) := by
  unfold DeedS.keep
  rw [h.keeps, List.getD_eq_getElem?_getD, List.getD_eq_getElem?_getD, List.getElem?_map]
  cases d.keeps[k]? <;> rfl
theorem turn_el2 {d d' : DeedS} (h : TurnD d d') : d'.el.2 = d.el.2 := by
  unfold DeedS.el
  rw [h.elder]
  cases d.elder <;> rfl
theorem turn_nw2 {d d' : DeedS} (h : TurnD d d') : d'.nw.2 = d.nw.2 := by
  unfold DeedS.nw
  rw [h.newer]
  cases d.newer <;> rfl
theorem turn_el1 {d d' : DeedS} (h : TurnD d d') {t : Thing} (e : d.elder = some t) : d'.el.1 = 1 - d.el.1 := by
  unfold DeedS.el
  rw [h.elder, e]
  rfl
theorem turn_nw1 {d d' : DeedS} (h : TurnD d d') {t : Thing} (e : d.newer = some t) : d'.nw.1 = 1 - d.nw.1 := by
  unfold DeedS.nw
  rw [h.newer, e]
  rfl
theorem turn_amt {d d' : DeedS} (h : TurnD d d') (s : Src) : amt d' s = amt d s := by
  cases s with
  | one => rfl
  | elder => exact turn_el2 h
  | newer => exact turn_nw2 h
theorem turn_touch {d d' : DeedS} (h : TurnD d d') (am : List V) (t : Touch) : touch d' am t = touch d am t := by
  cases t with
  | add k s => show am.set k _ = am.set k _; rw [turn_amt h]
  | less k s => show am.set k _ = am.set k _; rw [turn_amt h]
  | lift k => show am.set k _ = am.set k _; rw [turn_nw2 h]
  | mark k => rfl
  | empty k => show am.set k _ = am.set k _; rw [turn_keep h]; rfl
  | again k => show am.set k _ = am.set k _; rw [turn_keep h, true_turn h.around]
theorem dec_sub {a c : Int} : decide (1 - a = 1 - c) = decide (a = c) := by
  by_cases h : a = c
  · rw [decide_eq_true h, decide_eq_true (by omega)]
  · rw [decide_eq_false h, decide_eq_false (by omega)]
theorem turn_holds {n : Pn} {ks : List Keep} {d d' : DeedS} (h : TurnD d d') (hd : DeedOk n d) (am : List V) {t : Test} (ht : TestOk n ks t) : holds d' am (turnT t) = holds d am t := by
  cases t with
  | elder c =>
    obtain ⟨z, e⟩ := hd.el ht.1
    show decide (d'.el.1 = 1 - c) = decide (d.el.1 = c)
    rw [turn_el1 h e, dec_sub]
  | newer c =>
    obtain ⟨z, e⟩ := hd.nw ht.1
    show decide (d'.nw.1 = 1 - c) = decide (d.nw.1 = c)
    rw [turn_nw1 h e, dec_sub]
  | moved =>
    have hn : n = .change := ht
    obtain ⟨z, e⟩ := hd.el (by rw [hn]; decide)
    obtain ⟨y, e2⟩ := hd.nw (by rw [hn]; decide)
    show (!decide (d'.el.1 = d'.nw.1)) = !decide (d.el.1 = d.nw.1)
    rw [turn_el1 h e, turn_nw1 h e2, dec_sub]
  | none k => rfl
  | top k =>
    show decide (at_ am k = .int d'.el.2) = decide (at_ am k = .int d.el.2)
    rw [turn_el2 h]
theorem turn_run {n : Pn} {ks : List Keep} {d d' : DeedS} (h : TurnD d d') (hd : DeedOk n d) : ∀ {ss : List Step} {am : List V}, (∀ s ∈ ss, StepOk n ks s) → run d' (ss.map turnS) am = run d ss am
  | [], _, _ => rfl
  | s :: ss, am, hs => by
    have e : runStep d' am (turnS s) = runStep d am s := by
      obtain ⟨te, tc⟩ := s
      cases te with
      | none => exact turn_touch h am tc
      | some t =>
        show (if holds d' am (turnT t) = true then touch d' am tc else am) = if holds d am t = true then touch d am tc else am
        rw [turn_holds h hd am ((hs _ List.mem_cons_self).2 t rfl), turn_touch h]
    show run d' (ss.map turnS) (runStep d' am (turnS s)) = run d ss (runStep d am s)
    rw [e]
    exact turn_run h hd fun x hx => hs x (List.mem_cons_of_mem _ hx)
theorem turn_fl {n : Pn} {p : Prog} {ss : List Step} {b a b' a' : List Thing} {el nw : Option Thing} (hd : DeedOk n ⟨p.keeps, a, el, nw⟩) (hs : ∀ s ∈ ss, StepOk n p.keeps s) (hb : b'.Perm (b.map tau)) (ha : a'.Perm (a.map tau)) :
    firstLie (turnP p) (ss.map turnS) b' a' (el.map tau) (nw.map tau) = firstLie p ss b a el nw := by
  have h : TurnD ⟨p.keeps, a, el, nw⟩ ⟨p.keeps.map turnK, a', el.map tau, nw.map tau⟩ := ⟨rfl, ha, rfl, rfl⟩
  unfold firstLie
  show (List.range (p.keeps.map turnK).length).find? _ = _
  rw [List.length_map]
  congr 1
  funext i
  show (!decide (at_ (run ⟨p.keeps.map turnK, a', el.map tau, nw.map tau⟩ (ss.map turnS) (trueValues (p.keeps.map turnK) b')) i = at_ (trueValues (p.keeps.map turnK) a') i)) = _
  rw [trues_turn hb, trues_turn ha, turn_run h hd hs]
theorem rows_turn {k : Int} {n : Nat} {r : List Thing} (h : r ∈ rowsOf k n) : r.map tau ∈ rowsOf (1 - k) n := by
  unfold rowsOf at h ⊢
  split at h
  · rename_i e
    rw [if_pos e, List.mem_singleton.mp h]
    exact List.mem_cons_self
  · rename_i e
    rw [if_neg e]
    obtain ⟨m, hm, rfl⟩ := List.mem_map.mp h
    refine List.mem_map.mpr ⟨m, hm, ?_⟩
    rw [List.map_replicate]
    rfl
theorem crowd_turn {many most : Nat} {c : List Thing} (h : c ∈ crowds many most) : ∃ c' ∈ crowds many most, c'.Perm (c.map tau) := by
  unfold crowds at h ⊢
  obtain ⟨i, hi, h⟩ := List.mem_flatMap.mp h
  have hi := List.mem_range.mp hi
  obtain ⟨r, hr, h⟩ := List.mem_flatMap.mp h
  obtain ⟨o, ho, rfl⟩ := List.mem_map.mp h
  have hr' := rows_turn hr
  have ho' := rows_turn ho
  refine ⟨o.map tau ++ r.map tau, List.mem_flatMap.mpr ⟨many - (many - most + i) - (many - most), List.mem_range.mpr (by omega), ?_⟩, by rw [List.map_append]; exact List.perm_append_comm⟩
  have e1 : many - most + (many - (many - most + i) - (many - most)) = many - (many - most + i) := by omega
  have e2 : many - (many - (many - most + i)) = many - most + i := by omega
  unfold crowdsAt
  rw [e1, e2]
  exact List.mem_flatMap.mpr ⟨o.map tau, ho', List.mem_map.mpr ⟨r.map tau, hr', rfl⟩⟩
theorem things_turn : ∀ t ∈ allThings, tau t ∈ allThings := by decide
theorem perm_snoc {c c' : List Thing} {t : Thing} (h : c'.Perm (c.map tau)) : (c' ++ [tau t]).Perm ((c ++ [t]).map tau) := by
  rw [List.map_append]
  exact h.append_right _
theorem deedN_ok {p : Prog} (h3 : p.keeps.length ≤ 3) (a : List Thing) (t : Thing) : DeedOk .new ⟨p.keeps, a, none, some t⟩ := ⟨h3, fun h => absurd rfl h, fun _ => ⟨_, rfl⟩⟩
theorem deedD_ok {p : Prog} (h3 : p.keeps.length ≤ 3) (a : List Thing) (t : Thing) : DeedOk .drop ⟨p.keeps, a, some t, none⟩ := ⟨h3, fun _ => ⟨_, rfl⟩, fun h => absurd rfl h⟩
theorem deedC_ok {p : Prog} (h3 : p.keeps.length ≤ 3) (a : List Thing) (t u : Thing) : DeedOk .change ⟨p.keeps, a, some t, some u⟩ := ⟨h3, fun _ => ⟨_, rfl⟩, fun _ => ⟨_, rfl⟩⟩
theorem lieAt_turn {p : Prog} (hv : Valid p) {most m : Nat} (h : (lieAt p most m).isSome = true) : (lieAt (turnP p) most m).isSome = true := by
  rcases lieAt_some.mp h with ⟨h1, h2⟩ | ⟨h1, h2⟩
  · refine lieAt_some.mpr (.inl ⟨h1, ?_⟩)
    obtain ⟨c, hc, nw, hn, h2⟩ := new_some.mp h2
    obtain ⟨c', hc', hp⟩ := crowd_turn hc
    refine new_some.mpr ⟨c', hc', tau nw, things_turn nw hn, ?_⟩
    have e := turn_fl (p := p) (ss := p.new) (b := c) (a := c ++ [nw]) (el := none) (nw := some nw) (deedN_ok hv.k3 _ _) (hv.st .new) hp (perm_snoc hp)
    show (firstLie (turnP p) (p.new.map turnS) c' (c' ++ [tau nw]) none (some (tau nw))).isSome = true
    rw [show (none : Option Thing) = (none : Option Thing).map tau from rfl, show some (tau nw) = (some nw).map tau from rfl, e]
    exact h2
  · refine lieAt_some.mpr (.inr ⟨h1, ?_⟩)
    obtain ⟨c, hc, el, he, h2⟩ := old_some.mp h2
    obtain ⟨c', hc', hp⟩ := crowd_turn hc
    refine old_some.mpr ⟨c', hc', tau el, things_turn el he, ?_⟩
    rcases h2 with h2 | ⟨nw, hn, h2⟩
    · have e := turn_fl (p := p) (ss := p.drop) (b := c ++ [el]) (a := c) (el := some el) (nw := none) (deedD_ok hv.k3 _ _) (hv.st .drop) (perm_snoc hp) hp
      refine .inl ?_
      show (firstLie (turnP p) (p.drop.map turnS) (c' ++ [tau el]) c' (some (tau el)) none).isSome = true
      rw [show (none : Option Thing) = (none : Option Thing).map tau from rfl, show some (tau el) = (some el).map tau from rfl, e]
      exact h2
    · have e := turn_fl (p := p) (ss := p.change) (b := c ++ [el]) (a := c ++ [nw]) (el := some el) (nw := some nw) (deedC_ok hv.k3 _ _ _) (hv.st .change) (perm_snoc hp) (perm_snoc hp)
      refine .inr ⟨tau nw, things_turn nw hn, ?_⟩
      show (firstLie (turnP p) (p.change.map turnS) (c' ++ [tau el]) (c' ++ [tau nw]) (some (tau el)) (some (tau nw))).isSome = true
      rw [show some (tau nw) = (some nw).map tau from rfl, show some (tau el) = (some el).map tau from rfl, e]
      exact h2
theorem stepOk_turn {n : Pn} {ks : List Keep} {s : Step} (h : StepOk n ks s) : StepOk n (ks.map turnK) (turnS s) := by
  obtain ⟨te, tc⟩ := s
  obtain ⟨h1, h2⟩ := h
  have get : ∀ {k : Nat} {kp : Keep}, ks[k]? = some kp → (ks.map turnK)[k]? = some (turnK kp) := fun {k kp} e => by rw [List.getElem?_map, e]; rfl
  refine ⟨?_, fun t ht => ?_⟩
  · show TouchOk n (ks.map turnK) tc
    cases tc with
    | add k s => obtain ⟨a, kp, b, c⟩ := h1; exact ⟨a, _, get b, c⟩
    | less k s => obtain ⟨a, kp, b, c⟩ := h1; exact ⟨a, _, get b, c⟩
    | lift k => obtain ⟨a, kp, b, c⟩ := h1; exact ⟨a, _, get b, c⟩
    | mark k => obtain ⟨kp, b, c⟩ := h1; exact ⟨_, get b, c⟩
    | empty k => obtain ⟨kp, b⟩ := h1; exact ⟨_, get b⟩
    | again k => obtain ⟨kp, b⟩ := h1; exact ⟨_, get b⟩
  · obtain ⟨t0, e0, e1⟩ := Option.map_eq_some_iff.mp (show te.map turnT = some t from ht)
    subst e1
    have h2 := h2 t0 e0
    cases t0 with
    | elder c => exact ⟨h2.1, by have := h2.2; omega⟩
    | newer c => exact ⟨h2.1, by have := h2.2; omega⟩
    | moved => exact h2
    | none k => obtain ⟨kp, b, c⟩ := h2; exact ⟨_, get b, c⟩
    | top k => obtain ⟨a, kp, b, c⟩ := h2; exact ⟨a, _, get b, c⟩
theorem turn_steps (p : Prog) (n : Pn) : (turnP p).steps n = (p.steps n).map turnS := by cases n <;> rfl
theorem turn_valid {p : Prog} (h : Valid p) : Valid (turnP p) where
  k1 := by show 1 ≤ (p.keeps.map turnK).length; rw [List.length_map]; exact h.k1
  k3 := by show (p.keeps.map turnK).length ≤ 3; rw [List.length_map]; exact h.k3
  ok := by
    intro k hk
    obtain ⟨k0, h0, rfl⟩ := List.mem_map.mp (show k ∈ p.keeps.map turnK from hk)
    obtain ⟨w, kk⟩ := k0
    rcases h.ok _ h0 with e | e | e
    · have e : kk = none := e
      subst e
      exact .inl rfl
    · have e : kk = some 0 := e
      subst e
      exact .inr (.inr rfl)
    · have e : kk = some 1 := e
      subst e
      exact .inr (.inl rfl)
  len := by intro n; rw [turn_steps, List.length_map]; exact h.len n
  st := by
    intro n s hs
    rw [turn_steps] at hs
    obtain ⟨s0, h0, rfl⟩ := List.mem_map.mp hs
    exact stepOk_turn (h.st n s0 h0)
theorem turn_asks (p : Prog) : asksNone (turnP p) = asksNone p := by
  unfold asksNone
  show (p.new.map turnS ++ p.change.map turnS ++ p.drop.map turnS).any Step.asksNone = _
  rw [← List.map_append, ← List.map_append, List.any_map]
  congr 1
  funext s
  obtain ⟨te, tc⟩ := s
  cases te with
  | none => rfl
  | some t => cases t <;> rfl
theorem turn_most (p : Prog) : mostOthers (turnP p) = mostOthers p := by
  unfold mostOthers
  rw [turn_asks]
  show (if _ then max 2 (max (p.new.map turnS).length (max (p.change.map turnS).length (p.drop.map turnS).length)) else 2) = _
  rw [List.length_map, List.length_map, List.length_map]
theorem many_turn {p : Prog} (hv : Valid p) : manyM (turnP p) = manyM p := by
  refine many_same (turn_most p) fun m => ?_
  have h1 : (lieAt p (mostOthers p) m).isSome = true → (lieAt (turnP p) (mostOthers p) m).isSome = true := lieAt_turn hv
  have h2 : (lieAt (turnP p) (mostOthers p) m).isSome = true → (lieAt p (mostOthers p) m).isSome = true := fun h => by
    have := lieAt_turn (turn_valid hv) h
    rw [turnP_turnP] at this
    exact this
  exact Bool.eq_iff_iff.mpr ⟨h2, h1⟩
end Kc

/-! Kept values as terms: what a procedure leaves, whatever the numbers are. -/
namespace Kc
open PySem L2 Dl
inductive Sy where
  | cnt (b : Bool) (o : Int)
  | sum (b : Bool) (a e w : Int)
  | mst (o e w : Bool)
  | any (o c : Bool)
  deriving DecidableEq
structure Cf where
  ts : List Thing
  ek : Option Int
  wk : Option Int
  E : Int
  W : Int
def Cf.el (c : Cf) : Option Thing := c.ek.map fun k => (k, c.E)
def Cf.nw (c : Cf) : Option Thing := c.wk.map fun k => (k, c.W)
def Cf.before (c : Cf) : List Thing := c.ts ++ c.el.toList
def Cf.after (c : Cf) : List Thing := c.ts ++ c.nw.toList
def inO (kk : Option Int) : Option Int → Bool
  | none => false
  | some c => match kk with
    | none => true
    | some z => decide (c = z)
def val (k : Keep) (c : Cf) : Sy → V
  | .cnt b o => .int ((if b = true then ((numbersOf k c.ts).length : Int) else 0) + o)
  | .sum b a e w => .int ((if b = true then (numbersOf k c.ts).sum else 0) + (a + e * c.E + w * c.W))
  | .mst o e w => maxV ((if o = true then numbersOf k c.ts else []) ++ ((if e = true then [c.E] else []) ++ (if w = true then [c.W] else [])))
  | .any o d => .bl ((o && decide (0 < (numbersOf k c.ts).length)) || d)
def iniS (x : What) (b : Bool) : Sy := match x with
  | .count => .cnt true (if b = true then 1 else 0)
  | .sum => .sum true 0 (if b = true then 1 else 0) 0
  | .most => .mst true b false
  | .any => .any true b
def aftS (x : What) (b : Bool) : Sy := match x with
  | .count => .cnt true (if b = true then 1 else 0)
  | .sum => .sum true 0 0 (if b = true then 1 else 0)
  | .most => .mst true false b
  | .any => .any true b
def SyT : What → Sy → Prop
  | .count, s => ∃ b o, s = .cnt b o
  | .sum, s => ∃ b a e w, s = .sum b a e w
  | .most, s => ∃ o e w, s = .mst o e w
  | .any, s => ∃ o c, s = .any o c
theorem syT_ini (x : What) (b : Bool) : SyT x (iniS x b) := by
  cases x <;> (simp only [SyT, iniS]; try exact ⟨_, _, rfl⟩)
  · exact ⟨_, _, _, _, rfl⟩
  · exact ⟨_, _, _, rfl⟩
theorem syT_aft (x : What) (b : Bool) : SyT x (aftS x b) := by
  cases x <;> (simp only [SyT, aftS]; try exact ⟨_, _, rfl⟩)
  · exact ⟨_, _, _, _, rfl⟩
  · exact ⟨_, _, _, rfl⟩
theorem numbers_opt (k : Keep) (ts : List Thing) (kk : Option Int) (N : Int) : numbersOf k (ts ++ (kk.map fun z => ((z, N) : Thing)).toList) = numbersOf k ts ++ if inO k.kind kk = true then [N] else [] := by
  obtain ⟨kw, kd⟩ := k
  cases kk with
  | none =>
    show numbersOf _ (ts ++ []) = _ ++ (if false = true then _ else _)
    rw [List.append_nil, if_neg Bool.false_ne_true, List.append_nil]
  | some z =>
    show numbersOf _ (ts ++ [((z, N) : Thing)]) = _
    rw [numbersOf_snoc]
    congr 1
    have e : inO kd (some z) = inKind kd (z, N) := by
      cases kd <;> rfl
    show _ = if inO kd (some z) = true then _ else _
    rw [e]
    cases h : inKind kd (z, N) with
    | true => rw [if_pos rfl]; exact numbersOf_in h
    | false => rw [if_neg Bool.false_ne_true]; exact numbersOf_out h
theorem maxV_nil_iff {l : List Int} : maxV l = .non ↔ l = [] := by
  cases l with
  | nil => exact ⟨fun _ => rfl, fun _ => rfl⟩
  | cons x xs => exact ⟨fun h => (by cases h), fun h => (by cases h)⟩
theorem maxV_int_iff {l : List Int} {m : Int} : maxV l = .int m ↔ m ∈ l ∧ ∀ x ∈ l, x ≤ m := by
  constructor
  · intro h
    cases l with
    | nil => cases h
    | cons x xs =>
      have e : xs.foldl max x = m := by injection h
      rw [← e]
      exact ⟨foldl_max_mem xs x, fun y hy => foldl_max_le xs x y hy⟩
  · rintro ⟨h1, h2⟩
    cases l with
    | nil => cases h1
    | cons x xs =>
      show V.int (xs.foldl max x) = V.int m
      rw [maxV_eq h1 h2]
theorem val_ini (k : Keep) (c : Cf) : trueValue k c.before = val k c (iniS k.what (inO k.kind c.ek)) := by
  have hn : numbersOf k c.before = numbersOf k c.ts ++ if inO k.kind c.ek = true then [c.E] else [] := numbers_opt k c.ts c.ek c.E
  unfold trueValue
  rw [hn]
  cases hk : k.what with
  | count =>
    show V.int _ = V.int _
    congr 1
    rw [List.length_append, if_pos rfl]
    split <;> simp
  | sum =>
    show V.int _ = V.int _
    congr 1
    rw [List.sum_append, if_pos rfl]
    split <;> simp
  | most =>
    show maxV _ = maxV _
    congr 1
    simp
  | any =>
    show V.bl _ = V.bl _
    congr 1
    cases inO k.kind c.ek <;> simp
theorem val_aft (k : Keep) (c : Cf) : trueValue k c.after = val k c (aftS k.what (inO k.kind c.wk)) := by
  have hn : numbersOf k c.after = numbersOf k c.ts ++ if inO k.kind c.wk = true then [c.W] else [] := numbers_opt k c.ts c.wk c.W
  unfold trueValue
  rw [hn]
  cases hk : k.what with
  | count =>
    show V.int _ = V.int _
    congr 1
    rw [List.length_append, if_pos rfl]
    split <;> simp
  | sum =>
    show V.int _ = V.int _
    congr 1
    rw [List.sum_append, if_pos rfl]
    split <;> simp
  | most =>
    show maxV (numbersOf k c.ts ++ _) = maxV (numbersOf k c.ts ++ ([] ++ _))
    rw [List.nil_append]
  | any =>
    show V.bl _ = V.bl _
    congr 1
    cases inO k.kind c.wk <;> simp
/-! ### steps on terms -/
def addS (z : Int) (s : Src) : Sy → Sy
  | .cnt b o => .cnt b (o + z)
  | .sum b a e w => match s with
    | .one => .sum b (a + z) e w
    | .elder => .sum b a (e + z) w
    | .newer => .sum b a e (w + z)
  | x => x
def liftS : Sy → Sy
  | .mst o e _ => .mst o e true
  | x => x
def markS : Sy → Sy
  | .any o _ => .any o true
  | x => x
def empS : Sy → Sy
  | .cnt .. => .cnt false 0
  | .sum .. => .sum false 0 0 0
  | .mst .. => .mst false false false
  | .any .. => .any false false
def updS (sy : Nat → Sy) (k : Nat) (f : Sy → Sy) : Nat → Sy := fun i => if i = k then f (sy i) else sy i
def touchS (ks : List Keep) (wk : Option Int) (sy : Nat → Sy) : Touch → Nat → Sy
  | .add k s => updS sy k (addS 1 s)
  | .less k s => updS sy k (addS (-1) s)
  | .lift k => updS sy k liftS
  | .mark k => updS sy k markS
  | .empty k => updS sy k empS
  | .again k => updS sy k fun _ => aftS (kAt ks k).what (inO (kAt ks k).kind wk)
def holdS (ks : List Keep) (c : Cf) (sy : Nat → Sy) : Test → Bool
  | .elder z => decide (c.ek = some z)
  | .newer z => decide (c.wk = some z)
  | .moved => !decide (c.ek = c.wk)
  | .none k => decide (val (kAt ks k) c (sy k) = .int 0)
  | .top k => decide (val (kAt ks k) c (sy k) = .int c.E)
def stepS (ks : List Keep) (c : Cf) (sy : Nat → Sy) (s : Step) : Nat → Sy := match s.test with
  | none => touchS ks c.wk sy s.touch
  | some t => if holdS ks c sy t = true then touchS ks c.wk sy s.touch else sy
def runS (ks : List Keep) (c : Cf) (ss : List Step) (sy : Nat → Sy) : Nat → Sy := ss.foldl (stepS ks c) sy
structure RelS (ks : List Keep) (c : Cf) (am : List V) (sy : Nat → Sy) : Prop where
  len : am.length = ks.length
  at_ : ∀ (i : Nat) k, ks[i]? = some k → am[i]? = some (val k c (sy i)) ∧ SyT k.what (sy i)
structure CfOk (n : Pn) (ks : List Keep) (d : DeedS) (c : Cf) : Prop where
  keeps : d.keeps = ks
  around : d.around.Perm c.after
  elder : d.elder = c.el
  newer : d.newer = c.nw
  hel : n ≠ .new → ∃ z, c.ek = some z
  hnw : n ≠ .drop → ∃ z, c.wk = some z
theorem RelS.set {ks : List Keep} {c : Cf} {am : List V} {sy : Nat → Sy} (h : RelS ks c am sy) {k : Nat} {kp : Keep} {v : V} {f : Sy → Sy} (hk : ks[k]? = some kp) (hv : v = val kp c (f (sy k))) (ht : SyT kp.what (f (sy k))) : RelS ks c (am.set k v) (updS sy k f) := by
  refine ⟨by rw [List.length_set]; exact h.len, fun i kq hi => ?_⟩
  by_cases e : k = i
  · subst e
    rw [hk] at hi
    cases hi
    rw [List.getElem?_set_self (by rw [h.len]; exact (List.getElem?_eq_some_iff.mp hk).1)]
    have e2 : updS sy k f k = f (sy k) := if_pos rfl
    rw [e2, hv]
    exact ⟨rfl, ht⟩
  · rw [List.getElem?_set_ne e]
    have e2 : updS sy k f i = sy i := if_neg fun z => e z.symm
    rw [e2]
    exact h.at_ i kq hi
theorem CfOk.el2 {n : Pn} {ks : List Keep} {d : DeedS} {c : Cf} (h : CfOk n ks d c) (hn : n ≠ .new) : d.el.2 = c.E ∧ c.ek = some d.el.1 := by
  obtain ⟨z, e⟩ := h.hel hn
  unfold DeedS.el
  rw [h.elder]
  unfold Cf.el
  rw [e]
  exact ⟨rfl, rfl⟩
theorem CfOk.nw2 {n : Pn} {ks : List Keep} {d : DeedS} {c : Cf} (h : CfOk n ks d c) (hn : n ≠ .drop) : d.nw.2 = c.W ∧ c.wk = some d.nw.1 := by
  obtain ⟨z, e⟩ := h.hnw hn
  unfold DeedS.nw
  rw [h.newer]
  unfold Cf.nw
  rw [e]
  exact ⟨rfl, rfl⟩
theorem maxV_lift (l : List Int) (w : Int) : liftV (maxV l) w = maxV (l ++ [w]) := by
  cases l with
  | nil => rfl
  | cons x xs =>
    show (if xs.foldl max x < w then V.int w else V.int (xs.foldl max x)) = V.int ((xs ++ [w]).foldl max x)
    rw [List.foldl_append]
    show _ = V.int (max (xs.foldl max x) w)
    split
    · rw [Int.max_eq_right (by omega)]
    · rw [Int.max_eq_left (by omega)]
theorem kAt_of {ks : List Keep} {k : Nat} {kp : Keep} (h : ks[k]? = some kp) : kAt ks k = kp := by
  unfold kAt
  rw [List.getD_eq_getElem?_getD, h] <;> rfl
def srcN (c : Cf) : Src → Int
  | .one => 1
  | .elder => c.E
  | .newer => c.W
theorem val_add {kp : Keep} {c : Cf} {s : Sy} {z : Int} {src : Src} {N : Int} (ht : SyT kp.what s) (hw : kp.what = .sum ∨ (kp.what = .count ∧ src = .one)) (hN : N = z * srcN c src) :
    addV (val kp c s) N = val kp c (addS z src s) ∧ SyT kp.what (addS z src s) := by
  subst hN
  rcases hw with hw | ⟨hw, hs⟩
  · rw [hw] at ht ⊢
    obtain ⟨b, a, e, w, rfl⟩ := ht
    cases src with
    | one => exact ⟨by show V.int _ = V.int _; congr 1; simp only [srcN, Int.mul_one]; omega, ⟨_, _, _, _, rfl⟩⟩
    | elder => exact ⟨by show V.int _ = V.int _; congr 1; simp only [srcN]; rw [Int.add_mul]; omega, ⟨_, _, _, _, rfl⟩⟩
    | newer => exact ⟨by show V.int _ = V.int _; congr 1; simp only [srcN]; rw [Int.add_mul]; omega, ⟨_, _, _, _, rfl⟩⟩
  · subst hs
    rw [hw] at ht ⊢
    obtain ⟨b, o, rfl⟩ := ht
    exact ⟨by show V.int _ = V.int _; congr 1; simp only [srcN, Int.mul_one]; omega, ⟨_, _, rfl⟩⟩
theorem sub_add (v : V) (n : Int) : subV v n = addV v (-n) := by
  cases v <;> rfl
theorem rel_touch {n : Pn} {ks : List Keep} {d : DeedS} {c : Cf} (h : CfOk n ks d c) {am : List V} {sy : Nat → Sy} (r : RelS ks c am sy) {t : Touch} (ht : TouchOk n ks t) : RelS ks c (touch d am t) (touchS ks c.wk sy t) := by
  have am_ : ∀ {k : Nat} {kp : Keep}, ks[k]? = some kp → at_ am k = val kp c (sy k) ∧ SyT kp.what (sy k) := fun {k kp} hk => by
    obtain ⟨h1, h2⟩ := r.at_ k kp hk
    exact ⟨at_some h1, h2⟩
  have dk : ∀ {k : Nat} {kp : Keep}, ks[k]? = some kp → d.keep k = kp := fun {k kp} hk => keep_at (by rw [h.keeps]; exact hk)
  have am1 : ∀ {s : Src}, SrcOk n s → amt d s = srcN c s := fun {s} hs => by
    cases s with
    | one => rfl
    | elder => exact (h.el2 (hs.1 rfl)).1
    | newer => exact (h.nw2 (hs.2 rfl)).1
  cases t with
  | add k s =>
    obtain ⟨hs, kp, hk, hw⟩ := ht
    obtain ⟨e1, e2⟩ := am_ hk
    obtain ⟨v1, v2⟩ := val_add (c := c) (z := 1) (src := s) (N := amt d s) e2 hw (by rw [am1 hs, Int.one_mul])
    exact r.set hk (by rw [e1, v1]) v2
  | less k s =>
    obtain ⟨hs, kp, hk, hw⟩ := ht
    obtain ⟨e1, e2⟩ := am_ hk
    obtain ⟨v1, v2⟩ := val_add (c := c) (z := -1) (src := s) (N := -amt d s) e2 hw (by rw [am1 hs, Int.neg_mul, Int.one_mul])
    exact r.set hk (by rw [e1, sub_add, v1]) v2
  | lift k =>
    obtain ⟨hn, kp, hk, hw⟩ := ht
    obtain ⟨e1, e2⟩ := am_ hk
    have hm : SyT .most (sy k) := by rw [← hw]; exact e2
    obtain ⟨o, e, w, hsy⟩ := hm
    refine r.set hk ?_ (by rw [hw, hsy]; exact ⟨_, _, _, rfl⟩)
    rw [e1, hsy, (h.nw2 hn).1]
    show liftV (maxV _) _ = maxV _
    rw [maxV_lift]
    cases w with
    | false => rw [if_neg Bool.false_ne_true, List.append_nil, if_pos rfl, List.append_assoc]
    | true =>
      rw [if_pos rfl]
      generalize hl : (if o = true then numbersOf kp c.ts else []) ++ ((if e = true then [c.E] else []) ++ [c.W]) = l
      have hin : c.W ∈ l := by rw [← hl]; exact List.mem_append_right _ (List.mem_append_right _ List.mem_cons_self)
      cases hv : maxV l with
      | int m =>
        obtain ⟨h1, h2⟩ := maxV_int_iff.mp hv
        refine maxV_int_iff.mpr ⟨List.mem_append_left _ h1, fun x hx => ?_⟩
        rcases List.mem_append.mp hx with hx | hx
        · exact h2 x hx
        · rw [List.mem_singleton.mp hx]; exact h2 _ hin
      | non => rw [maxV_nil_iff.mp hv] at hin; cases hin
      | _ => cases l <;> cases hv
  | mark k =>
    obtain ⟨kp, hk, hw⟩ := ht
    obtain ⟨e1, e2⟩ := am_ hk
    have hm : SyT .any (sy k) := by rw [← hw]; exact e2
    obtain ⟨o, d', hsy⟩ := hm
    refine r.set hk ?_ (by rw [hw, hsy]; exact ⟨_, _, rfl⟩)
    rw [hsy]
    show V.bl true = V.bl (_ || true)
    rw [Bool.or_true]
  | empty k =>
    obtain ⟨kp, hk⟩ := ht
    obtain ⟨e1, e2⟩ := am_ hk
    have key : nothing kp.what = val kp c (empS (sy k)) ∧ SyT kp.what (empS (sy k)) := by
      cases hw : kp.what with
      | count => rw [hw] at e2; obtain ⟨b, o, hsy⟩ := e2; rw [hsy]; exact ⟨rfl, ⟨_, _, rfl⟩⟩
      | sum =>
        rw [hw] at e2
        obtain ⟨b, a, e, w, hsy⟩ := e2
        rw [hsy]
        refine ⟨?_, ⟨_, _, _, _, rfl⟩⟩
        show V.int 0 = V.int (0 + (0 + 0 * c.E + 0 * c.W))
        rw [Int.zero_mul, Int.zero_mul]
        rfl
      | most => rw [hw] at e2; obtain ⟨o, e, w, hsy⟩ := e2; rw [hsy]; exact ⟨rfl, ⟨_, _, _, rfl⟩⟩
      | any => rw [hw] at e2; obtain ⟨o, d', hsy⟩ := e2; rw [hsy]; exact ⟨rfl, ⟨_, _, rfl⟩⟩
    exact r.set hk (by rw [dk hk]; exact key.1) key.2
  | again k =>
    obtain ⟨kp, hk⟩ := ht
    have ek := kAt_of hk
    refine r.set (f := fun _ => aftS (kAt ks k).what (inO (kAt ks k).kind c.wk)) hk ?_ ?_
    · rw [dk hk, ek, true_perm h.around]
      exact val_aft kp c
    · rw [ek]
      exact syT_aft _ _
theorem rel_hold {n : Pn} {ks : List Keep} {d : DeedS} {c : Cf} (h : CfOk n ks d c) {am : List V} {sy : Nat → Sy} (r : RelS ks c am sy) {t : Test} (ht : TestOk n ks t) : holds d am t = holdS ks c sy t := by
  have am_ : ∀ {k : Nat} {kp : Keep}, ks[k]? = some kp → at_ am k = val (kAt ks k) c (sy k) := fun {k kp} hk => by
    rw [kAt_of hk]
    exact at_some (r.at_ k kp hk).1
  have dec : ∀ {a b : Int}, decide (a = b) = decide (some a = some b) := fun {a b} => by
    by_cases e : a = b
    · rw [decide_eq_true e, decide_eq_true (by rw [e])]
    · rw [decide_eq_false e, decide_eq_false fun z => e (Option.some.inj z)]
  cases t with
  | elder z =>
    show decide (d.el.1 = z) = decide (c.ek = some z)
    rw [(h.el2 ht.1).2, dec]
  | newer z =>
    show decide (d.nw.1 = z) = decide (c.wk = some z)
    rw [(h.nw2 ht.1).2, dec]
  | moved =>
    have hn : n = .change := ht
    show (!decide (d.el.1 = d.nw.1)) = !decide (c.ek = c.wk)
    rw [(h.el2 (by rw [hn]; decide)).2, (h.nw2 (by rw [hn]; decide)).2, dec]
  | none k =>
    obtain ⟨kp, hk, _⟩ := ht
    show decide (at_ am k = .int 0) = decide (_ = V.int 0)
    rw [am_ hk]
  | top k =>
    obtain ⟨hn, kp, hk, _⟩ := ht
    show decide (at_ am k = .int d.el.2) = decide (_ = V.int c.E)
    rw [am_ hk, (h.el2 hn).1]
theorem rel_run {n : Pn} {ks : List Keep} {d : DeedS} {c : Cf} (h : CfOk n ks d c) : ∀ {ss : List Step} {am : List V} {sy : Nat → Sy}, RelS ks c am sy → (∀ s ∈ ss, StepOk n ks s) → RelS ks c (run d ss am) (runS ks c ss sy)
  | [], _, _, r, _ => r
  | s :: ss, am, sy, r, hs => by
    have e : RelS ks c (runStep d am s) (stepS ks c sy s) := by
      have ho := hs s List.mem_cons_self
      obtain ⟨te, tc⟩ := s
      cases te with
      | none => exact rel_touch h r ho.1
      | some t =>
        show RelS ks c (if holds d am t = true then touch d am tc else am) (if holdS ks c sy t = true then touchS ks c.wk sy tc else sy)
        rw [rel_hold h r (ho.2 t rfl)]
        split
        · exact rel_touch h r ho.1
        · exact r
    exact rel_run h (ss := ss) e fun x hx => hs x (List.mem_cons_of_mem _ hx)
def ini (ks : List Keep) (ek : Option Int) : Nat → Sy := fun i => iniS (kAt ks i).what (inO (kAt ks i).kind ek)
theorem rel_ini (ks : List Keep) (c : Cf) {b : List Thing} (hb : b.Perm c.before) : RelS ks c (trueValues ks b) (ini ks c.ek) := by
  refine ⟨by unfold trueValues; rw [List.length_map], fun i k hk => ?_⟩
  unfold trueValues ini
  rw [List.getElem?_map, hk, kAt_of hk, ← val_ini, ← true_perm hb]
  exact ⟨rfl, syT_ini _ _⟩
/-- all kept values are true behind the deed -/
def Fine (ks : List Keep) (c : Cf) (sy : Nat → Sy) : Prop := ∀ (i : Nat) k, ks[i]? = some k → val k c (sy i) = val k c (aftS k.what (inO k.kind c.wk))
theorem fine_iff {n : Pn} {ks : List Keep} {d : DeedS} {c : Cf} (h : CfOk n ks d c) {ss : List Step} (hs : ∀ s ∈ ss, StepOk n ks s) {b : List Thing} (hb : b.Perm c.before) :
    run d ss (trueValues ks b) = trueValues ks d.around ↔ Fine ks c (runS ks c ss (ini ks c.ek)) := by
  have r := rel_run h (rel_ini ks c hb) hs
  constructor
  · intro e i k hk
    have h1 := (r.at_ i k hk).1
    rw [e] at h1
    unfold trueValues at h1
    rw [List.getElem?_map, hk] at h1
    have h2 : trueValue k d.around = val k c (runS ks c ss (ini ks c.ek) i) := Option.some.inj h1
    rw [← h2, true_perm h.around]
    exact val_aft k c
  · intro e
    apply List.ext_getElem?
    intro i
    cases hk : ks[i]? with
    | none =>
      have hl := List.getElem?_eq_none_iff.mp hk
      rw [List.getElem?_eq_none (by rw [r.len]; exact hl), List.getElem?_eq_none (by unfold trueValues; rw [List.length_map]; exact hl)]
    | some k =>
      rw [(r.at_ i k hk).1, e i k hk]
      unfold trueValues
      rw [List.getElem?_map, hk, ← val_aft k c, ← true_perm h.around] <;> rfl
end Kc

/-! The same way through a procedure beside other things; bounds of what is added. -/
namespace Kc
open PySem L2 Dl
/-! ### how little a count can be -/
def lowS (L : Nat) (sy : Nat → Sy) : Prop := ∀ k b o, sy k = .cnt b o → -(L : Int) ≤ o
theorem low_touch {ks : List Keep} {wk : Option Int} {sy : Nat → Sy} {L : Nat} (h : lowS L sy) (t : Touch) : lowS (L + 1) (touchS ks wk sy t) := by
  have gen : ∀ (k : Nat) (f : Sy → Sy), (∀ s b o, f s = .cnt b o → (∃ b' o', s = .cnt b' o' ∧ o' ≤ o + 1) ∨ 0 ≤ o) → lowS (L + 1) (updS sy k f) := by
    intro k f hf i b o e
    unfold updS at e
    split at e
    · rcases hf _ _ _ e with ⟨b', o', e', hh⟩ | hh
      · have := h _ _ _ e'
        omega
      · omega
    · have := h _ _ _ e
      omega
  cases t with
  | add k s =>
    refine gen k _ fun s' b o e => ?_
    cases s' with
    | cnt b' o' =>
      injection e with e1 e2
      exact .inl ⟨_, _, rfl, by omega⟩
    | sum b' a' e' w' => cases s <;> cases e
    | mst _ _ _ => cases e
    | any _ _ => cases e
  | less k s =>
    refine gen k _ fun s' b o e => ?_
    cases s' with
    | cnt b' o' =>
      injection e with e1 e2
      exact .inl ⟨_, _, rfl, by omega⟩
    | sum b' a' e' w' => cases s <;> cases e
    | mst _ _ _ => cases e
    | any _ _ => cases e
  | lift k =>
    refine gen k _ fun s' b o e => ?_
    cases s' with
    | cnt b' o' => cases e; exact .inl ⟨_, _, rfl, by omega⟩
    | sum _ _ _ _ => cases e
    | mst _ _ _ => cases e
    | any _ _ => cases e
  | mark k =>
    refine gen k _ fun s' b o e => ?_
    cases s' with
    | cnt b' o' => cases e; exact .inl ⟨_, _, rfl, by omega⟩
    | sum _ _ _ _ => cases e
    | mst _ _ _ => cases e
    | any _ _ => cases e
  | empty k =>
    refine gen k _ fun s' b o e => ?_
    cases s' with
    | cnt b' o' => cases e; exact .inr (by omega)
    | sum _ _ _ _ => cases e
    | mst _ _ _ => cases e
    | any _ _ => cases e
  | again k =>
    refine gen k (fun _ => aftS (kAt ks k).what (inO (kAt ks k).kind wk)) fun s' b o e => ?_
    have e : aftS (kAt ks k).what _ = Sy.cnt b o := e
    cases hw : (kAt ks k).what <;> rw [hw] at e <;> cases e
    exact .inr (by split <;> omega)
theorem low_step {ks : List Keep} {c : Cf} {sy : Nat → Sy} {L : Nat} (h : lowS L sy) (s : Step) : lowS (L + 1) (stepS ks c sy s) := by
  have h' : lowS (L + 1) sy := fun k b o e => by have := h k b o e; omega
  obtain ⟨te, tc⟩ := s
  cases te with
  | none => exact low_touch h tc
  | some t =>
    show lowS (L + 1) (if holdS ks c sy t = true then touchS ks c.wk sy tc else sy)
    split
    · exact low_touch h tc
    · exact h'
theorem low_ini (ks : List Keep) (ek : Option Int) : lowS 0 (ini ks ek) := by
  intro k b o e
  have e : iniS (kAt ks k).what _ = Sy.cnt b o := e
  cases hw : (kAt ks k).what <;> rw [hw] at e <;> cases e
  split <;> omega
/-! ### two places alike -/
structure Alike (ks : List Keep) (most : Nat) (c c' : Cf) : Prop where
  ek : c'.ek = c.ek
  wk : c'.wk = c.wk
  /-- how many there are -/
  many : ∀ k ∈ ks, (numbersOf k c'.ts).length = (numbersOf k c.ts).length ∨ (most ≤ (numbersOf k c'.ts).length ∧ most ≤ (numbersOf k c.ts).length)
  /-- is the greatest one the elder's number -/
  top : c.ek ≠ none → ∀ k ∈ ks, ∀ o e w, decide (val k c' (.mst o e w) = .int c'.E) = decide (val k c (.mst o e w) = .int c.E)
theorem hold_same {n : Pn} {ks : List Keep} {most L : Nat} {c c' : Cf} (h : Alike ks most c c') {sy : Nat → Sy} (hl : lowS L sy) (ht : ∀ i k, ks[i]? = some k → SyT k.what (sy i)) (hn : n ≠ .new → c.ek ≠ none) {t : Test} (ho : TestOk n ks t) (hm : (∃ k, t = .none k) → L + 1 ≤ most) : holdS ks c' sy t = holdS ks c sy t := by
  cases t with
  | elder z =>
    show decide (c'.ek = some z) = decide (c.ek = some z)
    rw [h.ek]
  | newer z =>
    show decide (c'.wk = some z) = decide (c.wk = some z)
    rw [h.wk]
  | moved =>
    show (!decide (c'.ek = c'.wk)) = !decide (c.ek = c.wk)
    rw [h.ek, h.wk]
  | none k =>
    obtain ⟨kp, hk, hw⟩ := ho
    show decide (val (kAt ks k) c' (sy k) = .int 0) = decide (val (kAt ks k) c (sy k) = .int 0)
    rw [kAt_of hk]
    have hty := ht k kp hk
    rw [hw] at hty
    obtain ⟨b, o, e⟩ := hty
    have hlo := hl k b o e
    have hm := hm ⟨k, rfl⟩
    rw [e]
    have e0 : ∀ c : Cf, val kp c (.cnt b o) = .int ((if b = true then ((numbersOf kp c.ts).length : Int) else 0) + o) := fun _ => rfl
    rw [e0, e0]
    rcases h.many kp (List.mem_of_getElem? hk) with hh | ⟨h1, h2⟩
    · rw [hh]
    · cases b with
      | false => rfl
      | true =>
        rw [if_pos rfl, if_pos rfl, decide_eq_false (fun z => by injection z with z; omega), decide_eq_false (fun z => by injection z with z; omega)]
  | top k =>
    obtain ⟨hnn, kp, hk, hw⟩ := ho
    show decide (val (kAt ks k) c' (sy k) = .int c'.E) = decide (val (kAt ks k) c (sy k) = .int c.E)
    rw [kAt_of hk]
    have hty := ht k kp hk
    rw [hw] at hty
    obtain ⟨a, b, d, e⟩ := hty
    rw [e]
    exact h.top (hn hnn) kp (List.mem_of_getElem? hk) a b d
theorem ty_touch {n : Pn} {ks : List Keep} {wk : Option Int} {sy : Nat → Sy} (h : ∀ i k, ks[i]? = some k → SyT k.what (sy i)) {t : Touch} (ht : TouchOk n ks t) : ∀ i k, ks[i]? = some k → SyT k.what (touchS ks wk sy t i) := by
  have gen : ∀ (j : Nat) (f : Sy → Sy), (∀ kp, ks[j]? = some kp → SyT kp.what (f (sy j))) → ∀ i k, ks[i]? = some k → SyT k.what (updS sy j f i) := by
    intro j f hf i k hk
    unfold updS
    split
    · rename_i e
      subst e
      exact hf k hk
    · exact h i k hk
  have one : ∀ {x : What} {f : Sy → Sy} {s : Sy}, SyT x s → ((∃ z src, f = addS z src) ∨ f = liftS ∨ f = markS ∨ f = empS) → SyT x (f s) := by
    intro x f s hx hf
    cases x with
    | count =>
      obtain ⟨b, o, rfl⟩ := hx
      rcases hf with ⟨z, src, rfl⟩ | rfl | rfl | rfl <;> exact ⟨_, _, rfl⟩
    | sum =>
      obtain ⟨b, a, e, w, rfl⟩ := hx
      rcases hf with ⟨z, src, rfl⟩ | rfl | rfl | rfl
      · cases src <;> exact ⟨_, _, _, _, rfl⟩
      all_goals exact ⟨_, _, _, _, rfl⟩
    | most =>
      obtain ⟨a, e, w, rfl⟩ := hx
      rcases hf with ⟨z, src, rfl⟩ | rfl | rfl | rfl <;> exact ⟨_, _, _, rfl⟩
    | any =>
      obtain ⟨a, e, rfl⟩ := hx
      rcases hf with ⟨z, src, rfl⟩ | rfl | rfl | rfl <;> exact ⟨_, _, rfl⟩
  cases t with
  | add k s => exact gen k _ fun kp hk => one (h k kp hk) (.inl ⟨_, _, rfl⟩)
  | less k s => exact gen k _ fun kp hk => one (h k kp hk) (.inl ⟨_, _, rfl⟩)
  | lift k => exact gen k _ fun kp hk => one (h k kp hk) (.inr (.inl rfl))
  | mark k => exact gen k _ fun kp hk => one (h k kp hk) (.inr (.inr (.inl rfl)))
  | empty k => exact gen k _ fun kp hk => one (h k kp hk) (.inr (.inr (.inr rfl)))
  | again k =>
    refine gen k (fun _ => aftS (kAt ks k).what (inO (kAt ks k).kind wk)) fun kp hk => ?_
    show SyT kp.what (aftS (kAt ks k).what _)
    rw [kAt_of hk]
    exact syT_aft _ _
theorem ty_step {n : Pn} {ks : List Keep} {c : Cf} {sy : Nat → Sy} (h : ∀ i k, ks[i]? = some k → SyT k.what (sy i)) {s : Step} (hs : StepOk n ks s) : ∀ i k, ks[i]? = some k → SyT k.what (stepS ks c sy s i) := by
  obtain ⟨te, tc⟩ := s
  cases te with
  | none => exact ty_touch h hs.1
  | some t =>
    show ∀ i k, ks[i]? = some k → SyT k.what ((if holdS ks c sy t = true then touchS ks c.wk sy tc else sy) i)
    split
    · exact ty_touch h hs.1
    · exact h
theorem step_same {n : Pn} {ks : List Keep} {most L : Nat} {c c' : Cf} (h : Alike ks most c c') {sy : Nat → Sy} (hl : lowS L sy) (ht : ∀ i k, ks[i]? = some k → SyT k.what (sy i)) (hn : n ≠ .new → c.ek ≠ none) {s : Step} (ho : StepOk n ks s) (hm : s.asksNone = true → L + 1 ≤ most) : stepS ks c' sy s = stepS ks c sy s := by
  obtain ⟨te, tc⟩ := s
  cases te with
  | none =>
    show touchS ks c'.wk sy tc = touchS ks c.wk sy tc
    rw [h.wk]
  | some t =>
    show (if holdS ks c' sy t = true then touchS ks c'.wk sy tc else sy) = if holdS ks c sy t = true then touchS ks c.wk sy tc else sy
    rw [hold_same h hl ht hn (ho.2 t rfl) (fun ⟨k, e⟩ => hm (by rw [e]; rfl)), h.wk]
theorem run_same {n : Pn} {ks : List Keep} {most : Nat} {c c' : Cf} (h : Alike ks most c c') (hn : n ≠ .new → c.ek ≠ none) : ∀ {ss : List Step} {L : Nat} {sy : Nat → Sy}, lowS L sy → (∀ i k, ks[i]? = some k → SyT k.what (sy i)) → (∀ s ∈ ss, StepOk n ks s) → ((∃ s ∈ ss, s.asksNone = true) → L + ss.length ≤ most) → runS ks c' ss sy = runS ks c ss sy
  | [], _, _, _, _, _, _ => rfl
  | s :: ss, L, sy, hl, ht, hs, hm => by
    have ho := hs s List.mem_cons_self
    have e := step_same h hl ht hn ho fun ha => by
      have := hm ⟨s, List.mem_cons_self, ha⟩
      rw [List.length_cons] at this
      omega
    show runS ks c' ss (stepS ks c' sy s) = runS ks c ss (stepS ks c sy s)
    rw [e]
    exact run_same h hn (low_step hl s) (ty_step ht ho) (fun x hx => hs x (List.mem_cons_of_mem _ hx)) fun ⟨x, hx, ha⟩ => by
      have := hm ⟨x, List.mem_cons_of_mem _ hx, ha⟩
      rw [List.length_cons] at this
      omega
/-! ### how much can be added behind an empty -/
def isAdd (k : Nat) (s : Step) : Bool := match s.touch with
  | .add j _ => decide (j = k)
  | _ => false
def isEmp (k : Nat) (s : Step) : Bool := match s.touch with
  | .empty j => decide (j = k)
  | _ => false
def exAdd (k : Nat) (wk : Option Int) (s : Step) : Bool := isAdd k s && match s.test with
  | some (.newer z) => decide (wk = some z)
  | _ => true
/-- emptied, and what was added since -/
def rstS : Sy → Option Int
  | .cnt false o => some o
  | .sum false _ e w => some (e + w)
  | _ => none
/-- nothing of elder or newer where there is no such thing -/
theorem rst_touch {ks : List Keep} {wk : Option Int} {sy : Nat → Sy} {k : Nat} {A : Nat} {em : Bool} (h : ∀ o, rstS (sy k) = some o → em = true ∧ o ≤ A) (t : Touch) : ∀ o, rstS (touchS ks wk sy t k) = some o → (em || isEmp k ⟨none, t⟩) = true ∧ o ≤ A + (if isAdd k ⟨none, t⟩ = true then 1 else 0) := by
  have keep : ∀ (j : Nat) (f : Sy → Sy) (x : Bool) (y : Int), 0 ≤ y → (j = k → ∀ o, rstS (f (sy k)) = some o → (em || x) = true ∧ o ≤ A + y) → ∀ o, rstS (updS sy j f k) = some o → (em || x) = true ∧ o ≤ A + y := by
    intro j f x y hy hf o e
    unfold updS at e
    split at e
    · rename_i hj
      exact hf hj.symm o e
    · obtain ⟨h1, h2⟩ := h o e
      rw [h1]
      exact ⟨rfl, by omega⟩
  have addC : ∀ (z : Int) (src : Src) (y : Int), 0 ≤ y → z ≤ y → ∀ o, rstS (addS z src (sy k)) = some o → (em || false) = true ∧ o ≤ A + y := by
    intro z src y hy hz o e
    rw [Bool.or_false]
    cases hs : sy k with
    | cnt b o' =>
      rw [hs] at e h
      cases b with
      | true => cases e
      | false =>
        obtain ⟨h1, h2⟩ := h o' rfl
        have e : o' + z = o := Option.some.inj e
        exact ⟨h1, by omega⟩
    | sum b a e' w' =>
      rw [hs] at e h
      cases b with
      | true => cases src <;> cases e
      | false =>
        obtain ⟨h1, h2⟩ := h (e' + w') rfl
        cases src with
        | one =>
          have e : e' + w' = o := Option.some.inj e
          exact ⟨h1, by omega⟩
        | elder =>
          have e : (e' + z) + w' = o := Option.some.inj e
          exact ⟨h1, by omega⟩
        | newer =>
          have e : e' + (w' + z) = o := Option.some.inj e
          exact ⟨h1, by omega⟩
    | mst _ _ _ => rw [hs] at e; cases e
    | any _ _ => rw [hs] at e; cases e
  cases t with
  | add j s =>
    refine keep j (addS 1 s) false (if isAdd k ⟨none, .add j s⟩ = true then 1 else 0) (by split <;> omega) fun hj o e => ?_
    subst hj
    have hi : isAdd j ⟨none, .add j s⟩ = true := decide_eq_true rfl
    rw [if_pos hi]
    exact addC 1 s 1 (by omega) (by omega) o e
  | less j s => exact keep j _ false 0 (by omega) fun hj o e => addC (-1) s 0 (by omega) (by omega) o e
  | lift j =>
    refine keep j _ false 0 (by omega) fun hj o e => ?_
    cases hs : sy k with
    | cnt b o' => rw [hs] at e h; obtain ⟨h1, h2⟩ := h o e; rw [h1]; exact ⟨rfl, by omega⟩
    | sum b a e' w' => rw [hs] at e h; obtain ⟨h1, h2⟩ := h o e; rw [h1]; exact ⟨rfl, by omega⟩
    | mst _ _ _ => rw [hs] at e; cases e
    | any _ _ => rw [hs] at e; cases e
  | mark j =>
    refine keep j _ false 0 (by omega) fun hj o e => ?_
    cases hs : sy k with
    | cnt b o' => rw [hs] at e h; obtain ⟨h1, h2⟩ := h o e; rw [h1]; exact ⟨rfl, by omega⟩
    | sum b a e' w' => rw [hs] at e h; obtain ⟨h1, h2⟩ := h o e; rw [h1]; exact ⟨rfl, by omega⟩
    | mst _ _ _ => rw [hs] at e; cases e
    | any _ _ => rw [hs] at e; cases e
  | empty j =>
    refine keep j _ _ 0 (by omega) fun hj o e => ?_
    subst hj
    have hi : isEmp j ⟨none, .empty j⟩ = true := decide_eq_true rfl
    rw [hi, Bool.or_true]
    refine ⟨rfl, ?_⟩
    cases hs : sy j with
    | cnt b o' => rw [hs] at e; have e : (0 : Int) = o := Option.some.inj e; omega
    | sum b a e' w' => rw [hs] at e; have e : (0 : Int) + 0 = o := Option.some.inj e; omega
    | mst _ _ _ => rw [hs] at e; cases e
    | any _ _ => rw [hs] at e; cases e
  | again j =>
    refine keep j (fun _ => aftS (kAt ks j).what (inO (kAt ks j).kind wk)) false 0 (by omega) fun hj o e => ?_
    have e : rstS (aftS (kAt ks j).what _) = some o := e
    cases hw : (kAt ks j).what <;> rw [hw] at e <;> cases e
theorem rst_step {ks : List Keep} {c : Cf} {sy : Nat → Sy} {k : Nat} {A : Nat} {em : Bool} (h : ∀ o, rstS (sy k) = some o → em = true ∧ o ≤ A) (s : Step) : ∀ o, rstS (stepS ks c sy s k) = some o → (em || isEmp k s) = true ∧ o ≤ A + (if exAdd k c.wk s = true then 1 else 0) := by
  obtain ⟨te, tc⟩ := s
  have z0 : ∀ o, rstS (sy k) = some o → ∀ (x : Bool) (y : Nat), (em || x) = true ∧ o ≤ ((A + y : Nat) : Int) := fun o e x y => by
    obtain ⟨h1, h2⟩ := h o e
    rw [h1]
    exact ⟨rfl, by omega⟩
  cases te with
  | none =>
    intro o e
    obtain ⟨h1, h2⟩ := rst_touch h tc o e
    refine ⟨h1, ?_⟩
    have e2 : exAdd k c.wk ⟨none, tc⟩ = isAdd k ⟨none, tc⟩ := Bool.and_true _
    rw [e2]
    exact h2
  | some t =>
    intro o e
    have e : rstS ((if holdS ks c sy t = true then touchS ks c.wk sy tc else sy) k) = some o := e
    split at e
    · rename_i hh
      obtain ⟨h1, h2⟩ := rst_touch h tc o e
      refine ⟨h1, ?_⟩
      have e2 : exAdd k c.wk ⟨some t, tc⟩ = isAdd k ⟨none, tc⟩ := by
        have e3 : exAdd k c.wk ⟨some t, tc⟩ = (isAdd k ⟨none, tc⟩ && match t with
          | .newer z => decide (c.wk = some z)
          | _ => true) := by cases t <;> rfl
        rw [e3]
        cases t with
        | newer z =>
          have hh : decide (c.wk = some z) = true := hh
          show (_ && decide (c.wk = some z)) = _
          rw [hh, Bool.and_true]
        | _ => exact Bool.and_true _
      rw [e2]
      exact h2
    · obtain ⟨h1, h2⟩ := z0 o e (isEmp k ⟨some t, tc⟩) (if exAdd k c.wk ⟨some t, tc⟩ = true then 1 else 0)
      refine ⟨h1, ?_⟩
      have : ((A + (if exAdd k c.wk ⟨some t, tc⟩ = true then 1 else 0) : Nat) : Int) = (A : Int) + (if exAdd k c.wk ⟨some t, tc⟩ = true then 1 else 0) := by split <;> omega
      rw [this] at h2
      exact h2
theorem rst_run {ks : List Keep} {c : Cf} {k : Nat} : ∀ {ss : List Step} {sy : Nat → Sy} {A : Nat} {em : Bool}, (∀ o, rstS (sy k) = some o → em = true ∧ o ≤ A) → ∀ o, rstS (runS ks c ss sy k) = some o → (em || ss.any (isEmp k)) = true ∧ o ≤ ((A + ss.countP (exAdd k c.wk) : Nat) : Int)
  | [], sy, A, em, h, o, e => by
    obtain ⟨h1, h2⟩ := h o e
    rw [h1]
    exact ⟨rfl, h2⟩
  | s :: ss, sy, A, em, h, o, e => by
    have h2 := rst_step h s (ks := ks) (c := c)
    obtain ⟨h3, h4⟩ := rst_run (ks := ks) (c := c) (k := k) (ss := ss) (sy := stepS ks c sy s) (A := A + (if exAdd k c.wk s = true then 1 else 0)) (em := em || isEmp k s) (fun o e => by
      obtain ⟨h5, h6⟩ := h2 o e
      refine ⟨h5, ?_⟩
      split at h6 <;> (try rw [if_pos (by assumption)]) <;> (try rw [if_neg (by assumption)]) <;> omega) o e
    refine ⟨?_, ?_⟩
    · rw [List.any_cons, ← Bool.or_assoc]
      exact h3
    · rw [List.countP_cons]
      omega
theorem rst_ini {ks : List Keep} {c : Cf} {k : Nat} {ss : List Step} {o : Int} (h : rstS (runS ks c ss (ini ks c.ek) k) = some o) : ss.any (isEmp k) = true ∧ o ≤ ((ss.countP (exAdd k c.wk) : Nat) : Int) := by
  have := rst_run (ks := ks) (c := c) (k := k) (ss := ss) (sy := ini ks c.ek) (A := 0) (em := false) (fun o e => by
    have e : rstS (iniS (kAt ks k).what _) = some o := e
    cases hw : (kAt ks k).what <;> rw [hw] at e <;> cases e) o h
  rw [Bool.false_or, Nat.zero_add] at this
  exact this
/-! ### what has no elder, no newer, is not told of them -/
def eS : Sy → Int
  | .sum _ _ e _ => e
  | _ => 0
def wS : Sy → Int
  | .sum _ _ _ w => w
  | _ => 0
end Kc

/-! Few things with few numbers show each lie. -/
namespace Kc
open PySem L2 Dl
/-! ### things of two kinds -/
abbrev nums (z : Int) (ts : List Thing) : List Int := numbersOf ⟨.count, some z⟩ ts
def Two (ts : List Thing) : Prop := ∀ t ∈ ts, t.1 = 0 ∨ t.1 = 1
def in0 (k : Keep) : Bool := inO k.kind (some 0)
def in1 (k : Keep) : Bool := inO k.kind (some 1)
def ifL (b : Bool) (l : List Int) : List Int := if b = true then l else []
theorem nums_two {k : Keep} (hk : KeepOk k) {ts : List Thing} (ht : Two ts) : (numbersOf k ts).Perm (ifL (in0 k) (nums 0 ts) ++ ifL (in1 k) (nums 1 ts)) := by
  obtain ⟨kw, kk⟩ := k
  rcases hk with e | e | e
  · have e : kk = none := e
    subst e
    show (numbersOf _ ts).Perm (nums 0 ts ++ nums 1 ts)
    show ((ts.filter fun _ => true).map (·.2)).Perm ((ts.filter fun t => decide (t.1 = 0)).map (·.2) ++ (ts.filter fun t => decide (t.1 = 1)).map (·.2))
    rw [← List.map_append]
    refine List.Perm.map _ ?_
    have h1 : ts.filter (fun t => decide (t.1 = 1)) = ts.filter fun t => !decide (t.1 = 0) := List.filter_congr fun t h => by
      rcases ht t h with e | e
      · rw [decide_eq_true e, decide_eq_false (by omega)]; rfl
      · rw [decide_eq_true e, decide_eq_false (by omega)]; rfl
    show (ts.filter fun _ => true).Perm (ts.filter (fun t => decide (t.1 = 0)) ++ ts.filter (fun t => decide (t.1 = 1)))
    rw [h1, List.filter_eq_self.mpr (fun _ _ => rfl)]
    exact (List.filter_append_perm _ ts).symm
  · have e : kk = some 0 := e
    subst e
    show (nums 0 ts).Perm (nums 0 ts ++ [])
    rw [List.append_nil]
  · have e : kk = some 1 := e
    subst e
    exact .refl _
/-! ### the same with few numbers -/
def crowdOf (m0 m1 : Nat) (a b : Int) : List Thing := List.replicate m0 (0, a) ++ List.replicate m1 (1, b)
theorem crowd_two (m0 m1 : Nat) (a b : Int) : Two (crowdOf m0 m1 a b) := by
  intro t h
  rcases List.mem_append.mp h with h | h <;> rw [(List.mem_replicate.mp h).2]
  · exact .inl rfl
  · exact .inr rfl
theorem nums_rep (z y : Int) (m : Nat) (a : Int) : nums z (List.replicate m (y, a)) = if y = z then List.replicate m a else [] := by
  unfold nums numbersOf
  by_cases h : y = z
  · rw [if_pos h, List.filter_replicate, if_pos (by exact decide_eq_true h), List.map_replicate]
  · rw [if_neg h, List.filter_replicate, if_neg (by show ¬ decide (y = z) = true; rw [decide_eq_false h]; exact Bool.false_ne_true)]
    rfl
theorem nums_append (z : Int) (a b : List Thing) : nums z (a ++ b) = nums z a ++ nums z b := by
  unfold nums numbersOf
  rw [List.filter_append, List.map_append]
theorem crowd_nums0 (m0 m1 : Nat) (a b : Int) : nums 0 (crowdOf m0 m1 a b) = List.replicate m0 a := by
  unfold crowdOf
  rw [nums_append, nums_rep, nums_rep, if_pos rfl, if_neg (by decide), List.append_nil]
theorem crowd_nums1 (m0 m1 : Nat) (a b : Int) : nums 1 (crowdOf m0 m1 a b) = List.replicate m1 b := by
  unfold crowdOf
  rw [nums_append, nums_rep, nums_rep, if_neg (by decide), if_pos rfl, List.nil_append]
theorem crowd_in {m0 m1 most : Nat} {a b : Int} (h0 : m0 ≤ most) (h1 : m1 ≤ most) (ha : a ∈ numbers) (hb : b ∈ numbers) : crowdOf m0 m1 a b ∈ crowds (m0 + m1) most := by
  have row : ∀ (k : Int) (m : Nat) (a : Int), a ∈ numbers → List.replicate m (k, a) ∈ rowsOf k m := by
    intro k m a ha
    unfold rowsOf
    split
    · rename_i e
      rw [e]
      exact List.mem_cons_self
    · exact List.mem_map.mpr ⟨a, ha, rfl⟩
  unfold crowds
  refine List.mem_flatMap.mpr ⟨m0 - (m0 + m1 - most), List.mem_range.mpr (by omega), ?_⟩
  have e : m0 + m1 - most + (m0 - (m0 + m1 - most)) = m0 := by omega
  rw [e]
  unfold crowdsAt
  refine List.mem_flatMap.mpr ⟨_, row 0 m0 a ha, List.mem_map.mpr ⟨_, row 1 _ b hb, ?_⟩⟩
  have e : m0 + m1 - m0 = m1 := by omega
  rw [e]
  rfl
def fam (c : Cf) (most : Nat) (a b e w : Int) : Cf := ⟨crowdOf (min (nums 0 c.ts).length most) (min (nums 1 c.ts).length most) a b, c.ek, c.wk, e, w⟩
/-- how numbers stand to the elder's -/
def sg (l : List Int) (E : Int) : Int := if ∀ x ∈ l, x ≤ E then (if E ∈ l then 0 else -1) else 1
structure Good (c : Cf) (a b e w : Int) : Prop where
  ha : a ∈ numbers
  hb : b ∈ numbers
  he : e ∈ numbers
  hw : w ∈ numbers
  sa : nums 0 c.ts ≠ [] → sg [a] e = sg (nums 0 c.ts) c.E
  sb : nums 1 c.ts ≠ [] → sg [b] e = sg (nums 1 c.ts) c.E
  sw : sg [w] e = sg [c.W] c.E
theorem sg_spec (l : List Int) (E : Int) : ((∀ x ∈ l, x ≤ E) ↔ sg l E ≠ 1) ∧ ((∀ x ∈ l, x ≤ E) → (E ∈ l ↔ sg l E = 0)) := by
  unfold sg
  by_cases h : ∀ x ∈ l, x ≤ E
  · rw [if_pos h]
    by_cases h2 : E ∈ l
    · rw [if_pos h2]
      exact ⟨⟨fun _ => by decide, fun _ => h⟩, fun _ => ⟨fun _ => rfl, fun _ => h2⟩⟩
    · rw [if_neg h2]
      exact ⟨⟨fun _ => by decide, fun _ => h⟩, fun _ => ⟨fun z => absurd z h2, fun z => absurd z (by decide)⟩⟩
  · rw [if_neg h]
    exact ⟨⟨fun z => absurd z h, fun z => absurd rfl z⟩, fun z => absurd z h⟩
theorem sg_same {l m : List Int} {E e : Int} (h : sg m e = sg l E) : ((∀ x ∈ m, x ≤ e) ↔ ∀ x ∈ l, x ≤ E) ∧ ((∀ x ∈ l, x ≤ E) → (e ∈ m ↔ E ∈ l)) := by
  obtain ⟨a1, a2⟩ := sg_spec l E
  obtain ⟨b1, b2⟩ := sg_spec m e
  have h1 : (∀ x ∈ m, x ≤ e) ↔ ∀ x ∈ l, x ≤ E := b1.trans (by rw [h]; exact a1.symm)
  refine ⟨h1, fun z => ?_⟩
  rw [b2 (h1.mpr z), a2 z, h]
/-- a list of one number, again and again -/
theorem rep_le {m : Nat} {a e : Int} : (∀ x ∈ List.replicate m a, x ≤ e) ↔ (m = 0 ∨ ∀ x ∈ [a], x ≤ e) := by
  constructor
  · intro h
    by_cases hm : m = 0
    · exact .inl hm
    · refine .inr fun x hx => ?_
      rw [List.mem_singleton.mp hx]
      exact h a (List.mem_replicate.mpr ⟨hm, rfl⟩)
  · rintro (h | h) x hx
    · exact absurd h (List.mem_replicate.mp hx).1
    · rw [(List.mem_replicate.mp hx).2]
      exact h a List.mem_cons_self
theorem rep_in {m : Nat} {a e : Int} : e ∈ List.replicate m a ↔ (m ≠ 0 ∧ e ∈ [a]) := by
  rw [List.mem_replicate, List.mem_singleton]
theorem min_zero {n most : Nat} (h : 1 ≤ most) : min n most = 0 ↔ n = 0 := by omega
/-- the two facts of one kind, carried over -/
theorem kind_same {l : List Int} {a E e : Int} {most : Nat} (hm : 1 ≤ most) (h : l ≠ [] → sg [a] e = sg l E) : ((∀ x ∈ List.replicate (min l.length most) a, x ≤ e) ↔ ∀ x ∈ l, x ≤ E) ∧ ((∀ x ∈ l, x ≤ E) → (e ∈ List.replicate (min l.length most) a ↔ E ∈ l)) := by
  by_cases hl : l = []
  · subst hl
    have e0 : min ([] : List Int).length most = 0 := by rw [List.length_nil]; omega
    rw [e0]
    exact ⟨⟨fun _ x hx => (by cases hx), fun _ x hx => (by cases hx)⟩, fun _ => ⟨fun hx => (by cases hx), fun hx => (by cases hx)⟩⟩
  · have hne : l.length ≠ 0 := fun z => hl (List.eq_nil_of_length_eq_zero z)
    obtain ⟨h1, h2⟩ := sg_same (h hl)
    rw [rep_le, rep_in]
    have hmz : min l.length most ≠ 0 := by omega
    refine ⟨⟨fun z => h1.mp (z.resolve_left hmz), fun z => .inr (h1.mpr z)⟩, fun z => ⟨fun y => (h2 z).mp y.2, fun y => ⟨hmz, (h2 z).mpr y⟩⟩⟩
theorem mem_ifL {b : Bool} {l : List Int} {x : Int} : x ∈ ifL b l ↔ b = true ∧ x ∈ l := by
  unfold ifL
  cases b with
  | true => exact ⟨fun h => ⟨rfl, h⟩, fun h => h.2⟩
  | false => exact ⟨fun h => (by cases h), fun h => (by cases h.1)⟩
/-- is the greatest of all this one -/
theorem val_top {k : Keep} {c : Cf} (hk : KeepOk k) (ht : Two c.ts) (o e w : Bool) : val k c (.mst o e w) = .int c.E ↔
    ((o = true → in0 k = true → ∀ x ∈ nums 0 c.ts, x ≤ c.E) ∧ (o = true → in1 k = true → ∀ x ∈ nums 1 c.ts, x ≤ c.E) ∧ (w = true → ∀ x ∈ [c.W], x ≤ c.E)) ∧
    ((o = true ∧ in0 k = true ∧ c.E ∈ nums 0 c.ts) ∨ (o = true ∧ in1 k = true ∧ c.E ∈ nums 1 c.ts) ∨ e = true ∨ (w = true ∧ c.E ∈ [c.W])) := by
  have hp := nums_two hk ht
  have hm : ∀ x, x ∈ numbersOf k c.ts ↔ (in0 k = true ∧ x ∈ nums 0 c.ts) ∨ (in1 k = true ∧ x ∈ nums 1 c.ts) := fun x => by
    rw [hp.mem_iff, List.mem_append, mem_ifL, mem_ifL]
  show maxV _ = .int c.E ↔ _
  rw [maxV_int_iff]
  have hl : ∀ x, x ∈ (if o = true then numbersOf k c.ts else []) ++ ((if e = true then [c.E] else []) ++ (if w = true then [c.W] else [])) ↔ (o = true ∧ ((in0 k = true ∧ x ∈ nums 0 c.ts) ∨ (in1 k = true ∧ x ∈ nums 1 c.ts))) ∨ (e = true ∧ x = c.E) ∨ (w = true ∧ x = c.W) := by
    intro x
    rw [List.mem_append, List.mem_append]
    have h1 : x ∈ (if o = true then numbersOf k c.ts else []) ↔ o = true ∧ x ∈ numbersOf k c.ts := mem_ifL
    have h2 : x ∈ (if e = true then [c.E] else []) ↔ e = true ∧ x ∈ [c.E] := mem_ifL
    have h3 : x ∈ (if w = true then [c.W] else []) ↔ w = true ∧ x ∈ [c.W] := mem_ifL
    rw [h1, h2, h3, hm, List.mem_singleton, List.mem_singleton]
  constructor
  · rintro ⟨h1, h2⟩
    refine ⟨⟨fun ho h0 x hx => h2 x ((hl x).mpr (.inl ⟨ho, .inl ⟨h0, hx⟩⟩)), fun ho h0 x hx => h2 x ((hl x).mpr (.inl ⟨ho, .inr ⟨h0, hx⟩⟩)), fun hw x hx => h2 x ((hl x).mpr (.inr (.inr ⟨hw, List.mem_singleton.mp hx⟩)))⟩, ?_⟩
    rcases (hl _).mp h1 with ⟨ho, ⟨h, h'⟩ | ⟨h, h'⟩⟩ | ⟨h, _⟩ | ⟨h, h'⟩
    · exact .inl ⟨ho, h, h'⟩
    · exact .inr (.inl ⟨ho, h, h'⟩)
    · exact .inr (.inr (.inl h))
    · exact .inr (.inr (.inr ⟨h, List.mem_singleton.mpr h'⟩))
  · rintro ⟨⟨h1, h2, h3⟩, h4⟩
    refine ⟨(hl _).mpr ?_, fun x hx => ?_⟩
    · rcases h4 with ⟨ho, h, h'⟩ | ⟨ho, h, h'⟩ | h | ⟨h, h'⟩
      · exact .inl ⟨ho, .inl ⟨h, h'⟩⟩
      · exact .inl ⟨ho, .inr ⟨h, h'⟩⟩
      · exact .inr (.inl ⟨h, rfl⟩)
      · exact .inr (.inr ⟨h, List.mem_singleton.mp h'⟩)
    · rcases (hl x).mp hx with ⟨ho, ⟨h, h'⟩ | ⟨h, h'⟩⟩ | ⟨_, h⟩ | ⟨h, h'⟩
      · exact h1 ho h x h'
      · exact h2 ho h x h'
      · rw [h]; exact Int.le_refl _
      · exact h3 h x (List.mem_singleton.mpr h')
theorem fam_two (c : Cf) (most : Nat) (a b e w : Int) : Two (fam c most a b e w).ts := crowd_two _ _ _ _
theorem fam_n0 (c : Cf) (most : Nat) (a b e w : Int) : nums 0 (fam c most a b e w).ts = List.replicate (min (nums 0 c.ts).length most) a := crowd_nums0 _ _ _ _
theorem fam_n1 (c : Cf) (most : Nat) (a b e w : Int) : nums 1 (fam c most a b e w).ts = List.replicate (min (nums 1 c.ts).length most) b := crowd_nums1 _ _ _ _
theorem ifL_len (b : Bool) (l : List Int) : (ifL b l).length = if b = true then l.length else 0 := by
  unfold ifL
  split <;> rfl
theorem len_two {k : Keep} (hk : KeepOk k) {ts : List Thing} (ht : Two ts) : (numbersOf k ts).length = (if in0 k = true then (nums 0 ts).length else 0) + (if in1 k = true then (nums 1 ts).length else 0) := by
  rw [(nums_two hk ht).length_eq, List.length_append, ifL_len, ifL_len]
theorem fam_alike {ks : List Keep} (hks : ∀ k ∈ ks, KeepOk k) {c : Cf} (ht : Two c.ts) {most : Nat} (hm : 1 ≤ most) {a b e w : Int} (g : Good c a b e w) : Alike ks most c (fam c most a b e w) where
  ek := rfl
  wk := rfl
  many := by
    intro k hk
    rw [len_two (hks k hk) (fam_two c most a b e w), len_two (hks k hk) ht, fam_n0, fam_n1, List.length_replicate, List.length_replicate]
    generalize (nums 0 c.ts).length = n0
    generalize (nums 1 c.ts).length = n1
    cases in0 k <;> cases in1 k <;> simp only [reduceIte, Bool.false_eq_true]
    · exact .inl trivial
    · omega
    · omega
    · omega
  top := by
    intro _ k hk o ee w'
    have h1 := val_top (hks k hk) (fam_two c most a b e w) o ee w'
    have h2 := val_top (hks k hk) ht o ee w'
    obtain ⟨a1, a2⟩ := kind_same (e := e) (E := c.E) hm g.sa
    obtain ⟨b1, b2⟩ := kind_same (e := e) (E := c.E) hm g.sb
    obtain ⟨w1, w2⟩ := sg_same g.sw
    rw [fam_n0, fam_n1] at h1
    have hE : (fam c most a b e w).E = e := rfl
    have hW : (fam c most a b e w).W = w := rfl
    rw [hE, hW] at h1
    have key : val k (fam c most a b e w) (.mst o ee w') = .int e ↔ val k c (.mst o ee w') = .int c.E := by
      rw [h1, h2]
      constructor
      · rintro ⟨⟨x1, x2, x3⟩, x4⟩
        refine ⟨⟨fun ho hi => a1.mp (x1 ho hi), fun ho hi => b1.mp (x2 ho hi), fun hw => w1.mp (x3 hw)⟩, ?_⟩
        rcases x4 with ⟨ho, h, h'⟩ | ⟨ho, h, h'⟩ | h | ⟨h, h'⟩
        · exact .inl ⟨ho, h, (a2 (a1.mp (x1 ho h))).mp h'⟩
        · exact .inr (.inl ⟨ho, h, (b2 (b1.mp (x2 ho h))).mp h'⟩)
        · exact .inr (.inr (.inl h))
        · exact .inr (.inr (.inr ⟨h, (w2 (w1.mp (x3 h))).mp h'⟩))
      · rintro ⟨⟨x1, x2, x3⟩, x4⟩
        refine ⟨⟨fun ho hi => a1.mpr (x1 ho hi), fun ho hi => b1.mpr (x2 ho hi), fun hw => w1.mpr (x3 hw)⟩, ?_⟩
        rcases x4 with ⟨ho, h, h'⟩ | ⟨ho, h, h'⟩ | h | ⟨h, h'⟩
        · exact .inl ⟨ho, h, (a2 (x1 ho h)).mpr h'⟩
        · exact .inr (.inl ⟨ho, h, (b2 (x2 ho h)).mpr h'⟩)
        · exact .inr (.inr (.inl h))
        · exact .inr (.inr (.inr ⟨h, (w2 (x3 h)).mpr h'⟩))
    rw [hE]
    by_cases hh : val k c (.mst o ee w') = .int c.E
    · rw [decide_eq_true hh, decide_eq_true (key.mpr hh)]
    · rw [decide_eq_false hh, decide_eq_false fun z => hh (key.mp z)]
/-! ### points of the family -/
def eB : Bool → Int
  | false => 5
  | true => 11
def pt (s : Int) (big alt : Bool) : Int := if s = 0 then eB big else if s = 1 then (if big = true then 23 else if alt = true then 11 else 23) else (if big = true then (if alt = true then 5 else 2) else 2)
theorem pt_mem (s : Int) (big alt : Bool) : pt s big alt ∈ numbers := by
  unfold pt eB numbers
  cases big <;> cases alt <;> (split <;> (try split) <;> decide)
theorem eB_mem (big : Bool) : eB big ∈ numbers := by cases big <;> decide
theorem sg_range (l : List Int) (E : Int) : sg l E = -1 ∨ sg l E = 0 ∨ sg l E = 1 := by
  unfold sg
  split
  · split
    · exact .inr (.inl rfl)
    · exact .inl rfl
  · exact .inr (.inr rfl)
theorem pt_sg {s : Int} (h : s = -1 ∨ s = 0 ∨ s = 1) (big alt : Bool) : sg [pt s big alt] (eB big) = s := by
  rcases h with rfl | rfl | rfl <;> cases big <;> cases alt <;> decide
theorem good_pt (c : Cf) (big x y z : Bool) : Good c (pt (sg (nums 0 c.ts) c.E) big x) (pt (sg (nums 1 c.ts) c.E) big y) (eB big) (pt (sg [c.W] c.E) big z) where
  ha := pt_mem _ _ _
  hb := pt_mem _ _ _
  he := eB_mem _
  hw := pt_mem _ _ _
  sa := fun _ => pt_sg (sg_range _ _) _ _
  sb := fun _ => pt_sg (sg_range _ _) _ _
  sw := pt_sg (sg_range _ _) _ _
theorem arith {s0 s1 sw al be ga p q : Int} (h0 : s0 = -1 ∨ s0 = 0 ∨ s0 = 1) (h1 : s1 = -1 ∨ s1 = 0 ∨ s1 = 1) (hw : sw = -1 ∨ sw = 0 ∨ sw = 1)
    (H : ∀ big x y z : Bool, al + be * eB big + ga * pt sw big z = p * pt s0 big x + q * pt s1 big y) : (s0 ≠ 0 → p = 0) ∧ (s1 ≠ 0 → q = 0) ∧ (sw ≠ 0 → ga = 0) ∧ al = 0 ∧ be + (if sw = 0 then ga else 0) = p + q := by
  have a1 := H false false false false
  have a2 := H true false false false
  have a3 := H false true false false
  have a4 := H true true false false
  have a5 := H false false true false
  have a6 := H true false true false
  have a7 := H false false false true
  have a8 := H true false false true
  rcases h0 with rfl | rfl | rfl <;> rcases h1 with rfl | rfl | rfl <;> rcases hw with rfl | rfl | rfl <;>
    (simp [pt, eB] at a1 a2 a3 a4 a5 a6 a7 a8 ⊢; omega)
end Kc

/-! What the few things tell holds for all. -/
namespace Kc
open PySem L2 Dl
section
variable {k : Keep} {c : Cf} {most : Nat}
theorem fam_len (hk : KeepOk k) (a b e w : Int) : (numbersOf k (fam c most a b e w).ts).length = (if in0 k = true then min (nums 0 c.ts).length most else 0) + (if in1 k = true then min (nums 1 c.ts).length most else 0) := by
  rw [len_two hk (fam_two c most a b e w), fam_n0, fam_n1, List.length_replicate, List.length_replicate]
theorem fin_any (hk : KeepOk k) (ht : Two c.ts) (hm : 2 ≤ most) {o d x : Bool}
    (H : ∀ a b e w, Good c a b e w → val k (fam c most a b e w) (.any o d) = val k (fam c most a b e w) (.any true x)) : val k c (.any o d) = val k c (.any true x) := by
  have h := H _ _ _ _ (good_pt c false false false false)
  have e : ∀ (c : Cf) (o d : Bool), val k c (.any o d) = .bl ((o && decide (0 < (numbersOf k c.ts).length)) || d) := fun _ _ _ => rfl
  rw [e, e, fam_len hk] at h
  rw [e, e, len_two hk ht]
  generalize (nums 0 c.ts).length = n0 at h ⊢
  generalize (nums 1 c.ts).length = n1 at h ⊢
  have hd : decide (0 < (if in0 k = true then min n0 most else 0) + (if in1 k = true then min n1 most else 0)) = decide (0 < (if in0 k = true then n0 else 0) + (if in1 k = true then n1 else 0)) := by
    congr 1
    apply propext
    split <;> split <;> omega
  rw [hd] at h
  exact h
theorem fin_cnt (hk : KeepOk k) (ht : Two c.ts) (hm : 2 ≤ most) {b : Bool} {o x : Int} (hb : b = false → o ≤ 1 + x)
    (H : ∀ a b' e w, Good c a b' e w → val k (fam c most a b' e w) (.cnt b o) = val k (fam c most a b' e w) (.cnt true x)) : val k c (.cnt b o) = val k c (.cnt true x) := by
  have h := H _ _ _ _ (good_pt c false false false false)
  have e : ∀ (c : Cf) (b : Bool) (o : Int), val k c (.cnt b o) = .int ((if b = true then ((numbersOf k c.ts).length : Int) else 0) + o) := fun _ _ _ => rfl
  rw [e, e, fam_len hk] at h
  rw [e, e, len_two hk ht]
  generalize (nums 0 c.ts).length = n0 at h ⊢
  generalize (nums 1 c.ts).length = n1 at h ⊢
  rw [if_pos rfl] at h ⊢
  injection h with h
  congr 1
  cases b with
  | true =>
    rw [if_pos rfl] at h ⊢
    omega
  | false =>
    have hb := hb rfl
    rw [if_neg Bool.false_ne_true] at h ⊢
    generalize in0 k = i0 at h ⊢
    generalize in1 k = i1 at h ⊢
    cases i0 <;> cases i1 <;> (simp only [reduceIte, Bool.false_eq_true] at h ⊢; omega)
theorem sum_rep (m : Nat) (a : Int) : (List.replicate m a).sum = m * a := by
  induction m with
  | zero => simp
  | succ m ih =>
    rw [List.replicate_succ, List.sum_cons, ih]
    have : ((m + 1 : Nat) : Int) = (m : Int) + 1 := by omega
    rw [this, Int.add_mul, Int.one_mul]
    omega
theorem ifL_sum (b : Bool) (l : List Int) : (ifL b l).sum = if b = true then l.sum else 0 := by
  unfold ifL
  split <;> rfl
theorem sum_two (hk : KeepOk k) {ts : List Thing} (ht : Two ts) : (numbersOf k ts).sum = (if in0 k = true then (nums 0 ts).sum else 0) + (if in1 k = true then (nums 1 ts).sum else 0) := by
  rw [sum_perm (nums_two hk ht), List.sum_append, ifL_sum, ifL_sum]
theorem ite_mul {b : Bool} {x y : Int} : (if b = true then x else 0) * y = if b = true then x * y else 0 := by
  split
  · rfl
  · exact Int.zero_mul _
/-- one number, the elder's -/
theorem one_num {l : List Int} {E : Int} (h1 : l.length ≤ 1) (hs : l ≠ [] → sg l E = 0) : l.sum = l.length * E := by
  match l, h1 with
  | [], _ => simp
  | [x], _ =>
    have h := hs (by simp)
    have hle : ∀ y ∈ [x], y ≤ E := (sg_spec [x] E).1.mpr (by rw [h]; decide)
    have hin := ((sg_spec [x] E).2 hle).mpr h
    have e := List.mem_singleton.mp hin
    subst e
    simp
theorem fin_sum (hk : KeepOk k) (ht : Two c.ts) (hm : 2 ≤ most) {b : Bool} {al be ga x : Int} (hb : b = false → be + ga ≤ 1 + x)
    (H : ∀ a b' e w, Good c a b' e w → val k (fam c most a b' e w) (.sum b al be ga) = val k (fam c most a b' e w) (.sum true 0 0 x)) : val k c (.sum b al be ga) = val k c (.sum true 0 0 x) := by
  have e : ∀ (c : Cf) (b : Bool) (al be ga : Int), val k c (.sum b al be ga) = .int ((if b = true then (numbersOf k c.ts).sum else 0) + (al + be * c.E + ga * c.W)) := fun _ _ _ _ _ => rfl
  let p : Int := if b = true then 0 else if in0 k = true then ((min (nums 0 c.ts).length most : Nat) : Int) else 0
  let q : Int := if b = true then 0 else if in1 k = true then ((min (nums 1 c.ts).length most : Nat) : Int) else 0
  have hp : p = if b = true then 0 else if in0 k = true then ((min (nums 0 c.ts).length most : Nat) : Int) else 0 := rfl
  have hq : q = if b = true then 0 else if in1 k = true then ((min (nums 1 c.ts).length most : Nat) : Int) else 0 := rfl
  have key : ∀ a b' e' w, Good c a b' e' w → al + be * e' + (ga - x) * w = p * a + q * b' := by
    intro a b' e' w g
    have h := H a b' e' w g
    rw [e, e, sum_two hk (fam_two c most a b' e' w), fam_n0, fam_n1, sum_rep, sum_rep] at h
    injection h with h
    have h : (if b = true then (if in0 k = true then ((min (nums 0 c.ts).length most : Nat) : Int) * a else 0) + (if in1 k = true then ((min (nums 1 c.ts).length most : Nat) : Int) * b' else 0) else 0) + (al + be * e' + ga * w) =
      (if true = true then (if in0 k = true then ((min (nums 0 c.ts).length most : Nat) : Int) * a else 0) + (if in1 k = true then ((min (nums 1 c.ts).length most : Nat) : Int) * b' else 0) else 0) + (0 + 0 * e' + x * w) := h
    rw [if_pos rfl, Int.zero_mul] at h
    rw [Int.sub_mul, hp, hq]
    cases b with
    | true =>
      simp only [reduceIte, Int.zero_mul] at h ⊢
      omega
    | false =>
      simp only [reduceIte, Bool.false_eq_true, ite_mul] at h ⊢
      omega
  obtain ⟨r0, r1, rw', ra, rb⟩ := arith (sg_range (nums 0 c.ts) c.E) (sg_range (nums 1 c.ts) c.E) (sg_range [c.W] c.E) (al := al) (be := be) (ga := ga - x) (p := p) (q := q) fun big x' y z => key _ _ _ _ (good_pt c big x' y z)
  -- the newer one's part
  have hW : be * c.E + (ga - x) * c.W = (p + q) * c.E := by
    by_cases hs : sg [c.W] c.E = 0
    · rw [if_pos hs] at rb
      have hle : ∀ y ∈ [c.W], y ≤ c.E := (sg_spec [c.W] c.E).1.mpr (by rw [hs]; decide)
      have hin := ((sg_spec [c.W] c.E).2 hle).mpr hs
      have e := List.mem_singleton.mp hin
      rw [← e, ← rb, Int.add_mul]
    · rw [if_neg hs] at rb
      rw [rw' hs, Int.zero_mul, ← rb, Int.add_zero, Int.add_zero]
  have hpq : be + (ga - x) = p + q ∨ (ga - x = 0 ∧ be = p + q) := by
    by_cases hs : sg [c.W] c.E = 0
    · rw [if_pos hs] at rb
      exact .inl rb
    · rw [if_neg hs] at rb
      exact .inr ⟨rw' hs, by omega⟩
  rw [e, e, ra]
  congr 1
  rw [Int.sub_mul] at hW
  rw [if_pos rfl, Int.zero_mul]
  cases b with
  | true =>
    have z1 : p = 0 := hp
    have z2 : q = 0 := hq
    rw [z1, z2, Int.add_zero, Int.zero_mul] at hW
    rw [if_pos rfl]
    omega
  | false =>
    have hb := hb rfl
    have hp' : p = if in0 k = true then ((min (nums 0 c.ts).length most : Nat) : Int) else 0 := hp
    have hq' : q = if in1 k = true then ((min (nums 1 c.ts).length most : Nat) : Int) else 0 := hq
    have p0 : 0 ≤ p := by rw [hp']; split <;> omega
    have q0 : 0 ≤ q := by rw [hq']; split <;> omega
    have h1 : p + q ≤ 1 := by omega
    have one : ∀ (bb : Bool) (l : List Int) (p : Int), p = (if bb = true then ((min l.length most : Nat) : Int) else 0) → p ≤ 1 → (sg l c.E ≠ 0 → p = 0) → (if bb = true then l.sum else 0) = p * c.E := by
      intro bb l p hp hp1 hs
      cases bb with
      | false =>
        rw [if_neg Bool.false_ne_true] at hp ⊢
        rw [hp, Int.zero_mul]
      | true =>
        rw [if_pos rfl] at hp ⊢
        have hl : l.length ≤ 1 := by omega
        have hpl : p = l.length := by omega
        rw [hpl]
        refine one_num hl fun hne => ?_
        by_cases h0 : sg l c.E = 0
        · exact h0
        · have := hs h0
          have : l.length ≠ 0 := fun z => hne (List.eq_nil_of_length_eq_zero z)
          omega
    have s0 := one (in0 k) (nums 0 c.ts) p hp' (by omega) r0
    have s1 := one (in1 k) (nums 1 c.ts) q hq' (by omega) r1
    rw [if_neg Bool.false_ne_true, sum_two hk ht, s0, s1]
    rw [Int.add_mul] at hW
    omega
/-! ### the greatest -/
def rnk (S : List Int) (x : Int) : Nat := S.countP fun y => decide (y < x)
def nth : Nat → Int
  | 0 => 2
  | 1 => 5
  | 2 => 11
  | _ => 23
def phi (S : List Int) (x : Int) : Int := nth (rnk S x)
theorem nth_mem (n : Nat) : nth n ∈ numbers := by
  match n with
  | 0 => decide
  | 1 => decide
  | 2 => decide
  | n + 3 => exact List.mem_cons_of_mem _ (List.mem_cons_of_mem _ (List.mem_cons_of_mem _ List.mem_cons_self))
theorem nth_lt {m n : Nat} (h : m < n) (h3 : n ≤ 3) : nth m < nth n := by
  match m, n, h, h3 with
  | 0, 1, _, _ => decide
  | 0, 2, _, _ => decide
  | 0, 3, _, _ => decide
  | 1, 2, _, _ => decide
  | 1, 3, _, _ => decide
  | 2, 3, _, _ => decide
  | 3, n + 4, _, h3 => omega
  | m + 4, n + 5, _, h3 => omega
theorem countP_lt {α : Type} {p q : α → Bool} : ∀ {l : List α} {x : α}, (∀ y ∈ l, p y = true → q y = true) → x ∈ l → q x = true → p x = false → l.countP p + 1 ≤ l.countP q
  | [], x, _, h, _, _ => by cases h
  | y :: l, x, hpq, h, hq, hp => by
    rw [List.countP_cons, List.countP_cons]
    rcases List.mem_cons.mp h with e | h
    · subst e
      rw [hq, hp, if_neg Bool.false_ne_true, if_pos rfl]
      have := List.countP_mono_left (l := l) (p := p) (q := q) fun y hy => hpq y (List.mem_cons_of_mem _ hy)
      omega
    · have ih := countP_lt (fun y hy => hpq y (List.mem_cons_of_mem _ hy)) h hq hp
      have hy := hpq y List.mem_cons_self
      cases hp' : p y with
      | true =>
        rw [hy hp']
        simp only [reduceIte]
        omega
      | false =>
        simp only [reduceIte, Bool.false_eq_true]
        split <;> omega
theorem rnk_lt {S : List Int} {x y : Int} (hx : x ∈ S) (h : x < y) : rnk S x < rnk S y := by
  have := countP_lt (l := S) (p := fun z => decide (z < x)) (q := fun z => decide (z < y)) (x := x) (fun z _ hz => decide_eq_true (by have := of_decide_eq_true hz; omega)) hx (decide_eq_true h) (decide_eq_false (by omega))
  unfold rnk
  omega
theorem rnk_le {S : List Int} {x : Int} (h4 : S.length ≤ 4) (hx : x ∈ S) : rnk S x ≤ 3 := by
  have := countP_lt (l := S) (p := fun z => decide (z < x)) (q := fun _ => true) (x := x) (fun z _ _ => rfl) hx rfl (decide_eq_false (by omega))
  have h2 : S.countP (fun _ => true) = S.length := congrFun List.countP_true S
  unfold rnk
  omega
theorem phi_lt {S : List Int} {x y : Int} (h4 : S.length ≤ 4) (hx : x ∈ S) (hy : y ∈ S) (h : x < y) : phi S x < phi S y := nth_lt (rnk_lt hx h) (rnk_le h4 hy)
theorem phi_le {S : List Int} {x y : Int} (h4 : S.length ≤ 4) (hx : x ∈ S) (hy : y ∈ S) : phi S x ≤ phi S y ↔ x ≤ y := by
  constructor
  · intro h
    by_cases e : y < x
    · have := phi_lt h4 hy hx e
      omega
    · omega
  · intro h
    by_cases e : x = y
    · rw [e]; exact Int.le_refl _
    · exact Int.le_of_lt (phi_lt h4 hx hy (by omega))
theorem phi_eq {S : List Int} {x y : Int} (h4 : S.length ≤ 4) (hx : x ∈ S) (hy : y ∈ S) : phi S x = phi S y ↔ x = y := by
  have h1 := phi_le h4 hx hy
  have h2 := phi_le h4 hy hx
  constructor
  · intro h
    have := h1.mp (by omega)
    have := h2.mp (by omega)
    omega
  · intro h
    rw [h]
/-- the greatest of a list, 0 if it is empty -/
def mx : List Int → Int
  | [] => 0
  | x :: xs => xs.foldl max x
theorem mx_spec {l : List Int} (h : l ≠ []) : mx l ∈ l ∧ ∀ x ∈ l, x ≤ mx l := by
  cases l with
  | nil => exact absurd rfl h
  | cons x xs => exact ⟨foldl_max_mem xs x, fun y hy => foldl_max_le xs x y hy⟩
theorem sg_mx {l : List Int} {E : Int} (h : l ≠ []) : sg l E = sg [mx l] E := by
  obtain ⟨h1, h2⟩ := mx_spec h
  have e1 : (∀ x ∈ l, x ≤ E) ↔ ∀ x ∈ [mx l], x ≤ E := by
    constructor
    · intro z x hx
      rw [List.mem_singleton.mp hx]
      exact z _ h1
    · intro z x hx
      exact Int.le_trans (h2 x hx) (z _ List.mem_cons_self)
  unfold sg
  by_cases hh : ∀ x ∈ l, x ≤ E
  · rw [if_pos hh, if_pos (e1.mp hh)]
    have e2 : E ∈ l ↔ E ∈ [mx l] := by
      rw [List.mem_singleton]
      constructor
      · intro z
        have := h2 E z
        have := hh _ h1
        omega
      · intro z
        rw [z]
        exact h1
    by_cases h3 : E ∈ l
    · rw [if_pos h3, if_pos (e2.mp h3)]
    · rw [if_neg h3, if_neg fun z => h3 (e2.mpr z)]
  · rw [if_neg hh, if_neg fun z => hh (e1.mpr z)]
theorem sg_one (a e : Int) : sg [a] e = if a ≤ e then (if a = e then 0 else -1) else 1 := by
  unfold sg
  have e1 : (∀ x ∈ [a], x ≤ e) ↔ a ≤ e := ⟨fun h => h a List.mem_cons_self, fun h x hx => by rw [List.mem_singleton.mp hx]; exact h⟩
  by_cases h : a ≤ e
  · rw [if_pos h, if_pos (e1.mpr h)]
    by_cases h2 : a = e
    · rw [if_pos h2, if_pos (List.mem_singleton.mpr h2.symm)]
    · rw [if_neg h2, if_neg fun z => h2 (List.mem_singleton.mp z).symm]
  · rw [if_neg h, if_neg fun z => h (e1.mp z)]
theorem sg_phi {S : List Int} {x y : Int} (h4 : S.length ≤ 4) (hx : x ∈ S) (hy : y ∈ S) : sg [phi S x] (phi S y) = sg [x] y := by
  rw [sg_one, sg_one]
  by_cases h : x ≤ y
  · rw [if_pos h, if_pos ((phi_le h4 hx hy).mpr h)]
    by_cases h2 : x = y
    · rw [if_pos h2, if_pos ((phi_eq h4 hx hy).mpr h2)]
    · rw [if_neg h2, if_neg fun z => h2 ((phi_eq h4 hx hy).mp z)]
  · rw [if_neg h, if_neg fun z => h ((phi_le h4 hx hy).mp z)]
def fourS (c : Cf) : List Int := [mx (nums 0 c.ts), mx (nums 1 c.ts), c.E, c.W]
theorem four4 (c : Cf) : (fourS c).length ≤ 4 := Nat.le_refl 4
theorem good_phi (c : Cf) : Good c (phi (fourS c) (mx (nums 0 c.ts))) (phi (fourS c) (mx (nums 1 c.ts))) (phi (fourS c) c.E) (phi (fourS c) c.W) where
  ha := nth_mem _
  hb := nth_mem _
  he := nth_mem _
  hw := nth_mem _
  sa := fun h => by rw [sg_phi (four4 c) (by simp [fourS]) (by simp [fourS]), ← sg_mx h]
  sb := fun h => by rw [sg_phi (four4 c) (by simp [fourS]) (by simp [fourS]), ← sg_mx h]
  sw := sg_phi (four4 c) (by simp [fourS]) (by simp [fourS])
theorem mem_rep {m : Nat} {a y : Int} : y ∈ List.replicate m a ↔ m ≠ 0 ∧ y = a := List.mem_replicate
/-- the greatest beside few things is the greatest, renamed -/
theorem val_phi (hk : KeepOk k) (ht : Two c.ts) (hm : 2 ≤ most) (o e w : Bool) :
    let F := fam c most (phi (fourS c) (mx (nums 0 c.ts))) (phi (fourS c) (mx (nums 1 c.ts))) (phi (fourS c) c.E) (phi (fourS c) c.W)
    (val k c (.mst o e w) = .non ∧ val k F (.mst o e w) = .non) ∨ ∃ m ∈ fourS c, val k c (.mst o e w) = .int m ∧ val k F (.mst o e w) = .int (phi (fourS c) m) := by
  intro F
  have hl : ∀ (c : Cf), Two c.ts → ∀ x, x ∈ (if o = true then numbersOf k c.ts else []) ++ ((if e = true then [c.E] else []) ++ (if w = true then [c.W] else [])) ↔ (o = true ∧ ((in0 k = true ∧ x ∈ nums 0 c.ts) ∨ (in1 k = true ∧ x ∈ nums 1 c.ts))) ∨ (e = true ∧ x = c.E) ∨ (w = true ∧ x = c.W) := by
    intro c ht x
    rw [List.mem_append, List.mem_append]
    have h1 : x ∈ (if o = true then numbersOf k c.ts else []) ↔ o = true ∧ x ∈ numbersOf k c.ts := mem_ifL
    have h2 : x ∈ (if e = true then [c.E] else []) ↔ e = true ∧ x ∈ [c.E] := mem_ifL
    have h3 : x ∈ (if w = true then [c.W] else []) ↔ w = true ∧ x ∈ [c.W] := mem_ifL
    rw [h1, h2, h3, (nums_two hk ht).mem_iff, List.mem_append, mem_ifL, mem_ifL, List.mem_singleton, List.mem_singleton]
  have hc := hl c ht
  have hF := hl F (fam_two c most _ _ _ _)
  have eE : F.E = phi (fourS c) c.E := rfl
  have eW : F.W = phi (fourS c) c.W := rfl
  have e0 : nums 0 F.ts = List.replicate (min (nums 0 c.ts).length most) (phi (fourS c) (mx (nums 0 c.ts))) := fam_n0 c most _ _ _ _
  have e1 : nums 1 F.ts = List.replicate (min (nums 1 c.ts).length most) (phi (fourS c) (mx (nums 1 c.ts))) := fam_n1 c most _ _ _ _
  rw [eE, eW, e0, e1] at hF
  have v1 : val k c (.mst o e w) = maxV ((if o = true then numbersOf k c.ts else []) ++ ((if e = true then [c.E] else []) ++ (if w = true then [c.W] else []))) := rfl
  have v2 : val k F (.mst o e w) = maxV ((if o = true then numbersOf k F.ts else []) ++ ((if e = true then [F.E] else []) ++ (if w = true then [F.W] else []))) := rfl
  rw [v1, v2]
  rw [eE, eW]
  generalize hlc : (if o = true then numbersOf k c.ts else []) ++ ((if e = true then [c.E] else []) ++ (if w = true then [c.W] else [])) = lc at hc ⊢
  generalize hlF : (if o = true then numbersOf k F.ts else []) ++ ((if e = true then [phi (fourS c) c.E] else []) ++ (if w = true then [phi (fourS c) c.W] else [])) = lF at hF ⊢
  clear hlc hlF v1 v2
  have mnz : ∀ l : List Int, min l.length most ≠ 0 ↔ l ≠ [] := fun l => by
    have : l.length = 0 ↔ l = [] := List.length_eq_zero_iff
    constructor
    · intro h z
      rw [z] at h
      simp at h
    · intro h z
      exact h (this.mp (by omega))
  have s0 : mx (nums 0 c.ts) ∈ fourS c := by simp [fourS]
  have s1 : mx (nums 1 c.ts) ∈ fourS c := by simp [fourS]
  have sE : c.E ∈ fourS c := by simp [fourS]
  have sW : c.W ∈ fourS c := by simp [fourS]
  cases hv : maxV lc with
  | non =>
    refine .inl ⟨rfl, maxV_nil_iff.mpr ?_⟩
    have hn := maxV_nil_iff.mp hv
    rw [hn] at hc
    apply List.eq_nil_iff_forall_not_mem.mpr
    intro y hy
    rcases (hF y).mp hy with ⟨ho, ⟨h, h'⟩ | ⟨h, h'⟩⟩ | ⟨h, _⟩ | ⟨h, _⟩
    · obtain ⟨z, _⟩ := mem_rep.mp h'
      have := mx_spec ((mnz _).mp z)
      exact absurd ((hc _).mpr (.inl ⟨ho, .inl ⟨h, this.1⟩⟩)) (by simp)
    · obtain ⟨z, _⟩ := mem_rep.mp h'
      have := mx_spec ((mnz _).mp z)
      exact absurd ((hc _).mpr (.inl ⟨ho, .inr ⟨h, this.1⟩⟩)) (by simp)
    · exact absurd ((hc _).mpr (.inr (.inl ⟨h, rfl⟩))) (by simp)
    · exact absurd ((hc _).mpr (.inr (.inr ⟨h, rfl⟩))) (by simp)
  | int m =>
    obtain ⟨h1, h2⟩ := maxV_int_iff.mp hv
    have hle : ∀ y ∈ lF, ∃ x ∈ lc, x ∈ fourS c ∧ y = phi (fourS c) x := by
      intro y hy
      rcases (hF y).mp hy with ⟨ho, ⟨h, h'⟩ | ⟨h, h'⟩⟩ | ⟨h, h'⟩ | ⟨h, h'⟩
      · obtain ⟨z, e⟩ := mem_rep.mp h'
        exact ⟨_, (hc _).mpr (.inl ⟨ho, .inl ⟨h, (mx_spec ((mnz _).mp z)).1⟩⟩), s0, e⟩
      · obtain ⟨z, e⟩ := mem_rep.mp h'
        exact ⟨_, (hc _).mpr (.inl ⟨ho, .inr ⟨h, (mx_spec ((mnz _).mp z)).1⟩⟩), s1, e⟩
      · exact ⟨_, (hc _).mpr (.inr (.inl ⟨h, rfl⟩)), sE, h'⟩
      · exact ⟨_, (hc _).mpr (.inr (.inr ⟨h, rfl⟩)), sW, h'⟩
    have hin : m ∈ fourS c ∧ phi (fourS c) m ∈ lF := by
      rcases (hc m).mp h1 with ⟨ho, ⟨h, h'⟩ | ⟨h, h'⟩⟩ | ⟨h, h'⟩ | ⟨h, h'⟩
      · have hne : nums 0 c.ts ≠ [] := fun z => by rw [z] at h'; cases h'
        obtain ⟨x1, x2⟩ := mx_spec hne
        have e : m = mx (nums 0 c.ts) := by
          have := x2 m h'
          have := h2 _ ((hc _).mpr (.inl ⟨ho, .inl ⟨h, x1⟩⟩))
          omega
        rw [e]
        exact ⟨s0, (hF _).mpr (.inl ⟨ho, .inl ⟨h, mem_rep.mpr ⟨(mnz _).mpr hne, rfl⟩⟩⟩)⟩
      · have hne : nums 1 c.ts ≠ [] := fun z => by rw [z] at h'; cases h'
        obtain ⟨x1, x2⟩ := mx_spec hne
        have e : m = mx (nums 1 c.ts) := by
          have := x2 m h'
          have := h2 _ ((hc _).mpr (.inl ⟨ho, .inr ⟨h, x1⟩⟩))
          omega
        rw [e]
        exact ⟨s1, (hF _).mpr (.inl ⟨ho, .inr ⟨h, mem_rep.mpr ⟨(mnz _).mpr hne, rfl⟩⟩⟩)⟩
      · rw [h']
        exact ⟨sE, (hF _).mpr (.inr (.inl ⟨h, rfl⟩))⟩
      · rw [h']
        exact ⟨sW, (hF _).mpr (.inr (.inr ⟨h, rfl⟩))⟩
    refine .inr ⟨m, hin.1, rfl, maxV_int_iff.mpr ⟨hin.2, fun y hy => ?_⟩⟩
    obtain ⟨x, hx, hs, e⟩ := hle y hy
    rw [e]
    exact (phi_le (four4 c) hs hin.1).mpr (h2 x hx)
  | _ => cases lc <;> cases hv
theorem fin_mst (hk : KeepOk k) (ht : Two c.ts) (hm : 2 ≤ most) {o e w o' e' w' : Bool}
    (H : ∀ a b e1 w1, Good c a b e1 w1 → val k (fam c most a b e1 w1) (.mst o e w) = val k (fam c most a b e1 w1) (.mst o' e' w')) : val k c (.mst o e w) = val k c (.mst o' e' w') := by
  have h := H _ _ _ _ (good_phi c)
  have h1 := val_phi hk ht hm o e w
  have h2 := val_phi hk ht hm o' e' w'
  rcases h1 with ⟨a1, a2⟩ | ⟨m1, s1, a1, a2⟩ <;> rcases h2 with ⟨b1, b2⟩ | ⟨m2, s2, b1, b2⟩
  · rw [a1, b1]
  · rw [a2, b2] at h
    cases h
  · rw [a2, b2] at h
    cases h
  · rw [a2, b2] at h
    injection h with h
    rw [a1, b1, (phi_eq (four4 c) s1 s2).mp h]
end
end Kc

/-! A program that is said to be right is right; the right programs are said to be right. -/
namespace Kc
open PySem L2 Dl
theorem fsome_none {α β : Type} {f : α → Option β} {l : List α} (h : l.findSome? f = none) : ∀ x ∈ l, f x = none := List.findSome?_eq_none_iff.mp h
theorem right_at {p : Prog} (h : isRight p = true) {many : Nat} (hm : many < 2 * mostOthers p + 2) : lieAt p (mostOthers p) many = none := by
  unfold isRight at h
  have h : lie p = none := Option.isNone_iff_eq_none.mp h
  exact fsome_none h many (List.mem_range.mpr hm)
theorem at_new {p : Prog} {most many : Nat} (h : lieAt p most many = none) (hm : many ≤ 2 * most) {c : List Thing} (hc : c ∈ crowds many most) {t : Thing} (ht : t ∈ allThings) : (firstLie p p.new c (c ++ [t]) none (some t)).isSome = false := by
  cases e : (firstLie p p.new c (c ++ [t]) none (some t)).isSome with
  | false => rfl
  | true =>
    have := lieAt_some.mpr (.inl ⟨hm, new_some.mpr ⟨c, hc, t, ht, e⟩⟩)
    rw [h] at this
    cases this
theorem at_drop {p : Prog} {most many : Nat} (h : lieAt p most (many + 1) = none) {c : List Thing} (hc : c ∈ crowds many most) {t : Thing} (ht : t ∈ allThings) : (firstLie p p.drop (c ++ [t]) c (some t) none).isSome = false := by
  cases e : (firstLie p p.drop (c ++ [t]) c (some t) none).isSome with
  | false => rfl
  | true =>
    have := lieAt_some.mpr (.inr ⟨Nat.succ_pos many, old_some.mpr ⟨c, hc, t, ht, .inl e⟩⟩)
    rw [h] at this
    cases this
theorem at_change {p : Prog} {most many : Nat} (h : lieAt p most (many + 1) = none) {c : List Thing} (hc : c ∈ crowds many most) {t u : Thing} (ht : t ∈ allThings) (hu : u ∈ allThings) : (firstLie p p.change (c ++ [t]) (c ++ [u]) (some t) (some u)).isSome = false := by
  cases e : (firstLie p p.change (c ++ [t]) (c ++ [u]) (some t) (some u)).isSome with
  | false => rfl
  | true =>
    have := lieAt_some.mpr (.inr ⟨Nat.succ_pos many, old_some.mpr ⟨c, hc, t, ht, .inr ⟨u, hu, e⟩⟩⟩)
    rw [h] at this
    cases this
theorem fine_of {n : Pn} {p : Prog} {ss : List Step} {b a : List Thing} {el nw : Option Thing} {c : Cf} (h : CfOk n p.keeps ⟨p.keeps, a, el, nw⟩ c) (hs : ∀ s ∈ ss, StepOk n p.keeps s) (hb : b.Perm c.before) (hf : (firstLie p ss b a el nw).isSome = false) : Fine p.keeps c (runS p.keeps c ss (ini p.keeps c.ek)) := by
  have r := rel_run h (rel_ini p.keeps c hb) hs
  intro i k hk
  have hi : i < p.keeps.length := (List.getElem?_eq_some_iff.mp hk).1
  have e : at_ (run ⟨p.keeps, a, el, nw⟩ ss (trueValues p.keeps b)) i = at_ (trueValues p.keeps a) i := by
    apply Classical.byContradiction
    intro z
    have := fl_some.mpr ⟨i, hi, z⟩
    rw [hf] at this
    cases this
  rw [at_some (r.at_ i k hk).1] at e
  rw [e, ← val_aft k c, ← true_perm h.around]
  refine at_some ?_
  unfold trueValues
  rw [List.getElem?_map, hk] <;> rfl
theorem fl_of {n : Pn} {p : Prog} {ss : List Step} {b a : List Thing} {el nw : Option Thing} {c : Cf} (h : CfOk n p.keeps ⟨p.keeps, a, el, nw⟩ c) (hs : ∀ s ∈ ss, StepOk n p.keeps s) (hb : b.Perm c.before) (hf : Fine p.keeps c (runS p.keeps c ss (ini p.keeps c.ek))) : (firstLie p ss b a el nw).isSome = false := by
  have e := (fine_iff h hs hb).mpr hf
  cases hh : (firstLie p ss b a el nw).isSome with
  | false => rfl
  | true =>
    obtain ⟨i, _, z⟩ := fl_some.mp hh
    exact absurd (congrArg (fun l => at_ l i) e) z
theorem thing_in {z w : Int} (hz : z = 0 ∨ z = 1) (hw : w ∈ numbers) : (z, w) ∈ allThings := by
  have hw : w ∈ [2, 5, 11, 23] := hw
  simp only [List.mem_cons, List.not_mem_nil, or_false] at hw
  rcases hz with rfl | rfl <;> rcases hw with rfl | rfl | rfl | rfl <;> decide
/-- who takes part in a deed -/
structure Who (n : Pn) (ek wk : Option Int) : Prop where
  e0 : n = .new → ek = none
  e1 : n ≠ .new → ∃ z, ek = some z ∧ (z = 0 ∨ z = 1)
  w0 : n = .drop → wk = none
  w1 : n ≠ .drop → ∃ z, wk = some z ∧ (z = 0 ∨ z = 1)
theorem cfOk_of {n : Pn} {ks : List Keep} {c : Cf} (h : Who n c.ek c.wk) {a : List Thing} (ha : a.Perm c.after) : CfOk n ks ⟨ks, a, c.el, c.nw⟩ c := ⟨rfl, ha, rfl, rfl, fun hn => (h.e1 hn).imp fun _ z => z.1, fun hn => (h.w1 hn).imp fun _ z => z.1⟩
theorem fam_fine {p : Prog} (hv : Valid p) (hr : isRight p = true) {n : Pn} {c : Cf} (hw : Who n c.ek c.wk) {a b e w : Int} (g : Good c a b e w) :
    Fine p.keeps (fam c (mostOthers p) a b e w) (runS p.keeps (fam c (mostOthers p) a b e w) (p.steps n) (ini p.keeps c.ek)) := by
  let F := fam c (mostOthers p) a b e w
  have hcr : F.ts ∈ crowds (min (nums 0 c.ts).length (mostOthers p) + min (nums 1 c.ts).length (mostOthers p)) (mostOthers p) := crowd_in (Nat.min_le_right _ _) (Nat.min_le_right _ _) g.ha g.hb
  have hle : min (nums 0 c.ts).length (mostOthers p) + min (nums 1 c.ts).length (mostOthers p) ≤ 2 * mostOthers p := by omega
  generalize min (nums 0 c.ts).length (mostOthers p) + min (nums 1 c.ts).length (mostOthers p) = many at hcr hle
  show Fine p.keeps F (runS p.keeps F (p.steps n) (ini p.keeps F.ek))
  have hwF : Who n F.ek F.wk := hw
  cases n with
  | new =>
    have he : F.el = none := by
      show F.ek.map _ = none
      rw [show F.ek = none from hw.e0 rfl] <;> rfl
    obtain ⟨z, hz, hz2⟩ := hw.w1 (by decide)
    have hn : F.nw = some (z, w) := by
      show F.wk.map _ = _
      rw [show F.wk = some z from hz] <;> rfl
    have hb : F.before = F.ts := by
      show F.ts ++ F.el.toList = _
      rw [he]
      exact List.append_nil _
    have ha : F.after = F.ts ++ [(z, w)] := by
      show F.ts ++ F.nw.toList = _
      rw [hn]
      rfl
    have ok := cfOk_of (ks := p.keeps) hwF (a := F.ts ++ [(z, w)]) (by rw [ha])
    rw [he, hn] at ok
    exact fine_of ok (hv.st .new) (by rw [hb]) (at_new (right_at hr (by omega)) hle hcr (thing_in hz2 g.hw))
  | change =>
    obtain ⟨y, hy, hy2⟩ := hw.e1 (by decide)
    obtain ⟨z, hz, hz2⟩ := hw.w1 (by decide)
    have he : F.el = some (y, e) := by
      show F.ek.map _ = _
      rw [show F.ek = some y from hy] <;> rfl
    have hn : F.nw = some (z, w) := by
      show F.wk.map _ = _
      rw [show F.wk = some z from hz] <;> rfl
    have hb : F.before = F.ts ++ [(y, e)] := by
      show F.ts ++ F.el.toList = _
      rw [he]
      rfl
    have ha : F.after = F.ts ++ [(z, w)] := by
      show F.ts ++ F.nw.toList = _
      rw [hn]
      rfl
    have ok := cfOk_of (ks := p.keeps) hwF (a := F.ts ++ [(z, w)]) (by rw [ha])
    rw [he, hn] at ok
    exact fine_of ok (hv.st .change) (by rw [hb]) (at_change (right_at hr (by omega)) hcr (thing_in hy2 g.he) (thing_in hz2 g.hw))
  | drop =>
    obtain ⟨y, hy, hy2⟩ := hw.e1 (by decide)
    have he : F.el = some (y, e) := by
      show F.ek.map _ = _
      rw [show F.ek = some y from hy] <;> rfl
    have hn : F.nw = none := by
      show F.wk.map _ = none
      rw [show F.wk = none from hw.w0 rfl] <;> rfl
    have hb : F.before = F.ts ++ [(y, e)] := by
      show F.ts ++ F.el.toList = _
      rw [he]
      rfl
    have ha : F.after = F.ts := by
      show F.ts ++ F.nw.toList = _
      rw [hn]
      exact List.append_nil _
    have ok := cfOk_of (ks := p.keeps) hwF (a := F.ts) (by rw [ha])
    rw [he, hn] at ok
    exact fine_of ok (hv.st .drop) (by rw [hb]) (at_drop (right_at hr (by omega)) hcr (thing_in hy2 g.he))
/-- behind an empty little is added -/
def Bnd (n : Pn) (ks : List Keep) (l : List Step) : Prop := ∀ i k, ks[i]? = some k → (k.what = .count ∨ k.what = .sum) → l.any (isEmp i) = true → ∀ wk : Option Int, (n = .drop → wk = none) → (n ≠ .drop → wk ≠ none) → l.countP (exAdd i wk) ≤ 1 + (if inO k.kind wk = true then 1 else 0)
theorem asks_len {p : Prog} {n : Pn} (h : ∃ s ∈ p.steps n, s.asksNone = true) : 0 + (p.steps n).length ≤ mostOthers p := by
  obtain ⟨s, hs, ha⟩ := h
  have e : asksNone p = true := by
    unfold asksNone
    refine List.any_eq_true.mpr ⟨s, ?_, ha⟩
    cases n with
    | new => exact List.mem_append_left _ (List.mem_append_left _ hs)
    | change => exact List.mem_append_left _ (List.mem_append_right _ hs)
    | drop => exact List.mem_append_right _ hs
  unfold mostOthers
  rw [if_pos e, Nat.zero_add]
  cases n with
  | new => show p.new.length ≤ _; omega
  | change => show p.change.length ≤ _; omega
  | drop => show p.drop.length ≤ _; omega
theorem sound {p : Prog} (hv : Valid p) (hr : isRight p = true) {n : Pn} (hbd : Bnd n p.keeps (p.steps n)) {c : Cf} (ht : Two c.ts) (hw : Who n c.ek c.wk) : Fine p.keeps c (runS p.keeps c (p.steps n) (ini p.keeps c.ek)) := by
  have h2 := mostOthers_ge p
  have hty0 : ∀ i k, p.keeps[i]? = some k → SyT k.what (ini p.keeps c.ek i) := fun i k hk => by
    unfold ini
    rw [kAt_of hk]
    exact syT_ini _ _
  have same : ∀ {a b e w : Int}, Good c a b e w → runS p.keeps (fam c (mostOthers p) a b e w) (p.steps n) (ini p.keeps c.ek) = runS p.keeps c (p.steps n) (ini p.keeps c.ek) := fun g =>
    run_same (n := n) (fam_alike hv.ok ht (by omega) g) (fun hn z => by
      obtain ⟨y, hy, _⟩ := hw.e1 hn
      rw [z] at hy
      cases hy) (low_ini _ _) hty0 (hv.st n) asks_len
  have fine : ∀ {a b e w : Int}, Good c a b e w → Fine p.keeps (fam c (mostOthers p) a b e w) (runS p.keeps c (p.steps n) (ini p.keeps c.ek)) := fun g => by
    have := fam_fine hv hr hw g
    rw [same g] at this
    exact this
  have r := rel_run (cfOk_of (ks := p.keeps) hw (List.Perm.refl c.after)) (rel_ini p.keeps c (List.Perm.refl c.before)) (hv.st n)
  intro i k hk
  have hty := (r.at_ i k hk).2
  have hkk := hv.ok k (List.mem_of_getElem? hk)
  have H : ∀ a b e w, Good c a b e w → val k (fam c (mostOthers p) a b e w) (runS p.keeps c (p.steps n) (ini p.keeps c.ek) i) = val k (fam c (mostOthers p) a b e w) (aftS k.what (inO k.kind c.wk)) := fun a b e w g => fine g i k hk
  have bound : (k.what = .count ∨ k.what = .sum) → ∀ o, rstS (runS p.keeps c (p.steps n) (ini p.keeps c.ek) i) = some o → o ≤ 1 + (if inO k.kind c.wk = true then 1 else 0) := fun hwk o ho => by
    obtain ⟨h3, h4⟩ := rst_ini ho
    have h5 := hbd i k hk hwk h3 c.wk hw.w0 (fun hn z => by
      obtain ⟨y, hy, _⟩ := hw.w1 hn
      rw [z] at hy
      cases hy)
    split at h5 <;> (try rw [if_pos (by assumption)]) <;> (try rw [if_neg (by assumption)]) <;> omega
  generalize runS p.keeps c (p.steps n) (ini p.keeps c.ek) i = s at hty H bound ⊢
  cases hk2 : k.what with
  | count =>
    rw [hk2] at hty H bound
    obtain ⟨b, o, rfl⟩ := hty
    exact fin_cnt hkk ht h2 (fun hb => bound (.inl rfl) o (by rw [hb]; rfl)) H
  | sum =>
    rw [hk2] at hty H bound
    obtain ⟨b, a, e, w, rfl⟩ := hty
    exact fin_sum hkk ht h2 (fun hb => bound (.inr rfl) (e + w) (by rw [hb]; rfl)) H
  | most =>
    rw [hk2] at hty H
    obtain ⟨o, e, w, rfl⟩ := hty
    exact fin_mst hkk ht h2 H
  | any =>
    rw [hk2] at hty H
    obtain ⟨o, d, rfl⟩ := hty
    exact fin_any hkk ht h2 H
/-! ### the law's programs -/
def baseS (i : Nat) (k : Keep) : Step := under k .newer (.add i (match k.what with
  | .sum => .newer
  | _ => .one))
def gM (n : Pn) (i : Nat) (k : Keep) (l : List Step) : Nat := l.countP (isEmp i) + l.countP (isAdd i) + (if n ≠ .drop ∧ baseS i k ∉ l then 1 else 0)
theorem gM_perm {n : Pn} {i : Nat} {k : Keep} {l m : List Step} (h : l.Perm m) : gM n i k l = gM n i k m := by
  unfold gM
  have e : (baseS i k ∉ l) = (baseS i k ∉ m) := by rw [h.mem_iff]
  rw [h.countP_eq, h.countP_eq]
  simp only [e]
theorem isAdd_base (i : Nat) (k : Keep) : isAdd i (baseS i k) = true := by
  unfold baseS under isAdd
  cases k.kind <;> exact decide_eq_true rfl
theorem not_both (i : Nat) (s : Step) : (if isEmp i s = true then 1 else 0) + (if isAdd i s = true then 1 else 0) ≤ 1 := by
  obtain ⟨te, tc⟩ := s
  have e1 : ∀ j s', isEmp i ⟨te, .add j s'⟩ = false := fun _ _ => rfl
  have e2 : ∀ j, isAdd i ⟨te, .empty j⟩ = false := fun _ => rfl
  cases tc with
  | add j s' => rw [e1, if_neg Bool.false_ne_true]; split <;> omega
  | empty j => rw [e2, if_neg Bool.false_ne_true]; split <;> omega
  | _ => exact Nat.zero_le 1
theorem gM_cons {n : Pn} {i : Nat} {k : Keep} {l : List Step} (s : Step) : gM n i k (s :: l) ≤ gM n i k l + 1 := by
  unfold gM
  rw [List.countP_cons, List.countP_cons]
  have h := not_both i s
  have h2 : (if n ≠ .drop ∧ baseS i k ∉ s :: l then 1 else 0) ≤ (if n ≠ .drop ∧ baseS i k ∉ l then 1 else 0) := by
    split
    · rename_i z
      rw [if_pos ⟨z.1, fun y => z.2 (List.mem_cons_of_mem _ y)⟩]
      exact Nat.le_refl _
    · exact Nat.zero_le _
  omega
theorem perm_erase {α : Type} : ∀ {l : List α} {i : Nat} {x : α}, l[i]? = some x → l.Perm (x :: l.eraseIdx i)
  | [], _, _, h => by cases h
  | y :: l, 0, x, h => by
    cases h
    exact .refl _
  | y :: l, i + 1, x, h => by
    have ih := perm_erase (l := l) (i := i) (x := x) (by simpa using h)
    exact (ih.cons y).trans (.swap _ _ _)
theorem gM_tail {n : Pn} {i : Nat} {k : Keep} {l : List Step} (s : Step) : gM n i k l ≤ gM n i k (s :: l) := by
  unfold gM
  rw [List.countP_cons, List.countP_cons]
  by_cases h : n ≠ .drop ∧ baseS i k ∉ l
  · rw [if_pos h]
    by_cases h2 : baseS i k = s
    · rw [← h2, isAdd_base]
      simp only [reduceIte]
      omega
    · have h3 : n ≠ .drop ∧ baseS i k ∉ s :: l := ⟨h.1, fun z => (List.mem_cons.mp z).elim h2 h.2⟩
      rw [if_pos h3]
      omega
  · rw [if_neg h]
    omega
theorem gM_erase {n : Pn} {i : Nat} {k : Keep} {l : List Step} (j : Nat) : gM n i k (l.eraseIdx j) ≤ gM n i k l := by
  cases hj : l[j]? with
  | none =>
    rw [List.eraseIdx_of_length_le (List.getElem?_eq_none_iff.mp hj)]
    exact Nat.le_refl _
  | some x =>
    rw [gM_perm (perm_erase hj)]
    exact gM_tail x
theorem perm_put {α : Type} (l : List α) (j : Nat) (x : α) : (l.take j ++ [x] ++ l.drop j).Perm (x :: l) := by
  have h : (l.take j ++ [x] ++ l.drop j).Perm ([x] ++ l.take j ++ l.drop j) := (List.perm_append_comm).append_right _
  rw [List.append_assoc [x], List.take_append_drop] at h
  exact h
theorem gM_sp {n m : Pn} {i : Nat} {k : Keep} {ks : List Keep} {l l' : List Step} (h : Sp m ks l l') : gM n i k l' ≤ gM n i k l + 1 := by
  cases h with
  | same => omega
  | move a j s hs hj =>
    rw [gM_perm (perm_put _ _ _), ← gM_perm (perm_erase hs)]
    omega
  | out a =>
    have := gM_erase (n := n) (i := i) (k := k) (l := l) a
    omega
  | put a s h5 _ =>
    rw [gM_perm (perm_put _ _ _)]
    exact gM_cons s
  | set a s ha _ =>
    have hs : (l.set a s)[a]? = some s := List.getElem?_set_self ha
    have he : (l.set a s).eraseIdx a = l.eraseIdx a := by
      apply List.ext_getElem?
      intro j
      rw [List.getElem?_eraseIdx, List.getElem?_eraseIdx]
      split
      · rw [List.getElem?_set_ne (by omega)]
      · rw [List.getElem?_set_ne (by omega)]
    rw [gM_perm (perm_erase hs), he]
    have h1 := gM_cons (n := n) (i := i) (k := k) (l := l.eraseIdx a) s
    have h2 := gM_erase (n := n) (i := i) (k := k) (l := l) a
    omega
theorem countP_flat {α β : Type} {f : α → List β} {p : β → Bool} {j : α} {c : Nat} : ∀ {l : List α}, l.Nodup → (∀ x ∈ l, x ≠ j → (f x).countP p = 0) → (f j).countP p ≤ c → (l.flatMap f).countP p ≤ c
  | [], _, _, _ => Nat.zero_le _
  | x :: l, hn, h0, hc => by
    rw [List.flatMap_cons, List.countP_append]
    obtain ⟨h1, h2⟩ := List.nodup_cons.mp hn
    by_cases e : x = j
    · subst e
      have : (l.flatMap f).countP p ≤ 0 := by
        rw [List.countP_flatMap]
        have : (l.map (List.countP p ∘ f)).sum = 0 := List.sum_eq_zero_iff_forall_eq_nat.mpr fun y hy => by
          obtain ⟨z, hz, rfl⟩ := List.mem_map.mp hy
          exact h0 z (List.mem_cons_of_mem _ hz) fun e => h1 (by rw [← e]; exact hz)
        omega
      omega
    · rw [h0 x List.mem_cons_self e, Nat.zero_add]
      exact countP_flat h2 (fun y hy => h0 y (List.mem_cons_of_mem _ hy)) hc
def rStep : Pn → Nat → Keep → List Step
  | .new => rNew
  | .change => rChange
  | .drop => rDrop
theorem right_steps (ks : List Keep) (n : Pn) : (rightP ks).steps n = (List.range ks.length).flatMap fun i => rStep n i (kAt ks i) := by cases n <;> rfl
/-- the touch of a right step is of its keep -/
theorem r_touch {n : Pn} {j : Nat} {k : Keep} : ∀ s ∈ rStep n j k, s.touch = .add j .one ∨ s.touch = .add j .newer ∨ s.touch = .less j .one ∨ s.touch = .less j .elder ∨ s.touch = .lift j ∨ s.touch = .mark j ∨ s.touch = .again j := by
  have hu : ∀ (t : Int → Test) (c : Touch), (under k t c).touch = c := fun t c => by unfold under; cases k.kind <;> rfl
  intro s hs
  cases n with
  | new =>
    have hs : s ∈ rNew j k := hs
    unfold rNew at hs
    cases hw : k.what <;> rw [hw] at hs <;> (rw [List.mem_singleton.mp hs]; rw [hu]; simp)
  | change =>
    have hs : s ∈ rChange j k := hs
    unfold rChange at hs
    cases hw : k.what with
    | count =>
      rw [hw] at hs
      have hs : s ∈ (if k.kind = none then [] else [under k .elder (.less j .one), under k .newer (.add j .one)] : List Step) := hs
      split at hs
      · cases hs
      · rcases List.mem_cons.mp hs with e | hs
        · rw [e, hu]; simp
        · rw [List.mem_singleton.mp hs, hu]; simp
    | sum =>
      rw [hw] at hs
      rcases List.mem_cons.mp hs with e | hs
      · rw [e, hu]; simp
      · rw [List.mem_singleton.mp hs, hu]; simp
    | most => rw [hw] at hs; rw [List.mem_singleton.mp hs]; simp
    | any => rw [hw] at hs; rw [List.mem_singleton.mp hs]; simp
  | drop =>
    have hs : s ∈ rDrop j k := hs
    unfold rDrop at hs
    cases hw : k.what with
    | count => rw [hw] at hs; rw [List.mem_singleton.mp hs, hu]; simp
    | sum => rw [hw] at hs; rw [List.mem_singleton.mp hs, hu]; simp
    | most => rw [hw] at hs; rw [List.mem_singleton.mp hs]; simp
    | any => rw [hw] at hs; rw [List.mem_singleton.mp hs]; simp
theorem r_emp {n : Pn} {j i : Nat} {k : Keep} : (rStep n j k).countP (isEmp i) = 0 := by
  rw [List.countP_eq_zero]
  intro s hs
  have h := r_touch s hs
  unfold isEmp
  rcases h with h | h | h | h | h | h | h <;> rw [h] <;> exact Bool.false_ne_true
theorem r_add {n : Pn} {j i : Nat} {k : Keep} (hij : j ≠ i) : (rStep n j k).countP (isAdd i) = 0 := by
  rw [List.countP_eq_zero]
  intro s hs
  have h := r_touch s hs
  unfold isAdd
  rcases h with h | h | h | h | h | h | h <;> rw [h] <;> first | exact Bool.false_ne_true | (intro z; exact hij (of_decide_eq_true z))
theorem flat_zero {α β : Type} {f : α → List β} {p : β → Bool} (l : List α) (h : ∀ x, (f x).countP p = 0) : (l.flatMap f).countP p = 0 := by
  rw [List.countP_eq_zero]
  intro s hs
  obtain ⟨x, _, hx⟩ := List.mem_flatMap.mp hs
  exact List.countP_eq_zero.mp (h x) s hx
theorem gM_right {n : Pn} {ks : List Keep} {i : Nat} {k : Keep} (hk : ks[i]? = some k) (hw : k.what = .count ∨ k.what = .sum) : gM n i k ((rightP ks).steps n) ≤ if n = .drop then 0 else 1 := by
  have hi : i < ks.length := (List.getElem?_eq_some_iff.mp hk).1
  rw [right_steps]
  have h1 : ((List.range ks.length).flatMap fun j => rStep n j (kAt ks j)).countP (isEmp i) = 0 := flat_zero _ fun j => r_emp
  have h2 : ∀ c, (rStep n i k).countP (isAdd i) ≤ c → ((List.range ks.length).flatMap fun j => rStep n j (kAt ks j)).countP (isAdd i) ≤ c := fun c hc => by
    refine countP_flat (j := i) List.nodup_range (fun j _ e => r_add e) ?_
    rw [kAt_of hk]
    exact hc
  have hb : baseS i k ∈ rStep n i k → baseS i k ∈ (List.range ks.length).flatMap fun j => rStep n j (kAt ks j) := fun h => by
    refine List.mem_flatMap.mpr ⟨i, List.mem_range.mpr hi, ?_⟩
    rw [kAt_of hk]
    exact h
  unfold gM
  rw [h1, Nat.zero_add]
  generalize (List.range ks.length).flatMap (fun j => rStep n j (kAt ks j)) = L at h2 hb
  obtain ⟨kw, kk⟩ := k
  have hu : ∀ (t : Int → Test) (c : Touch), (under ⟨kw, kk⟩ t c).touch = c := fun t c => by unfold under; cases kk <;> rfl
  have ia : ∀ (t : Int → Test) (c : Touch), isAdd i (under ⟨kw, kk⟩ t c) = isAdd i ⟨none, c⟩ := fun t c => by unfold isAdd; rw [hu]
  cases n with
  | new =>
    have hin : baseS i ⟨kw, kk⟩ ∈ L := by
      refine hb ?_
      rcases hw with e | e <;> (have e : kw = _ := e; subst e; exact List.mem_cons_self)
    have h3 := h2 1 (by
      rcases hw with e | e <;> (have e : kw = _ := e; subst e; exact List.countP_le_length))
    rw [if_neg fun z => z.2 hin, if_neg (by decide)]
    exact h3
  | change =>
    rw [if_neg (show ¬ Pn.change = .drop by decide)]
    rcases hw with e | e
    · have e : kw = .count := e
      subst e
      cases kk with
      | none =>
        have h3 := h2 0 (Nat.le_refl 0)
        have : (if Pn.change ≠ .drop ∧ baseS i ⟨.count, none⟩ ∉ L then 1 else 0) ≤ 1 := by split <;> omega
        omega
      | some z =>
        have hin : baseS i ⟨.count, some z⟩ ∈ L := hb (List.mem_cons_of_mem _ List.mem_cons_self)
        have h3 := h2 1 (by
          show List.countP (isAdd i) [under ⟨.count, some z⟩ .elder (.less i .one), under ⟨.count, some z⟩ .newer (.add i .one)] ≤ 1
          rw [List.countP_cons, ia]
          show _ + (if false = true then 1 else 0) ≤ 1
          exact List.countP_le_length)
        rw [if_neg fun z => z.2 hin]
        exact h3
    · have e : kw = .sum := e
      subst e
      have hin : baseS i ⟨.sum, kk⟩ ∈ L := hb (List.mem_cons_of_mem _ List.mem_cons_self)
      have h3 := h2 1 (by
        show List.countP (isAdd i) [under ⟨.sum, kk⟩ .elder (.less i .elder), under ⟨.sum, kk⟩ .newer (.add i .newer)] ≤ 1
        rw [List.countP_cons, ia]
        show _ + (if false = true then 1 else 0) ≤ 1
        exact List.countP_le_length)
      rw [if_neg fun z => z.2 hin]
      exact h3
  | drop =>
    have h3 := h2 0 (by
      rcases hw with e | e <;> (have e : kw = _ := e; subst e)
      · show List.countP (isAdd i) [under ⟨.count, kk⟩ .elder (.less i .one)] ≤ 0
        rw [List.countP_cons, ia]
        exact Nat.le_refl 0
      · show List.countP (isAdd i) [under ⟨.sum, kk⟩ .elder (.less i .elder)] ≤ 0
        rw [List.countP_cons, ia]
        exact Nat.le_refl 0)
    rw [if_neg fun z => z.1 rfl, if_pos rfl]
    exact h3
theorem with_keeps (p : Prog) (n : Pn) (l : List Step) : (p.with n l).keeps = p.keeps := by cases n <;> rfl
theorem with_steps_ne (p : Prog) {n m : Pn} (l : List Step) (h : n ≠ m) : (p.with n l).steps m = p.steps m := by cases n <;> cases m <;> first | rfl | exact absurd rfl h
theorem gM_gen {m : Nat} {p : Prog} (h : Gen m p) {n : Pn} {i : Nat} {k : Keep} (hk : p.keeps[i]? = some k) (hw : k.what = .count ∨ k.what = .sum) : gM n i k (p.steps n) ≤ (if n = .drop then 0 else 1) + m := by
  induction h with
  | right ks h1 h3 ho => exact gM_right hk hw
  | spoil m p q l _ hsp ih =>
    rw [with_keeps] at hk
    have ih := ih hk
    by_cases e : q = n
    · subst e
      rw [with_steps_same]
      have := gM_sp (n := q) (i := i) (k := k) hsp
      omega
    · rw [with_steps_ne p l e]
      omega
theorem bnd_gen {m : Nat} {p : Prog} (h : Gen m p) (h2 : m ≤ 2) (n : Pn) : Bnd n p.keeps (p.steps n) := by
  intro i k hk hw hem wk hw0 hw1
  have hg := gM_gen h (n := n) hk hw
  generalize p.steps n = l at hem hg ⊢
  have he : 1 ≤ l.countP (isEmp i) := by
    obtain ⟨s, hs, hh⟩ := List.any_eq_true.mp hem
    exact List.countP_pos_iff.mpr ⟨s, hs, hh⟩
  have imp : ∀ s ∈ l, exAdd i wk s = true → isAdd i s = true := fun s _ hs => by
    unfold exAdd at hs
    rw [Bool.and_eq_true] at hs
    exact hs.1
  have hle : l.countP (exAdd i wk) ≤ l.countP (isAdd i) := List.countP_mono_left imp
  unfold gM at hg
  by_cases hd : n = .drop
  · rw [if_pos hd, if_neg fun z => z.1 hd] at hg
    omega
  · rw [if_neg hd] at hg
    cases hin : inO k.kind wk with
    | true =>
      rw [if_pos rfl]
      omega
    | false =>
      rw [if_neg Bool.false_ne_true]
      by_cases hb : baseS i k ∈ l
      · have hx : exAdd i wk (baseS i k) = false := by
          obtain ⟨kw, kk⟩ := k
          have hin : inO kk wk = false := hin
          cases wk with
          | none => exact absurd rfl (hw1 hd)
          | some y =>
            cases kk with
            | none => cases hin
            | some z =>
              have hin : decide (y = z) = false := hin
              have hne := of_decide_eq_false hin
              show (_ && decide (some y = some z)) = false
              rw [decide_eq_false fun e => hne (Option.some.inj e), Bool.and_false]
        have := countP_lt imp hb (isAdd_base i k) hx
        omega
      · rw [if_pos ⟨hd, hb⟩] at hg
        omega
end Kc

/-! The right programs are said to be right; the law's own ledger. -/
namespace Kc
open PySem L2 Dl
theorem touch_ne {ks : List Keep} {wk : Option Int} {sy : Nat → Sy} {t : Touch} {i j : Nat} (ht : t = .add j .one ∨ t = .add j .newer ∨ t = .less j .one ∨ t = .less j .elder ∨ t = .lift j ∨ t = .mark j ∨ t = .again j) (h : j ≠ i) : touchS ks wk sy t i = sy i := by
  have e : ∀ f, updS sy j f i = sy i := fun f => if_neg fun z => h z.symm
  rcases ht with h | h | h | h | h | h | h <;> subst h <;> first | exact e _ | exact e (fun _ => aftS (kAt ks j).what (inO (kAt ks j).kind wk))
theorem run_ne {ks : List Keep} {c : Cf} {i : Nat} : ∀ {l : List Step} {sy : Nat → Sy}, (∀ s ∈ l, ∃ j, j ≠ i ∧ (s.touch = .add j .one ∨ s.touch = .add j .newer ∨ s.touch = .less j .one ∨ s.touch = .less j .elder ∨ s.touch = .lift j ∨ s.touch = .mark j ∨ s.touch = .again j)) → runS ks c l sy i = sy i
  | [], _, _ => rfl
  | s :: l, sy, h => by
    show runS ks c l (stepS ks c sy s) i = _
    rw [run_ne (l := l) fun x hx => h x (List.mem_cons_of_mem _ hx)]
    obtain ⟨j, hj, ht⟩ := h s List.mem_cons_self
    obtain ⟨te, tc⟩ := s
    cases te with
    | none => exact touch_ne ht hj
    | some t =>
      show (if holdS ks c sy t = true then touchS ks c.wk sy tc else sy) i = sy i
      split
      · exact touch_ne ht hj
      · rfl
theorem runS_append {ks : List Keep} {c : Cf} {a b : List Step} {sy : Nat → Sy} : runS ks c (a ++ b) sy = runS ks c b (runS ks c a sy) := by
  unfold runS
  rw [List.foldl_append]
/-- only the keep's own steps touch it -/
theorem flat_at {ks : List Keep} {c : Cf} {n : Pn} {i : Nat} {sy : Nat → Sy} : ∀ {l : List Nat}, l.Nodup → i ∈ l → ∃ sy', sy' i = sy i ∧ runS ks c (l.flatMap fun j => rStep n j (kAt ks j)) sy i = runS ks c (rStep n i (kAt ks i)) sy' i := by
  intro l hn hi
  obtain ⟨a, b, rfl⟩ := List.append_of_mem hi
  have hnd := List.nodup_append.mp hn
  have hb : i ∉ b := (List.nodup_cons.mp hnd.2.1).1
  have ha : i ∉ a := fun z => hnd.2.2 i z i List.mem_cons_self rfl
  have ne : ∀ (l : List Nat), i ∉ l → ∀ s ∈ l.flatMap fun j => rStep n j (kAt ks j), ∃ j, j ≠ i ∧ (s.touch = .add j .one ∨ s.touch = .add j .newer ∨ s.touch = .less j .one ∨ s.touch = .less j .elder ∨ s.touch = .lift j ∨ s.touch = .mark j ∨ s.touch = .again j) := by
    intro l hl s hs
    obtain ⟨j, hj, hs⟩ := List.mem_flatMap.mp hs
    exact ⟨j, fun e => hl (by rw [← e]; exact hj), r_touch s hs⟩
  refine ⟨runS ks c (a.flatMap fun j => rStep n j (kAt ks j)) sy, run_ne (ne a ha), ?_⟩
  rw [List.flatMap_append, List.flatMap_cons, runS_append, runS_append, run_ne (ne b hb)]
theorem upd_at {sy : Nat → Sy} {i : Nat} {f : Sy → Sy} : updS sy i f i = f (sy i) := if_pos rfl
theorem max_less {l : List Int} {E : Int} (h : maxV (l ++ [E]) ≠ .int E) : maxV (l ++ [E]) = maxV l := by
  cases hv : maxV (l ++ [E]) with
  | int m =>
    rw [hv] at h
    obtain ⟨h1, h2⟩ := maxV_int_iff.mp hv
    refine (maxV_int_iff.mpr ⟨?_, fun x hx => h2 x (List.mem_append_left _ hx)⟩).symm
    rcases List.mem_append.mp h1 with h1 | h1
    · exact h1
    · rw [List.mem_singleton.mp h1] at h
      exact absurd rfl h
  | non => exact absurd (maxV_nil_iff.mp hv) (by simp)
  | _ => cases l <;> cases hv
theorem right_fine {ks : List Keep} (ho : ∀ k ∈ ks, KeepOk k) {n : Pn} {c : Cf} (hw : Who n c.ek c.wk) : Fine ks c (runS ks c ((rightP ks).steps n) (ini ks c.ek)) := by
  intro i k hk
  have hi : i < ks.length := (List.getElem?_eq_some_iff.mp hk).1
  rw [right_steps]
  obtain ⟨sy, e1, e2⟩ := flat_at (ks := ks) (c := c) (n := n) (i := i) (sy := ini ks c.ek) List.nodup_range (List.mem_range.mpr hi)
  rw [e2, kAt_of hk]
  have e1 : sy i = iniS k.what (inO k.kind c.ek) := by rw [e1]; unfold ini; rw [kAt_of hk]
  have un : ∀ (t : Int → Test) (tc : Touch) (sy : Nat → Sy), stepS ks c sy (under k t tc) i = if (match k.kind with | none => true | some z => holdS ks c sy (t z)) = true then touchS ks c.wk sy tc i else sy i := by
    intro t tc sy
    unfold under stepS
    cases k.kind with
    | none => exact (if_pos rfl).symm
    | some z =>
      show (if holdS ks c sy (t z) = true then _ else _ : Nat → Sy) i = if holdS ks c sy (t z) = true then _ else _
      split <;> rfl
  -- the newer one's kind, the elder's
  have hN : ∀ sy, n ≠ .drop → (match k.kind with | none => true | some z => holdS ks c sy (.newer z)) = inO k.kind c.wk := by
    intro sy hn
    obtain ⟨y, hy, _⟩ := hw.w1 hn
    rw [hy]
    cases hkk : k.kind with
    | none => rfl
    | some z =>
      show decide (c.wk = some z) = decide (y = z)
      rw [hy]
      by_cases e : y = z
      · rw [decide_eq_true (by rw [e]), decide_eq_true e]
      · rw [decide_eq_false (fun q => e (Option.some.inj q)), decide_eq_false e]
  have hE : ∀ sy, n ≠ .new → (match k.kind with | none => true | some z => holdS ks c sy (.elder z)) = inO k.kind c.ek := by
    intro sy hn
    obtain ⟨y, hy, _⟩ := hw.e1 hn
    rw [hy]
    cases hkk : k.kind with
    | none => rfl
    | some z =>
      show decide (c.ek = some z) = decide (y = z)
      rw [hy]
      by_cases e : y = z
      · rw [decide_eq_true (by rw [e]), decide_eq_true e]
      · rw [decide_eq_false (fun q => e (Option.some.inj q)), decide_eq_false e]
  have one : ∀ (s : Step), runS ks c [s] sy i = stepS ks c sy s i := fun s => rfl
  have two : ∀ (s t : Step), runS ks c [s, t] sy i = stepS ks c (stepS ks c sy s) t i := fun s t => rfl
  have ag : ∀ (s : Nat → Sy), touchS ks c.wk s (.again i) i = aftS k.what (inO k.kind c.wk) := fun s => by
    show updS s i (fun _ => aftS (kAt ks i).what (inO (kAt ks i).kind c.wk)) i = _
    rw [upd_at, kAt_of hk]
  have hz : n = .drop → inO k.kind c.wk = false := fun e => by rw [hw.w0 e]; rfl
  have hz2 : n = .new → inO k.kind c.ek = false := fun e => by rw [hw.e0 e]; rfl
  cases n with
  | new =>
    have h0 := hz2 rfl
    rw [h0] at e1
    have hN := hN sy (by decide)
    show val k c (runS ks c (rNew i k) sy i) = _
    unfold rNew
    cases hk2 : k.what with
    | count =>
      rw [hk2] at e1
      rw [one, un, hN]
      cases inO k.kind c.wk with
      | true => show val k c (updS sy i (addS 1 .one) i) = _; rw [upd_at, e1]; rfl
      | false => show val k c (sy i) = _; rw [e1]; rfl
    | sum =>
      rw [hk2] at e1
      rw [one, un, hN]
      cases inO k.kind c.wk with
      | true => show val k c (updS sy i (addS 1 .newer) i) = _; rw [upd_at, e1]; rfl
      | false => show val k c (sy i) = _; rw [e1]; rfl
    | most =>
      rw [hk2] at e1
      rw [one, un, hN]
      cases inO k.kind c.wk with
      | true => show val k c (updS sy i liftS i) = _; rw [upd_at, e1]; rfl
      | false => show val k c (sy i) = _; rw [e1]; rfl
    | any =>
      rw [hk2] at e1
      rw [one, un, hN]
      cases inO k.kind c.wk with
      | true => show val k c (updS sy i markS i) = _; rw [upd_at, e1]; rfl
      | false => show val k c (sy i) = _; rw [e1]; rfl
  | change =>
    show val k c (runS ks c (rChange i k) sy i) = _
    unfold rChange
    cases hk2 : k.what with
    | count =>
      rw [hk2] at e1
      show val k c (runS ks c (if k.kind = none then [] else [under k .elder (.less i .one), under k .newer (.add i .one)]) sy i) = _
      by_cases hkk : k.kind = none
      · rw [if_pos hkk]
        show val k c (sy i) = _
        rw [e1]
        obtain ⟨y, hy, _⟩ := hw.e1 (by decide)
        obtain ⟨z, hzz, _⟩ := hw.w1 (by decide)
        rw [hkk, hy, hzz]
        rfl
      · rw [if_neg hkk, two, un, hN _ (by decide)]
        have hs : stepS ks c sy (under k .elder (.less i .one)) i = .cnt true 0 := by
          rw [un, hE _ (by decide)]
          cases hh : inO k.kind c.ek with
          | true => rw [if_pos rfl]; show updS sy i (addS (-1) .one) i = _; rw [upd_at, e1, hh]; rfl
          | false => rw [if_neg Bool.false_ne_true, e1, hh]; rfl
        cases inO k.kind c.wk with
        | true => rw [if_pos rfl]; show val k c (updS _ i (addS 1 .one) i) = _; rw [upd_at, hs]; rfl
        | false => rw [if_neg Bool.false_ne_true, hs]; rfl
    | sum =>
      rw [hk2] at e1
      show val k c (runS ks c [under k .elder (.less i .elder), under k .newer (.add i .newer)] sy i) = _
      rw [two, un, hN _ (by decide)]
      have hs : stepS ks c sy (under k .elder (.less i .elder)) i = .sum true 0 0 0 := by
        rw [un, hE _ (by decide)]
        cases hh : inO k.kind c.ek with
        | true => rw [if_pos rfl]; show updS sy i (addS (-1) .elder) i = _; rw [upd_at, e1, hh]; rfl
        | false => rw [if_neg Bool.false_ne_true, e1, hh]; rfl
      cases inO k.kind c.wk with
      | true => rw [if_pos rfl]; show val k c (updS _ i (addS 1 .newer) i) = _; rw [upd_at, hs]; rfl
      | false => rw [if_neg Bool.false_ne_true, hs]; rfl
    | most => show val k c (touchS ks c.wk sy (.again i) i) = _; rw [ag, hk2]
    | any => show val k c (touchS ks c.wk sy (.again i) i) = _; rw [ag, hk2]
  | drop =>
    have h0 := hz rfl
    rw [h0]
    show val k c (runS ks c (rDrop i k) sy i) = _
    unfold rDrop
    cases hk2 : k.what with
    | count =>
      rw [hk2] at e1
      rw [one, un, hE _ (by decide)]
      cases hh : inO k.kind c.ek with
      | true => rw [if_pos rfl]; show val k c (updS sy i (addS (-1) .one) i) = _; rw [upd_at, e1, hh]; rfl
      | false => rw [if_neg Bool.false_ne_true, e1, hh]; rfl
    | sum =>
      rw [hk2] at e1
      rw [one, un, hE _ (by decide)]
      cases hh : inO k.kind c.ek with
      | true => rw [if_pos rfl]; show val k c (updS sy i (addS (-1) .elder) i) = _; rw [upd_at, e1, hh]; rfl
      | false => rw [if_neg Bool.false_ne_true, e1, hh]; rfl
    | most =>
      rw [hk2] at e1
      show val k c ((if decide (val (kAt ks i) c (sy i) = .int c.E) = true then touchS ks c.wk sy (.again i) else sy) i) = _
      rw [kAt_of hk]
      by_cases hh : val k c (sy i) = .int c.E
      · rw [if_pos (decide_eq_true hh), ag, hk2, h0]
      · rw [if_neg (by rw [decide_eq_false hh]; exact Bool.false_ne_true)]
        rw [e1] at hh ⊢
        cases hb : inO k.kind c.ek with
        | false => rfl
        | true =>
          rw [hb] at hh
          show maxV (numbersOf k c.ts ++ [c.E]) = maxV (numbersOf k c.ts ++ [])
          rw [List.append_nil]
          exact max_less hh
    | any => show val k c (touchS ks c.wk sy (.again i) i) = _; rw [ag, hk2, h0]
/-- a crowd's things -/
theorem crowd_of {many most : Nat} {c : List Thing} (h : c ∈ crowds many most) : ∃ m0 m1 a b, c = crowdOf m0 m1 a b ∧ m0 ≤ most ∧ m1 ≤ most ∧ m0 + m1 = many ∧ a ∈ numbers ∧ b ∈ numbers := by
  have row : ∀ {k : Int} {m : Nat} {r : List Thing}, r ∈ rowsOf k m → ∃ a ∈ numbers, r = List.replicate m (k, a) := by
    intro k m r hr
    unfold rowsOf at hr
    split at hr
    · rename_i e
      rw [List.mem_singleton.mp hr, e]
      exact ⟨2, by decide, rfl⟩
    · obtain ⟨a, ha, rfl⟩ := List.mem_map.mp hr
      exact ⟨a, ha, rfl⟩
  unfold crowds at h
  obtain ⟨i, hi, h⟩ := List.mem_flatMap.mp h
  have hi := List.mem_range.mp hi
  unfold crowdsAt at h
  obtain ⟨r, hr, h⟩ := List.mem_flatMap.mp h
  obtain ⟨o, ho, rfl⟩ := List.mem_map.mp h
  obtain ⟨a, ha, rfl⟩ := row hr
  obtain ⟨b, hb, rfl⟩ := row ho
  exact ⟨_, _, a, b, rfl, by omega, by omega, by omega, ha, hb⟩
theorem things_two {t : Thing} (h : t ∈ allThings) : (t.1 = 0 ∨ t.1 = 1) ∧ t.2 ∈ numbers := by
  have : ∀ t ∈ allThings, (t.1 = 0 ∨ t.1 = 1) ∧ t.2 ∈ numbers := by decide
  exact this t h
theorem who_new {z : Int} (h : z = 0 ∨ z = 1) : Who .new none (some z) := ⟨fun _ => rfl, fun h => absurd rfl h, fun h => (by cases h), fun _ => ⟨z, rfl, h⟩⟩
theorem who_change {y z : Int} (hy : y = 0 ∨ y = 1) (h : z = 0 ∨ z = 1) : Who .change (some y) (some z) := ⟨fun h => (by cases h), fun _ => ⟨y, rfl, hy⟩, fun h => (by cases h), fun _ => ⟨z, rfl, h⟩⟩
theorem who_drop {y : Int} (hy : y = 0 ∨ y = 1) : Who .drop (some y) none := ⟨fun h => (by cases h), fun _ => ⟨y, rfl, hy⟩, fun _ => rfl, fun h => absurd rfl h⟩
theorem right_right {ks : List Keep} (h1 : 1 ≤ ks.length) (h3 : ks.length ≤ 3) (ho : ∀ k ∈ ks, KeepOk k) : isRight (rightP ks) = true := by
  have hv := right_valid h1 h3 ho
  unfold isRight lie
  rw [Option.isNone_iff_eq_none, List.findSome?_eq_none_iff]
  intro m _
  cases hl : lieAt (rightP ks) (mostOthers (rightP ks)) m with
  | none => rfl
  | some x =>
    have h : (lieAt (rightP ks) (mostOthers (rightP ks)) m).isSome = true := by rw [hl]; rfl
    rcases lieAt_some.mp h with ⟨_, h⟩ | ⟨_, h⟩
    · obtain ⟨c, _, t, ht, h⟩ := new_some.mp h
      obtain ⟨t1, t2⟩ := t
      have hk := (things_two ht).1
      have := fl_of (n := .new) (p := rightP ks) (ss := (rightP ks).new) (b := c) (a := c ++ [(t1, t2)]) (el := none) (nw := some (t1, t2)) (c := ⟨c, none, some t1, 0, t2⟩) (cfOk_of (ks := ks) (c := ⟨c, none, some t1, 0, t2⟩) (who_new hk) (List.Perm.refl _)) (hv.st .new)
        (by show c.Perm (c ++ []); rw [List.append_nil]) (right_fine (n := .new) ho (c := ⟨c, none, some t1, 0, t2⟩) (who_new hk))
      rw [this] at h
      cases h
    · obtain ⟨c, _, t, ht, h⟩ := old_some.mp h
      obtain ⟨t1, t2⟩ := t
      have hk := (things_two ht).1
      rcases h with h | ⟨u, hu, h⟩
      · have := fl_of (n := .drop) (p := rightP ks) (ss := (rightP ks).drop) (b := c ++ [(t1, t2)]) (a := c) (el := some (t1, t2)) (nw := none) (c := ⟨c, some t1, none, t2, 0⟩) (cfOk_of (ks := ks) (c := ⟨c, some t1, none, t2, 0⟩) (who_drop hk) (by show c.Perm (c ++ []); rw [List.append_nil])) (hv.st .drop)
          (List.Perm.refl _) (right_fine (n := .drop) ho (c := ⟨c, some t1, none, t2, 0⟩) (who_drop hk))
        rw [this] at h
        cases h
      · obtain ⟨u1, u2⟩ := u
        have hk2 := (things_two hu).1
        have := fl_of (n := .change) (p := rightP ks) (ss := (rightP ks).change) (b := c ++ [(t1, t2)]) (a := c ++ [(u1, u2)]) (el := some (t1, t2)) (nw := some (u1, u2)) (c := ⟨c, some t1, some u1, t2, u2⟩) (cfOk_of (ks := ks) (c := ⟨c, some t1, some u1, t2, u2⟩) (who_change hk hk2) (List.Perm.refl _)) (hv.st .change)
          (List.Perm.refl _) (right_fine (n := .change) ho (c := ⟨c, some t1, some u1, t2, u2⟩) (who_change hk hk2))
        rw [this] at h
        cases h
end Kc

/-! The law's own ledger, plain. -/
namespace Kc
open PySem L2 Dl
structure LgS where
  tb : List (Nat × Thing)
  made : Nat
  kept : List V
def LgS.things (s : LgS) : List Thing := s.tb.map (·.2)
def LgS.ids (s : LgS) : List Nat := s.tb.map (·.1)
def initL (p : Prog) : LgS := ⟨[], 0, trueValues p.keeps []⟩
def LgS.el (s : LgS) (t : Nat) : Thing := ((s.tb.find? fun q => decide (q.1 = t)).map (·.2)).getD (0, 0)
def putT (tb : List (Nat × Thing)) (t : Nat) (x : Thing) : List (Nat × Thing) := tb.map fun q => if q.1 = t then (t, x) else q
def dropT (tb : List (Nat × Thing)) (t : Nat) : List (Nat × Thing) := tb.filter fun q => decide (q.1 ≠ t)
def doD (p : Prog) (s : LgS) : Dd → LgS
  | .new k n => ⟨s.tb ++ [(s.made + 1, (k, n))], s.made + 1, run ⟨p.keeps, (s.tb ++ [(s.made + 1, (k, n))]).map (·.2), none, some (k, n)⟩ p.new s.kept⟩
  | .change t k n => ⟨putT s.tb t (k, n), s.made, run ⟨p.keeps, (putT s.tb t (k, n)).map (·.2), some (s.el t), some (k, n)⟩ p.change s.kept⟩
  | .drop t => ⟨dropT s.tb t, s.made, run ⟨p.keeps, (dropT s.tb t).map (·.2), some (s.el t), none⟩ p.drop s.kept⟩
structure LgW (p : Prog) (s : LgS) : Prop where
  nd : s.ids.Nodup
  le : ∀ t ∈ s.ids, t ≤ s.made
  two : Two s.things
  ty : TyA p.keeps s.kept
  len : s.tb.length ≤ s.made
def DdOk (s : LgS) : Dd → Prop
  | .new k _ => k = 0 ∨ k = 1
  | .change t k _ => t ∈ s.ids ∧ (k = 0 ∨ k = 1)
  | .drop t => t ∈ s.ids
theorem new_things (p : Prog) (s : LgS) (k n : Int) : (doD p s (.new k n)).things = s.things ++ [(k, n)] := by
  show (s.tb ++ [(s.made + 1, (k, n))]).map (·.2) = _
  rw [List.map_append]
  rfl
theorem new_kept (p : Prog) (s : LgS) (k n : Int) : (doD p s (.new k n)).kept = run ⟨p.keeps, s.things ++ [(k, n)], none, some (k, n)⟩ p.new s.kept := by
  rw [← new_things p]
  rfl
theorem change_kept (p : Prog) (s : LgS) (t : Nat) (k n : Int) : (doD p s (.change t k n)).kept = run ⟨p.keeps, (doD p s (.change t k n)).things, some (s.el t), some (k, n)⟩ p.change s.kept := rfl
theorem drop_kept (p : Prog) (s : LgS) (t : Nat) : (doD p s (.drop t)).kept = run ⟨p.keeps, (doD p s (.drop t)).things, some (s.el t), none⟩ p.drop s.kept := rfl
theorem change_things (p : Prog) (s : LgS) (t : Nat) (k n : Int) : (doD p s (.change t k n)).things = (putT s.tb t (k, n)).map (·.2) := rfl
theorem drop_things (p : Prog) (s : LgS) (t : Nat) : (doD p s (.drop t)).things = (dropT s.tb t).map (·.2) := rfl
theorem nothing_true (k : Keep) : nothing k.what = trueValue k [] := by
  unfold trueValue
  cases k.what <;> rfl
theorem initL_ok (p : Prog) : LgW p (initL p) := ⟨.nil, fun t h => (by cases h), fun t h => (by cases h), tyA_true _ _, Nat.le_refl _⟩
theorem initL_kept (p : Prog) : (initL p).kept = trueValues p.keeps (initL p).things := rfl
/-- the thing's place in the table -/
theorem split_at {tb : List (Nat × Thing)} {t : Nat} (hn : (tb.map (·.1)).Nodup) (h : t ∈ tb.map (·.1)) : ∃ l1 l2 x, tb = l1 ++ (t, x) :: l2 ∧ (∀ q ∈ l1, q.1 ≠ t) ∧ ∀ q ∈ l2, q.1 ≠ t := by
  obtain ⟨q, hq, e⟩ := List.mem_map.mp h
  obtain ⟨l1, l2, rfl⟩ := List.append_of_mem hq
  obtain ⟨i, x⟩ := q
  have e : i = t := e
  subst e
  rw [List.map_append, List.map_cons] at hn
  have hnd := List.nodup_append.mp hn
  refine ⟨l1, l2, x, rfl, fun q hq e => ?_, fun q hq e => ?_⟩
  · exact hnd.2.2 q.1 (List.mem_map.mpr ⟨q, hq, rfl⟩) i List.mem_cons_self e
  · exact (List.nodup_cons.mp hnd.2.1).1 (List.mem_map.mpr ⟨q, hq, e⟩)
theorem find_split {l1 l2 : List (Nat × Thing)} {t : Nat} {x : Thing} (h1 : ∀ q ∈ l1, q.1 ≠ t) : (l1 ++ (t, x) :: l2).find? (fun q => decide (q.1 = t)) = some (t, x) := by
  rw [List.find?_append, List.find?_eq_none.mpr (fun q hq => by simp [h1 q hq]), List.find?_cons]
  simp
theorem put_split {l1 l2 : List (Nat × Thing)} {t : Nat} {x y : Thing} (h1 : ∀ q ∈ l1, q.1 ≠ t) (h2 : ∀ q ∈ l2, q.1 ≠ t) : putT (l1 ++ (t, x) :: l2) t y = l1 ++ (t, y) :: l2 := by
  have id_ : ∀ l : List (Nat × Thing), (∀ q ∈ l, q.1 ≠ t) → (l.map fun q => if q.1 = t then (t, y) else q) = l := fun l h => by
    conv => rhs; rw [← List.map_id l]
    exact List.map_congr_left fun q hq => if_neg (h q hq)
  unfold putT
  rw [List.map_append, List.map_cons, id_ l1 h1, id_ l2 h2, if_pos rfl]
theorem drop_split {l1 l2 : List (Nat × Thing)} {t : Nat} {x : Thing} (h1 : ∀ q ∈ l1, q.1 ≠ t) (h2 : ∀ q ∈ l2, q.1 ≠ t) : dropT (l1 ++ (t, x) :: l2) t = l1 ++ l2 := by
  unfold dropT
  rw [List.filter_append, List.filter_cons_of_neg (by simp), List.filter_eq_self.mpr (fun q hq => decide_eq_true (h1 q hq)), List.filter_eq_self.mpr (fun q hq => decide_eq_true (h2 q hq))]
theorem put_ids (tb : List (Nat × Thing)) (t : Nat) (x : Thing) : (putT tb t x).map (·.1) = tb.map (·.1) := by
  unfold putT
  rw [List.map_map]
  refine List.map_congr_left fun q _ => ?_
  show (if q.1 = t then (t, x) else q).1 = q.1
  split
  · rename_i h; exact h.symm
  · rfl
theorem who_of {n : Pn} {p : Prog} {a : List Thing} {el nw : Option Thing} (h3 : p.keeps.length ≤ 3) (h1 : n ≠ .new → ∃ t, el = some t) (h2 : n ≠ .drop → ∃ t, nw = some t) : DeedOk n ⟨p.keeps, a, el, nw⟩ := ⟨h3, h1, h2⟩
theorem lgW_do {p : Prog} (hv : Valid p) {s : LgS} (hs : LgW p s) {d : Dd} (hd : DdOk s d) : LgW p (doD p s d) := by
  cases d with
  | new k n =>
    refine ⟨?_, ?_, ?_, ?_, ?_⟩
    · show ((s.tb ++ [(s.made + 1, (k, n))]).map (·.1)).Nodup
      rw [List.map_append, List.nodup_append]
      refine ⟨hs.nd, by simp, fun a ha b hb e => ?_⟩
      have := hs.le a ha
      have eb : b = s.made + 1 := List.mem_singleton.mp hb
      omega
    · intro t ht
      have ht : t ∈ (s.tb ++ [(s.made + 1, (k, n))]).map (·.1) := ht
      rw [List.map_append] at ht
      show t ≤ s.made + 1
      rcases List.mem_append.mp ht with h | h
      · have := hs.le t h
        omega
      · have e : t = s.made + 1 := List.mem_singleton.mp h
        omega
    · intro t ht
      have ht : t ∈ (s.tb ++ [(s.made + 1, (k, n))]).map (·.2) := ht
      rw [List.map_append] at ht
      rcases List.mem_append.mp ht with h | h
      · exact hs.two t h
      · have e : t = (k, n) := List.mem_singleton.mp h
        rw [e]
        exact hd
    · exact tyA_run (n := .new) (d := ⟨p.keeps, (s.tb ++ [(s.made + 1, (k, n))]).map (·.2), none, some (k, n)⟩) hs.ty (hv.st .new)
    · show (s.tb ++ [_]).length ≤ s.made + 1
      rw [List.length_append]
      have := hs.len
      show s.tb.length + 1 ≤ _
      omega
  | change t k n =>
    refine ⟨?_, ?_, ?_, ?_, ?_⟩
    · show ((putT s.tb t (k, n)).map (·.1)).Nodup
      rw [put_ids]
      exact hs.nd
    · intro t' ht
      have ht : t' ∈ (putT s.tb t (k, n)).map (·.1) := ht
      rw [put_ids] at ht
      exact hs.le t' ht
    · intro x hx
      obtain ⟨q, hq, rfl⟩ := List.mem_map.mp (show x ∈ (putT s.tb t (k, n)).map (·.2) from hx)
      obtain ⟨q0, hq0, rfl⟩ := List.mem_map.mp hq
      show (if q0.1 = t then (t, (k, n)) else q0).2.1 = 0 ∨ (if q0.1 = t then (t, (k, n)) else q0).2.1 = 1
      split
      · exact hd.2
      · exact hs.two q0.2 (List.mem_map.mpr ⟨q0, hq0, rfl⟩)
    · exact tyA_run (n := .change) (d := ⟨p.keeps, (putT s.tb t (k, n)).map (·.2), some (s.el t), some (k, n)⟩) hs.ty (hv.st .change)
    · show (putT s.tb t (k, n)).length ≤ s.made
      unfold putT
      rw [List.length_map]
      exact hs.len
  | drop t =>
    have sub : ∀ q ∈ dropT s.tb t, q ∈ s.tb := fun q hq => (List.mem_filter.mp hq).1
    refine ⟨?_, ?_, ?_, ?_, ?_⟩
    · exact List.Nodup.sublist (List.Sublist.map _ List.filter_sublist) hs.nd
    · intro t' ht
      obtain ⟨q, hq, rfl⟩ := List.mem_map.mp (show t' ∈ (dropT s.tb t).map (·.1) from ht)
      exact hs.le _ (List.mem_map.mpr ⟨q, sub q hq, rfl⟩)
    · intro x hx
      obtain ⟨q, hq, rfl⟩ := List.mem_map.mp (show x ∈ (dropT s.tb t).map (·.2) from hx)
      exact hs.two _ (List.mem_map.mpr ⟨q, sub q hq, rfl⟩)
    · exact tyA_run (n := .drop) (d := ⟨p.keeps, (dropT s.tb t).map (·.2), some (s.el t), none⟩) hs.ty (hv.st .drop)
    · exact Nat.le_trans (List.length_filter_le _ _) hs.len
/-- a right program's ledger tells the truth -/
theorem true_do {m : Nat} {p : Prog} (hg : Gen m p) (hm : m ≤ 2) (hr : isRight p = true) {s : LgS} (hs : LgW p s) (ht : s.kept = trueValues p.keeps s.things) {d : Dd} (hd : DdOk s d) : (doD p s d).kept = trueValues p.keeps (doD p s d).things := by
  have hv := gen_valid hg
  cases d with
  | new k n =>
    let c : Cf := ⟨s.things, none, some k, 0, n⟩
    have hw : Who .new c.ek c.wk := who_new hd
    have ha : (doD p s (.new k n)).things = c.after := by
      show (s.tb ++ [(s.made + 1, (k, n))]).map (·.2) = s.things ++ [(k, n)]
      rw [List.map_append]
      rfl
    have := (fine_iff (cfOk_of (ks := p.keeps) hw (List.Perm.refl c.after)) (hv.st .new) (b := s.things) (by show s.things.Perm (s.things ++ []); rw [List.append_nil])).mpr (sound hv hr (bnd_gen hg hm .new) hs.two hw)
    rw [ha]
    show run ⟨p.keeps, (doD p s (.new k n)).things, none, some (k, n)⟩ p.new s.kept = _
    rw [ha, ht]
    exact this
  | change t k n =>
    obtain ⟨h1, h2⟩ := hd
    obtain ⟨l1, l2, x, e, n1, n2⟩ := split_at hs.nd h1
    have hel : s.el t = x := by
      unfold LgS.el
      rw [e, find_split n1]
      rfl
    have hth : s.things = l1.map (·.2) ++ x :: l2.map (·.2) := by
      unfold LgS.things
      rw [e, List.map_append, List.map_cons]
    have hx := hs.two x (by rw [hth]; simp)
    obtain ⟨x1, x2⟩ := x
    let c : Cf := ⟨l1.map (·.2) ++ l2.map (·.2), some x1, some k, x2, n⟩
    have hw : Who .change c.ek c.wk := who_change hx h2
    have two : Two c.ts := fun z hz => hs.two z (by rw [hth]; rcases List.mem_append.mp hz with h | h <;> simp [h])
    have per : ∀ z : Thing, (l1.map (·.2) ++ z :: l2.map (·.2)).Perm (c.ts ++ [z]) := fun z => by
      show (l1.map (·.2) ++ ([z] ++ l2.map (·.2))).Perm (l1.map (·.2) ++ l2.map (·.2) ++ [z])
      rw [List.append_assoc]
      exact (List.perm_append_comm).append_left _
    have hat : (doD p s (.change t k n)).things = l1.map (·.2) ++ (k, n) :: l2.map (·.2) := by
      show (putT s.tb t (k, n)).map (·.2) = _
      rw [e, put_split n1 n2, List.map_append, List.map_cons]
    have ok := cfOk_of (ks := p.keeps) hw (a := (doD p s (.change t k n)).things) (by rw [hat]; exact per (k, n))
    have := (fine_iff ok (hv.st .change) (b := s.things) (by rw [hth]; exact per (x1, x2))).mpr (sound hv hr (bnd_gen hg hm .change) two hw)
    show run ⟨p.keeps, (doD p s (.change t k n)).things, some (s.el t), some (k, n)⟩ p.change s.kept = _
    rw [hel, ht]
    exact this
  | drop t =>
    have h1 : t ∈ s.ids := hd
    obtain ⟨l1, l2, x, e, n1, n2⟩ := split_at hs.nd h1
    have hel : s.el t = x := by
      unfold LgS.el
      rw [e, find_split n1]
      rfl
    have hth : s.things = l1.map (·.2) ++ x :: l2.map (·.2) := by
      unfold LgS.things
      rw [e, List.map_append, List.map_cons]
    have hx := hs.two x (by rw [hth]; simp)
    obtain ⟨x1, x2⟩ := x
    let c : Cf := ⟨l1.map (·.2) ++ l2.map (·.2), some x1, none, x2, 0⟩
    have hw : Who .drop c.ek c.wk := who_drop hx
    have two : Two c.ts := fun z hz => hs.two z (by rw [hth]; rcases List.mem_append.mp hz with h | h <;> simp [h])
    have per : ∀ z : Thing, (l1.map (·.2) ++ z :: l2.map (·.2)).Perm (c.ts ++ [z]) := fun z => by
      show (l1.map (·.2) ++ ([z] ++ l2.map (·.2))).Perm (l1.map (·.2) ++ l2.map (·.2) ++ [z])
      rw [List.append_assoc]
      exact (List.perm_append_comm).append_left _
    have hat : (doD p s (.drop t)).things = c.ts := by
      show (dropT s.tb t).map (·.2) = _
      rw [e, drop_split n1 n2, List.map_append]
    have ok := cfOk_of (ks := p.keeps) hw (a := (doD p s (.drop t)).things) (by rw [hat]; show c.ts.Perm (c.ts ++ []); rw [List.append_nil])
    have := (fine_iff ok (hv.st .drop) (b := s.things) (by rw [hth]; exact per (x1, x2))).mpr (sound hv hr (bnd_gen hg hm .drop) two hw)
    show run ⟨p.keeps, (doD p s (.drop t)).things, some (s.el t), none⟩ p.drop s.kept = _
    rw [hel, ht]
    exact this
/-! ### the history of a lie -/
def HOk (p : Prog) : LgS → List Dd → Prop
  | _, [] => True
  | s, d :: ds => DdOk s d ∧ HOk p (doD p s d) ds
def runH (p : Prog) (s : LgS) (h : List Dd) : LgS := h.foldl (doD p) s
theorem hOk_append {p : Prog} : ∀ {a b : List Dd} {s : LgS}, HOk p s a → HOk p (runH p s a) b → HOk p s (a ++ b)
  | [], b, s, _, h => h
  | d :: a, b, s, h1, h2 => ⟨h1.1, hOk_append (a := a) h1.2 h2⟩
theorem runH_append {p : Prog} {a b : List Dd} {s : LgS} : runH p s (a ++ b) = runH p (runH p s a) b := by
  unfold runH
  rw [List.foldl_append]
theorem runH_snoc {p : Prog} {a : List Dd} {d : Dd} {s : LgS} : runH p s (a ++ [d]) = doD p (runH p s a) d := runH_append
def idsOf (n : Nat) : List Nat := (List.range n).map (· + 1)
theorem news_snoc (ts : List Thing) (t : Thing) : news (ts ++ [t]) = news ts ++ [.new t.1 t.2] := by
  unfold news
  rw [List.map_append]
  rfl
theorem news_run (p : Prog) (ts : List Thing) (h2 : Two ts) : HOk p (initL p) (news ts) ∧ (runH p (initL p) (news ts)).tb = (idsOf ts.length).zip ts ∧ (runH p (initL p) (news ts)).made = ts.length := by
  induction hl : ts.length generalizing ts with
  | zero =>
    have e := List.eq_nil_of_length_eq_zero hl
    subst e
    exact ⟨trivial, rfl, rfl⟩
  | succ n ih =>
    obtain ⟨us, t, rfl⟩ : ∃ us t, ts = us ++ [t] := by
      have hne : ts ≠ [] := fun z => by rw [z] at hl; cases hl
      exact ⟨ts.dropLast, ts.getLast hne, (List.dropLast_concat_getLast hne).symm⟩
    have hn : us.length = n := by
      rw [List.length_append] at hl
      have hl : us.length + 1 = n + 1 := hl
      omega
    obtain ⟨i1, i2, i3⟩ := ih us (fun x hx => h2 x (List.mem_append_left _ hx)) hn
    rw [news_snoc, runH_append]
    refine ⟨hOk_append i1 ⟨h2 t (List.mem_append_right _ List.mem_cons_self), trivial⟩, ?_, ?_⟩
    · show (runH p (initL p) (news us)).tb ++ [((runH p (initL p) (news us)).made + 1, (t.1, t.2))] = _
      rw [i2, i3]
      have e : idsOf (n + 1) = idsOf n ++ [n + 1] := by
        unfold idsOf
        rw [List.range_succ, List.map_append]
        rfl
      rw [e, List.zip_append (by unfold idsOf; rw [List.length_map, List.length_range, hn])]
      rfl
    · show (runH p (initL p) (news us)).made + 1 = n + 1
      rw [i3]
theorem zip_snd {α β : Type} : ∀ {a : List α} {b : List β}, a.length = b.length → (a.zip b).map (·.2) = b
  | [], [], _ => rfl
  | x :: a, y :: b, h => by
    rw [List.zip_cons_cons, List.map_cons, zip_snd (by simpa using h)]
  | [], y :: b, h => by simp at h
  | x :: a, [], h => by simp at h
theorem ids_len (n : Nat) : (idsOf n).length = n := by unfold idsOf; rw [List.length_map, List.length_range]
theorem news_things (p : Prog) (ts : List Thing) (h2 : Two ts) : (runH p (initL p) (news ts)).things = ts := by
  unfold LgS.things
  rw [(news_run p ts h2).2.1, zip_snd (ids_len _)]
/-- no lie at any thing that is made -/
def NewOk (p : Prog) (ts : List Thing) (t : Thing) : Prop := (firstLie p p.new ts (ts ++ [t]) none (some t)).isSome = false
theorem eq_of_fl {n : Pn} {p : Prog} (h3 : p.keeps.length ≤ 3) {ss : List Step} (hs : ∀ s ∈ ss, StepOk n p.keeps s) {b a : List Thing} {el nw : Option Thing} (hf : (firstLie p ss b a el nw).isSome = false) : run ⟨p.keeps, a, el, nw⟩ ss (trueValues p.keeps b) = trueValues p.keeps a := by
  have hl := (tyA_run (n := n) (d := ⟨p.keeps, a, el, nw⟩) (ss := ss) (tyA_true p.keeps b) hs).len
  have hl2 := (tyA_true p.keeps a).len
  apply List.ext_getElem?
  intro i
  by_cases hi : i < p.keeps.length
  · have e : at_ (run ⟨p.keeps, a, el, nw⟩ ss (trueValues p.keeps b)) i = at_ (trueValues p.keeps a) i := by
      apply Classical.byContradiction
      intro z
      have := fl_some.mpr ⟨i, hi, z⟩
      rw [hf] at this
      cases this
    have hi1 : i < (run ⟨p.keeps, a, el, nw⟩ ss (trueValues p.keeps b)).length := by rw [hl]; exact hi
    have hi2 : i < (trueValues p.keeps a).length := by rw [hl2]; exact hi
    rw [at_some (List.getElem?_eq_getElem hi1), at_some (List.getElem?_eq_getElem hi2)] at e
    rw [List.getElem?_eq_getElem hi1, List.getElem?_eq_getElem hi2, e]
  · rw [List.getElem?_eq_none (by rw [hl]; exact Nat.le_of_not_lt hi), List.getElem?_eq_none (by rw [hl2]; omega)]
theorem news_true {p : Prog} (hv : Valid p) (ts : List Thing) (h2 : Two ts) (h : ∀ us t, us ++ [t] <+: ts → NewOk p us t) : (runH p (initL p) (news ts)).kept = trueValues p.keeps ts := by
  induction hl : ts.length generalizing ts with
  | zero =>
    have e := List.eq_nil_of_length_eq_zero hl
    subst e
    rfl
  | succ n ih =>
    obtain ⟨us, t, rfl⟩ : ∃ us t, ts = us ++ [t] := by
      have hne : ts ≠ [] := fun z => by rw [z] at hl; cases hl
      exact ⟨ts.dropLast, ts.getLast hne, (List.dropLast_concat_getLast hne).symm⟩
    have hn : us.length = n := by
      rw [List.length_append] at hl
      have hl : us.length + 1 = n + 1 := hl
      omega
    have h2u : Two us := fun x hx => h2 x (List.mem_append_left _ hx)
    have i := ih us h2u (fun vs x hx => h vs x (hx.trans (List.prefix_append _ _))) hn
    have i2 := news_things p us h2u
    rw [news_snoc, runH_snoc, new_kept, i2, i]
    exact eq_of_fl (n := .new) hv.k3 (hv.st .new) (h us t (List.prefix_refl _))
theorem crowd_prefix {m0 m1 : Nat} {a b : Int} {us : List Thing} {t : Thing} (h : us ++ [t] <+: crowdOf m0 m1 a b) : ∃ i0 i1, i0 ≤ m0 ∧ i1 ≤ m1 ∧ i0 + i1 < m0 + m1 ∧ us = crowdOf i0 i1 a b ∧ (t = (0, a) ∨ t = (1, b)) := by
  have hl := h.length_le
  have hlen : (crowdOf m0 m1 a b).length = m0 + m1 := by unfold crowdOf; rw [List.length_append, List.length_replicate, List.length_replicate]
  rw [hlen, List.length_append] at hl
  have hl : us.length + 1 ≤ m0 + m1 := hl
  have hu : us = (crowdOf m0 m1 a b).take us.length := List.prefix_iff_eq_take.mp ((List.prefix_append us [t]).trans h)
  have ht : t ∈ crowdOf m0 m1 a b := h.subset (List.mem_append_right _ List.mem_cons_self)
  have htt : t = (0, a) ∨ t = (1, b) := by
    rcases List.mem_append.mp ht with h | h
    · exact .inl (List.mem_replicate.mp h).2
    · exact .inr (List.mem_replicate.mp h).2
  have htk : (crowdOf m0 m1 a b).take us.length = crowdOf (min us.length m0) (min (us.length - m0) m1) a b := by
    unfold crowdOf
    rw [List.take_append, List.take_replicate, List.take_replicate, List.length_replicate]
  exact ⟨min us.length m0, min (us.length - m0) m1, by omega, by omega, by omega, by rw [← htk]; exact hu, htt⟩
theorem fl_ne {p : Prog} {ss : List Step} {b a : List Thing} {el nw : Option Thing} {i : Nat} (h : firstLie p ss b a el nw = some i) : i < p.keeps.length ∧ at_ (run ⟨p.keeps, a, el, nw⟩ ss (trueValues p.keeps b)) i ≠ at_ (trueValues p.keeps a) i := by
  unfold firstLie at h
  have h1 := List.find?_some h
  have h2 := List.mem_of_find?_eq_some h
  refine ⟨List.mem_range.mp h2, fun z => ?_⟩
  rw [z] at h1
  simp at h1
theorem first_some {f : Nat → Option Lie} {x : Lie} : ∀ n, (List.range n).findSome? f = some x → ∃ m, m < n ∧ f m = some x ∧ ∀ j, j < m → f j = none
  | 0, h => by cases h
  | n + 1, h => by
    rw [List.range_succ, List.findSome?_append] at h
    cases h0 : (List.range n).findSome? f with
    | some y =>
      rw [h0] at h
      have e : y = x := Option.some.inj h
      subst e
      obtain ⟨m, a, b, c⟩ := first_some n h0
      exact ⟨m, by omega, b, c⟩
    | none =>
      rw [h0] at h
      have hx : f n = some x := by
        have h : (List.findSome? f [n]) = some x := h
        rw [List.findSome?_cons] at h
        cases hf : f n with
        | none => rw [hf] at h; cases h
        | some y => rw [hf] at h; exact h
      exact ⟨n, by omega, hx, fun j hj => fsome_none h0 j (List.mem_range.mpr hj)⟩
/-- the told history shows the lie -/
theorem lie_shows {p : Prog} (hv : Valid p) {h : List Dd} {i : Nat} (hl : lie p = some (h, i)) : HOk p (initL p) h ∧ h.length ≤ 100 ∧ i < p.keeps.length ∧ at_ (runH p (initL p) h).kept i ≠ at_ (trueValues p.keeps (runH p (initL p) h).things) i := by
  obtain ⟨many, hm, hat, hbefore⟩ := first_some _ hl
  have hm6 := mostOthers_le hv
  have hlen := lieAt_len hat
  refine (fun (hh : HOk p (initL p) h ∧ i < p.keeps.length ∧ at_ (runH p (initL p) h).kept i ≠ at_ (trueValues p.keeps (runH p (initL p) h).things) i) => ⟨hh.1, by omega, hh.2⟩) ?_
  -- what is made before
  have newok : ∀ m0 m1 a b, m0 ≤ mostOthers p → m1 ≤ mostOthers p → a ∈ numbers → b ∈ numbers → m0 + m1 < many → ∀ t ∈ allThings, NewOk p (crowdOf m0 m1 a b) t := fun m0 m1 a b h0 h1 ha hb hlt t ht =>
    at_new (hbefore _ hlt) (by omega) (crowd_in h0 h1 ha hb) ht
  have crow : ∀ m0 m1 a b, m0 ≤ mostOthers p → m1 ≤ mostOthers p → a ∈ numbers → b ∈ numbers → m0 + m1 ≤ many → (runH p (initL p) (news (crowdOf m0 m1 a b))).kept = trueValues p.keeps (crowdOf m0 m1 a b) := fun m0 m1 a b h0 h1 ha hb hle =>
    news_true hv _ (crowd_two _ _ _ _) fun us t hp => by
      obtain ⟨i0, i1, z0, z1, z2, e, et⟩ := crowd_prefix hp
      rw [e]
      refine newok i0 i1 a b (by omega) (by omega) ha hb (by omega) t ?_
      rcases et with e | e <;> rw [e]
      · exact thing_in (.inl rfl) ha
      · exact thing_in (.inr rfl) hb
  unfold lieAt at hat
  cases hn : (if many ≤ 2 * mostOthers p then lieOfNew p many (mostOthers p) else none) with
  | some x =>
    rw [hn] at hat
    have e : x = (h, i) := Option.some.inj hat
    subst e
    split at hn
    · rename_i hle
      obtain ⟨c, hc, hn⟩ := fsome_val hn
      obtain ⟨t, ht, hn⟩ := fsome_val hn
      obtain ⟨j, hj, hn⟩ := Option.map_eq_some_iff.mp hn
      injection hn with e1 e2
      subst e1 e2
      obtain ⟨m0, m1, a, b, rfl, h0, h1, hs, ha, hb⟩ := crowd_of hc
      have two := crowd_two m0 m1 a b
      have hk := crow m0 m1 a b h0 h1 ha hb (by omega)
      obtain ⟨r1, r2, r3⟩ := news_run p (crowdOf m0 m1 a b) two
      have r4 := news_things p (crowdOf m0 m1 a b) two
      obtain ⟨f1, f2⟩ := fl_ne hj
      refine ⟨hOk_append r1 ⟨(things_two ht).1, trivial⟩, f1, ?_⟩
      rw [runH_snoc, new_kept, new_things, r4, hk]
      exact f2
    · cases hn
  | none =>
    rw [hn] at hat
    have hat : (if 0 < many then lieOfOld p (many - 1) (mostOthers p) else none) = some (h, i) := hat
    split at hat
    · rename_i hpos
      obtain ⟨c, hc, hat⟩ := fsome_val hat
      obtain ⟨el, hel, hat⟩ := fsome_val hat
      obtain ⟨m0, m1, a, b, rfl, h0, h1, hs, ha, hb⟩ := crowd_of hc
      have hel2 := things_two hel
      have two : Two (crowdOf m0 m1 a b ++ [el]) := fun x hx => by
        rcases List.mem_append.mp hx with hx | hx
        · exact crowd_two _ _ _ _ x hx
        · rw [List.mem_singleton.mp hx]; exact hel2.1
      have hk : (runH p (initL p) (news (crowdOf m0 m1 a b ++ [el]))).kept = trueValues p.keeps (crowdOf m0 m1 a b ++ [el]) := by
        have hk0 := crow m0 m1 a b h0 h1 ha hb (by omega)
        have r4 := news_things p (crowdOf m0 m1 a b) (crowd_two _ _ _ _)
        rw [news_snoc, runH_snoc, new_kept, r4, hk0]
        exact eq_of_fl (n := .new) hv.k3 (hv.st .new) (newok m0 m1 a b h0 h1 ha hb (by omega) el hel)
      obtain ⟨r1, r2, r3⟩ := news_run p (crowdOf m0 m1 a b ++ [el]) two
      have hcl : (crowdOf m0 m1 a b).length = m0 + m1 := by unfold crowdOf; rw [List.length_append, List.length_replicate, List.length_replicate]
      have htb : (runH p (initL p) (news (crowdOf m0 m1 a b ++ [el]))).tb = (idsOf (crowdOf m0 m1 a b).length).zip (crowdOf m0 m1 a b) ++ ((crowdOf m0 m1 a b).length + 1, el) :: [] := by
        rw [r2, List.length_append]
        show (idsOf ((crowdOf m0 m1 a b).length + 1)).zip _ = _
        have e : idsOf ((crowdOf m0 m1 a b).length + 1) = idsOf (crowdOf m0 m1 a b).length ++ [(crowdOf m0 m1 a b).length + 1] := by
          unfold idsOf
          rw [List.range_succ, List.map_append]
          rfl
        rw [e, List.zip_append (ids_len _)]
        rfl
      have n1 : ∀ q ∈ (idsOf (crowdOf m0 m1 a b).length).zip (crowdOf m0 m1 a b), q.1 ≠ (crowdOf m0 m1 a b).length + 1 := fun q hq e => by
        have := (List.of_mem_zip hq).1
        obtain ⟨z, hz, ez⟩ := List.mem_map.mp this
        have := List.mem_range.mp hz
        omega
      have n2 : ∀ q ∈ ([] : List (Nat × Thing)), q.1 ≠ (crowdOf m0 m1 a b).length + 1 := fun q hq => by cases hq
      have hid : (crowdOf m0 m1 a b).length + 1 ∈ (runH p (initL p) (news (crowdOf m0 m1 a b ++ [el]))).ids := by
        unfold LgS.ids
        rw [htb, List.map_append]
        exact List.mem_append_right _ List.mem_cons_self
      have hel3 : (runH p (initL p) (news (crowdOf m0 m1 a b ++ [el]))).el ((crowdOf m0 m1 a b).length + 1) = el := by
        unfold LgS.el
        rw [htb, find_split n1]
        rfl
      cases hd : firstLie p p.drop (crowdOf m0 m1 a b ++ [el]) (crowdOf m0 m1 a b) (some el) none with
      | some j =>
        rw [hd] at hat
        injection hat with hat
        injection hat with e1 e2
        subst e1 e2
        obtain ⟨f1, f2⟩ := fl_ne hd
        refine ⟨hOk_append r1 ⟨hid, trivial⟩, f1, ?_⟩
        rw [runH_snoc, drop_kept, drop_things]
        rw [hel3, hk, htb, drop_split n1 n2, List.append_nil, zip_snd (ids_len _)]
        exact f2
      | none =>
        rw [hd] at hat
        obtain ⟨nw, hnw, hat⟩ := fsome_val hat
        obtain ⟨j, hj, hat⟩ := Option.map_eq_some_iff.mp hat
        injection hat with e1 e2
        subst e1 e2
        obtain ⟨f1, f2⟩ := fl_ne hj
        refine ⟨hOk_append r1 ⟨⟨hid, (things_two hnw).1⟩, trivial⟩, f1, ?_⟩
        rw [runH_snoc, change_kept, change_things]
        rw [hel3, hk, htb, put_split n1 n2, List.map_append, zip_snd (ids_len _)]
        exact f2
    · cases hat
end Kc

/-! Dicts that change: new, copied, walked, popped; lists that are held against each other. -/
namespace Dl
open PySem PySem.Spec L2
def keyDa (k : Key) : Da := .sc (kV k)
theorem keyD_keyDa (k : Key) : keyD (keyDa k) = some k := by cases k <;> rfl
/-- what the rest stays -/
def Keeps (S : List Addr) (M M' : MH) : Prop := ∀ a o, a ∉ S → M a = some o → M' a = some o
theorem Keeps.refl (S : List Addr) (M : MH) : Keeps S M M := fun _ _ _ h => h
theorem Keeps.trans {S : List Addr} {M M1 M2 : MH} (a : Keeps S M M1) (b : Keeps S M1 M2) : Keeps S M M2 := fun x o hn h => b x o hn (a x o hn h)
theorem Keeps.upd {S : List Addr} {M M' : MH} {a : Addr} {o : MO} (h : Keeps S M M') (ha : a ∈ S) : Keeps S M (updM M' a o) := fun x u hn e => by
  rw [updM_ne fun z => hn (by rw [z]; exact ha)]
  exact h x u hn e
theorem Keeps.new {S : List Addr} {M M' : MH} {a : Addr} {o : MO} (h : Keeps S M M') (ha : M' a = none) : Keeps S M (updM M' a o) := fun x u hn e => by
  have z := h x u hn e
  rw [updM_ne fun y => by rw [y, ha] at z; cases z]
  exact z
theorem Keeps.mono {S S' : List Addr} {M M' : MH} (h : Keeps S M M') (hs : ∀ a ∈ S, a ∈ S') : Keeps S' M M' := fun x u hn e => h x u (fun z => hn (hs x z)) e
theorem Keeps.sub {S : List Addr} {M M' : MH} (h : Keeps S M M') {N : MH} (hN : SubM N M) (hS : ∀ a ∈ S, N a = none) : SubM N M' := fun a o e => h a o (fun z => by rw [hS a z] at e; cases e) (hN a o e)
section
variable {K : PySem.W.Frag} {ρ : Env'} {M M1 : MH} {ta tb tc te td ty : TE} {t u tt : TT} {ts us : TS} {P : Da → MH → Prop} {PB : Bool → MH → Prop} {D : DE} {d e : Da} {i : Nat}
theorem ev_dnew (q : ∀ p, M p = none → P (.sc (.ref p)) (updM M p (.dK []))) : EvP K tDNewK ρ M P := fun σ F G H Q hE hO k => fun p hp =>
  k _ _ F _ _ (Same.refl F) (hO.newM (u := .dK []) hp ⟨[], upd_same, .nil⟩) (rp_sc.mpr rfl) (q p (hO.noM hp))
abbrev rDictC : List V → Hp → VK → Prop := fun xs H Q => ∃ (a : Addr) (kvs : List (Key × V)), xs = [.ref a] ∧ Rd H a (.dK kvs) ∧ ∀ p, H p = none → Q (.ref p) (upd H p (.dK kvs))
abbrev rListD : List V → Hp → VK → Prop := fun xs H Q => ∃ (a : Addr) (kvs : List (Key × V)), xs = [.ref a] ∧ Rd H a (.dK kvs) ∧ ∀ p, H p = none → Q (.ref p) (upd H p (.lst (kvs.map fun kv => kV kv.1)))
theorem cr_dictC {X : Cx} : CallR X (.type "dict") rDictC := call_dictD
theorem cr_listD {X : Cx} (h : X.calm = true) : CallR X (.type "list") rListD := call_listD h
theorem rcl_dictC {p : Addr} {kvs : List (Key × Da)} (hm : M p = some (.dK kvs)) (q : ∀ r, M r = none → P (.sc (.ref r)) (updM M r (.dK kvs))) : RCl K rDictC [.sc (.ref p)] M P := fun xs F G H Q rx hO k => by
  obtain ⟨x, rfl, r1⟩ := rpA_one rx
  have ex := rp_sc.mp r1
  subst ex
  obtain ⟨ys, hy, ry⟩ := (hO.mu p _ hm).2
  exact ⟨p, ys, rfl, .inl hy, fun r hr => k _ _ F _ _ (Same.refl F) (hO.newM (u := .dK kvs) hr ⟨ys, upd_same, ry⟩) (rp_sc.mpr rfl) (q r (hO.noM hr))⟩
theorem rpK_keys {F : Hp} : ∀ {kvs : List (Key × Da)} {ys : List (Key × V)}, RpK K F kvs ys → RpA K F (kvs.map fun kv => keyDa kv.1) (ys.map fun kv => kV kv.1)
  | _, _, .nil => RpA.nil_
  | (k1, d1) :: r, (k2, v2) :: r2, .cons ⟨e1, e2⟩ t => by
    have e1' : k1 = k2 := e1
    subst e1'
    exact RpA.cons_ (rp_sc.mpr rfl) (rpK_keys t)
theorem rcl_listD {p : Addr} {kvs : List (Key × Da)} (hm : M p = some (.dK kvs)) (q : P (.lst (kvs.map fun kv => keyDa kv.1)) M) : RCl K rListD [.sc (.ref p)] M P := fun xs F G H Q rx hO k => by
  obtain ⟨x, rfl, r1⟩ := rpA_one rx
  have ex := rp_sc.mp r1
  subst ex
  obtain ⟨ys, hy, ry⟩ := (hO.mu p _ hm).2
  exact ⟨p, ys, rfl, .inl hy, fun r hr => fin_lst hO hr (rpK_keys ry) q k⟩
theorem tv_dnotin (h : EvP K ty ρ M fun y M1 => EvP K td ρ M1 fun o M2 => ∃ p kvs k z, o = .sc (.ref p) ∧ M2 p = some (.dK kvs) ∧ keyD y = some k ∧ valD kvs k = some z ∧ P (.sc (.bl false)) M2) : EvP K (tDNotIn ty td) ρ M P := fun σ F G H Q hE hO k =>
  h σ F G H _ hE hO fun y z F1 M1 H1 s1 o1 r1 h1 => h1 σ F1 G H1 _ (hE.mono s1) o1 fun x o F2 M2 H2 s2 o2 r2 ⟨p, kvs, ky, w, e, hm, hk, hv, q⟩ => by
    subst e
    have ex := rp_sc.mp r2
    subst ex
    have ey := keyD_v hk (Rp.mono s2 _ _ r1)
    subst ey
    obtain ⟨ys, hy, ry⟩ := (o2.mu p _ hm).2
    obtain ⟨v, ev, rv⟩ := rpK_val ry hv
    exact ⟨p, some v, rfl, by rw [← ev]; exact DGet.k hy, k _ _ F2 M2 H2 (s1.trans s2) o2 (rp_sc.mpr rfl) q⟩
theorem ev_dpop (h : EvP K td ρ M fun o M1 => ∃ p kvs, o = .sc (.ref p) ∧ M1 p = some (.dK kvs) ∧ EvP K ty ρ M1 fun y M2 => M1 = M2 ∧ ∃ k z, keyD y = some k ∧ valD kvs k = some z ∧ P z (updM M1 p (.dK (dropD kvs k)))) : EvP K (tDPop1 td ty) ρ M P := fun σ F G H Q hE hO k =>
  h σ F G H _ hE hO fun x o F1 M1 H1 s1 o1 r1 ⟨p, kvs, e, hm, h1⟩ => by
    subst e
    have ex := rp_sc.mp r1
    subst ex
    obtain ⟨ys0, hy0, _⟩ := (o1.mu p _ hm).2
    refine ⟨p, rfl, .inl ⟨ys0, .inl hy0⟩, h1 σ F1 G H1 _ (hE.mono s1) o1 fun y w F2 M2 H2 s2 o2 r2 ⟨em, ky, z, hk, hv, q⟩ => ?_⟩
    subst em
    have ey := keyD_v hk r2
    subst ey
    obtain ⟨ys, hy, ry⟩ := (o2.mu p _ hm).2
    obtain ⟨v, ev, rv⟩ := rpK_val ry hv
    exact ⟨ys, ky, v, hy, rfl, ev, k v z F2 _ _ (s1.trans s2) (putDK o2 hm (rpK_drop ry)) rv q⟩
/-- a dict is locked, and free again -/
theorem OkH.lock {F G H : Hp} {p : Addr} {u : MO} {o : HO} (h : OkH K F M G H) (hm : M p = some u) : OkH K F (delM M p) (upd G p o) (upd H p o) where
  ex := sm_right h.ex (h.mu p u hm).1
  mu := fun a z e => by
    have ne : a ≠ p := by
      rintro rfl
      unfold delM at e
      rw [if_pos rfl] at e
      cases e
    rw [delM_ne ne] at e
    obtain ⟨h1, h2⟩ := h.mu a z e
    exact ⟨h1, h2.mono (Same.refl F) (upd_ne ne)⟩
  gx := sm_both h.gx
  gd := fun a z e => by
    by_cases ha : a = p
    · subst ha
      exact ⟨(h.mu a u hm).1, by unfold delM; rw [if_pos rfl]⟩
    · rw [upd_ne ha] at e
      obtain ⟨h1, h2⟩ := h.gd a z e
      exact ⟨h1, by rw [delM_ne ha]; exact h2⟩
theorem OkH.unlock {F G H : Hp} {p : Addr} {u : MO} {o o' : HO} (h : OkH K F (delM M p) (upd G p o) H) (hm : M p = some u) (hG : G p = none) (r : RpM K F (upd H p o') p u) : OkH K F M G (upd H p o') where
  ex := sm_right h.ex (h.gd p o upd_same).1
  mu := fun a z e => by
    by_cases ha : a = p
    · subst ha
      rw [hm] at e
      cases e
      exact ⟨(h.gd a o upd_same).1, r⟩
    · obtain ⟨h1, h2⟩ := h.mu a z (by rw [delM_ne ha]; exact e)
      exact ⟨h1, h2.mono (Same.refl F) (upd_ne ha)⟩
  gx := fun b z e => by
    have ne : b ≠ p := by
      rintro rfl
      rw [hG] at e
      cases e
    rw [upd_ne ne]
    exact h.gx b z (by rw [upd_ne ne]; exact e)
  gd := fun a z e => by
    have ne : a ≠ p := by
      rintro rfl
      rw [hG] at e
      cases e
    obtain ⟨h1, h2⟩ := h.gd a z (by rw [upd_ne ne]; exact e)
    rw [delM_ne ne] at h2
    exact ⟨h1, h2⟩
theorem OkH.noGm {F G H : Hp} {p : Addr} {u : MO} (h : OkH K F M G H) (hm : M p = some u) : G p = none := by
  cases q : G p with
  | none => rfl
  | some z =>
    rw [(h.gd p z q).2] at hm
    cases hm
theorem rpK_get {F : Hp} : ∀ {kvs : List (Key × Da)} {ys : List (Key × V)} {i : Nat} {k : Key} {v : V}, RpK K F kvs ys → ys[i]? = some (k, v) → ∃ d, kvs[i]? = some (k, d) ∧ Rp K F d v
  | _, _, i, k, v, .nil, h => by simp at h
  | (k1, d1) :: r, (k2, v2) :: r2, 0, k, v, .cons ⟨e1, e2⟩ t, h => by
    have e1' : k1 = k2 := e1
    subst e1'
    simp at h
    obtain ⟨rfl, rfl⟩ := h
    exact ⟨d1, rfl, e2⟩
  | (k1, d1) :: r, (k2, v2) :: r2, i + 1, k, v, .cons ⟨e1, e2⟩ t, h => by
    obtain ⟨d, h1, h2⟩ := rpK_get (i := i) t (by simpa using h)
    exact ⟨d, by simpa using h1, h2⟩
/-- [d[x] for x in d] -/
theorem ev_vals {td2 : TE} {j : Nat} {vs : List Nat} (p : Addr) (kvs : List (Key × Da)) (hj : j ∈ vs) (hm : M p = some (.dK kvs)) (hv : ∀ (i : Nat) k d, kvs[i]? = some (k, d) → valD kvs k = some d) (hl : kvs.length < 100000) (hjl : j < ρ.length)
    (h1 : EvP K td ρ (delM M p) fun d M' => d = .sc (.ref p) ∧ M' = delM M p) (h2 : ∀ k, EvP K td2 ((wipeD ρ vs).set j (some (keyDa k))) (delM M p) fun d M' => d = .sc (.ref p) ∧ M' = delM M p)
    (q : P (.lst (kvs.map (·.2))) M) : EvP K (tLockE (tLc (iKeys td) (gName j) tYes (tDGet td2 (tVar j)) vs)) ρ M P := fun σ F G H Q hE hO k => by
  obtain ⟨ys, hy, ry⟩ := (hO.mu p _ hm).2
  have hG : G p = none := hO.noGm hm
  refine ⟨p, .dK ys, hy, trivial, fun od => ?_⟩
  have o1 : OkH K F (delM M p) (upd G p (.frz od (.dK ys))) (upd H p (.frz od (.dK ys))) := hO.lock hm
  refine h1 σ F _ _ _ hE o1 fun x d F1 M1 H1 s1 o1 r1 ⟨ed, em⟩ => ?_
  subst ed em
  have ex := rp_sc.mp r1
  subst ex
  refine ⟨p, od, rfl, .inl ⟨ys, o1.gx _ _ upd_same, fun Dl hDl => ?_⟩⟩
  have hGl : upd G p (.frz od (.dK ys)) Dl = none := o1.noG hDl
  have hlen := rpK_len ry
  refine ⟨fun i m H' => m = kvs.length - i ∧ i ≤ kvs.length ∧ ∃ F' zs, Same F1 F' ∧ OkH K F' (delM M p) (upd (upd G p (.frz od (.dK ys))) Dl (.lst zs)) H' ∧ RpA K F' ((kvs.take i).map (·.2)) zs, ⟨kvs.length, by simp, Nat.zero_le _, F1, [], Same.refl F1, o1.hide hDl, RpA.nil_⟩, ?_⟩
  have hDp : p ≠ Dl := by
    intro e
    rw [← e, upd_same] at hGl
    cases hGl
  rintro i n H' ⟨rfl, hi, F', zs, s2, o2, rz⟩
  have hp' : H' p = some (.frz od (.dK ys)) := o2.gx _ _ (by rw [upd_ne hDp, upd_same])
  by_cases hlt : i < kvs.length
  · refine .inr ⟨⟨hp', by omega⟩, fun H3 => ∃ F3 zs, Same F1 F3 ∧ OkH K F3 (delM M p) (upd (upd G p (.frz od (.dK ys))) Dl (.lst zs)) H3 ∧ RpA K F3 ((kvs.take (i + 1)).map (·.2)) zs, fun H3 q => ⟨kvs.length - (i + 1), by omega, rfl, hlt, q⟩, fun x H2 y => ?_⟩
    obtain ⟨e, ky, v, hkv, ex⟩ := y
    subst e ex
    obtain ⟨dd, hdd, rd⟩ := rpK_get ry hkv
    have hvd := hv i ky dd hdd
    show wipe ((wipe σ vs).set j (some (kV ky))) vs = wipe σ vs ∧ _
    refine ⟨by rw [wipe_set hj, wipe_wipe], ?_⟩
    have sA : Same F F' := s1.trans s2
    have e3 : EnvD K F' ((wipeD ρ vs).set j (some (keyDa ky))) ((wipe σ vs).set j (some (kV ky))) := (((hE.wipe vs).mono sA)).set j (rp_sc.mpr rfl)
    refine (tv_yes (K := K) (PB := fun b M2 => b = true ∧ M2 = delM M p) ⟨rfl, rfl⟩) _ F' _ H2 _ e3 o2 fun b F3 M3 H3 s3 o2 ⟨eb, em⟩ => ?_
    subst eb em
    rw [if_pos rfl]
    have e3 := e3.mono s3
    have sA := sA.trans s3
    refine h2 ky _ F3 _ H3 _ e3 o2 fun x3 d3 F4 M4 H4 s4 o4 r4 ⟨ed, em⟩ => ?_
    subst ed em
    have ex := rp_sc.mp r4
    subst ex
    have hwl : j < (wipe σ vs).length := by rw [wipe_length, ← hE.len]; exact hjl
    refine ⟨kV ky, by rw [List.getElem?_set_self hwl], ?_⟩
    obtain ⟨v2, ev2, rv2⟩ := rpK_val (Paired.mapP ry fun p q z => ⟨z.1, Rp.mono (sA.trans s4) _ _ z.2⟩) hvd
    refine ⟨p, v2, rfl, .inl ⟨ys, ky, .inr ⟨od, o4.gx _ _ (by rw [upd_ne hDp, upd_same])⟩, rfl, ev2.symm⟩, ?_⟩
    refine ⟨zs, o4.gx _ _ upd_same, sz_lt (by rw [← rz.length, List.length_map, List.length_take]; omega), F4, zs ++ [v2], (s2.trans s3).trans s4, o4.rehide, ?_⟩
    have et : (kvs.take (i + 1)).map (·.2) = (kvs.take i).map (·.2) ++ [dd] := by
      rw [List.take_add_one, hdd, List.map_append]
      rfl
    rw [et]
    exact (RpA.mono (s3.trans s4) _ _ rz).append (RpA.cons_ rv2 RpA.nil_)
  · have e : i = kvs.length := by omega
    subst e
    refine .inl ⟨⟨hp', by omega⟩, hp', ?_⟩
    rw [List.take_length] at rz
    obtain ⟨o6, s6⟩ := o2.show_ hGl
    have o7 := o6.unlock (M := M) (o' := .dK ys) hm hG ⟨ys, upd_same, Paired.mapP ry fun p q z => ⟨z.1, Rp.mono ((s1.trans s2).trans s6) _ _ z.2⟩⟩
    exact k _ _ _ M _ ((s1.trans s2).trans s6) o7 (rp_lst.mpr ⟨Dl, zs, rfl, upd_same, RpA.mono s6 _ _ rz⟩) q
theorem dropD_snoc_ne {kvs : List (Key × Da)} {k x : Key} {d : Da} (h : x ≠ k) : dropD (kvs ++ [(x, d)]) k = dropD kvs k ++ [(x, d)] := by
  unfold dropD
  rw [List.filter_append]
  congr 1
  rw [List.filter_cons_of_pos (by simp [h])]
  rfl
theorem dropD_snoc_eq {kvs : List (Key × Da)} {k : Key} {d : Da} : dropD (kvs ++ [(k, d)]) k = dropD kvs k := by
  unfold dropD
  rw [List.filter_append, List.filter_cons_of_neg (by simp)]
  exact List.append_nil _
theorem putD_new {kvs : List (Key × Da)} {k : Key} {d : Da} (h : k ∉ kvs.map (·.1)) : putD kvs k d = kvs ++ [(k, d)] := by
  unfold putD
  rw [if_neg]
  intro z
  obtain ⟨x, hx, e⟩ := List.any_eq_true.mp z
  exact h (List.mem_map.mpr ⟨x, hx, of_decide_eq_true e⟩)
theorem take_nodup {α β : Type} {l : List (α × β)} {i : Nat} {k : α} {d : β} (hn : (l.map (·.1)).Nodup) (h : l[i]? = some (k, d)) : k ∉ (l.take i).map (·.1) := by
  intro z
  obtain ⟨x, hx, e⟩ := List.mem_map.mp z
  obtain ⟨j, hj, ej⟩ := List.getElem_of_mem hx
  rw [List.length_take] at hj
  have hi := (List.getElem?_eq_some_iff.mp h).1
  have h1 : (l.map (·.1))[j]? = some k := by
    rw [List.getElem?_map, List.getElem?_eq_getElem (by omega)]
    rw [List.getElem_take] at ej
    rw [ej, Option.map_some, e]
  have h2 : (l.map (·.1))[i]? = some k := by rw [List.getElem?_map, h] <;> rfl
  have := (List.getElem?_inj (by rw [List.length_map]; omega) hn).mp (h1.trans h2.symm)
  omega
/-- {x: d[x] for x in d if x != k} -/
theorem ev_dropped {td2 : TE} {j : Nat} {vs : List Nat} (p : Addr) (kvs : List (Key × Da)) (kk : Key) (hj : j ∈ vs) (hm : M p = some (.dK kvs)) (hn : (kvs.map (·.1)).Nodup) (hv : ∀ (i : Nat) k d, kvs[i]? = some (k, d) → valD kvs k = some d) (hl : kvs.length < 100000) (hjl : j < ρ.length)
    (h1 : EvP K td ρ (delM M p) fun d M' => d = .sc (.ref p) ∧ M' = delM M p) (h2 : ∀ k, EvP K td2 ((wipeD ρ vs).set j (some (keyDa k))) (delM M p) fun d M' => d = .sc (.ref p) ∧ M' = delM M p)
    (h3 : ∀ k, k ∈ kvs.map (·.1) → TvP K tt ((wipeD ρ vs).set j (some (keyDa k))) (delM M p) fun b M' => b = decide (k ≠ kk) ∧ M' = delM M p)
    (q : ∀ r, M r = none → P (.sc (.ref r)) (updM M r (.dK (dropD kvs kk)))) : EvP K (tLockE (tDc (iKeys td) (gName j) tt (tVar j) (tDGet td2 (tVar j)) vs)) ρ M P := fun σ F G H Q hE hO k => by
  obtain ⟨ys, hy, ry⟩ := (hO.mu p _ hm).2
  have hG : G p = none := hO.noGm hm
  refine ⟨p, .dK ys, hy, trivial, fun od => ?_⟩
  have o1 : OkH K F (delM M p) (upd G p (.frz od (.dK ys))) (upd H p (.frz od (.dK ys))) := hO.lock hm
  refine h1 σ F _ _ _ hE o1 fun x d F1 M1 H1 s1 o1 r1 ⟨ed, em⟩ => ?_
  subst ed em
  have ex := rp_sc.mp r1
  subst ex
  refine ⟨p, od, rfl, .inl ⟨ys, o1.gx _ _ upd_same, fun Dl hDl => ?_⟩⟩
  have hGl : upd G p (.frz od (.dK ys)) Dl = none := o1.noG hDl
  have hlen := rpK_len ry
  refine ⟨fun i m H' => m = kvs.length - i ∧ i ≤ kvs.length ∧ ∃ F' zs, Same F1 F' ∧ OkH K F' (delM M p) (upd (upd G p (.frz od (.dK ys))) Dl (.dK zs)) H' ∧ RpK K F' (dropD (kvs.take i) kk) zs, ⟨kvs.length, by simp, Nat.zero_le _, F1, [], Same.refl F1, o1.hide hDl, .nil⟩, ?_⟩
  have hDp : p ≠ Dl := by
    intro e
    rw [← e, upd_same] at hGl
    cases hGl
  rintro i n H' ⟨rfl, hi, F', zs, s2, o2, rz⟩
  have hp' : H' p = some (.frz od (.dK ys)) := o2.gx _ _ (by rw [upd_ne hDp, upd_same])
  by_cases hlt : i < kvs.length
  · refine .inr ⟨⟨hp', by omega⟩, fun H3 => ∃ F3 zs, Same F1 F3 ∧ OkH K F3 (delM M p) (upd (upd G p (.frz od (.dK ys))) Dl (.dK zs)) H3 ∧ RpK K F3 (dropD (kvs.take (i + 1)) kk) zs, fun H3 q => ⟨kvs.length - (i + 1), by omega, rfl, hlt, q⟩, fun x H2 y => ?_⟩
    obtain ⟨e, ky, v, hkv, ex⟩ := y
    subst e ex
    obtain ⟨dd, hdd, rd⟩ := rpK_get ry hkv
    have hvd := hv i ky dd hdd
    have hin : ky ∈ kvs.map (·.1) := List.mem_map.mpr ⟨(ky, dd), List.mem_of_getElem? hdd, rfl⟩
    have et : kvs.take (i + 1) = kvs.take i ++ [(ky, dd)] := by
      rw [List.take_add_one, hdd]
      rfl
    show wipe ((wipe σ vs).set j (some (kV ky))) vs = wipe σ vs ∧ _
    refine ⟨by rw [wipe_set hj, wipe_wipe], ?_⟩
    have sA : Same F F' := s1.trans s2
    have e3 : EnvD K F' ((wipeD ρ vs).set j (some (keyDa ky))) ((wipe σ vs).set j (some (kV ky))) := (((hE.wipe vs).mono sA)).set j (rp_sc.mpr rfl)
    have hwl : j < (wipe σ vs).length := by rw [wipe_length, ← hE.len]; exact hjl
    refine h3 ky hin _ F' _ H2 _ e3 o2 fun b F4 M4 H4 s4 o4 ⟨eb, em⟩ => ?_
    subst eb em
    by_cases hk : ky = kk
    · rw [if_neg (by simp [hk])]
      refine ⟨F4, zs, s2.trans s4, o4, ?_⟩
      rw [et, hk, dropD_snoc_eq]
      exact Paired.mapP rz fun p q z => ⟨z.1, Rp.mono s4 _ _ z.2⟩
    · rw [if_pos (by simp [hk])]
      refine ⟨kV ky, by rw [List.getElem?_set_self hwl], ?_⟩
      refine h2 ky _ F4 _ H4 _ (e3.mono s4) o4 fun x3 d3 F5 M5 H5 s5 o5 r5 ⟨ed, em⟩ => ?_
      subst ed em
      have ex := rp_sc.mp r5
      subst ex
      refine ⟨kV ky, by rw [List.getElem?_set_self hwl], ?_⟩
      obtain ⟨v2, ev2, rv2⟩ := rpK_val (Paired.mapP ry fun p q z => ⟨z.1, Rp.mono ((sA.trans s4).trans s5) _ _ z.2⟩) hvd
      refine ⟨p, v2, rfl, .inl ⟨ys, ky, .inr ⟨od, o5.gx _ _ (by rw [upd_ne hDp, upd_same])⟩, rfl, ev2.symm⟩, ?_⟩
      have rk : RpK K F5 (dropD (kvs.take i) kk) zs := Paired.mapP rz fun p q z => ⟨z.1, Rp.mono (s4.trans s5) _ _ z.2⟩
      refine ⟨zs, ky, rfl, o5.gx _ _ upd_same, sz_lt ?_, F5, putK zs ky v2, (s2.trans s4).trans s5, o5.rehide, ?_⟩
      · rw [← rpK_len rz]
        have : (dropD (kvs.take i) kk).length ≤ (kvs.take i).length := List.length_filter_le _ _
        rw [List.length_take] at this
        omega
      · have hnew : ky ∉ (dropD (kvs.take i) kk).map (·.1) := fun z => take_nodup hn hdd (by
          obtain ⟨x, hx, e⟩ := List.mem_map.mp z
          exact List.mem_map.mpr ⟨x, (List.mem_filter.mp hx).1, e⟩)
        rw [et, dropD_snoc_ne hk, ← putD_new hnew]
        exact rpK_put rk rv2
  · have e : i = kvs.length := by omega
    subst e
    refine .inl ⟨⟨hp', by omega⟩, hp', ?_⟩
    rw [List.take_length] at rz
    have nM := (o2.gd Dl _ upd_same).2
    have nF := (o2.gd Dl _ upd_same).1
    have hx : H' Dl = some (.dK zs) := o2.gx _ _ upd_same
    have nM' : M Dl = none := by
      rw [delM_ne hDp.symm] at nM
      exact nM
    -- the new dict is a cell
    have o6 : OkH K F' (updM (delM M p) Dl (.dK (dropD kvs kk))) (upd G p (.frz od (.dK ys))) H' := by
      refine ⟨o2.ex, fun a u e => ?_, fun b u e => ?_, fun a u e => ?_⟩
      · by_cases ha : a = Dl
        · subst ha
          rw [updM_same] at e
          cases e
          exact ⟨nF, _, hx, rz⟩
        · rw [updM_ne ha] at e
          exact o2.mu a u e
      · have ne : b ≠ Dl := by
          rintro rfl
          rw [hGl] at e
          cases e
        exact o2.gx b u (by rw [upd_ne ne]; exact e)
      · have ne : a ≠ Dl := by
          rintro rfl
          rw [hGl] at e
          cases e
        obtain ⟨h1, h2⟩ := o2.gd a u (by rw [upd_ne ne]; exact e)
        exact ⟨h1, by rw [updM_ne ne]; exact h2⟩
    have ec : updM (delM M p) Dl (.dK (dropD kvs kk)) = delM (updM M Dl (.dK (dropD kvs kk))) p := (delM_comm hDp.symm).symm
    rw [ec] at o6
    have o7 := o6.unlock (M := updM M Dl (.dK (dropD kvs kk))) (u := .dK kvs) (o' := .dK ys) (by rw [updM_ne hDp]; exact hm) hG ⟨ys, upd_same, Paired.mapP ry fun p q z => ⟨z.1, Rp.mono (s1.trans s2) _ _ z.2⟩⟩
    exact k _ _ _ _ _ (s1.trans s2) o7 (rp_sc.mpr rfl) (q Dl nM')
/-- a comprehension whose list is to change -/
theorem ev_lcM {wi : TI} {g : TG} {vs js : List Nat} (hj : ∀ j ∈ js, j ∈ vs) (h : SrP K wi ρ M fun ds M1 => ∃ I : Nat → List Da → MH → Prop, I 0 [] M1 ∧
      (∀ i d acc M', ds[i]? = some d → I i acc M' → ∃ xs, TgOk K g js d xs ∧ TvP K tt (setAllD (wipeD ρ vs) js xs) M' fun b M2 =>
        if b = true then acc.length < 100000 ∧ EvP K te (setAllD (wipeD ρ vs) js xs) M2 fun y M3 => I (i + 1) (acc ++ [y]) M3 else I (i + 1) acc M2) ∧ ∀ acc M', I ds.length acc M' → ∀ r, M' r = none → P (.sc (.ref r)) (updM M' r (.lst acc))) : EvP K (tLc wi g tt te vs) ρ M P := fun σ F G H Q hE hO k =>
  h σ F G H _ hE hO fun J ds F1 M1 H1 s1 o1 w ⟨I, i0, hs, hd⟩ => fun Dl hDl => by
    have hG : G Dl = none := o1.noG hDl
    refine ⟨fun i m H' => m = ds.length - i ∧ i ≤ ds.length ∧ ∃ F' M' acc ys, Same F1 F' ∧ OkH K F' M' (upd G Dl (.lst ys)) H' ∧ RpA K F' acc ys ∧ I i acc M', ⟨ds.length, by simp, Nat.zero_le _, F1, M1, [], [], Same.refl F1, o1.hide hDl, RpA.nil_, i0⟩, ?_⟩
    rintro i n H' ⟨rfl, hi, F', M', acc, ys, s2, o2, racc, p⟩
    by_cases hlt : i < ds.length
    · refine .inr ⟨w.go i H' hlt fun b o q => o2.ex _ _ (s2 _ _ q), fun H3 => ∃ F3 M3 acc ys, Same F1 F3 ∧ OkH K F3 M3 (upd G Dl (.lst ys)) H3 ∧ RpA K F3 acc ys ∧ I (i + 1) acc M3, fun H3 q => ⟨ds.length - (i + 1), by omega, rfl, hlt, q⟩, fun x H2 y => ?_⟩
      obtain ⟨F2, d, s3, o3, hd3, r3⟩ := w.yld i F' M' _ H' x H2 hlt s2 o2 y
      obtain ⟨xs, tg, tv⟩ := hs i d acc M' hd3 p
      refine tg x F2 H2 (wipe σ vs) _ r3 o3.ex fun zs rz => ⟨by rw [wipe_setAll hj, wipe_wipe], ?_⟩
      have e3 : EnvD K F2 (setAllD (wipeD ρ vs) js xs) (setAll (wipe σ vs) js zs) := (((hE.wipe vs).mono ((s1.trans s2).trans s3))).setAll rz
      refine tv _ F2 _ H2 _ e3 o3 fun b F4 M4 H4 s4 o4 q4 => ?_
      cases b with
      | true =>
        rw [if_pos rfl]
        obtain ⟨hl, ev⟩ := (show acc.length < 100000 ∧ EvP K te (setAllD (wipeD ρ vs) js xs) M4 fun y M3 => I (i + 1) (acc ++ [y]) M3 from q4)
        refine ev _ F4 _ H4 _ (e3.mono s4) o4 fun v z F5 M5 H5 s5 o5 r5 q5 => ?_
        refine ⟨ys, o5.gx _ _ upd_same, sz_lt (by rw [← racc.length]; exact hl), F5, M5, acc ++ [z], ys ++ [v], ((s2.trans s3).trans s4).trans s5, o5.rehide, ?_, q5⟩
        exact (RpA.mono ((s3.trans s4).trans s5) _ _ racc).append (RpA.cons_ r5 RpA.nil_)
      | false =>
        rw [if_neg Bool.false_ne_true]
        exact ⟨F4, M4, acc, ys, (s2.trans s3).trans s4, o4, RpA.mono (s3.trans s4) _ _ racc, q4⟩
    · have e : i = ds.length := by omega
      subst e
      have nM := (o2.gd Dl _ upd_same).2
      have nF := (o2.gd Dl _ upd_same).1
      have hx : H' Dl = some (.lst ys) := o2.gx _ _ upd_same
      have o3 : OkH K F' (updM M' Dl (.lst acc)) G H' := by
        refine ⟨o2.ex, fun a u e => ?_, fun b u e => ?_, fun a u e => ?_⟩
        · by_cases ha : a = Dl
          · subst ha
            rw [updM_same] at e
            cases e
            exact ⟨nF, _, hx, racc⟩
          · rw [updM_ne ha] at e
            exact o2.mu a u e
        · have ne : b ≠ Dl := by
            rintro rfl
            rw [hG] at e
            cases e
          exact o2.gx b u (by rw [upd_ne ne]; exact e)
        · have ne : a ≠ Dl := by
            rintro rfl
            rw [hG] at e
            cases e
          obtain ⟨h1, h2⟩ := o2.gd a u (by rw [upd_ne ne]; exact e)
          exact ⟨h1, by rw [updM_ne ne]; exact h2⟩
      exact .inl ⟨w.stop H' fun b o q => o2.ex _ _ (s2 _ _ q), k _ _ F' _ H' (s1.trans s2) o3 (rp_sc.mpr rfl) (hd acc M' p Dl nM)⟩
/-! ### o.f += e -/
theorem stp_fldaug {tv : TE} {f : Str} {C : Addr} {ns : List Str} (c : Cls K C) (n : NoAttr K C f)
    (h : EvP K ta ρ M fun o M1 => ∃ p ds j a, o = .sc (.ref p) ∧ M1 p = some (.ins C ns ds) ∧ ns[j]? = some f ∧ f ∉ ns.take j ∧ ns.length < 1000 ∧ fldD f ns ds = some (.sc (.int a)) ∧ EvP K tv ρ M1 fun y M2 => ∃ b, y = .sc (.int b) ∧ M1 = M2 ∧ D.nx ρ (updM M2 p (.ins C ns (ds.set j (.sc (.int (a + b))))))) : StP K (sFldAug K ta tv rAdd f) ρ M D := fun σ F G H D0 hE hO m =>
  h σ F G H _ hE hO fun x o F1 M1 H1 s1 o1 r1 ⟨p, ds, j, a, e, hm, hj, hj2, hl, hf, h1⟩ => by
    subst e
    have ex := rp_sc.mp r1
    subst ex
    obtain ⟨dx, xs, hx, hlen, rx⟩ := (o1.mu p _ hm).2
    obtain ⟨w, hw, rw'⟩ := fld_lookup rx hf
    have ew := rp_sc.mp rw'
    subst ew
    refine ⟨p, C, dx, _, _, rfl, hx, c, n, hw, h1 σ F1 G H1 _ (hE.mono s1) o1 fun y z F2 M2 H2 s2 o2 r2 ⟨b, ez, em, q⟩ => ?_⟩
    subst ez em
    have ey := rp_sc.mp r2
    subst ey
    obtain ⟨dx2, xs2, hx2, hlen2, rx2⟩ := (o2.mu p _ hm).2
    obtain ⟨ns', ds', xs', e1, e2, e3, e4, _, e6⟩ := fld_put (f := f) hlen2 rx2 (rp_sc.mpr (rfl : V.int (a + b) = V.int (a + b)))
    have z1 := e4 (List.mem_of_getElem? hj)
    have z2 := e6 j hj hj2
    subst z1 z2
    refine ⟨a, b, rfl, rfl, dx2, _, hx2, by rw [List.length_zip]; omega, ?_⟩
    rw [e1]
    exact m.nx σ ρ F2 _ _ (s1.trans s2) (hE.mono (s1.trans s2)) (putI o2 hm e2 e3) q
/-! ### lists that are the same -/
def pyV : V → PyData
  | .bl b => .bool b
  | .int i => .int i
  | _ => .none
def plainV : V → Bool
  | .non => true
  | .bl _ => true
  | .int _ => true
  | _ => false
theorem dp_all {H : Hp} : ∀ {vs : List V}, vs.all plainV = true → DpAll K H vs (vs.map pyV)
  | [], _ => .nil
  | v :: vs, h => by
    rw [List.all_cons, Bool.and_eq_true] at h
    refine .cons ?_ (dp_all h.2)
    cases v with
    | non => exact .non
    | bl b => exact .bl b
    | int i => exact .int i
    | _ => cases h.1
theorem py_lay : ∀ (vs : List V), PyData.canLayAll0 (vs.map pyV) = true ∧ PyData.depthAll (vs.map pyV) = 0
  | [] => ⟨rfl, rfl⟩
  | v :: vs => by
    obtain ⟨h1, h2⟩ := py_lay vs
    have e : PyData.canLay0 (pyV v) = true ∧ PyData.depth (pyV v) = 0 := by cases v <;> exact ⟨rfl, rfl⟩
    rw [List.map_cons]
    unfold PyData.canLayAll0 PyData.depthAll
    rw [h1, h2, e.1, e.2]
    exact ⟨rfl, rfl⟩
theorem rop_neSame {vs : List V} (hv : vs.all plainV = true) (q : P (.sc (.bl false)) M) : ROp K (rNeD K) (.lst (vs.map Da.sc)) (.lst (vs.map Da.sc)) M P := fun x y F G H Q rx ry hO k => by
  obtain ⟨a, xs, rfl, ha, ra⟩ := rp_lst.mp rx
  obtain ⟨b, zs, rfl, hb, rb⟩ := rp_lst.mp ry
  have e1 := rpA_sc.mp ra
  have e2 := rpA_sc.mp rb
  subst e1 e2
  obtain ⟨l1, l2⟩ := py_lay zs
  have hc : PyData.canLay0 (.list (zs.map pyV)) = true := l1
  have hd : SeqAt.shaped (.list (zs.map pyV)) = true := by
    unfold SeqAt.shaped
    rw [hc, Bool.true_and]
    refine decide_eq_true ?_
    show PyData.depthAll (zs.map pyV) + 1 ≤ 64
    omega
  refine ⟨_, _, .lst (.inl (.inl (hO.ex _ _ ha))) (dp_all hv), .lst (.inl (.inl (hO.ex _ _ hb))) (dp_all hv), hd, hd, ?_⟩
  rw [SeqAt.eqv_refl _ hc]
  exact fin_v hO q k
end
section
variable {X : Cx} {K : PySem.W.Frag} {w : World} {pos : Pos}
theorem k_pe_ixTab {a b : Expr} {ta tb : TE} {d : Addr} {es : Array DictEntry} {n : Nat} (D : KDict K w d es n) (ha : PE X a ta) (hb : PE X b tb) (hs : NoSl b) (h1 : X.K = K := by rfl) (h2 : X.w = w := by rfl) : PE X (.Subscript a b pos) (tOp (rItemKD K d) ta tb) := by
  subst h1 h2
  exact pe_ixTab D ha hb hs
end
end Dl

/-! Promises of ledgers: the package's, the law's own. -/
namespace Kc
open PySem L2 Dl
theorem ne_M {M : MH} {a b : Addr} {o u : MO} (h1 : M a = some o) (h2 : M b = some u) (h : o ≠ u) : a ≠ b := by
  rintro rfl
  rw [h1] at h2
  exact h (Option.some.inj h2)
theorem ne_N {M : MH} {a b : Addr} {o : MO} (h1 : M a = some o) (h2 : M b = none) : a ≠ b := by
  rintro rfl
  rw [h1] at h2
  cases h2
abbrev ledN : List Str := ["program", "table", "made", "amounts", "deeds", "past"]
structure TxL (K : PySem.W.Frag) : Prop where
  c_Ledger : Cls K (He.ga K "Ledger")
  n_Ledger : ∀ f ∈ ledN, NoAttr K (He.ga K "Ledger") f
def tbD (tb : List (Nat × Thing)) : List (Key × Da) := tb.map fun q => (.inl (q.1 : Int), thingD q.2)
abbrev stD (t : Addr) (made : Nat) (kl : Addr) : List (Key × Da) := [(.inr "table", .sc (.ref t)), (.inr "made", iD made), (.inr "kept", .sc (.ref kl))]
theorem tbD_find {tb : List (Nat × Thing)} {t : Nat} : valD (tbD tb) (.inl (t : Int)) = (tb.find? fun q => decide (q.1 = t)).map fun q => thingD q.2 := by
  unfold valD tbD
  induction tb with
  | nil => rfl
  | cons q tb ih =>
    rw [List.map_cons, List.find?_cons, List.find?_cons]
    by_cases h : q.1 = t
    · have e : ((Sum.inl (q.1 : Int) : Key) = .inl (t : Int)) := by rw [h]
      rw [decide_eq_true h]
      show Option.map _ (match decide ((Sum.inl (q.1 : Int) : Key) = .inl (t : Int)) with | true => _ | false => _) = _
      rw [decide_eq_true e]
      rfl
    · have e : ¬ ((Sum.inl (q.1 : Int) : Key) = .inl (t : Int)) := fun z => h (by injection z with z; omega)
      rw [decide_eq_false h]
      show Option.map _ (match decide ((Sum.inl (q.1 : Int) : Key) = .inl (t : Int)) with | true => _ | false => _) = _
      rw [decide_eq_false e]
      exact ih
theorem tbD_el {s : LgS} {t : Nat} (h : t ∈ s.ids) : valD (tbD s.tb) (.inl (t : Int)) = some (thingD (s.el t)) := by
  rw [tbD_find]
  obtain ⟨q, hq, e⟩ := List.mem_map.mp h
  have hs : (s.tb.find? fun q => decide (q.1 = t)).isSome = true := List.find?_isSome.mpr ⟨q, hq, decide_eq_true e⟩
  unfold LgS.el
  cases hf : s.tb.find? fun q => decide (q.1 = t) with
  | none => rw [hf] at hs; cases hs
  | some x => rfl
theorem tbD_keys (tb : List (Nat × Thing)) : (tbD tb).map (·.1) = tb.map fun q => (.inl (q.1 : Int) : Key) := by
  unfold tbD
  rw [List.map_map]
  rfl
theorem tbD_nodup {tb : List (Nat × Thing)} (h : (tb.map (·.1)).Nodup) : ((tbD tb).map (·.1)).Nodup := by
  rw [tbD_keys]
  have : (tb.map fun q => (.inl (q.1 : Int) : Key)) = (tb.map (·.1)).map fun n : Nat => (.inl (n : Int) : Key) := by rw [List.map_map]; rfl
  rw [this]
  exact List.Pairwise.map _ (fun a b hne e => hne (by injection e with e; omega)) h
theorem tbD_get {tb : List (Nat × Thing)} (h : (tb.map (·.1)).Nodup) (i : Nat) (k : Key) (d : Da) (e : (tbD tb)[i]? = some (k, d)) : valD (tbD tb) k = some d := by
  unfold tbD at e
  rw [List.getElem?_map] at e
  obtain ⟨q, hq, eq⟩ := Option.map_eq_some_iff.mp e
  injection eq with e1 e2
  subst e1 e2
  rw [tbD_find]
  have hm := List.mem_of_getElem? hq
  obtain ⟨l1, l2, rfl⟩ := List.append_of_mem hm
  obtain ⟨qi, qt⟩ := q
  rw [List.map_append, List.map_cons] at h
  have hnd := List.nodup_append.mp h
  have n1 : ∀ q ∈ l1, q.1 ≠ qi := fun q hq e => hnd.2.2 q.1 (List.mem_map.mpr ⟨q, hq, rfl⟩) qi List.mem_cons_self e
  rw [find_split n1]
  rfl
theorem tbD_vals (tb : List (Nat × Thing)) : (tbD tb).map (·.2) = (tb.map (·.2)).map thingD := by
  unfold tbD
  rw [List.map_map, List.map_map]
  rfl
theorem tbD_len (tb : List (Nat × Thing)) : (tbD tb).length = tb.length := by unfold tbD; rw [List.length_map]
theorem tbD_drop (tb : List (Nat × Thing)) (t : Nat) : dropD (tbD tb) (.inl (t : Int)) = tbD (dropT tb t) := by
  unfold dropD tbD dropT
  rw [List.filter_map]
  congr 1
  refine List.filter_congr fun q _ => ?_
  show decide ((Sum.inl (q.1 : Int) : Key) ≠ .inl (t : Int)) = decide (q.1 ≠ t)
  by_cases h : q.1 = t
  · simp [h]
  · have h2 : ¬ ((Sum.inl (q.1 : Int) : Key) = .inl (t : Int)) := fun z => h (by injection z with z; omega)
    simp [h, h2]
theorem tbD_put (tb : List (Nat × Thing)) (t : Nat) (x : Thing) (h : t ∈ tb.map (·.1)) : putD (tbD tb) (.inl (t : Int)) (thingD x) = tbD (putT tb t x) := by
  unfold putD
  rw [if_pos]
  · unfold tbD putT
    rw [List.map_map, List.map_map]
    refine List.map_congr_left fun q _ => ?_
    show (if (Sum.inl (q.1 : Int) : Key) = .inl (t : Int) then ((Sum.inl (q.1 : Int) : Key), thingD x) else (.inl (q.1 : Int), thingD q.2)) = (.inl (((if q.1 = t then (t, x) else q).1 : Nat) : Int), thingD (if q.1 = t then (t, x) else q).2)
    by_cases hq : q.1 = t
    · rw [if_pos (by rw [hq]), if_pos hq, hq]
    · rw [if_neg (fun z => hq (by injection z with z; omega)), if_neg hq]
  · obtain ⟨q, hq, e⟩ := List.mem_map.mp h
    exact List.any_eq_true.mpr ⟨(.inl (q.1 : Int), thingD q.2), List.mem_map.mpr ⟨q, hq, rfl⟩, decide_eq_true (by rw [e])⟩
theorem tbD_add (tb : List (Nat × Thing)) (t : Nat) (x : Thing) (h : t ∉ tb.map (·.1)) : putD (tbD tb) (.inl (t : Int)) (thingD x) = tbD (tb ++ [(t, x)]) := by
  rw [putD_new]
  · unfold tbD
    rw [List.map_append]
    rfl
  · rw [tbD_keys]
    intro z
    obtain ⟨q, hq, e⟩ := List.mem_map.mp z
    injection e with e
    exact h (List.mem_map.mpr ⟨q, hq, by omega⟩)
/-! ### the package's -/
structure LedC (CL CP : Addr) (M : MH) (x p dl pa : Addr) (pr : Prog) (s : LgS) (n : Nat) : Prop where
  hx : M x = some (.ins CL ledN [progD CP pr, .sc (.ref p), iD s.made, .lst (s.kept.map Da.sc), .sc (.ref dl), .sc (.ref pa)])
  hp : M p = some (.dK (tbD s.tb))
  hd : ∃ es, M dl = some (.lst es) ∧ es.length ≤ n
  ha : ∃ es, M pa = some (.lst es) ∧ es.length ≤ n
  ne : dl ≠ pa
theorem LedC.keep {CL CP : Addr} {M M' : MH} {x p dl pa : Addr} {pr : Prog} {s : LgS} {n : Nat} (h : LedC CL CP M x p dl pa pr s n) {S : List Addr} (k : Keeps S M M') (h1 : x ∉ S) (h2 : p ∉ S) (h3 : dl ∉ S) (h4 : pa ∉ S) : LedC CL CP M' x p dl pa pr s n :=
  ⟨k _ _ h1 h.hx, k _ _ h2 h.hp, h.hd.imp fun _ z => ⟨k _ _ h3 z.1, z.2⟩, h.ha.imp fun _ z => ⟨k _ _ h4 z.1, z.2⟩, h.ne⟩
/-- the four are unlike -/
theorem LedC.nes {CL CP : Addr} {M : MH} {x p dl pa : Addr} {pr : Prog} {s : LgS} {n : Nat} (h : LedC CL CP M x p dl pa pr s n) : x ≠ p ∧ x ≠ dl ∧ x ≠ pa ∧ p ≠ dl ∧ p ≠ pa ∧ dl ≠ pa := by
  obtain ⟨es, hd, _⟩ := h.hd
  obtain ⟨fs, ha, _⟩ := h.ha
  exact ⟨ne_M h.hx h.hp (by intro z; cases z), ne_M h.hx hd (by intro z; cases z), ne_M h.hx ha (by intro z; cases z), ne_M h.hp hd (by intro z; cases z), ne_M h.hp ha (by intro z; cases z), h.ne⟩
theorem stp_lock {K : PySem.W.Frag} {ρ : Env'} {M : MH} {te : TE} {D : DE} {i : Nat} (h : StP K (tAsg (tLockE te) (gName i)) ρ M D) : StP K (tLock (tAsg te (gName i))) ρ M D := fun σ F G H D0 hE hO m => h σ F G H D0 hE hO m
def S_nothing_kept : Spd := fun ds M P => ∃ ks : List Keep, ds = [.tup (ks.map keepD)] ∧ ks.length ≤ 3 ∧ P (.lst ((trueValues ks []).map Da.sc)) M
def S_Ledger_init (CL CP : Addr) : Spd := fun ds M P => ∃ (x : Addr) (pr : Prog), ds = [.sc (.ref x), progD CP pr] ∧ M x = some (.ins CL [] []) ∧ pr.keeps.length ≤ 3 ∧
  ∀ p dl pa M', LedC CL CP M' x p dl pa pr (initL pr) 0 → Keeps [x] M M' → M p = none → M dl = none → M pa = none → P (.sc .non) M'
def S_Ledger_note (CL CP : Addr) : Spd := fun ds M P => ∃ (x p dl pa : Addr) (pr : Prog) (s : LgS) (n : Nat) (d : Da), ds = [.sc (.ref x), d] ∧ LedC CL CP M x p dl pa pr s n ∧ n < 1000 ∧
  ∀ M', LedC CL CP M' x p dl pa pr s (n + 1) → Keeps [dl, pa] M M' → P (.sc .non) M'
def S_Ledger_need (CL CP : Addr) : Spd := fun ds M P => ∃ (x p dl pa : Addr) (pr : Prog) (s : LgS) (n t : Nat), ds = [.sc (.ref x), iD t] ∧ LedC CL CP M x p dl pa pr s n ∧ t ∈ s.ids ∧ P (.sc .non) M
def S_Ledger_touch (CL CP : Addr) : Spd := fun ds M P => ∃ (x p dl pa : Addr) (pr : Prog) (s : LgS) (n : Nat) (ss : List Step) (el nw : Option Thing) (m : Pn), ds = [.sc (.ref x), .tup (ss.map stepD), optD el, optD nw] ∧ LedC CL CP M x p dl pa pr s n ∧
  DeedOk m ⟨pr.keeps, s.things, el, nw⟩ ∧ TyA pr.keeps s.kept ∧ (∀ z ∈ ss, StepOk m pr.keeps z) ∧ s.ids.Nodup ∧ s.tb.length ≤ 1000 ∧
  ∀ M', LedC CL CP M' x p dl pa pr ⟨s.tb, s.made, run ⟨pr.keeps, s.things, el, nw⟩ ss s.kept⟩ n → Keeps [x] M M' → P (.sc .non) M'
def S_Ledger_make (CL CP : Addr) : Spd := fun ds M P => ∃ (x p dl pa : Addr) (pr : Prog) (s : LgS) (n : Nat) (k m : Int), ds = [.sc (.ref x), iD k, iD m] ∧ LedC CL CP M x p dl pa pr s n ∧ Valid pr ∧ LgW pr s ∧ (k = 0 ∨ k = 1) ∧ n < 900 ∧ s.made < 900 ∧
  ∀ M', LedC CL CP M' x p dl pa pr (doD pr s (.new k m)) (n + 1) → Keeps [x, p, dl, pa] M M' → P (iD (s.made + 1)) M'
def S_Ledger_alter (CL CP : Addr) : Spd := fun ds M P => ∃ (x p dl pa : Addr) (pr : Prog) (s : LgS) (n t : Nat) (k m : Int), ds = [.sc (.ref x), iD t, iD k, iD m] ∧ LedC CL CP M x p dl pa pr s n ∧ Valid pr ∧ LgW pr s ∧ t ∈ s.ids ∧ (k = 0 ∨ k = 1) ∧ n < 900 ∧ s.made < 900 ∧
  ∀ M', LedC CL CP M' x p dl pa pr (doD pr s (.change t k m)) (n + 1) → Keeps [x, p, dl, pa] M M' → P (.sc .non) M'
def S_Ledger_release (CL CP : Addr) : Spd := fun ds M P => ∃ (x p dl pa : Addr) (pr : Prog) (s : LgS) (n t : Nat), ds = [.sc (.ref x), iD t] ∧ LedC CL CP M x p dl pa pr s n ∧ Valid pr ∧ LgW pr s ∧ t ∈ s.ids ∧ n < 900 ∧ s.made < 900 ∧
  ∀ p' M', LedC CL CP M' x p' dl pa pr (doD pr s (.drop t)) (n + 1) → Keeps [x, p, dl, pa] M M' → M p' = none → P (.sc .non) M'
def S_Ledger_kept (CL CP : Addr) : Spd := fun ds M P => ∃ (x p dl pa : Addr) (pr : Prog) (s : LgS) (n : Nat), ds = [.sc (.ref x)] ∧ LedC CL CP M x p dl pa pr s n ∧ P (.lst (s.kept.map Da.sc)) M
def S_Ledger_anew (CL CP : Addr) : Spd := fun ds M P => ∃ (x p dl pa : Addr) (pr : Prog) (s : LgS) (n : Nat), ds = [.sc (.ref x)] ∧ LedC CL CP M x p dl pa pr s n ∧ pr.keeps.length ≤ 3 ∧ s.ids.Nodup ∧ s.tb.length ≤ 1000 ∧ P (.lst ((trueValues pr.keeps s.things).map Da.sc)) M
def liesM (p : Prog) (s : LgS) : List Nat := (List.range p.keeps.length).filter fun i => !decide (at_ s.kept i = at_ (trueValues p.keeps s.things) i)
def S_Ledger_lies (CL CP : Addr) : Spd := fun ds M P => ∃ (x p dl pa : Addr) (pr : Prog) (s : LgS) (n : Nat), ds = [.sc (.ref x)] ∧ LedC CL CP M x p dl pa pr s n ∧ pr.keeps.length ≤ 3 ∧ TyA pr.keeps s.kept ∧ s.ids.Nodup ∧ s.tb.length ≤ 1000 ∧ P (.lst ((liesM pr s).map fun i : Nat => iD i)) M
/-! ### the law's own -/
structure StC (M : MH) (s t kl : Addr) (st : LgS) : Prop where
  hs : M s = some (.dK (stD t st.made kl))
  ht : M t = some (.dK (tbD st.tb))
  hk : M kl = some (.lst (st.kept.map Da.sc))
  ne : s ≠ t
theorem StC.nes {M : MH} {s t kl : Addr} {st : LgS} (h : StC M s t kl st) : s ≠ t ∧ s ≠ kl ∧ t ≠ kl := ⟨h.ne, ne_M h.hs h.hk (by intro z; cases z), ne_M h.ht h.hk (by intro z; cases z)⟩
theorem StC.keep {M M' : MH} {s t kl : Addr} {st : LgS} (h : StC M s t kl st) {S : List Addr} (k : Keeps S M M') (h1 : s ∉ S) (h2 : t ∉ S) (h3 : kl ∉ S) : StC M' s t kl st := ⟨k _ _ h1 h.hs, k _ _ h2 h.ht, k _ _ h3 h.hk, h.ne⟩
def S_law_true : Spd := fun ds M P => ∃ (k : Keep) (ts : List Thing), ds = [keepD k, .lst (ts.map thingD)] ∧ ts.length ≤ 10000 ∧ P (.sc (trueValue k ts)) M
def S_law_new : Spd := fun ds M P => ∃ pr : Prog, ds = [.lst (partsL pr)] ∧ pr.keeps.length ≤ 3 ∧ ∀ s t kl M', StC M' s t kl (initL pr) → Keeps [] M M' → M s = none → M t = none → M kl = none → P (.sc (.ref s)) M'
def S_law_holds : Spd := fun ds M P => ∃ (kl : Addr) (d : DeedS) (am : List V) (n : Pn) (t : Test), ds = [.sc (.ref kl), testD t, optD d.elder, optD d.newer] ∧ M kl = some (.lst (am.map Da.sc)) ∧ DeedOk n d ∧ TyA d.keeps am ∧ TestOk n d.keeps t ∧ P (.sc (.bl (holds d am t))) M
def S_law_touched : Spd := fun ds M P => ∃ (kl : Addr) (d : DeedS) (am : List V) (n : Pn) (t : Touch), ds = [.lst (d.keeps.map keepD), .sc (.ref kl), touchD t, optD d.elder, optD d.newer, .lst (d.around.map thingD)] ∧ M kl = some (.lst (am.map Da.sc)) ∧ DeedOk n d ∧ TyA d.keeps am ∧ TouchOk n d.keeps t ∧ d.around.length ≤ 10000 ∧
  P (.sc .non) (updM M kl (.lst ((touch d am t).map Da.sc)))
def S_law_around : Spd := fun ds M P => ∃ (s t kl : Addr) (st : LgS), ds = [.sc (.ref s)] ∧ StC M s t kl st ∧ st.ids.Nodup ∧ st.tb.length ≤ 1000 ∧ P (.lst (st.things.map thingD)) M
def S_law_steps : Spd := fun ds M P => ∃ (s t kl : Addr) (st : LgS) (pr : Prog) (n : Pn) (el nw : Option Thing), ds = [.sc (.ref s), .lst (partsL pr), iD n.at_, optD el, optD nw] ∧ StC M s t kl st ∧ Valid pr ∧ DeedOk n ⟨pr.keeps, st.things, el, nw⟩ ∧ TyA pr.keeps st.kept ∧ st.ids.Nodup ∧ st.tb.length ≤ 1000 ∧
  P (.sc .non) (updM M kl (.lst ((run ⟨pr.keeps, st.things, el, nw⟩ (pr.steps n) st.kept).map Da.sc)))
def S_law_do : Spd := fun ds M P => ∃ (s t kl : Addr) (st : LgS) (pr : Prog) (d : Dd), ds = [.sc (.ref s), .lst (partsL pr), ddD d] ∧ StC M s t kl st ∧ Valid pr ∧ LgW pr st ∧ DdOk st d ∧ st.made < 900 ∧
  ∀ M', StC M' s t kl (doD pr st d) → Keeps [s, t, kl] M M' → P (.sc .non) M'
def S_law_trues : Spd := fun ds M P => ∃ (s t kl : Addr) (st : LgS) (pr : Prog), ds = [.sc (.ref s), .lst (partsL pr)] ∧ StC M s t kl st ∧ pr.keeps.length ≤ 3 ∧ st.ids.Nodup ∧ st.tb.length ≤ 1000 ∧ P (.lst ((trueValues pr.keeps st.things).map Da.sc)) M
def S_law_lies : Spd := fun ds M P => ∃ (s t kl : Addr) (st : LgS) (pr : Prog), ds = [.sc (.ref s), .lst (partsL pr)] ∧ StC M s t kl st ∧ pr.keeps.length ≤ 3 ∧ TyA pr.keeps st.kept ∧ st.ids.Nodup ∧ st.tb.length ≤ 1000 ∧ P (.lst ((liesM pr st).map fun i : Nat => iD i)) M
def S_law_number : Spd := fun ds M P => ∃ (a : Addr) (st : DrSt), ds = [.sc (.ref a)] ∧ M a = some (.lst st.l) ∧ st.Ok ∧ ∀ (z : Int) (st' : DrSt), st'.Ok → P (iD z) (updM M a (.lst st'.l))
def S_law_deed : Spd := fun ds M P => ∃ (a s t kl : Addr) (dr : DrSt) (st : LgS), ds = [.sc (.ref a), .sc (.ref s)] ∧ M a = some (.lst dr.l) ∧ dr.Ok ∧ StC M s t kl st ∧ a ≠ kl ∧ st.tb.length ≤ 900 ∧ ∀ (d : Dd) (dr' : DrSt), dr'.Ok → DdOk st d → P (ddD d) (updM M a (.lst dr'.l))
def S_law_act (CL CP : Addr) : Spd := fun ds M P => ∃ (x p dl pa : Addr) (pr : Prog) (s : LgS) (n : Nat) (d : Dd), ds = [.sc (.ref x), ddD d] ∧ LedC CL CP M x p dl pa pr s n ∧ Valid pr ∧ LgW pr s ∧ DdOk s d ∧ n < 900 ∧ s.made < 900 ∧
  ∀ v p' M', LedC CL CP M' x p' dl pa pr (doD pr s d) (n + 1) → Keeps [x, p, dl, pa] M M' → (p' = p ∨ M p' = none) → P v M'
def S_law : Spd := fun ds M P => ∃ script : List Int, ds = [.ro (script.map iD)] ∧ P (.sc (.bl true)) M
theorem subM_none {M M' : MH} (h : SubM M M') {a : Addr} (e : M' a = none) : M a = none := by
  cases q : M a with
  | none => rfl
  | some o => rw [h a o q] at e; cases e
/-- the draws, the package's ledger and the law's own one, alike -/
structure LawI (CL CP : Addr) (M0 M : MH) (a s t kl x pp dl pa : Addr) (p : Prog) (st : LgS) (n : Nat) : Prop where
  dr : ∃ dr : DrSt, M a = some (.lst dr.l) ∧ dr.Ok
  led : LedC CL CP M x pp dl pa p st n
  own : StC M s t kl st
  w : LgW p st
  made : st.made ≤ n
  kept : st.kept = trueValues p.keeps st.things
  na : a ∉ [s, t, kl]
  nl : ∀ b ∈ [a, s, t, kl], b ∉ [x, pp, dl, pa]
  sub : SubM M0 M
  no : ∀ b ∈ [a, s, t, kl, x, pp, dl, pa], M0 b = none
theorem LawI.draw {CL CP : Addr} {M0 M : MH} {a s t kl x pp dl pa : Addr} {p : Prog} {st : LgS} {n : Nat} (h : LawI CL CP M0 M a s t kl x pp dl pa p st n) {dr : DrSt} (ok : dr.Ok) : LawI CL CP M0 (updM M a (.lst dr.l)) a s t kl x pp dl pa p st n := by
  have k : Keeps [a] M (updM M a (.lst dr.l)) := (Keeps.refl _ _).upd List.mem_cons_self
  have na := h.na
  have nl := h.nl a List.mem_cons_self
  simp only [List.mem_cons, List.not_mem_nil, or_false, not_or] at na nl
  obtain ⟨n1, n2, n3⟩ := na
  obtain ⟨l1, l2, l3, l4⟩ := nl
  exact ⟨⟨dr, updM_same, ok⟩, h.led.keep k (by simp [Ne.symm l1]) (by simp [Ne.symm l2]) (by simp [Ne.symm l3]) (by simp [Ne.symm l4]), h.own.keep k (by simp [Ne.symm n1]) (by simp [Ne.symm n2]) (by simp [Ne.symm n3]), h.w, h.made, h.kept, h.na, h.nl, h.sub.upd' (h.no a List.mem_cons_self), h.no⟩
theorem LawI.step {CL CP : Addr} {M0 M M2 M3 : MH} {a s t kl x pp pp' dl pa : Addr} {p : Prog} {st : LgS} {n m : Nat} (h : LawI CL CP M0 M a s t kl x pp dl pa p st n) (hg : Gen m p) (hm : m ≤ 2) (hr : isRight p = true) {d : Dd} (hd : DdOk st d)
    (h2 : LedC CL CP M2 x pp' dl pa p (doD p st d) (n + 1)) (k2 : Keeps [x, pp, dl, pa] M M2) (hp : pp' = pp ∨ M pp' = none) (h3 : StC M3 s t kl (doD p st d)) (k3 : Keeps [s, t, kl] M2 M3) : LawI CL CP M0 M3 a s t kl x pp' dl pa p (doD p st d) (n + 1) := by
  have hv := gen_valid hg
  obtain ⟨dr, hdr, ok⟩ := h.dr
  have nl := h.nl
  have ino : ∀ b ∈ [a, s, t, kl], ∃ o, M b = some o := by
    intro b hb
    simp only [List.mem_cons, List.not_mem_nil, or_false] at hb
    rcases hb with rfl | rfl | rfl | rfl
    · exact ⟨_, hdr⟩
    · exact ⟨_, h.own.hs⟩
    · exact ⟨_, h.own.ht⟩
    · exact ⟨_, h.own.hk⟩
  have np : ∀ b ∈ [a, s, t, kl], b ≠ pp' := by
    intro b hb
    rcases hp with rfl | hp
    · exact fun e => nl b hb (by rw [e]; simp)
    · obtain ⟨o, e⟩ := ino b hb
      exact ne_N e hp
  have nl' : ∀ b ∈ [a, s, t, kl], b ∉ [x, pp', dl, pa] := by
    intro b hb z
    have h1 := nl b hb
    have h2 := np b hb
    simp only [List.mem_cons, List.not_mem_nil, or_false, not_or] at h1 z
    rcases z with e | e | e | e
    · exact h1.1 e
    · exact h2 e
    · exact h1.2.2.1 e
    · exact h1.2.2.2 e
  have no' : ∀ b ∈ [a, s, t, kl, x, pp', dl, pa], M0 b = none := by
    intro b hb
    simp only [List.mem_cons, List.not_mem_nil, or_false] at hb
    have hn := h.no
    rcases hb with rfl | rfl | rfl | rfl | rfl | rfl | rfl | rfl
    · exact hn _ (by simp)
    · exact hn _ (by simp)
    · exact hn _ (by simp)
    · exact hn _ (by simp)
    · exact hn _ (by simp)
    · rcases hp with rfl | hp
      · exact hn _ (by simp)
      · exact subM_none h.sub hp
    · exact hn _ (by simp)
    · exact hn _ (by simp)
  have kl2 : ∀ b ∈ [x, pp', dl, pa], b ∉ [s, t, kl] := fun b hb z => nl' b (List.mem_cons_of_mem _ z) hb
  refine ⟨⟨dr, k3 _ _ h.na (k2 _ _ (nl a (by simp)) hdr), ok⟩, h2.keep k3 (kl2 _ (by simp)) (kl2 _ (by simp)) (kl2 _ (by simp)) (kl2 _ (by simp)), h3, lgW_do hv h.w hd, ?_, true_do hg hm hr h.w h.kept hd, h.na, nl', ?_, no'⟩
  · have := h.made
    cases d with
    | new k m => show st.made + 1 ≤ n + 1; omega
    | change i k m => show st.made ≤ n + 1; omega
    | drop i => show st.made ≤ n + 1; omega
  · have s2 : SubM M0 M2 := k2.sub h.sub fun b hb => by
      have := h.no b (by simp only [List.mem_cons, List.not_mem_nil, or_false] at hb ⊢; rcases hb with e | e | e | e <;> simp [e])
      exact this
    exact k3.sub s2 fun b hb => h.no b (by simp only [List.mem_cons, List.not_mem_nil, or_false] at hb ⊢; rcases hb with e | e | e <;> simp [e])
theorem lies_nil {p : Prog} {s : LgS} (h : s.kept = trueValues p.keeps s.things) : liesM p s = [] := by
  unfold liesM
  rw [h]
  exact List.filter_eq_nil_iff.mpr fun i _ => by simp
theorem tyA_plain {ks : List Keep} {am : List V} (h : TyA ks am) : am.all plainV = true := by
  rw [List.all_eq_true]
  intro v hv
  obtain ⟨i, hi, e⟩ := List.getElem_of_mem hv
  have hik : i < ks.length := by rw [← h.len]; exact hi
  have hk : ks[i]? = some ks[i] := List.getElem?_eq_getElem hik
  have ht := h.ty i _ v hk (by rw [List.getElem?_eq_getElem hi, e])
  cases hw : ks[i].what <;> rw [hw] at ht
  · obtain ⟨z, rfl⟩ := ht; rfl
  · obtain ⟨z, rfl⟩ := ht; rfl
  · rcases ht with rfl | ⟨z, rfl⟩ <;> rfl
  · obtain ⟨z, rfl⟩ := ht; rfl
theorem inV_mem {i : Nat} {l : List Nat} (h : i ∈ l) : inV (.int (i : Int)) (l.map fun j : Nat => V.int j) = true := by
  unfold inV
  refine List.any_eq_true.mpr ⟨.int (i : Int), List.mem_map.mpr ⟨i, h, rfl⟩, ?_⟩
  show ((i : Int) == (i : Int)) = true
  exact beq_self_eq_true _
theorem hOk_at {p : Prog} (hv : Valid p) : ∀ {h : List Dd} {s : LgS}, LgW p s → HOk p s h → ∀ j, LgW p (runH p s (h.take j)) ∧ (runH p s (h.take j)).made ≤ s.made + j ∧ ∀ d, h[j]? = some d → DdOk (runH p s (h.take j)) d
  | [], s, hw, _, j => by
    rw [List.take_nil]
    exact ⟨hw, Nat.le_add_right _ _, fun d e => by simp at e⟩
  | d0 :: h, s, hw, ho, 0 => ⟨hw, Nat.le_refl _, fun d e => by
      simp at e
      rw [← e]
      exact ho.1⟩
  | d0 :: h, s, hw, ho, j + 1 => by
    obtain ⟨h1, h2, h3⟩ := hOk_at hv (lgW_do hv hw ho.1) ho.2 j
    refine ⟨h1, ?_, fun d e => h3 d (by simpa using e)⟩
    have : (doD p s d0).made ≤ s.made + 1 := by
      cases d0 with
      | new k n => exact Nat.le_refl _
      | change i k n => exact Nat.le_succ _
      | drop i => exact Nat.le_succ _
    show (runH p (doD p s d0) (h.take j)).made ≤ s.made + (j + 1)
    omega
theorem runH_take {p : Prog} {s : LgS} {h : List Dd} {j : Nat} {d : Dd} (e : h[j]? = some d) : runH p s (h.take (j + 1)) = doD p (runH p s (h.take j)) d := by
  rw [take_succ_some e, runH_snoc]
theorem lies_data (p : Prog) (s : LgS) : (liesM p s).map (fun i : Nat => iD i) = ((liesM p s).map fun i : Nat => V.int i).map Da.sc := by
  rw [List.map_map]
  rfl
theorem ints_flat (l : List Nat) : (l.map fun i : Nat => V.int i).all flatV = true := by
  rw [List.all_map]
  exact List.all_eq_true.mpr fun _ _ => rfl
end Kc

namespace Kc
open PySem L2 Dl
local macro_rules | `(tactic| walk_at "evE") => `(tactic| (first
  | ((with_reducible refine' ev_var ?evh ?_); (case evh => exact rfl))
  | with_reducible refine' ev_k (Tx.d_NAMES (by assumption)) ?_
  | with_reducible refine' ev_k (Tx.d_WHATS (by assumption)) ?_
  | with_reducible refine' ev_k (Tx.d_SOURCES (by assumption)) ?_
  | with_reducible refine' ev_k (Tx.d_NUMBERS (by assumption)) ?_
  | with_reducible refine' ev_c ?_
  | with_reducible refine' ev_op ?_
  | with_reducible refine' ev_call ?_
  | with_reducible refine' ev_cb ?_
  | with_reducible refine' ev_tup ?_
  | with_reducible refine' ev_lst ?_
  | with_reducible refine' ev_if ?_
  | with_reducible refine' ev_andV ?_
  | with_reducible refine' ev_orV ?_
  | with_reducible refine' ev_notV ?_
  | with_reducible refine' ev_chain ?_
  | with_reducible refine' ev_sl ?_
  | with_reducible refine' ev_dget ?_
  | with_reducible refine' ev_disp ?_
  | walk_at "evF"
  | with_reducible refine' ev_meth ?_
  | with_reducible refine' ev_make ?_
  | with_reducible refine' ev_bm ?_))
local macro_rules | `(tactic| walk_at "evR") => `(tactic| (first
  | with_reducible refine' rop_I0 ?_
  | ((with_reducible refine' rop_eq ?evs ?_); (case evs => exact rfl))
  | ((with_reducible refine' rop_ne ?evs ?_); (case evs => exact rfl))
  | ((with_reducible refine' rop_ix_T ?evs ?_); (case evs => (first | assumption | exact rfl)))
  | ((with_reducible refine' rop_ix_L ?evs ?_); (case evs => (first | assumption | exact rfl)))
  | ((with_reducible refine' rop_ix_M ?evh ?evs ?_); (case evh => (first | exact updM_same | assumption)); (case evs => (first | assumption | exact rfl)))
  | with_reducible refine' rop_or1 (rop_I0 ?_)
  | ((with_reducible refine' rop_or2 (rop_or1 (rop_catA ?evz ?_))); (case evz => (first | exact Nat.le_of_ble_eq_true rfl | omega | (simp; done) | (simp; omega))))
  | ((with_reducible refine' rop_or1 (rop_I ?evh ?_)); (case evh => (first | exact Or.inl ⟨by decide, by decide⟩ | exact Or.inr ⟨by decide, by decide⟩)))
  | ((with_reducible refine' rop_I ?evh ?_); (case evh => (first | (exact (show (0:Int) < _ by omega)) | exact ⟨by decide, by decide, by decide⟩)))
  | ((with_reducible refine' rop_or2 (rop_or1 (rop_rep ?evs ?eva ?evb ?evc ?_))); (case evs => exact rfl); (case eva => decide); (case evb => decide); (case evc => exact Nat.le_of_ble_eq_true rfl))
  | ((with_reducible refine' rop_or2 (rop_or2 (rop_cat ?evs ?evt ?evz ?_))); (case evs => exact rfl); (case evt => exact rfl); (case evz => exact Nat.le_of_ble_eq_true rfl))
  | with_reducible refine' rop_isN ?_
  | with_reducible refine' rop_notN ?_
  | ((with_reducible refine' rop_isN0 ?evs ?_); (case evs => intro _ h; cases h))
  | ((with_reducible refine' rop_notN0 ?evs ?_); (case evs => intro _ h; cases h))
  | ((with_reducible refine' rop_inT ?evs ?evt ?_); (case evs => exact rfl); (case evt => first | assumption | exact rfl))
  | ((with_reducible refine' rop_inS ?evs ?evt ?evu ?_); (case evs => exact rfl); (case evt => exact rfl); (case evu => exact rfl))))
local macro_rules | `(tactic| walk_at "evC") => `(tactic| (first
  | ((with_reducible refine' rcl_len ?evs ?_); (case evs => exact rfl))
  | ((with_reducible refine' rcl_isi ?evs ?evk ?_); (case evs => exact rfl); (case evk => (first | exact kit_int_int | exact kit_int_bool | exact kit_int_str | exact kit_int_tuple | exact kit_int_list | exact kit_bool_int | exact kit_bool_bool | exact kit_bool_str | exact kit_bool_tuple | exact kit_bool_list | exact kit_str_int | exact kit_str_bool | exact kit_str_str | exact kit_str_tuple | exact kit_str_list | exact kit_tuple_int | exact kit_tuple_bool | exact kit_tuple_str | exact kit_tuple_tuple | exact kit_tuple_list | exact kit_list_int | exact kit_list_bool | exact kit_list_str | exact kit_list_tuple | exact kit_list_list | exact kit_NoneType_int | exact kit_NoneType_bool | exact kit_NoneType_str | exact kit_NoneType_tuple | exact kit_NoneType_list)))
  | with_reducible refine' rcl_int ?_
  | with_reducible refine' rcl_intB ?_
  | with_reducible refine' rcl_max2 ?_
  | with_reducible refine' rcl_min2 ?_))
local macro_rules | `(tactic| walk_at "evT") => `(tactic| (first
  | with_reducible refine' tv_test ?_
  | with_reducible refine' tv_or ?_
  | with_reducible refine' tv_and ?_
  | with_reducible refine' tv_not ?_
  | with_reducible refine' tv_B ?_
  | with_reducible refine' tv_tru ?_
  | with_reducible refine' tv_yes ?_))
local macro_rules | `(tactic| walk_at "evA") => `(tactic| (first
  | with_reducible refine' av_cons ?_
  | with_reducible refine' av_nil ?_))
local macro_rules | `(tactic| walk_at "evS") => `(tactic| (first
  | with_reducible refine' stp_seq ?_
  | with_reducible refine' stp_if ?_
  | with_reducible refine' stp_ret ?_
  | with_reducible refine' stp_next ?_
  | with_reducible refine' stp_set ?_
  | with_reducible refine' stp_asg ?_
  | with_reducible refine' stp_drop ?_
  | with_reducible refine' stp_par ?_
  | with_reducible refine' stp_dput ?_
  | with_reducible refine' stp_augL ?_
  | with_reducible refine' stp_retN ?_
  | with_reducible refine' stp_brk ?_
  | with_reducible refine' stp_cont ?_))
local macro_rules | `(tactic| walk_at "evI") => `(tactic| (first
  | ((with_reducible refine' ifT ?evs ?_); (case evs => exact rfl))
  | ((with_reducible refine' ifF ?evs ?_); (case evs => exact rfl))))
local macro_rules | `(tactic| walk_at "ev") => `(tactic| (first
  | ((with_reducible show EvP _ _ _ _ _); walk_at "evE")
  | ((with_reducible show ROp _ _ _ _ _ _); walk_at "evR")
  | ((with_reducible show AvP _ _ _ _ _); walk_at "evA")
  | ((with_reducible show TvP _ _ _ _ _); walk_at "evT")
  | ((with_reducible show RCl _ _ _ _ _); walk_at "evC")
  | ((with_reducible show StP _ _ _ _ _); walk_at "evS")
  | ((with_reducible show ite _ _ _); walk_at "evI")
  | with_reducible refine' ov_none ?_
  | with_reducible refine' ov_some ?_
  | ((with_reducible show RSl _ _ _ _ _ _ _); (first | with_reducible refine' rsl_T ?_ | ((with_reducible refine' rsl_L ?evh ?_); (case evh => exact rfl))))
  | with_reducible refine' gv_name ?_
  | with_reducible refine' gv_sub ?_
  | ((with_reducible show RSet _ _ _ _ _ _ _); ((with_reducible refine' rset_L ?evh ?evs ?_); (case evh => (first | exact updM_same | assumption)); (case evs => exact rfl)))
  | with_reducible refine' pv_cons ?_
  | with_reducible refine' pv_nil ?_
  | ((with_reducible show Exists _); refine ⟨_, rfl, ?_⟩)
  | ((with_reducible show Exists _); refine ⟨_, _, rfl, ?_⟩)
  | ((with_reducible show Exists _); refine ⟨_, _, (by first | exact ⟨rfl, rfl, rfl⟩ | exact rfl | assumption), (by first | exact rfl | decide +kernel), ?_⟩)
  | ((with_reducible show And _ _); refine ⟨Nat.le_of_ble_eq_true rfl, ?_⟩)))
local macro_rules | `(tactic| walk_at "evs") => `(tactic| (repeat walk_at "ev"))

theorem sc_is_index : FnScope ["value", "many"] ["value", "many"] (defScope (top 13)) := ⟨rfl, rfl, rfl, by decide +kernel, rfl, by decide +kernel, by decide +kernel⟩
theorem fn_is_index {P : Program} {w : World} {K : PySem.W.Frag} {mg : Str → Option Value} {base : Heap} {f : Addr} {fd : FuncData} (F : FnP K "is_index" "is_index" (top 13) f fd) (T : Tx w K mg)   : FnOk P w K mg base CX0 1 f fd ["value", "many"] (spOf K (S_is_index)) := by
  have sc := sc_is_index
  refine ok_fn (k := 0) F sc (fun ds M Q h => ?_) (fun cdv A outer s H E hr => ?_)
  · obtain ⟨a, b, rfl, hQ⟩ := h; rfl
  · have hu6 : A.units + 64 < cLine := by have := hr.un; show A.units + 64 < cLine; simp only [Around.deeper] at this; omega
    have hu := hu_of hr
    refine ⟨_, (pss_one (ps_ret (pe_and (pe_callB call_isi (by rfl) T.b_isinstance (by decide +kernel) (pa_cons (pv 0) (pa_cons (pe_bltn (v := .ty "int") (u := .type "int") (by rfl) T.b_int (by decide +kernel) rfl) pa_nil))) (pe_and (pe_not (pe_callB call_isi (by rfl) T.b_isinstance (by decide +kernel) (pa_cons (pv 0) (pa_cons (pe_bltn (v := .ty "bool") (u := .type "bool") (by rfl) T.b_bool (by decide +kernel) rfl) pa_nil)))) (pe_one (pe_chain op_le op_lt pe_int (pv 0) (pv 1))))))), fun ds M Q h => ?_⟩
    obtain ⟨a, b, rfl, hQ⟩ := h
    try dsimp only [cxOf, Cx.nox]
    walk_at "evs"
    refine ifB (fun h => ?_) (fun h => ?_)
    · walk_at "evs"
      rw [h, Bool.true_and] at hQ
      exact hQ
    · rw [h] at hQ
      exact hQ

theorem ok_is_index {P : Program} {w : World} {K : PySem.W.Frag} {mg : Str → Option Value} {base : Heap} {f : Addr} {fd : FuncData} (F : FnP K "is_index" "is_index" (top 13) f fd) (g : mg "is_index" = some (.ref f)) (T : Tx w K mg)   : Cal P w K mg base 1 "is_index" ["value", "many"] (S_is_index) :=
  cal_mk F g (fn_is_index F T ) (F.bindsN fun _ _ _ _ _ _ us hl => match us, hl with | [_, _], _ => rfl)

theorem sc_is_keep : FnScope ["value"] ["value"] (defScope (top 14)) := ⟨rfl, rfl, rfl, by decide +kernel, rfl, by decide +kernel, by decide +kernel⟩
theorem fn_is_keep {P : Program} {w : World} {K : PySem.W.Frag} {mg : Str → Option Value} {base : Heap} {f : Addr} {fd : FuncData} (F : FnP K "is_keep" "is_keep" (top 14) f fd) (T : Tx w K mg) (c_is_index : Cal P w K mg base 1 "is_index" ["value", "many"] (S_is_index))  : FnOk P w K mg base CX0 2 f fd ["value"] (spOf K (S_is_keep)) := by
  have sc := sc_is_keep
  refine ok_fn (k := 1) F sc (fun ds M Q h => ?_) (fun cdv A outer s H E hr => ?_)
  · obtain ⟨k, rfl, hk, hQ⟩ := h; rfl
  · have hu6 : A.units + 64 < cLine := by have := hr.un; show A.units + 64 < cLine; simp only [Around.deeper] at this; omega
    have hu := hu_of hr
    refine ⟨_, (pss_cons (ps_if (PW.pt (pw_or (pt_not (pt_val (pe_callB call_isi (by rfl) T.b_isinstance (by decide +kernel) (pa_cons (pv 0) (pa_cons (pe_bltn (v := .ty "tuple") (u := .type "tuple") (by rfl) T.b_tuple (by decide +kernel) rfl) pa_nil))))) (pw_or (pt_cmpR op_ne (pe_callB call_len (by rfl) T.b_len (by decide +kernel) (pa_cons (pv 0) pa_nil)) pe_int (nomark _)) (pw_or (pt_not (pt_val (pe_callB call_isi (by rfl) T.b_isinstance (by decide +kernel) (pa_cons (pe_ix ix_seq (pv 0) pe_int (fun _ _ => rfl)) (pa_cons (pe_bltn (v := .ty "str") (u := .type "str") (by rfl) T.b_str (by decide +kernel) rfl) pa_nil))))) (pw_or1 (pt_cmpR op_notIn_seq (pe_ix ix_seq (pv 0) pe_int (fun _ _ => rfl)) (pe_glob (v := .ref _) (by rfl) T.g_WHATS rfl) (by rfl))))))) (pss_one (ps_ret pe_bl)) pss_nil) (pss_one (ps_ret (pe_or (pe_cmpR op_isN1 (pe_ix ix_seq (pv 0) pe_int (fun _ _ => rfl)) pe_non (nomark _)) (pe_one (pe_calD c_is_index (hr.mono (by first | decide | exact Nat.le_refl _)) (by rfl) (pa_cons (pe_ix ix_seq (pv 0) pe_int (fun _ _ => rfl)) (pa_cons pe_int pa_nil)))))))), fun ds M Q h => ?_⟩
    obtain ⟨k, rfl, hk, hQ⟩ := h
    try dsimp only [cxOf, Cx.nox]
    obtain ⟨kw, kk⟩ := k
    rcases hk with hk | hk | hk
    · have hk' : kk = none := hk
      subst hk'
      cases kw <;> (walk_at "evs"; exact hQ)
    · have hk' : kk = some 0 := hk
      subst hk'
      cases kw <;> (walk_at "evs"; exact ⟨_, _, rfl, hQ⟩)
    · have hk' : kk = some 1 := hk
      subst hk'
      cases kw <;> (walk_at "evs"; exact ⟨_, _, rfl, hQ⟩)

theorem ok_is_keep {P : Program} {w : World} {K : PySem.W.Frag} {mg : Str → Option Value} {base : Heap} {f : Addr} {fd : FuncData} (F : FnP K "is_keep" "is_keep" (top 14) f fd) (g : mg "is_keep" = some (.ref f)) (T : Tx w K mg) (c_is_index : Cal P w K mg base 1 "is_index" ["value", "many"] (S_is_index))  : Cal P w K mg base 2 "is_keep" ["value"] (S_is_keep) :=
  cal_mk F g (fn_is_keep F T c_is_index) (F.bindsN fun _ _ _ _ _ _ us hl => match us, hl with | [_], _ => rfl)

theorem sc_is_of : FnScope ["keeps", "value", "whats"] ["keeps", "value", "whats"] (defScope (top 15)) := ⟨rfl, rfl, rfl, by decide +kernel, rfl, by decide +kernel, by decide +kernel⟩
theorem fn_is_of {P : Program} {w : World} {K : PySem.W.Frag} {mg : Str → Option Value} {base : Heap} {f : Addr} {fd : FuncData} (F : FnP K "is_of" "is_of" (top 15) f fd) (T : Tx w K mg) (c_is_index : Cal P w K mg base 1 "is_index" ["value", "many"] (S_is_index))  : FnOk P w K mg base CX0 2 f fd ["keeps", "value", "whats"] (spOf K (S_is_of)) := by
  have sc := sc_is_of
  refine ok_fn (k := 1) F sc (fun ds M Q h => ?_) (fun cdv A outer s H E hr => ?_)
  · obtain ⟨kd, ks, i, vs, kp, rfl, hs, hi, hf, hQ⟩ := h; rfl
  · have hu6 : A.units + 64 < cLine := by have := hr.un; show A.units + 64 < cLine; simp only [Around.deeper] at this; omega
    have hu := hu_of hr
    refine ⟨_, (pss_one (ps_ret (pe_and (pe_calD c_is_index (hr.mono (by first | decide | exact Nat.le_refl _)) (by rfl) (pa_cons (pv 1) (pa_cons (pe_callB call_len (by rfl) T.b_len (by decide +kernel) (pa_cons (pv 0) pa_nil)) pa_nil))) (pe_one (pe_cmpR op_in_seq (pe_ix ix_seq (pe_ix ix_seq (pv 0) (pv 1) (fun _ _ => rfl)) pe_int (fun _ _ => rfl)) (pv 2) (by rfl)))))), fun ds M Q h => ?_⟩
    obtain ⟨kd, ks, i, vs, kp, rfl, hs, hi, hf, hQ⟩ := h
    try dsimp only [cxOf, Cx.nox]
    have hil : i < ks.length := (List.getElem?_eq_some_iff.mp hi).1
    have hat : atI (ks.map keepD) (i : Int) = some (keepD kp) := atI_nat (by rw [List.getElem?_map, hi] <;> rfl)
    walk_at "evs"
    have hlen : LenAt kd M ks.length := by
      rcases hs with e | e <;> subst e <;> exact (List.length_map ..).symm
    refine rcl_len hlen ?_
    walk_at "evs"
    refine ⟨_, _, rfl, ?_⟩
    walk_at "evs"
    refine ifT (by rw [decide_eq_true (by omega), decide_eq_true (by omega)] <;> rfl) ?_
    walk_at "evs"
    have hix : ∀ P, P (keepD kp) M → ROp K (rIx K) kd (iD i) M P := fun P q => by
      rcases hs with e | e <;> subst e
      · exact rop_ix_L hat q
      · exact rop_ix_T hat q
    refine hix _ ?_
    walk_at "evs"
    exact hQ

theorem ok_is_of {P : Program} {w : World} {K : PySem.W.Frag} {mg : Str → Option Value} {base : Heap} {f : Addr} {fd : FuncData} (F : FnP K "is_of" "is_of" (top 15) f fd) (g : mg "is_of" = some (.ref f)) (T : Tx w K mg) (c_is_index : Cal P w K mg base 1 "is_index" ["value", "many"] (S_is_index))  : Cal P w K mg base 2 "is_of" ["keeps", "value", "whats"] (S_is_of) :=
  cal_mk F g (fn_is_of F T c_is_index) (F.bindsN fun _ _ _ _ _ _ us hl => match us, hl with | [_, _, _], _ => rfl)

theorem sc_is_source : FnScope ["value", "name"] ["value", "name"] (defScope (top 16)) := ⟨rfl, rfl, rfl, by decide +kernel, rfl, by decide +kernel, by decide +kernel⟩
theorem fn_is_source {P : Program} {w : World} {K : PySem.W.Frag} {mg : Str → Option Value} {base : Heap} {f : Addr} {fd : FuncData} (F : FnP K "is_source" "is_source" (top 16) f fd) (T : Tx w K mg)   : FnOk P w K mg base CX0 1 f fd ["value", "name"] (spOf K (S_is_source)) := by
  have sc := sc_is_source
  refine ok_fn (k := 0) F sc (fun ds M Q h => ?_) (fun cdv A outer s H E hr => ?_)
  · obtain ⟨x, n, rfl, hs, hQ⟩ := h; rfl
  · have hu6 : A.units + 64 < cLine := by have := hr.un; show A.units + 64 < cLine; simp only [Around.deeper] at this; omega
    have hu := hu_of hr
    refine ⟨_, (pss_cons (ps_if (PW.pt (pw_or (pt_not (pt_val (pe_callB call_isi (by rfl) T.b_isinstance (by decide +kernel) (pa_cons (pv 0) (pa_cons (pe_bltn (v := .ty "str") (u := .type "str") (by rfl) T.b_str (by decide +kernel) rfl) pa_nil))))) (pw_or1 (pt_cmpR op_notIn_seq (pv 0) (pe_glob (v := .ref _) (by rfl) T.g_SOURCES rfl) (by rfl))))) (pss_one (ps_ret pe_bl)) pss_nil) (pss_one (ps_ret (pe_and (pe_not (pe_and (pe_cmpR op_eq (pv 0) pe_str (nomark _)) (pe_one (pe_cmpR op_eq (pv 1) pe_str (nomark _))))) (pe_one (pe_not (pe_and (pe_cmpR op_eq (pv 0) pe_str (nomark _)) (pe_one (pe_cmpR op_eq (pv 1) pe_str (nomark _)))))))))), fun ds M Q h => ?_⟩
    obtain ⟨x, n, rfl, hs, hQ⟩ := h
    try dsimp only [cxOf, Cx.nox]
    obtain ⟨h1, h2⟩ := hs
    cases x <;> cases n <;> first | exact absurd rfl (h1 rfl) | exact absurd rfl (h2 rfl) | (walk_at "evs"; exact hQ)

theorem ok_is_source {P : Program} {w : World} {K : PySem.W.Frag} {mg : Str → Option Value} {base : Heap} {f : Addr} {fd : FuncData} (F : FnP K "is_source" "is_source" (top 16) f fd) (g : mg "is_source" = some (.ref f)) (T : Tx w K mg)   : Cal P w K mg base 1 "is_source" ["value", "name"] (S_is_source) :=
  cal_mk F g (fn_is_source F T ) (F.bindsN fun _ _ _ _ _ _ us hl => match us, hl with | [_, _], _ => rfl)

theorem sc_is_touch : FnScope ["value", "name", "keeps", "is_fit"] ["value", "name", "keeps"] (defScope (top 17)) := ⟨rfl, rfl, rfl, by decide +kernel, rfl, by decide +kernel, by decide +kernel⟩
theorem fn_is_touch {P : Program} {w : World} {K : PySem.W.Frag} {mg : Str → Option Value} {base : Heap} {f : Addr} {fd : FuncData} (F : FnP K "is_touch" "is_touch" (top 17) f fd) (T : Tx w K mg) (c_is_of : Cal P w K mg base 2 "is_of" ["keeps", "value", "whats"] (S_is_of)) (c_is_source : Cal P w K mg base 1 "is_source" ["value", "name"] (S_is_source))  : FnOk P w K mg base CX0 3 f fd ["value", "name", "keeps"] (spOf K (S_is_touch)) := by
  have sc := sc_is_touch
  refine ok_fn (k := 2) F sc (fun ds M Q h => ?_) (fun cdv A outer s H E hr => ?_)
  · obtain ⟨t, n, kd, ks, rfl, hs, hl, ht, hQ⟩ := h; rfl
  · have hu6 : A.units + 64 < cLine := by have := hr.un; show A.units + 64 < cLine; simp only [Around.deeper] at this; omega
    have hu := hu_of hr
    obtain ⟨es_FITTING, n_FITTING, D_FITTING⟩ := T.fit
    refine ⟨_, (pss_cons (ps_if (PW.pt (pw_or (pt_not (pt_val (pe_callB call_isi (by rfl) T.b_isinstance (by decide +kernel) (pa_cons (pv 0) (pa_cons (pe_bltn (v := .ty "tuple") (u := .type "tuple") (by rfl) T.b_tuple (by decide +kernel) rfl) pa_nil))))) (pw_or (pt_cmpR op_lt (pe_callB call_len (by rfl) T.b_len (by decide +kernel) (pa_cons (pv 0) pa_nil)) pe_int (nomark _)) (pw_or (pt_not (pt_val (pe_callB call_isi (by rfl) T.b_isinstance (by decide +kernel) (pa_cons (pe_ix ix_seq (pv 0) pe_int (fun _ _ => rfl)) (pa_cons (pe_bltn (v := .ty "str") (u := .type "str") (by rfl) T.b_str (by decide +kernel) rfl) pa_nil))))) (pw_or1 (pt_cmpR (op_notIn_kd D_FITTING) (pe_ix ix_seq (pv 0) pe_int (fun _ _ => rfl)) (pe_glob (v := .ref _) (by rfl) T.g_FITTING rfl) (by rfl))))))) (pss_one (ps_ret pe_bl)) pss_nil) (pss_cons (ps_if (PW.pt (pw_or (pt_not (pt_val (pe_calD c_is_of (hr.mono (by first | decide | exact Nat.le_refl _)) (by rfl) (pa_cons (pv 2) (pa_cons (pe_ix ix_seq (pv 0) pe_int (fun _ _ => rfl)) (pa_cons (pe_ixTab D_FITTING (pe_glob (v := .ref _) (by rfl) T.g_FITTING rfl) (pe_ix ix_seq (pv 0) pe_int (fun _ _ => rfl)) (fun _ _ => rfl)) pa_nil)))))) (pw_or1 (PW.pt (pw_and (pt_cmpR op_eq (pe_ix ix_seq (pv 0) pe_int (fun _ _ => rfl)) pe_str (nomark _)) (pw_and1 (pt_cmpR op_eq (pv 1) pe_str (nomark _)))))))) (pss_one (ps_ret pe_bl)) pss_nil) (pss_cons (ps_if (pt_cmpR op_in_seq (pe_ix ix_seq (pv 0) pe_int (fun _ _ => rfl)) (pe_tup (pa_cons pe_str (pa_cons pe_str pa_nil))) (by rfl)) (pss_cons (ps_set (i := 3) sc.nd rfl (Or.inl rfl) (pe_and (pe_cmpR op_eq (pe_callB call_len (by rfl) T.b_len (by decide +kernel) (pa_cons (pv 0) pa_nil)) pe_int (nomark _)) (pe_one (pe_calD c_is_source (hr.mono (by first | decide | exact Nat.le_refl _)) (by rfl) (pa_cons (pe_ix ix_seq (pv 0) pe_int (fun _ _ => rfl)) (pa_cons (pv 1) pa_nil)))))) (pss_one (ps_ret (pe_and (pv 3) (pe_one (pe_or (pe_cmpR op_eq (pe_ix ix_seq (pv 0) pe_int (fun _ _ => rfl)) pe_str (nomark _)) (pe_one (pe_cmpR op_eq (pe_ix ix_seq (pe_ix ix_seq (pv 2) (pe_ix ix_seq (pv 0) pe_int (fun _ _ => rfl)) (fun _ _ => rfl)) pe_int (fun _ _ => rfl)) pe_str (nomark _))))))))) pss_nil) (pss_one (ps_ret (pe_cmpR op_eq (pe_callB call_len (by rfl) T.b_len (by decide +kernel) (pa_cons (pv 0) pa_nil)) pe_int (nomark _))))))), fun ds M Q h => ?_⟩
    obtain ⟨t, n, kd, ks, rfl, hs, hl, ht, hQ⟩ := h
    try dsimp only [cxOf, Cx.nox]
    have hQ' : (DR Q).rt (.sc (.bl true)) M := hQ
    have hnd : n ≠ .drop → decide (V.str n.s = V.str "drop") = false := by
      intro h
      cases n <;> first | exact absurd rfl h | rfl
    cases t with
    | add k s =>
      obtain ⟨hsrc, kp, hk, hw⟩ := ht
      obtain ⟨u, v, hn, hv, hd⟩ := T.v_FITTING (.add k s)
      dsimp only [fitS, fitW] at hn hd
      walk_at "evs"
      refine rop_notInKD hn ?_
      walk_at "evs"
      refine rop_itemKD hn hv hd ?_
      walk_at "evs"
      refine ⟨kd, ks, k, _, kp, rfl, hs, hk, rfl, ?_⟩
      obtain ⟨kw, kk⟩ := kp
      have hat : atI (ks.map keepD) (k : Int) = some (keepD ⟨kw, kk⟩) := atI_nat (by rw [List.getElem?_map, hk] <;> rfl)
      have hix : ∀ P, P (keepD ⟨kw, kk⟩) M → ROp K (rIx K) kd (iD k) M P := fun P q => by
        rcases hs with e | e <;> subst e
        · exact rop_ix_L hat q
        · exact rop_ix_T hat q
      rcases hw with hw | ⟨hw, hso⟩
      · have hw' : kw = .sum := hw
        subst hw'
        walk_at "evs"
        refine ⟨s, n, rfl, hsrc, ?_⟩
        walk_at "evs"
        refine ifB (fun h => hQ') (fun h => ?_)
        walk_at "evs"
        refine hix _ ?_
        walk_at "evs"
        exact hQ
      · have hw' : kw = .count := hw
        subst hw' hso
        walk_at "evs"
        refine ⟨.one, n, rfl, hsrc, ?_⟩
        walk_at "evs"
        exact hQ
    | less k s =>
      obtain ⟨hsrc, kp, hk, hw⟩ := ht
      obtain ⟨u, v, hn, hv, hd⟩ := T.v_FITTING (.less k s)
      dsimp only [fitS, fitW] at hn hd
      walk_at "evs"
      refine rop_notInKD hn ?_
      walk_at "evs"
      refine rop_itemKD hn hv hd ?_
      walk_at "evs"
      refine ⟨kd, ks, k, _, kp, rfl, hs, hk, rfl, ?_⟩
      obtain ⟨kw, kk⟩ := kp
      have hat : atI (ks.map keepD) (k : Int) = some (keepD ⟨kw, kk⟩) := atI_nat (by rw [List.getElem?_map, hk] <;> rfl)
      have hix : ∀ P, P (keepD ⟨kw, kk⟩) M → ROp K (rIx K) kd (iD k) M P := fun P q => by
        rcases hs with e | e <;> subst e
        · exact rop_ix_L hat q
        · exact rop_ix_T hat q
      rcases hw with hw | ⟨hw, hso⟩
      · have hw' : kw = .sum := hw
        subst hw'
        walk_at "evs"
        refine ⟨s, n, rfl, hsrc, ?_⟩
        walk_at "evs"
        refine ifB (fun h => hQ') (fun h => ?_)
        walk_at "evs"
        refine hix _ ?_
        walk_at "evs"
        exact hQ
      · have hw' : kw = .count := hw
        subst hw' hso
        walk_at "evs"
        refine ⟨.one, n, rfl, hsrc, ?_⟩
        walk_at "evs"
        exact hQ
    | lift k =>
      obtain ⟨hnn, kp, hk, hw⟩ := ht
      obtain ⟨u, v, hn, hv, hd⟩ := T.v_FITTING (.lift k)
      dsimp only [fitS, fitW] at hn hd
      walk_at "evs"
      refine rop_notInKD hn ?_
      walk_at "evs"
      refine rop_itemKD hn hv hd ?_
      walk_at "evs"
      refine ⟨kd, ks, k, _, kp, rfl, hs, hk, rfl, ?_⟩
      obtain ⟨kw, kk⟩ := kp
      have hw' : kw = .most := hw
      subst hw'
      walk_at "evs"
      refine ifF (hnd hnn) ?_
      walk_at "evs"
      exact hQ
    | mark k =>
      obtain ⟨kp, hk, hw⟩ := ht
      obtain ⟨u, v, hn, hv, hd⟩ := T.v_FITTING (.mark k)
      dsimp only [fitS, fitW] at hn hd
      walk_at "evs"
      refine rop_notInKD hn ?_
      walk_at "evs"
      refine rop_itemKD hn hv hd ?_
      walk_at "evs"
      refine ⟨kd, ks, k, _, kp, rfl, hs, hk, rfl, ?_⟩
      obtain ⟨kw, kk⟩ := kp
      have hw' : kw = .any := hw
      subst hw'
      walk_at "evs"
      exact hQ
    | empty k =>
      obtain ⟨kp, hk⟩ := ht
      obtain ⟨u, v, hn, hv, hd⟩ := T.v_FITTING (.empty k)
      dsimp only [fitS, fitW] at hn hd
      walk_at "evs"
      refine rop_notInKD hn ?_
      walk_at "evs"
      refine rop_itemKD hn hv hd ?_
      walk_at "evs"
      refine ⟨kd, ks, k, _, kp, rfl, hs, hk, rfl, ?_⟩
      obtain ⟨kw, kk⟩ := kp
      have hin : inV (.str kw.s) [V.str "count", V.str "sum", V.str "most", V.str "any"] = true := by cases kw <;> rfl
      walk_at "evs"
      rw [hin]
      walk_at "evs"
      exact hQ
    | again k =>
      obtain ⟨kp, hk⟩ := ht
      obtain ⟨u, v, hn, hv, hd⟩ := T.v_FITTING (.again k)
      dsimp only [fitS, fitW] at hn hd
      walk_at "evs"
      refine rop_notInKD hn ?_
      walk_at "evs"
      refine rop_itemKD hn hv hd ?_
      walk_at "evs"
      refine ⟨kd, ks, k, _, kp, rfl, hs, hk, rfl, ?_⟩
      obtain ⟨kw, kk⟩ := kp
      have hin : inV (.str kw.s) [V.str "count", V.str "sum", V.str "most", V.str "any"] = true := by cases kw <;> rfl
      walk_at "evs"
      rw [hin]
      walk_at "evs"
      exact hQ

theorem ok_is_touch {P : Program} {w : World} {K : PySem.W.Frag} {mg : Str → Option Value} {base : Heap} {f : Addr} {fd : FuncData} (F : FnP K "is_touch" "is_touch" (top 17) f fd) (g : mg "is_touch" = some (.ref f)) (T : Tx w K mg) (c_is_of : Cal P w K mg base 2 "is_of" ["keeps", "value", "whats"] (S_is_of)) (c_is_source : Cal P w K mg base 1 "is_source" ["value", "name"] (S_is_source))  : Cal P w K mg base 3 "is_touch" ["value", "name", "keeps"] (S_is_touch) :=
  cal_mk F g (fn_is_touch F T c_is_of c_is_source) (F.bindsN fun _ _ _ _ _ _ us hl => match us, hl with | [_, _, _], _ => rfl)

theorem sc_is_test : FnScope ["value", "name", "keeps", "word"] ["value", "name", "keeps"] (defScope (top 18)) := ⟨rfl, rfl, rfl, by decide +kernel, rfl, by decide +kernel, by decide +kernel⟩
theorem fn_is_test {P : Program} {w : World} {K : PySem.W.Frag} {mg : Str → Option Value} {base : Heap} {f : Addr} {fd : FuncData} (F : FnP K "is_test" "is_test" (top 18) f fd) (T : Tx w K mg) (c_is_index : Cal P w K mg base 1 "is_index" ["value", "many"] (S_is_index)) (c_is_of : Cal P w K mg base 2 "is_of" ["keeps", "value", "whats"] (S_is_of))  : FnOk P w K mg base CX0 3 f fd ["value", "name", "keeps"] (spOf K (S_is_test)) := by
  have sc := sc_is_test
  refine ok_fn (k := 2) F sc (fun ds M Q h => ?_) (fun cdv A outer s H E hr => ?_)
  · obtain ⟨t, n, kd, ks, rfl, hs, hl, ht, hQ⟩ := h; rfl
  · have hu6 : A.units + 64 < cLine := by have := hr.un; show A.units + 64 < cLine; simp only [Around.deeper] at this; omega
    have hu := hu_of hr
    refine ⟨_, (pss_cons (ps_if (PW.pt (pw_or (pt_not (pt_val (pe_callB call_isi (by rfl) T.b_isinstance (by decide +kernel) (pa_cons (pv 0) (pa_cons (pe_bltn (v := .ty "tuple") (u := .type "tuple") (by rfl) T.b_tuple (by decide +kernel) rfl) pa_nil))))) (pw_or (pt_not (pt_truth (pv 0) (by intro _; rfl))) (pw_or1 (pt_not (pt_val (pe_callB call_isi (by rfl) T.b_isinstance (by decide +kernel) (pa_cons (pe_ix ix_seq (pv 0) pe_int (fun _ _ => rfl)) (pa_cons (pe_bltn (v := .ty "str") (u := .type "str") (by rfl) T.b_str (by decide +kernel) rfl) pa_nil))))))))) (pss_one (ps_ret pe_bl)) pss_nil) (pss_cons (ps_set (i := 3) sc.nd rfl (Or.inl rfl) (pe_ix ix_seq (pv 0) pe_int (fun _ _ => rfl))) (pss_cons (ps_if (pt_cmpR op_eq (pv 3) pe_str (nomark _)) (pss_one (ps_ret (pe_and (pe_cmpR op_eq (pe_callB call_len (by rfl) T.b_len (by decide +kernel) (pa_cons (pv 0) pa_nil)) pe_int (nomark _)) (pe_one (pe_cmpR op_eq (pv 1) pe_str (nomark _)))))) pss_nil) (pss_cons (ps_if (pt_cmpR op_ne (pe_callB call_len (by rfl) T.b_len (by decide +kernel) (pa_cons (pv 0) pa_nil)) pe_int (nomark _)) (pss_one (ps_ret pe_bl)) pss_nil) (pss_cons (ps_if (pt_cmpR op_eq (pv 3) pe_str (nomark _)) (pss_one (ps_ret (pe_and (pe_cmpR op_ne (pv 1) pe_str (nomark _)) (pe_one (pe_calD c_is_index (hr.mono (by first | decide | exact Nat.le_refl _)) (by rfl) (pa_cons (pe_ix ix_seq (pv 0) pe_int (fun _ _ => rfl)) (pa_cons pe_int pa_nil))))))) pss_nil) (pss_cons (ps_if (pt_cmpR op_eq (pv 3) pe_str (nomark _)) (pss_one (ps_ret (pe_and (pe_cmpR op_ne (pv 1) pe_str (nomark _)) (pe_one (pe_calD c_is_index (hr.mono (by first | decide | exact Nat.le_refl _)) (by rfl) (pa_cons (pe_ix ix_seq (pv 0) pe_int (fun _ _ => rfl)) (pa_cons pe_int pa_nil))))))) pss_nil) (pss_cons (ps_if (pt_cmpR op_eq (pv 3) pe_str (nomark _)) (pss_one (ps_ret (pe_and (pe_cmpR op_ne (pv 1) pe_str (nomark _)) (pe_one (pe_calD c_is_of (hr.mono (by first | decide | exact Nat.le_refl _)) (by rfl) (pa_cons (pv 2) (pa_cons (pe_ix ix_seq (pv 0) pe_int (fun _ _ => rfl)) (pa_cons (pe_tup (pa_cons pe_str pa_nil)) pa_nil)))))))) pss_nil) (pss_one (ps_ret (pe_and (pe_cmpR op_eq (pv 3) pe_str (nomark _)) (pe_one (pe_calD c_is_of (hr.mono (by first | decide | exact Nat.le_refl _)) (by rfl) (pa_cons (pv 2) (pa_cons (pe_ix ix_seq (pv 0) pe_int (fun _ _ => rfl)) (pa_cons (pe_tup (pa_cons pe_str pa_nil)) pa_nil))))))))))))))), fun ds M Q h => ?_⟩
    obtain ⟨t, n, kd, ks, rfl, hs, hl, ht, hQ⟩ := h
    try dsimp only [cxOf, Cx.nox]
    have hnn : n ≠ .new → decide (V.str n.s = V.str "new") = false := by
      intro h
      cases n <;> first | exact absurd rfl h | rfl
    have hnd : n ≠ .drop → decide (V.str n.s = V.str "drop") = false := by
      intro h
      cases n <;> first | exact absurd rfl h | rfl
    cases t with
    | elder c =>
      obtain ⟨h1, h2⟩ := ht
      walk_at "evs"
      refine ifT (by rw [hnn h1] <;> rfl) ?_
      walk_at "evs"
      refine ⟨_, _, rfl, ?_⟩
      rcases h2 with h2 | h2 <;> subst h2 <;> exact hQ
    | newer c =>
      obtain ⟨h1, h2⟩ := ht
      walk_at "evs"
      refine ifT (by rw [hnd h1] <;> rfl) ?_
      walk_at "evs"
      refine ⟨_, _, rfl, ?_⟩
      rcases h2 with h2 | h2 <;> subst h2 <;> exact hQ
    | moved =>
      have h1 : n = .change := ht
      subst h1
      walk_at "evs"
      exact hQ
    | none k =>
      obtain ⟨kp, hk, hw⟩ := ht
      walk_at "evs"
      refine ⟨kd, ks, k, [V.str "count"], kp, rfl, hs, hk, rfl, ?_⟩
      rw [hw]
      exact hQ
    | top k =>
      obtain ⟨h1, kp, hk, hw⟩ := ht
      walk_at "evs"
      refine ifT (by rw [hnn h1] <;> rfl) ?_
      walk_at "evs"
      refine ⟨kd, ks, k, [V.str "most"], kp, rfl, hs, hk, rfl, ?_⟩
      rw [hw]
      exact hQ

theorem ok_is_test {P : Program} {w : World} {K : PySem.W.Frag} {mg : Str → Option Value} {base : Heap} {f : Addr} {fd : FuncData} (F : FnP K "is_test" "is_test" (top 18) f fd) (g : mg "is_test" = some (.ref f)) (T : Tx w K mg) (c_is_index : Cal P w K mg base 1 "is_index" ["value", "many"] (S_is_index)) (c_is_of : Cal P w K mg base 2 "is_of" ["keeps", "value", "whats"] (S_is_of))  : Cal P w K mg base 3 "is_test" ["value", "name", "keeps"] (S_is_test) :=
  cal_mk F g (fn_is_test F T c_is_index c_is_of) (F.bindsN fun _ _ _ _ _ _ us hl => match us, hl with | [_, _, _], _ => rfl)

theorem sc_is_step : FnScope ["value", "name", "keeps"] ["value", "name", "keeps"] (defScope (top 19)) := ⟨rfl, rfl, rfl, by decide +kernel, rfl, by decide +kernel, by decide +kernel⟩
theorem fn_is_step {P : Program} {w : World} {K : PySem.W.Frag} {mg : Str → Option Value} {base : Heap} {f : Addr} {fd : FuncData} (F : FnP K "is_step" "is_step" (top 19) f fd) (T : Tx w K mg) (c_is_test : Cal P w K mg base 3 "is_test" ["value", "name", "keeps"] (S_is_test)) (c_is_touch : Cal P w K mg base 3 "is_touch" ["value", "name", "keeps"] (S_is_touch))  : FnOk P w K mg base CX0 4 f fd ["value", "name", "keeps"] (spOf K (S_is_step)) := by
  have sc := sc_is_step
  refine ok_fn (k := 3) F sc (fun ds M Q h => ?_) (fun cdv A outer s H E hr => ?_)
  · obtain ⟨st, n, kd, ks, rfl, hs, hl, ht, hQ⟩ := h; rfl
  · have hu6 : A.units + 64 < cLine := by have := hr.un; show A.units + 64 < cLine; simp only [Around.deeper] at this; omega
    have hu := hu_of hr
    refine ⟨_, (pss_cons (ps_if (PW.pt (pw_and (pt_val (pe_callB call_isi (by rfl) T.b_isinstance (by decide +kernel) (pa_cons (pv 0) (pa_cons (pe_bltn (v := .ty "tuple") (u := .type "tuple") (by rfl) T.b_tuple (by decide +kernel) rfl) pa_nil)))) (pw_and (pt_cmpR op_eq (pe_callB call_len (by rfl) T.b_len (by decide +kernel) (pa_cons (pv 0) pa_nil)) pe_int (nomark _)) (pw_and (pt_val (pe_callB call_isi (by rfl) T.b_isinstance (by decide +kernel) (pa_cons (pe_ix ix_seq (pv 0) pe_int (fun _ _ => rfl)) (pa_cons (pe_bltn (v := .ty "str") (u := .type "str") (by rfl) T.b_str (by decide +kernel) rfl) pa_nil)))) (pw_and1 (pt_cmpR op_eq (pe_ix ix_seq (pv 0) pe_int (fun _ _ => rfl)) pe_str (nomark _))))))) (pss_one (ps_ret (pe_and (pe_calD c_is_test (hr.mono (by first | decide | exact Nat.le_refl _)) (by rfl) (pa_cons (pe_ix ix_seq (pv 0) pe_int (fun _ _ => rfl)) (pa_cons (pv 1) (pa_cons (pv 2) pa_nil)))) (pe_one (pe_calD c_is_touch (hr.mono (by first | decide | exact Nat.le_refl _)) (by rfl) (pa_cons (pe_ix ix_seq (pv 0) pe_int (fun _ _ => rfl)) (pa_cons (pv 1) (pa_cons (pv 2) pa_nil)))))))) pss_nil) (pss_one (ps_ret (pe_calD c_is_touch (hr.mono (by first | decide | exact Nat.le_refl _)) (by rfl) (pa_cons (pv 0) (pa_cons (pv 1) (pa_cons (pv 2) pa_nil))))))), fun ds M Q h => ?_⟩
    obtain ⟨st, n, kd, ks, rfl, hs, hl, ht, hQ⟩ := h
    try dsimp only [cxOf, Cx.nox]
    obtain ⟨te, tc⟩ := st
    obtain ⟨h1, h2⟩ := ht
    cases te with
    | some t =>
      walk_at "evs"
      refine ⟨t, n, kd, ks, rfl, hs, hl, h2 t rfl, ?_⟩
      walk_at "evs"
      exact ⟨tc, n, kd, ks, rfl, hs, hl, h1, hQ⟩
    | none => cases tc <;> (walk_at "evs"; exact ⟨_, n, kd, ks, rfl, hs, hl, h1, hQ⟩)

theorem ok_is_step {P : Program} {w : World} {K : PySem.W.Frag} {mg : Str → Option Value} {base : Heap} {f : Addr} {fd : FuncData} (F : FnP K "is_step" "is_step" (top 19) f fd) (g : mg "is_step" = some (.ref f)) (T : Tx w K mg) (c_is_test : Cal P w K mg base 3 "is_test" ["value", "name", "keeps"] (S_is_test)) (c_is_touch : Cal P w K mg base 3 "is_touch" ["value", "name", "keeps"] (S_is_touch))  : Cal P w K mg base 4 "is_step" ["value", "name", "keeps"] (S_is_step) :=
  cal_mk F g (fn_is_step F T c_is_test c_is_touch) (F.bindsN fun _ _ _ _ _ _ us hl => match us, hl with | [_, _, _], _ => rfl)

theorem sc_check_steps : FnScope ["name", "steps", "keeps", "index", "step"] ["name", "steps", "keeps"] (defScope (top 20)) := ⟨rfl, rfl, rfl, by decide +kernel, rfl, by decide +kernel, by decide +kernel⟩
theorem fn_check_steps {P : Program} {w : World} {K : PySem.W.Frag} {mg : Str → Option Value} {base : Heap} {f : Addr} {fd : FuncData} (F : FnP K "check_steps" "check_steps" (top 20) f fd) (T : Tx w K mg) (c_is_step : Cal P w K mg base 4 "is_step" ["value", "name", "keeps"] (S_is_step))  : FnOk P w K mg base CX0 5 f fd ["name", "steps", "keeps"] (spOf K (S_check_steps)) := by
  have sc := sc_check_steps
  refine ok_fn (k := 4) F sc (fun ds M Q h => ?_) (fun cdv A outer s H E hr => ?_)
  · obtain ⟨n, sd, ss, kd, ks, rfl, hss, hs, hl, h6, hok, hQ⟩ := h; rfl
  · have hu6 : A.units + 64 < cLine := by have := hr.un; show A.units + 64 < cLine; simp only [Around.deeper] at this; omega
    have hu := hu_of hr
    refine ⟨_, (pss_cons (ps_if (pt_cmpR op_gt (pe_callB call_len (by rfl) T.b_len (by decide +kernel) (pa_cons (pv 1) pa_nil)) (pe_globI (by rfl) T.g_MOST_STEPS) (nomark _)) (pss_one ps_never) pss_nil) (pss_one (ps_for PassesOwn.never (by rfl) (pi_enumA (by rfl) T.b_enumerate (pa_cons (pv 1) pa_nil)) (pg_tup (n := 2) (by rfl) (pgs_cons (pg_name (i := 3) sc.nd rfl (Or.inl rfl)) (pgs_cons (pg_name (i := 4) sc.nd rfl (Or.inl rfl)) pgs_nil))) (pss_one (ps_if (pt_not (pt_val (pe_calD c_is_step (hr.mono (by first | decide | exact Nat.le_refl _)) (by rfl) (pa_cons (pv 4) (pa_cons (pv 0) (pa_cons (pv 2) pa_nil)))))) (pss_one ps_never) pss_nil))))), fun ds M Q h => ?_⟩
    obtain ⟨n, sd, ss, kd, ks, rfl, hss, hs, hl, h6, hok, hQ⟩ := h
    try dsimp only [cxOf, Cx.nox]
    have hlen : LenAt sd M ss.length := by
      rcases hss with e | e <;> subst e <;> exact (List.length_map ..).symm
    walk_at "evs"
    refine rcl_len hlen ?_
    walk_at "evs"
    refine ifF (decide_eq_false (by omega)) ?_
    walk_at "evs"
    refine stp_for (js := [3, 4]) (sr_enumA ?_)
    walk_at "evs"
    refine ⟨ss.map stepD, hss.elim (fun e => .inl (by rw [e])) (fun e => .inr (by rw [e])), fun i ρ' M' => (∃ a b, ρ' = [some (sD n.s), some sd, some kd, a, b]) ∧ M = M', ⟨⟨none, none, rfl⟩, rfl⟩, ?_, ?_⟩
    · rintro i d ρ' M' hd ⟨⟨a, b, rfl⟩, rfl⟩
      obtain ⟨e, he, rfl⟩ := enumD_get hd
      rw [List.getElem?_map] at he
      obtain ⟨st, hst, rfl⟩ := Option.map_eq_some_iff.mp he
      refine ⟨_, tg_tup (js := [3, 4]) rfl rfl, ?_⟩
      walk_at "evs"
      refine ⟨st, n, kd, ks, rfl, hs, hl, hok st (List.mem_of_getElem? hst), ?_⟩
      walk_at "evs"
      exact ⟨⟨_, _, rfl⟩, rfl⟩
    · rintro ρ' M' ⟨_, rfl⟩
      exact hQ

theorem ok_check_steps {P : Program} {w : World} {K : PySem.W.Frag} {mg : Str → Option Value} {base : Heap} {f : Addr} {fd : FuncData} (F : FnP K "check_steps" "check_steps" (top 20) f fd) (g : mg "check_steps" = some (.ref f)) (T : Tx w K mg) (c_is_step : Cal P w K mg base 4 "is_step" ["value", "name", "keeps"] (S_is_step))  : Cal P w K mg base 5 "check_steps" ["name", "steps", "keeps"] (S_check_steps) :=
  cal_mk F g (fn_check_steps F T c_is_step) (F.bindsN fun _ _ _ _ _ _ us hl => match us, hl with | [_, _, _], _ => rfl)

theorem sc_Program___init__ : FnScope ["self", "keeps", "new", "change", "drop", "index", "keep", "name", "steps"] ["self", "keeps", "new", "change", "drop"] (defScope (inClass (top 21) 0)) := ⟨rfl, rfl, rfl, by decide +kernel, rfl, by decide +kernel, by decide +kernel⟩
theorem fn_Program___init__ {P : Program} {w : World} {K : PySem.W.Frag} {mg : Str → Option Value} {base : Heap} {f : Addr} {fd : FuncData} (F : FnP K "__init__" "Program.__init__" (inClass (top 21) 0) f fd) (T : Tx w K mg) (c_is_keep : Cal P w K mg base 2 "is_keep" ["value"] (S_is_keep)) (c_check_steps : Cal P w K mg base 5 "check_steps" ["name", "steps", "keeps"] (S_check_steps))  : FnOk P w K mg base CX0 6 f fd ["self", "keeps", "new", "change", "drop"] (spOf K (S_Program_init (He.ga K "Program"))) := by
  have sc := sc_Program___init__
  refine ok_fn (k := 5) F sc (fun ds M Q h => ?_) (fun cdv A outer s H E hr => ?_)
  · obtain ⟨x, kd, nd, cd, dd, p, rfl, hx, hk, hn, hc, hd, hv, hQ⟩ := h; rfl
  · have hu6 : A.units + 64 < cLine := by have := hr.un; show A.units + 64 < cLine; simp only [Around.deeper] at this; omega
    have hu := hu_of hr
    refine ⟨_, (pss_cons (ps_if (pt_cmpR op_gt (pe_callB call_len (by rfl) T.b_len (by decide +kernel) (pa_cons (pv 1) pa_nil)) (pe_globI (by rfl) T.g_MOST_KEEPS) (nomark _)) (pss_one ps_never) pss_nil) (pss_cons (ps_if (pt_cmpR op_eq (pe_callB call_len (by rfl) T.b_len (by decide +kernel) (pa_cons (pv 1) pa_nil)) pe_int (nomark _)) (pss_one ps_never) pss_nil) (pss_cons (ps_for PassesOwn.never (by rfl) (pi_enumA (by rfl) T.b_enumerate (pa_cons (pv 1) pa_nil)) (pg_tup (n := 2) (by rfl) (pgs_cons (pg_name (i := 5) sc.nd rfl (Or.inl rfl)) (pgs_cons (pg_name (i := 6) sc.nd rfl (Or.inl rfl)) pgs_nil))) (pss_one (ps_if (pt_not (pt_val (pe_calD c_is_keep (hr.mono (by first | decide | exact Nat.le_refl _)) (by rfl) (pa_cons (pv 6) pa_nil)))) (pss_one ps_never) pss_nil))) (pss_cons (ps_for PassesOwn.never (by rfl) (pi_seq (pe_tup (pa_cons (pe_tup (pa_cons pe_str (pa_cons (pv 2) pa_nil))) (pa_cons (pe_tup (pa_cons pe_str (pa_cons (pv 3) pa_nil))) (pa_cons (pe_tup (pa_cons pe_str (pa_cons (pv 4) pa_nil))) pa_nil))))) (pg_tup (n := 2) (by rfl) (pgs_cons (pg_name (i := 7) sc.nd rfl (Or.inl rfl)) (pgs_cons (pg_name (i := 8) sc.nd rfl (Or.inl rfl)) pgs_nil))) (pss_one (ps_expr (pe_calD c_check_steps (hr.mono (by first | decide | exact Nat.le_refl _)) (by rfl) (pa_cons (pv 7) (pa_cons (pv 8) (pa_cons (pv 1) pa_nil))))))) (pss_cons (ps_fld (pv 0) (pe_callTy call_tuple_of (by rfl) T.b_tuple (by decide +kernel) (pa_cons (pv 1) pa_nil)) rfl) (pss_cons (ps_fld (pv 0) (pe_callTy call_tuple_of (by rfl) T.b_tuple (by decide +kernel) (pa_cons (pv 2) pa_nil)) rfl) (pss_cons (ps_fld (pv 0) (pe_callTy call_tuple_of (by rfl) T.b_tuple (by decide +kernel) (pa_cons (pv 3) pa_nil)) rfl) (pss_one (ps_fld (pv 0) (pe_callTy call_tuple_of (by rfl) T.b_tuple (by decide +kernel) (pa_cons (pv 4) pa_nil)) rfl))))))))), fun ds M Q h => ?_⟩
    obtain ⟨x, kd, nd, cd, dd, p, rfl, hx, hk, hn, hc, hd, hv, hQ⟩ := h
    try dsimp only [cxOf, Cx.nox]
    have hlen : LenAt kd M p.keeps.length := by
      rcases hk with e | e <;> subst e <;> exact (List.length_map ..).symm
    have k1 := hv.k1
    have k3 := hv.k3
    walk_at "evs"
    refine rcl_len hlen ?_
    walk_at "evs"
    refine ifF (decide_eq_false (by omega)) ?_
    walk_at "evs"
    refine rcl_len hlen ?_
    walk_at "evs"
    refine ifF (decide_eq_false (fun z => by injection z with z; omega)) ?_
    walk_at "evs"
    refine stp_for (js := [5, 6]) (sr_enumA ?_)
    walk_at "evs"
    refine ⟨p.keeps.map keepD, hk.elim (fun e => .inl (by rw [e])) (fun e => .inr (by rw [e])), fun i ρ' M' => (∃ a b, ρ' = [some (.sc (.ref x)), some kd, some nd, some cd, some dd, a, b, none, none]) ∧ M = M', ⟨⟨none, none, rfl⟩, rfl⟩, ?_, ?_⟩
    · rintro i d ρ' M' hd ⟨⟨a, b, rfl⟩, rfl⟩
      obtain ⟨e, he, rfl⟩ := enumD_get hd
      rw [List.getElem?_map] at he
      obtain ⟨k, hkk, rfl⟩ := Option.map_eq_some_iff.mp he
      refine ⟨_, tg_tup (js := [5, 6]) rfl rfl, ?_⟩
      walk_at "evs"
      refine ⟨k, rfl, hv.ok k (List.mem_of_getElem? hkk), ?_⟩
      walk_at "evs"
      exact ⟨⟨_, _, rfl⟩, rfl⟩
    · rintro ρ' M' ⟨⟨a, b, rfl⟩, rfl⟩
      have step : ∀ (f : Str) (i : Nat) (ns : List Str) (es : List Da) (z zd : Da) (zs : List Da) (ρ : Env') (M1 : MH) (D : DE), f ∈ progN → ρ[i]? = some (some zd) → SeqOf zd zs → ρ[0]? = some (some (.sc (.ref x))) → M1 x = some (.ins (He.ga K "Program") ns es) → f ∉ ns → ns.length < 1000 →
          D.nx ρ (updM M1 x (.ins (He.ga K "Program") (ns ++ [f]) (es ++ [.tup zs]))) → StP K (sFld K (tVar 0) (tCB (rTuple K) (tCons (tVar i) tNil)) f) ρ M1 D := by
        intro f i ns es z zd zs ρ M1 D hf hi hz h0 hm hnf hl q
        refine stp_fldN T.c_Program (T.n_Program f hf) ?_
        refine ev_cb (av_cons (ev_var hi (av_nil ?_)))
        have hsq : SeqAt zd M1 zs := by rcases hz with e | e <;> subst e <;> exact rfl
        refine rcl_tuple hsq (ev_var h0 ⟨x, ns, es, rfl, hm, hnf, hl, q⟩)
      walk_at "evs"
      refine stp_for (js := [7, 8]) (sr_seq ?_)
      walk_at "evs"
      refine ⟨_, .inr rfl, fun i ρ' M' => (∃ a b c d, ρ' = [some (.sc (.ref x)), some kd, some nd, some cd, some dd, a, b, c, d]) ∧ M = M', ⟨⟨_, _, _, _, rfl⟩, rfl⟩, ?_, ?_⟩
      · rintro i d ρ' M' hd' ⟨⟨a, b, c, d', rfl⟩, rfl⟩
        have hx : ∃ (n : Pn) (sd : Da), d = .tup [sD n.s, sd] ∧ SeqOf sd ((p.steps n).map stepD) := by
          match i, hd' with
          | 0, hd' => exact ⟨.new, nd, (Option.some.inj hd').symm, hn⟩
          | 1, hd' => exact ⟨.change, cd, (Option.some.inj hd').symm, hc⟩
          | 2, hd' => exact ⟨.drop, dd, (Option.some.inj hd').symm, hd⟩
          | n + 3, hd' => simp at hd'
        obtain ⟨n, sd, rfl, hsd⟩ := hx
        refine ⟨_, tg_tup (js := [7, 8]) rfl rfl, ?_⟩
        walk_at "evs"
        refine ⟨n, sd, p.steps n, kd, p.keeps, rfl, hsd, hk, k3, hv.len n, hv.st n, ?_⟩
        exact ⟨⟨_, _, _, _, rfl⟩, rfl⟩
      · rintro ρ' M' ⟨⟨a, b, c, d, rfl⟩, rfl⟩
        walk_at "evs"
        refine step "keeps" 1 [] [] kd kd _ _ _ _ (by decide +kernel) rfl hk rfl hx (by decide +kernel) (by decide) ?_
        walk_at "evs"
        refine step "new" 2 _ _ nd nd _ _ _ _ (by decide +kernel) rfl hn rfl updM_same (by decide +kernel) (by decide) ?_
        rw [updM_updM]
        walk_at "evs"
        refine step "change" 3 _ _ cd cd _ _ _ _ (by decide +kernel) rfl hc rfl updM_same (by decide +kernel) (by decide) ?_
        rw [updM_updM]
        walk_at "evs"
        refine step "drop" 4 _ _ dd dd _ _ _ _ (by decide +kernel) rfl hd rfl updM_same (by decide +kernel) (by decide) ?_
        rw [updM_updM]
        exact hQ


theorem sc_all_things : FnScope ["numbers", "kind", "number"] ["numbers"] (defScope (top 30)) := ⟨rfl, rfl, rfl, by decide +kernel, rfl, by decide +kernel, by decide +kernel⟩
theorem fn_all_things {P : Program} {w : World} {K : PySem.W.Frag} {mg : Str → Option Value} {base : Heap} {f : Addr} {fd : FuncData} (F : FnP K "all_things" "all_things" (top 30) f fd) (T : Tx w K mg)   : FnOk P w K mg base CX0 1 f fd ["numbers"] (spOf K (S_all_things)) := by
  have sc := sc_all_things
  refine ok_fn (k := 0) F sc (fun ds M Q h => ?_) (fun cdv A outer s H E hr => ?_)
  · obtain ⟨rfl, hQ⟩ := h; rfl
  · have hu6 : A.units + 64 < cLine := by have := hr.un; show A.units + 64 < cLine; simp only [Around.deeper] at this; omega
    have hu := hu_of hr
    refine ⟨_, (pss_one (ps_ret (pe_lc2 (own := [("kind", 1), ("number", 2)]) (vs1 := [2]) (by rfl) sc.nd (pi_seq (pe_tup (pa_cons pe_int (pa_cons pe_int pa_nil)))) (blkOk_by (own := [("kind", 1), ("number", 2)]) (N := ["numbers", "kind", "number"]) (sc := defScope (top 30)) (by decide +kernel)) (by decide) (fun _ _ _ _ _ => (pg_name (i := 1) sc.nd rfl (Or.inl rfl))) (fun _ _ _ _ _ => pts_nil) (fun _ _ _ _ _ => (k_pi_seq (K := K) (pv 0))) (fun _ _ _ _ _ => (pg_name (i := 2) sc.nd rfl (Or.inl rfl))) (fun _ _ _ _ _ => pts_nil) (fun _ _ _ _ _ => (pe_tup (pa_cons (pv 1) (pa_cons (pv 2) pa_nil))))))), fun ds M Q h => ?_⟩
    obtain ⟨rfl, hQ⟩ := h
    try dsimp only [cxOf, Cx.nox]
    walk_at "evs"
    refine ev_lc2Map [1] [2] (by decide) (by decide) (sr_seq ?_)
    walk_at "evs"
    refine ⟨_, .inr rfl, [numbers.map fun n => thingD (0, n), numbers.map fun n => thingD (1, n)], rfl, Nat.le_of_ble_eq_true rfl, ?_, hQ⟩
    intro i d es hd he
    have hh : ∃ k : Int, d = iD k ∧ es = numbers.map fun n => thingD (k, n) := by
      match i, hd, he with
      | 0, hd, he => exact ⟨0, (Option.some.inj hd).symm, (Option.some.inj he).symm⟩
      | 1, hd, he => exact ⟨1, (Option.some.inj hd).symm, (Option.some.inj he).symm⟩
      | n + 2, hd, he => simp at hd
    obtain ⟨k, rfl, rfl⟩ := hh
    refine ⟨_, tg_name, sr_seq ?_⟩
    walk_at "evs"
    refine ⟨numbers.map iD, .inr rfl, rfl, rfl, ?_⟩
    intro l f e hf hee
    rw [List.getElem?_map] at hf hee
    obtain ⟨n, hn, rfl⟩ := Option.map_eq_some_iff.mp hf
    rw [hn] at hee
    obtain rfl := Option.some.inj hee
    refine ⟨_, tg_name, ?_⟩
    walk_at "evs"
    exact ⟨rfl, rfl⟩

theorem ok_all_things {P : Program} {w : World} {K : PySem.W.Frag} {mg : Str → Option Value} {base : Heap} {f : Addr} {fd : FuncData} (F : FnP K "all_things" "all_things" (top 30) f fd) (g : mg "all_things" = some (.ref f)) (T : Tx w K mg)   : Cal P w K mg base 1 "all_things" ["numbers"] (S_all_things) :=
  cal_mk F g (fn_all_things F T ) (F.bindsN fun _ _ _ _ _ _ us hl => match us, hl with | [_], _ => rfl)

theorem sc_true_value : FnScope ["keep", "things", "what", "kind", "numbers", "other", "number"] ["keep", "things"] (defScope (top 24)) := ⟨rfl, rfl, rfl, by decide +kernel, rfl, by decide +kernel, by decide +kernel⟩
theorem fn_true_value {P : Program} {w : World} {K : PySem.W.Frag} {mg : Str → Option Value} {base : Heap} {f : Addr} {fd : FuncData} (F : FnP K "true_value" "true_value" (top 24) f fd) (T : Tx w K mg)   : FnOk P w K mg base CX0 1 f fd ["keep", "things"] (spOf K (S_true_value)) := by
  have sc := sc_true_value
  refine ok_fn (k := 0) F sc (fun ds M Q h => ?_) (fun cdv A outer s H E hr => ?_)
  · obtain ⟨k, ts, rfl, hl, hQ⟩ := h; rfl
  · have hu6 : A.units + 64 < cLine := by have := hr.un; show A.units + 64 < cLine; simp only [Around.deeper] at this; omega
    have hu := hu_of hr
    refine ⟨_, (pss_cons (ps_asg (pv 0) (pg_tup (n := 2) (by rfl) (pgs_cons (pg_name (i := 2) sc.nd rfl (Or.inl rfl)) (pgs_cons (pg_name (i := 3) sc.nd rfl (Or.inr rfl)) pgs_nil)))) (pss_cons (ps_setLc (i := 4) (own := [("other", 5), ("number", 6)]) (by rfl) sc.nd rfl rfl (sw_true rfl rfl rfl (by decide +kernel)) (pi_seq (pv 1)) (blkOk_by (own := [("other", 5), ("number", 6)]) (N := ["keep", "things", "what", "kind", "numbers", "other", "number"]) (sc := defScope (top 24)) (by decide +kernel)) (fun _ _ _ _ _ => (k_pg_tup (K := K) (n := 2) (by rfl) (pgs_cons (pg_name (i := 5) sc.nd rfl (Or.inl rfl)) (pgs_cons (pg_name (i := 6) sc.nd rfl (Or.inl rfl)) pgs_nil)))) (fun _ _ _ _ _ => (pts_one (PW.pt (pw_or (pt_cmpR op_isN1 (pv 3) pe_non (nomark _)) (pw_or1 (pt_cmpR op_eq (pv 5) (pv 3) (nomark _))))))) (fun _ _ _ _ _ => (pv 6))) (pss_cons (ps_if (pt_cmpR op_eq (pv 2) pe_str (nomark _)) (pss_one (ps_ret (pe_callB call_len (by rfl) T.b_len (by decide +kernel) (pa_cons (pv 4) pa_nil)))) pss_nil) (pss_cons (ps_if (pt_cmpR op_eq (pv 2) pe_str (nomark _)) (pss_one (ps_ret (pe_callB (cr_sum rfl) (by rfl) T.b_sum (by decide +kernel) (pa_cons (pv 4) pa_nil)))) pss_nil) (pss_cons (ps_if (pt_cmpR op_eq (pv 2) pe_str (nomark _)) (pss_one (ps_ret (pe_cmpR op_gt (pe_callB call_len (by rfl) T.b_len (by decide +kernel) (pa_cons (pv 4) pa_nil)) pe_int (nomark _)))) pss_nil) (pss_one (ps_ret (pe_ifExp (pt_truth (pv 4) (by intro _; rfl)) (pe_callB (cr_max rfl) (by rfl) T.b_max (by decide +kernel) (pa_cons (pv 4) pa_nil)) pe_non)))))))), fun ds M Q h => ?_⟩
    obtain ⟨k, ts, rfl, hl, hQ⟩ := h
    try dsimp only [cxOf, Cx.nox]
    obtain ⟨kw, kk⟩ := k
    refine stp_seq (stp_asg ?_)
    walk_at "evs"
    refine gv_tg (js := [2, 3]) (tg_tup rfl rfl) ?_
    refine stp_seq (stp_set (ev_lc (js := [5, 6]) (by decide) (sr_seq ?_)))
    walk_at "evs"
    have keep : ∀ (t : Thing) (ρ : Env') (PB : Bool → MH → Prop), ρ[3]? = some (some (kindD kk)) → ρ[5]? = some (some (iD t.1)) → PB (inKind kk t) M → TvP K (tOr (tTest (tOp rIsN (tVar 3) (tC .non))) (tTest (tOp rEq (tVar 5) (tVar 3)))) ρ M PB := by
      intro t ρ PB h3 h5 q
      refine tv_or (tv_test (ev_op (ev_var h3 (ev_c (rop_isN ⟨_, rfl, ?_⟩)))))
      cases kk with
      | none => exact q
      | some c =>
        refine tv_test (ev_op (ev_var h5 (ev_var h3 (rop_eq rfl ⟨_, rfl, ?_⟩))))
        have e : decide (V.int t.1 = kindV (some c)) = decide (t.1 = c) := by simp [kindV]
        rw [e]
        exact q
    let nums : List Thing → List Int := fun us => numbersOf ⟨kw, kk⟩ us
    refine ⟨ts.map thingD, .inl rfl, fun i acc M' => acc = (nums (ts.take i)).map iD ∧ M = M', ⟨rfl, rfl⟩, ?_, ?_⟩
    · rintro i d acc M' hd ⟨ea, em⟩
      subst ea em
      rw [List.getElem?_map] at hd
      obtain ⟨t, ht, rfl⟩ := Option.map_eq_some_iff.mp hd
      refine ⟨_, tg_tup (js := [5, 6]) rfl rfl, ?_⟩
      refine keep t _ _ rfl rfl ?_
      have hsp : nums (ts.take (i + 1)) = nums (ts.take i) ++ nums [t] := by
        rw [take_succ_some ht]
        exact numbersOf_snoc _ _ _
      have hb : (nums (ts.take i)).length ≤ i := Nat.le_trans (numbersOf_le ⟨kw, kk⟩ (ts.take i)) (by rw [List.length_take]; omega)
      have hi : i < ts.length := (List.getElem?_eq_some_iff.mp ht).1
      refine ifB (fun h => ?_) (fun h => ?_)
      · refine ⟨by rw [List.length_map]; omega, ?_⟩
        walk_at "evs"
        refine ⟨?_, rfl⟩
        have e1 : nums [t] = [t.2] := numbersOf_in h
        rw [hsp, e1, List.map_append]
        rfl
      · refine ⟨?_, rfl⟩
        have e1 : nums [t] = [] := numbersOf_out h
        rw [hsp, e1, List.append_nil]
    · rintro acc M' ⟨ea, em⟩
      subst ea em
      rw [List.length_map, List.take_length]
      have hlen : LenAt (.lst ((nums ts).map iD)) M (nums ts).length := (List.length_map ..).symm
      cases kw with
      | count =>
        walk_at "evs"
        rw [List.length_map]
        exact hQ
      | sum =>
        walk_at "evs"
        exact rcl_sum rfl hQ
      | any =>
        walk_at "evs"
        rw [List.length_map]
        have e : decide ((((nums ts).length : Nat) : Int) > 0) = decide (0 < (nums ts).length) := by simp
        have hQ : Q (.sc (.bl (decide (0 < (nums ts).length)))) M := hQ
        rw [← e] at hQ
        exact hQ
      | most =>
        have hQ : Q (.sc (maxV (nums ts))) M := hQ
        cases hn : nums ts with
        | nil =>
          rw [hn] at hQ
          walk_at "evs"
          exact hQ
        | cons x xs =>
          rw [hn] at hQ
          walk_at "evs"
          refine rcl_max rfl (Nat.succ_pos _) fun m hm hle => ?_
          have e : xs.foldl max x = m := maxV_eq hm hle
          have hQ : Q (.sc (.int (xs.foldl max x))) M := hQ
          rw [e] at hQ
          exact hQ

theorem ok_true_value {P : Program} {w : World} {K : PySem.W.Frag} {mg : Str → Option Value} {base : Heap} {f : Addr} {fd : FuncData} (F : FnP K "true_value" "true_value" (top 24) f fd) (g : mg "true_value" = some (.ref f)) (T : Tx w K mg)   : Cal P w K mg base 1 "true_value" ["keep", "things"] (S_true_value) :=
  cal_mk F g (fn_true_value F T ) (F.bindsN fun _ _ _ _ _ _ us hl => match us, hl with | [_, _], _ => rfl)

theorem sc_true_values : FnScope ["keeps", "things", "keep"] ["keeps", "things"] (defScope (top 25)) := ⟨rfl, rfl, rfl, by decide +kernel, rfl, by decide +kernel, by decide +kernel⟩
theorem fn_true_values {P : Program} {w : World} {K : PySem.W.Frag} {mg : Str → Option Value} {base : Heap} {f : Addr} {fd : FuncData} (F : FnP K "true_values" "true_values" (top 25) f fd) (T : Tx w K mg) (c_true_value : Cal P w K mg base 1 "true_value" ["keep", "things"] (S_true_value))  : FnOk P w K mg base CX0 2 f fd ["keeps", "things"] (spOf K (S_true_values)) := by
  have sc := sc_true_values
  refine ok_fn (k := 1) F sc (fun ds M Q h => ?_) (fun cdv A outer s H E hr => ?_)
  · obtain ⟨kd, ks, ts, rfl, hs, h3, hl, hQ⟩ := h; rfl
  · have hu6 : A.units + 64 < cLine := by have := hr.un; show A.units + 64 < cLine; simp only [Around.deeper] at this; omega
    have hu := hu_of hr
    refine ⟨_, (pss_one (ps_ret (pe_lc (own := [("keep", 2)]) (by rfl) sc.nd (pi_seq (pv 0)) (blkOk_by (own := [("keep", 2)]) (N := ["keeps", "things", "keep"]) (sc := defScope (top 25)) (by decide +kernel)) (fun _ _ _ _ _ => (pg_name (i := 2) sc.nd rfl (Or.inl rfl))) (fun _ _ _ _ _ => pts_nil) (fun _ _ _ _ _ => (k_calD (K := K) c_true_value (hr.mono (by first | decide | exact Nat.le_refl _)) (by rfl) (pa_cons (pv 2) (pa_cons (pv 1) pa_nil))))))), fun ds M Q h => ?_⟩
    obtain ⟨kd, ks, ts, rfl, hs, h3, hl, hQ⟩ := h
    try dsimp only [cxOf, Cx.nox]
    walk_at "evs"
    refine ev_lcMap [2] (by decide) (sr_seq ?_)
    walk_at "evs"
    refine ⟨ks.map keepD, hs.elim (fun e => .inl (by rw [e])) (fun e => .inr (by rw [e])), (trueValues ks ts).map Da.sc, by simp [trueValues], by simp [trueValues]; omega, ?_, hQ⟩
    intro i d e hd he
    rw [List.getElem?_map] at hd
    obtain ⟨k, hk, rfl⟩ := Option.map_eq_some_iff.mp hd
    unfold trueValues at he
    rw [List.getElem?_map, List.getElem?_map, hk] at he
    obtain rfl := Option.some.inj he
    refine ⟨_, tg_name, ?_⟩
    walk_at "evs"
    exact ⟨k, ts, rfl, hl, rfl, rfl⟩

theorem ok_true_values {P : Program} {w : World} {K : PySem.W.Frag} {mg : Str → Option Value} {base : Heap} {f : Addr} {fd : FuncData} (F : FnP K "true_values" "true_values" (top 25) f fd) (g : mg "true_values" = some (.ref f)) (T : Tx w K mg) (c_true_value : Cal P w K mg base 1 "true_value" ["keep", "things"] (S_true_value))  : Cal P w K mg base 2 "true_values" ["keeps", "things"] (S_true_values) :=
  cal_mk F g (fn_true_values F T c_true_value) (F.bindsN fun _ _ _ _ _ _ us hl => match us, hl with | [_, _], _ => rfl)

theorem sc_Deed___init__ : FnScope ["self", "keeps", "kept", "things", "elder", "newer"] ["self", "keeps", "kept", "things", "elder", "newer"] (defScope (inClass (top 27) 0)) := ⟨rfl, rfl, rfl, by decide +kernel, rfl, by decide +kernel, by decide +kernel⟩
theorem fn_Deed___init__ {P : Program} {w : World} {K : PySem.W.Frag} {mg : Str → Option Value} {base : Heap} {f : Addr} {fd : FuncData} (F : FnP K "__init__" "Deed.__init__" (inClass (top 27) 0) f fd) (T : Tx w K mg)   : FnOk P w K mg base CX0 1 f fd ["self", "keeps", "kept", "things", "elder", "newer"] (spOf K (S_Deed_init (He.ga K "Deed"))) := by
  have sc := sc_Deed___init__
  refine ok_fn (k := 0) F sc (fun ds M Q h => ?_) (fun cdv A outer s H E hr => ?_)
  · obtain ⟨x, am, d, rfl, hx, hQ⟩ := h; rfl
  · have hu6 : A.units + 64 < cLine := by have := hr.un; show A.units + 64 < cLine; simp only [Around.deeper] at this; omega
    have hu := hu_of hr
    refine ⟨_, (pss_cons (ps_fld (pv 0) (pv 1) rfl) (pss_cons (ps_fld (pv 0) (pe_callTy call_list_of (by rfl) T.b_list (by decide +kernel) (pa_cons (pv 2) pa_nil)) rfl) (pss_cons (ps_fld (pv 0) (pv 3) rfl) (pss_cons (ps_fld (pv 0) (pv 4) rfl) (pss_one (ps_fld (pv 0) (pv 5) rfl)))))), fun ds M Q h => ?_⟩
    obtain ⟨x, am, d, rfl, hx, hQ⟩ := h
    try dsimp only [cxOf, Cx.nox]
    have fld : ∀ (f : Str) (tv : TE) (ns : List Str) (es : List Da) (ρ : Env') (M1 : MH) (D : DE), f ∈ deedN → ρ[0]? = some (some (.sc (.ref x))) → f ∉ ns → ns.length < 1000 →
        EvP K tv ρ M1 (fun v M2 => M2 x = some (.ins (He.ga K "Deed") ns es) ∧ D.nx ρ (updM M2 x (.ins (He.ga K "Deed") (ns ++ [f]) (es ++ [v])))) → StP K (sFld K (tVar 0) tv f) ρ M1 D := by
      intro f tv ns es ρ M1 D hf h0 hnf hl q
      refine stp_fldN T.c_Deed (T.n_Deed f hf) (q.mono fun v M2 hq => ?_)
      exact ev_var h0 ⟨x, ns, es, rfl, hq.1, hnf, hl, hq.2⟩
    obtain ⟨ks, ar, el, nw⟩ := d
    refine stp_seq (fld "keeps" _ [] [] _ _ _ (by decide +kernel) rfl (by decide +kernel) (by decide) ?_)
    walk_at "evs"
    refine ⟨hx, ?_⟩
    refine stp_seq (fld "amounts" _ ["keeps"] [.tup (ks.map keepD)] _ _ _ (by decide +kernel) rfl (by decide +kernel) (by decide) ?_)
    refine ev_cb ?_
    walk_at "evs"
    refine rcl_listM (show SeqAt (.lst (am.map Da.sc)) _ (am.map Da.sc) from rfl) fun l hl => ?_
    have hlx : x ≠ l := by
      intro e
      subst e
      rw [updM_same] at hl
      cases hl
    have hlM : M l = none := by rw [updM_ne hlx.symm] at hl; exact hl
    refine ⟨by rw [updM_ne hlx]; exact updM_same, ?_⟩
    have e1 : ∀ (o u : MO) (N : MH), updM (updM (updM N x o) l (.lst (am.map Da.sc))) x u = updM (updM N x u) l (.lst (am.map Da.sc)) := by
      intro o u N
      rw [updM_comm hlx, updM_updM, updM_comm hlx.symm]
    rw [e1]
    refine stp_seq (fld "around" _ ["keeps", "amounts"] [.tup (ks.map keepD), .sc (.ref l)] _ _ _ (by decide +kernel) rfl (by decide +kernel) (by decide) ?_)
    walk_at "evs"
    refine ⟨by rw [updM_ne hlx]; exact updM_same, ?_⟩
    rw [e1]
    refine stp_seq (fld "elder" _ ["keeps", "amounts", "around"] [.tup (ks.map keepD), .sc (.ref l), .lst (ar.map thingD)] _ _ _ (by decide +kernel) rfl (by decide +kernel) (by decide) ?_)
    walk_at "evs"
    refine ⟨by rw [updM_ne hlx]; exact updM_same, ?_⟩
    rw [e1]
    refine fld "newer" _ ["keeps", "amounts", "around", "elder"] [.tup (ks.map keepD), .sc (.ref l), .lst (ar.map thingD), optD el] _ _ _ (by decide +kernel) rfl (by decide +kernel) (by decide) ?_
    walk_at "evs"
    refine ⟨by rw [updM_ne hlx]; exact updM_same, ?_⟩
    rw [e1]
    exact hQ l hlM


theorem sc_news : FnScope ["things", "kind", "number"] ["things"] (defScope (top 34)) := ⟨rfl, rfl, rfl, by decide +kernel, rfl, by decide +kernel, by decide +kernel⟩
theorem fn_news {P : Program} {w : World} {K : PySem.W.Frag} {mg : Str → Option Value} {base : Heap} {f : Addr} {fd : FuncData} (F : FnP K "news" "news" (top 34) f fd) (T : Tx w K mg)   : FnOk P w K mg base CX0 1 f fd ["things"] (spOf K (S_news)) := by
  have sc := sc_news
  refine ok_fn (k := 0) F sc (fun ds M Q h => ?_) (fun cdv A outer s H E hr => ?_)
  · obtain ⟨d, ts, rfl, hs, hl, hQ⟩ := h; rfl
  · have hu6 : A.units + 64 < cLine := by have := hr.un; show A.units + 64 < cLine; simp only [Around.deeper] at this; omega
    have hu := hu_of hr
    refine ⟨_, (pss_one (ps_ret (pe_lc (own := [("kind", 1), ("number", 2)]) (by rfl) sc.nd (pi_seq (pv 0)) (blkOk_by (own := [("kind", 1), ("number", 2)]) (N := ["things", "kind", "number"]) (sc := defScope (top 34)) (by decide +kernel)) (fun _ _ _ _ _ => (k_pg_tup (K := K) (n := 2) (by rfl) (pgs_cons (pg_name (i := 1) sc.nd rfl (Or.inl rfl)) (pgs_cons (pg_name (i := 2) sc.nd rfl (Or.inl rfl)) pgs_nil)))) (fun _ _ _ _ _ => pts_nil) (fun _ _ _ _ _ => (pe_tup (pa_cons pe_str (pa_cons (pv 1) (pa_cons (pv 2) pa_nil)))))))), fun ds M Q h => ?_⟩
    obtain ⟨d, ts, rfl, hs, hl, hQ⟩ := h
    try dsimp only [cxOf, Cx.nox]
    walk_at "evs"
    refine ev_lcMap [1, 2] (by decide) (sr_seq ?_)
    walk_at "evs"
    refine ⟨ts.map thingD, hs.elim (fun e => .inl (by rw [e])) (fun e => .inr (by rw [e])), (news ts).map ddD, by simp [news], by simp [news]; omega, ?_, hQ⟩
    intro i d e hd he
    rw [List.getElem?_map] at hd
    obtain ⟨t, ht, rfl⟩ := Option.map_eq_some_iff.mp hd
    unfold news at he
    rw [List.getElem?_map, List.getElem?_map, ht] at he
    obtain rfl := Option.some.inj he
    refine ⟨_, tg_tup (js := [1, 2]) rfl rfl, ?_⟩
    walk_at "evs"
    exact ⟨rfl, rfl⟩

theorem ok_news {P : Program} {w : World} {K : PySem.W.Frag} {mg : Str → Option Value} {base : Heap} {f : Addr} {fd : FuncData} (F : FnP K "news" "news" (top 34) f fd) (g : mg "news" = some (.ref f)) (T : Tx w K mg)   : Cal P w K mg base 1 "news" ["things"] (S_news) :=
  cal_mk F g (fn_news F T ) (F.bindsN fun _ _ _ _ _ _ us hl => match us, hl with | [_], _ => rfl)

theorem sc_crowds : FnScope ["many", "most", "found", "first", "rows", "others", "number", "row", "other"] ["many", "most"] (defScope (top 33)) := ⟨rfl, rfl, rfl, by decide +kernel, rfl, by decide +kernel, by decide +kernel⟩
theorem fn_crowds {P : Program} {w : World} {K : PySem.W.Frag} {mg : Str → Option Value} {base : Heap} {f : Addr} {fd : FuncData} (F : FnP K "crowds" "crowds" (top 33) f fd) (T : Tx w K mg)   : FnOk P w K mg base CX0 1 f fd ["many", "most"] (spOf K (S_crowds)) := by
  have sc := sc_crowds
  refine ok_fn (k := 0) F sc (fun ds M Q h => ?_) (fun cdv A outer s H E hr => ?_)
  · obtain ⟨many, most, rfl, hmost, hmany, hQ⟩ := h; rfl
  · have hu6 : A.units + 64 < cLine := by have := hr.un; show A.units + 64 < cLine; simp only [Around.deeper] at this; omega
    have hu := hu_of hr
    refine ⟨_, (pss_cons (ps_set (i := 2) sc.nd rfl (Or.inl rfl) (pe_lst pa_nil)) (pss_cons (ps_for PassesOwn.never (by rfl) (pi_range2 (by rfl) T.b_range (pa_cons (pe_callB (call_max2 rfl) (by rfl) T.b_max (by decide +kernel) (pa_cons (pe_op op_sub (pv 0) (pv 1)) (pa_cons pe_int pa_nil))) (pa_cons (pe_op op_addA (pe_callB (call_min2 rfl) (by rfl) T.b_min (by decide +kernel) (pa_cons (pv 0) (pa_cons (pv 1) pa_nil))) pe_int) pa_nil))) (pg_name (i := 3) sc.nd rfl (Or.inr rfl)) (pss_cons (ps_set (i := 4) sc.nd rfl (Or.inl rfl) (pe_ifExp (pt_cmpR op_eq (pv 3) pe_int (nomark _)) (pe_lst (pa_cons (pe_tup pa_nil) pa_nil)) (pe_lc (own := [("number", 6)]) (by rfl) sc.nd (pi_seq (pe_glob (v := .ref _) (by rfl) T.g_NUMBERS rfl)) (blkOk_by (own := [("number", 6)]) (N := ["many", "most", "found", "first", "rows", "others", "number", "row", "other"]) (sc := defScope (top 33)) (by decide +kernel)) (fun _ _ _ _ _ => (pg_name (i := 6) sc.nd rfl (Or.inl rfl))) (fun _ _ _ _ _ => pts_nil) (fun _ _ _ _ _ => (pe_op (k_op_mulA (K := K)) (pe_tup (pa_cons (pe_tup (pa_cons pe_int (pa_cons (pv 6) pa_nil))) pa_nil)) (pv 3)))))) (pss_cons (ps_set (i := 5) sc.nd rfl (Or.inr rfl) (pe_ifExp (pt_cmpR op_eq (pv 0) (pv 3) (nomark _)) (pe_lst (pa_cons (pe_tup pa_nil) pa_nil)) (pe_lc (own := [("number", 6)]) (by rfl) sc.nd (pi_seq (pe_glob (v := .ref _) (by rfl) T.g_NUMBERS rfl)) (blkOk_by (own := [("number", 6)]) (N := ["many", "most", "found", "first", "rows", "others", "number", "row", "other"]) (sc := defScope (top 33)) (by decide +kernel)) (fun _ _ _ _ _ => (pg_name (i := 6) sc.nd rfl (Or.inl rfl))) (fun _ _ _ _ _ => pts_nil) (fun _ _ _ _ _ => (pe_op (k_op_mulA (K := K)) (pe_tup (pa_cons (pe_tup (pa_cons pe_int (pa_cons (pv 6) pa_nil))) pa_nil)) (pe_op op_sub (pv 0) (pv 3))))))) (pss_one (ps_set (i := 2) sc.nd rfl (Or.inl rfl) (pe_op op_addA (pv 2) (pe_lc2 (own := [("row", 7), ("other", 8)]) (vs1 := [8]) (by rfl) sc.nd (pi_seq (pv 4)) (blkOk_by (own := [("row", 7), ("other", 8)]) (N := ["many", "most", "found", "first", "rows", "others", "number", "row", "other"]) (sc := defScope (top 33)) (by decide +kernel)) (by decide) (fun _ _ _ _ _ => (pg_name (i := 7) sc.nd rfl (Or.inl rfl))) (fun _ _ _ _ _ => pts_nil) (fun _ _ _ _ _ => (k_pi_seq (K := K) (pv 5))) (fun _ _ _ _ _ => (pg_name (i := 8) sc.nd rfl (Or.inl rfl))) (fun _ _ _ _ _ => pts_nil) (fun _ _ _ _ _ => (pe_op (k_op_addA (K := K)) (pv 7) (pv 8)))))))))) (pss_one (ps_ret (pv 2))))), fun ds M Q h => ?_⟩
    obtain ⟨many, most, rfl, hmost, hmany, hQ⟩ := h
    try dsimp only [cxOf, Cx.nox]
    let lo : Nat := many - most
    let n : Nat := min many most + 1 - lo
    have hcr : crowds many most = (List.range n).flatMap fun i => crowdsAt many (lo + i) := rfl
    have rows : ∀ (i : Nat) (k : Int) (c : Nat) (ρ : Env') (te : TE) (P : Da → MH → Prop), c ≤ 40 → (c ≠ 0 → ∀ (m : Int) (PP : Da → MH → Prop), PP (.tup (List.replicate c (thingD (k, m)))) M → EvP K te ((setAllD (wipeD ρ [6]) [6] [iD m])) M PP) → P (.lst ((rowsOf k c).map crowdD)) M →
        (c ≠ 0 → EvP K (tLc (iSeq K (tC (V.ref (He.ga K "NUMBERS")))) (gName 6) tYes te [6]) ρ M P) := by
      intro i k c ρ te P hc hte q h0
      refine ev_lcMap [6] (by decide) (sr_seq (ev_k T.d_NUMBERS ?_))
      refine ⟨numbers.map iD, .inr rfl, (rowsOf k c).map crowdD, ?_, ?_, ?_, q⟩
      · unfold rowsOf
        rw [if_neg h0, List.length_map, List.length_map, List.length_map]
      · have := rowsOf_le k c
        rw [List.length_map]
        omega
      · intro j d e hd he
        rw [List.getElem?_map] at hd
        obtain ⟨m, hm, rfl⟩ := Option.map_eq_some_iff.mp hd
        unfold rowsOf at he
        rw [if_neg h0, List.getElem?_map, List.getElem?_map, hm] at he
        obtain rfl := Option.some.inj he
        refine ⟨_, tg_name, hte h0 m _ ⟨?_, rfl⟩⟩
        show Da.tup _ = Da.tup (List.map thingD (List.replicate c (k, m)))
        rw [List.map_replicate]
    walk_at "evs"
    refine stp_for (js := [3]) (sr_range2 ?_)
    walk_at "evs"
    refine ⟨⟨by omega, by omega, by omega, by omega⟩, ?_⟩
    have e1 : max ((many : Int) - (most : Int)) 0 = (lo : Int) := by show _ = ((many - most : Nat) : Int); omega
    have e2 : (min (many : Int) (most : Int) + 1 - max ((many : Int) - (most : Int)) 0).toNat = n := by show _ = min many most + 1 - (many - most); omega
    rw [e2, e1]
    refine ⟨fun i ρ' M' => (∃ a b c d e f, ρ' = [some (iD many), some (iD most), some (.lst (((List.range n).take i).flatMap fun i => crowdsAt many (lo + i) |>.map crowdD)), a, b, c, d, e, f]) ∧ M = M', ⟨⟨none, none, none, none, none, none, rfl⟩, rfl⟩, ?_, ?_⟩
    · rintro i d ρ' M' hd ⟨⟨a, b, c, d', e, f, rfl⟩, rfl⟩
      obtain ⟨hi, rfl⟩ := rngD_get hd
      have hin : i < min many most + 1 - (many - most) := hi
      have hfm : lo + i ≤ many ∧ lo + i ≤ 8 := by
        have : lo = many - most := rfl
        omega
      refine ⟨_, tg_name, ?_⟩
      have einc : decide (V.int ((lo : Int) + (i : Int)) = V.int 0) = decide (lo + i = 0) := by
        rw [decInt]
        by_cases h : lo + i = 0
        · rw [decide_eq_true h, decide_eq_true (by omega)]
        · rw [decide_eq_false h, decide_eq_false (by omega)]
      have ein2 : decide (V.int (many : Int) = V.int ((lo : Int) + (i : Int))) = decide (many - (lo + i) = 0) := by
        rw [decInt]
        by_cases h : many - (lo + i) = 0
        · rw [decide_eq_true h, decide_eq_true (by omega)]
        · rw [decide_eq_false h, decide_eq_false (by omega)]
      have mul : ∀ (k m : Int) (c : Nat) (z : Int) (PP : Da → MH → Prop), z = (c : Int) → c ≠ 0 → c ≤ 40 → PP (.tup (List.replicate c (thingD (k, m)))) M → ROp K (rMulA K) (.tup [thingD (k, m)]) (iD z) M PP := by
        intro k m c z PP hz h0 h40 q
        by_cases h1 : c = 1
        · subst h1
          subst hz
          exact rop_or2 (rop_or2 (rop_or2 (rop_oneT q)))
        · refine rop_or2 (rop_or2 (rop_or1 (rop_repT (by intro z; cases z) (by omega) (by omega) (Nat.le_of_ble_eq_true rfl) ?_)))
          have e : z.toNat = c := by omega
          rw [e, replicate_flat]
          exact q
      refine stp_seq (stp_set (ev_ifV (.lst ((rowsOf 0 (lo + i)).map crowdD)) ?_ ?_))
      · walk_at "evs"
        refine ⟨rfl, ?_⟩
        rw [einc]
        refine ifB (fun h => ?_) (fun h => ?_)
        · have h1 := of_decide_eq_true h
          walk_at "evs"
          rw [h1]
          exact ⟨rfl, rfl⟩
        · have h1 := of_decide_eq_false h
          refine rows i 0 (lo + i) _ _ _ (by omega) (fun h0 m PP q => ?_) ⟨rfl, rfl⟩ h1
          walk_at "evs"
          exact mul 0 m (lo + i) _ _ (by omega) h0 (by omega) q
      refine stp_seq (stp_set (ev_ifV (.lst ((rowsOf 1 (many - (lo + i))).map crowdD)) ?_ ?_))
      · walk_at "evs"
        refine ⟨rfl, ?_⟩
        rw [ein2]
        refine ifB (fun h => ?_) (fun h => ?_)
        · have h1 := of_decide_eq_true h
          walk_at "evs"
          rw [h1]
          exact ⟨rfl, rfl⟩
        · have h1 := of_decide_eq_false h
          refine rows i 1 (many - (lo + i)) _ _ _ (by omega) (fun h0 m PP q => ?_) ⟨rfl, rfl⟩ h1
          walk_at "evs"
          exact mul 1 m (many - (lo + i)) _ _ (by omega) h0 (by omega) q
      refine stp_set ?_
      walk_at "evs"
      have hr1 := rowsOf_le 0 (lo + i)
      have hr2 := rowsOf_le 1 (many - (lo + i))
      refine ev_lc2Map [7] [8] (by decide) (by decide) (sr_seq ?_)
      walk_at "evs"
      have hfl : ((rowsOf 0 (lo + i)).map fun r => (rowsOf 1 (many - (lo + i))).map fun o => crowdD (r ++ o)).flatten = (crowdsAt many (lo + i)).map crowdD := by
        unfold crowdsAt
        rw [List.map_flatMap, ← List.flatMap_def]
        congr 1
        funext r
        rw [List.map_map]
        rfl
      have hca := crowdsAt_le many (lo + i)
      refine ⟨_, .inl rfl, (rowsOf 0 (lo + i)).map fun r => (rowsOf 1 (many - (lo + i))).map fun o => crowdD (r ++ o), by rw [List.length_map, List.length_map], by rw [hfl, List.length_map]; omega, ?_, ?_⟩
      · intro j d es hd he
        rw [List.getElem?_map] at hd he
        obtain ⟨r, hr, rfl⟩ := Option.map_eq_some_iff.mp hd
        rw [hr] at he
        obtain rfl := Option.some.inj he
        have hrl := rowsOf_mem (List.mem_of_getElem? hr)
        refine ⟨_, tg_name, sr_seq ?_⟩
        walk_at "evs"
        refine ⟨_, .inl rfl, rfl, by rw [List.length_map, List.length_map], ?_⟩
        intro l f e hf hee
        rw [List.getElem?_map] at hf hee
        obtain ⟨o, ho, rfl⟩ := Option.map_eq_some_iff.mp hf
        rw [ho] at hee
        obtain rfl := Option.some.inj hee
        have hol := rowsOf_mem (List.mem_of_getElem? ho)
        refine ⟨_, tg_name, ?_⟩
        refine ev_op (ev_var rfl (ev_var rfl (rop_or2 (rop_or1 (rop_catA (by rw [List.length_map, List.length_map]; omega) ⟨?_, rfl⟩)))))
        show Da.tup _ = Da.tup (List.map thingD (r ++ o))
        rw [List.map_append]
      · rw [hfl]
        have hb := flatMap_le (f := fun i => (crowdsAt many (lo + i)).map crowdD) (c := 16) (fun i => by rw [List.length_map]; exact crowdsAt_le _ _) ((List.range n).take i)
        have hb2 : ((List.range n).take i).length ≤ 20 := by
          rw [List.length_take]
          omega
        refine rop_or2 (rop_or2 ?_)
        refine rop_cat (show _ = _ from rfl) (show _ = _ from rfl) (by rw [List.length_map]; omega) ?_
        have hfin : (((List.range n).take i).flatMap fun i => (crowdsAt many (lo + i)).map crowdD) ++ (crowdsAt many (lo + i)).map crowdD = ((List.range n).take (i + 1)).flatMap fun i => (crowdsAt many (lo + i)).map crowdD := by
          rw [take_succ_some (List.getElem?_range hi), List.flatMap_append, List.flatMap_singleton]
        rw [hfin]
        exact ⟨⟨_, _, _, _, _, _, rfl⟩, rfl⟩
    · rintro ρ' M' ⟨⟨a, b, c, d, e, f, rfl⟩, rfl⟩
      walk_at "evs"
      rw [rngD_length, ← List.map_flatMap, List.take_of_length_le (Nat.le_of_eq List.length_range)]
      exact hQ

theorem ok_crowds {P : Program} {w : World} {K : PySem.W.Frag} {mg : Str → Option Value} {base : Heap} {f : Addr} {fd : FuncData} (F : FnP K "crowds" "crowds" (top 33) f fd) (g : mg "crowds" = some (.ref f)) (T : Tx w K mg)   : Cal P w K mg base 1 "crowds" ["many", "most"] (S_crowds) :=
  cal_mk F g (fn_crowds F T ) (F.bindsN fun _ _ _ _ _ _ us hl => match us, hl with | [_, _], _ => rfl)

theorem sc_is_right : FnScope ["program"] ["program"] (defScope (top 39)) := ⟨rfl, rfl, rfl, by decide +kernel, rfl, by decide +kernel, by decide +kernel⟩
theorem fn_is_right {P : Program} {w : World} {K : PySem.W.Frag} {mg : Str → Option Value} {base : Heap} {f : Addr} {fd : FuncData} (F : FnP K "is_right" "is_right" (top 39) f fd) (T : Tx w K mg) (c_lie : Cal P w K mg base 6 "lie" ["program"] (S_lie (He.ga K "Program")))  : FnOk P w K mg base CX0 7 f fd ["program"] (spOf K (S_is_right (He.ga K "Program"))) := by
  have sc := sc_is_right
  refine ok_fn (k := 6) F sc (fun ds M Q h => ?_) (fun cdv A outer s H E hr => ?_)
  · obtain ⟨p, rfl, hv, hQ⟩ := h; rfl
  · have hu6 : A.units + 64 < cLine := by have := hr.un; show A.units + 64 < cLine; simp only [Around.deeper] at this; omega
    have hu := hu_of hr
    refine ⟨_, (pss_one (ps_ret (pe_cmpR op_isN1 (pe_calD c_lie (hr.mono (by first | decide | exact Nat.le_refl _)) (by rfl) (pa_cons (pv 0) pa_nil)) pe_non (nomark _)))), fun ds M Q h => ?_⟩
    obtain ⟨p, rfl, hv, hQ⟩ := h
    try dsimp only [cxOf, Cx.nox]
    walk_at "evs"
    refine ⟨p, rfl, hv, ?_⟩
    cases hl : lie p with
    | none =>
      have e : isRight p = true := by unfold isRight; rw [hl]; rfl
      rw [e] at hQ
      walk_at "evs"
      exact hQ
    | some x =>
      have e : isRight p = false := by unfold isRight; rw [hl]; rfl
      rw [e] at hQ
      walk_at "evs"
      exact hQ

theorem ok_is_right {P : Program} {w : World} {K : PySem.W.Frag} {mg : Str → Option Value} {base : Heap} {f : Addr} {fd : FuncData} (F : FnP K "is_right" "is_right" (top 39) f fd) (g : mg "is_right" = some (.ref f)) (T : Tx w K mg) (c_lie : Cal P w K mg base 6 "lie" ["program"] (S_lie (He.ga K "Program")))  : Cal P w K mg base 7 "is_right" ["program"] (S_is_right (He.ga K "Program")) :=
  cal_mk F g (fn_is_right F T c_lie) (F.bindsN fun _ _ _ _ _ _ us hl => match us, hl with | [_], _ => rfl)

theorem sc_lie : FnScope ["program", "most", "many", "found"] ["program"] (defScope (top 38)) := ⟨rfl, rfl, rfl, by decide +kernel, rfl, by decide +kernel, by decide +kernel⟩
theorem fn_lie {P : Program} {w : World} {K : PySem.W.Frag} {mg : Str → Option Value} {base : Heap} {f : Addr} {fd : FuncData} (F : FnP K "lie" "lie" (top 38) f fd) (T : Tx w K mg) (c_most_others : Cal P w K mg base 3 "most_others" ["program"] (S_most_others (He.ga K "Program"))) (c_lie_of_new : Cal P w K mg base 5 "lie_of_new" ["program", "many", "most"] (S_lie_of_new (He.ga K "Program"))) (c_lie_of_old : Cal P w K mg base 5 "lie_of_old" ["program", "many", "most"] (S_lie_of_old (He.ga K "Program")))  : FnOk P w K mg base CX0 6 f fd ["program"] (spOf K (S_lie (He.ga K "Program"))) := by
  have sc := sc_lie
  refine ok_fn (k := 5) F sc (fun ds M Q h => ?_) (fun cdv A outer s H E hr => ?_)
  · obtain ⟨p, rfl, hv, hQ⟩ := h; rfl
  · have hu6 : A.units + 64 < cLine := by have := hr.un; show A.units + 64 < cLine; simp only [Around.deeper] at this; omega
    have hu := hu_of hr
    refine ⟨_, (pss_cons (ps_set (i := 1) sc.nd rfl (Or.inl rfl) (pe_calD c_most_others (hr.mono (by first | decide | exact Nat.le_refl _)) (by rfl) (pa_cons (pv 0) pa_nil))) (pss_cons (ps_for PassesOwn.never (by rfl) (pi_range1 (by rfl) T.b_range (pa_cons (pe_op op_addA (pe_op op_mulA pe_int (pv 1)) pe_int) pa_nil)) (pg_name (i := 2) sc.nd rfl (Or.inl rfl)) (pss_cons (ps_set (i := 3) sc.nd rfl (Or.inl rfl) (pe_ifExp (pt_cmpR op_le (pv 2) (pe_op op_mulA pe_int (pv 1)) (nomark _)) (pe_calD c_lie_of_new (hr.mono (by first | decide | exact Nat.le_refl _)) (by rfl) (pa_cons (pv 0) (pa_cons (pv 2) (pa_cons (pv 1) pa_nil)))) pe_non)) (pss_cons (ps_if (PW.pt (pw_and (pt_cmpR op_isN1 (pv 3) pe_non (nomark _)) (pw_and1 (pt_cmpR op_gt (pv 2) pe_int (nomark _))))) (pss_one (ps_set (i := 3) sc.nd rfl (Or.inl rfl) (pe_calD c_lie_of_old (hr.mono (by first | decide | exact Nat.le_refl _)) (by rfl) (pa_cons (pv 0) (pa_cons (pe_op op_sub (pv 2) pe_int) (pa_cons (pv 1) pa_nil)))))) pss_nil) (pss_one (ps_if (pt_cmpR op_notN1 (pv 3) pe_non (nomark _)) (pss_one (ps_ret (pv 3))) pss_nil))))) (pss_one (ps_ret pe_non)))), fun ds M Q h => ?_⟩
    obtain ⟨p, rfl, hv, hQ⟩ := h
    try dsimp only [cxOf, Cx.nox]
    have hm1 := mostOthers_le hv
    have hm2 := mostOthers_ge p
    have hl : lie p = (List.range (2 * mostOthers p + 2)).findSome? (lieAt p (mostOthers p)) := rfl
    walk_at "evs"
    refine ⟨p, rfl, hv, ?_⟩
    refine stp_seq (stp_for (js := [2]) (sr_range1 ?_))
    walk_at "evs"
    try refine rop_or1 (rop_I (.inl (by decide)) ?_)
    walk_at "evs"
    refine ⟨by omega, by omega, ?_⟩
    have en : (2 * (mostOthers p : Int) + 2).toNat = 2 * mostOthers p + 2 := by omega
    rw [en]
    refine ⟨fun i ρ' M' => (∃ a b, ρ' = [some (progD (He.ga K "Program") p), some (iD (mostOthers p)), a, b]) ∧ M = M' ∧ ((List.range (2 * mostOthers p + 2)).take i).findSome? (lieAt p (mostOthers p)) = none, ⟨⟨none, none, rfl⟩, rfl, rfl⟩, ?_, ?_⟩
    · rintro i d ρ' M' hd ⟨⟨a, b, rfl⟩, rfl, hno⟩
      obtain ⟨hi, rfl⟩ := rngD_get hd
      rw [Int.zero_add]
      have hri : (List.range (2 * mostOthers p + 2))[i]? = some i := List.getElem?_range hi
      refine ⟨_, tg_name, ?_⟩
      have hat : lieAt p (mostOthers p) i = match (if i ≤ 2 * mostOthers p then lieOfNew p i (mostOthers p) else none) with
        | some x => some x
        | none => if 0 < i then lieOfOld p (i - 1) (mostOthers p) else none := rfl
      generalize hnw : (if i ≤ 2 * mostOthers p then lieOfNew p i (mostOthers p) else none) = nw at hat
      refine stp_seq (stp_set (ev_ifV (lieD nw) ?_ ?_))
      · walk_at "evs"
        try refine rop_or1 (rop_I (.inl (by decide)) ?_)
        walk_at "evs"
        refine ⟨rfl, ?_⟩
        refine ifB (fun h => ?_) (fun h => ?_)
        · have h1 : i ≤ 2 * mostOthers p := by have := of_decide_eq_true h; omega
          rw [if_pos h1] at hnw
          subst hnw
          walk_at "evs"
          exact ⟨p, i, mostOthers p, rfl, hv, by omega, by omega, rfl, rfl⟩
        · have h1 : ¬ i ≤ 2 * mostOthers p := by have := of_decide_eq_false h; omega
          rw [if_neg h1] at hnw
          subst hnw
          walk_at "evs"
          exact ⟨rfl, rfl⟩
      cases nw with
      | some x =>
        have hat : lieAt p (mostOthers p) i = some x := hat
        walk_at "evs"
        rw [hl, findSome_hit hri hno hat] at hQ
        exact hQ
      | none =>
        have hat : lieAt p (mostOthers p) i = if 0 < i then lieOfOld p (i - 1) (mostOthers p) else none := hat
        walk_at "evs"
        refine ifB (fun h => ?_) (fun h => ?_)
        · have h1 : 0 < i := by have := of_decide_eq_true h; omega
          rw [if_pos h1] at hat
          have h2 : (i : Int) - 1 = ((i - 1 : Nat) : Int) := by omega
          walk_at "evs"
          refine ⟨p, i - 1, mostOthers p, by rw [h2], hv, by omega, by omega, ?_⟩
          cases ho : lieOfOld p (i - 1) (mostOthers p) with
          | none =>
            rw [ho] at hat
            walk_at "evs"
            exact ⟨⟨_, _, rfl⟩, rfl, findSome_snoc hri hno hat⟩
          | some x =>
            rw [ho] at hat
            walk_at "evs"
            rw [hl, findSome_hit hri hno hat] at hQ
            exact hQ
        · have h1 : ¬ 0 < i := by have := of_decide_eq_false h; omega
          rw [if_neg h1] at hat
          walk_at "evs"
          exact ⟨⟨_, _, rfl⟩, rfl, findSome_snoc hri hno hat⟩
    · rintro ρ' M' ⟨⟨a, b, rfl⟩, rfl, hall⟩
      walk_at "evs"
      rw [rngD_length, List.take_of_length_le (Nat.le_of_eq List.length_range)] at hall
      rw [hl, hall] at hQ
      exact hQ

theorem ok_lie {P : Program} {w : World} {K : PySem.W.Frag} {mg : Str → Option Value} {base : Heap} {f : Addr} {fd : FuncData} (F : FnP K "lie" "lie" (top 38) f fd) (g : mg "lie" = some (.ref f)) (T : Tx w K mg) (c_most_others : Cal P w K mg base 3 "most_others" ["program"] (S_most_others (He.ga K "Program"))) (c_lie_of_new : Cal P w K mg base 5 "lie_of_new" ["program", "many", "most"] (S_lie_of_new (He.ga K "Program"))) (c_lie_of_old : Cal P w K mg base 5 "lie_of_old" ["program", "many", "most"] (S_lie_of_old (He.ga K "Program")))  : Cal P w K mg base 6 "lie" ["program"] (S_lie (He.ga K "Program")) :=
  cal_mk F g (fn_lie F T c_most_others c_lie_of_new c_lie_of_old) (F.bindsN fun _ _ _ _ _ _ us hl => match us, hl with | [_], _ => rfl)

theorem sc__law_begin : FnScope ["_law_script"] ["_law_script"] (defScope (top 43)) := ⟨rfl, rfl, rfl, by decide +kernel, rfl, by decide +kernel, by decide +kernel⟩
theorem fn__law_begin {P : Program} {w : World} {K : PySem.W.Frag} {mg : Str → Option Value} {base : Heap} {f : Addr} {fd : FuncData} (F : FnP K "_law_begin" "_law_begin" (top 43) f fd) (T : Tx w K mg)   : FnOk P w K mg base CX0 1 f fd ["_law_script"] (spOf K (S_law_begin)) := by
  have sc := sc__law_begin
  refine ok_fn (k := 0) F sc (fun ds M Q h => ?_) (fun cdv A outer s H E hr => ?_)
  · obtain ⟨script, rfl, hQ⟩ := h; rfl
  · have hu6 : A.units + 64 < cLine := by have := hr.un; show A.units + 64 < cLine; simp only [Around.deeper] at this; omega
    have hu := hu_of hr
    refine ⟨_, (pss_one (ps_ret (pe_lst (pa_cons (pe_callTy call_list_of (by rfl) T.b_list (by decide +kernel) (pa_cons (pv 0) pa_nil)) (pa_cons pe_int (pa_cons pe_int (pa_cons pe_int pa_nil))))))), fun ds M Q h => ?_⟩
    obtain ⟨script, rfl, hQ⟩ := h
    try dsimp only [cxOf, Cx.nox]
    refine stp_ret (ev_lstM ?_)
    walk_at "evs"
    refine rcl_list (show SeqAt (.ro (script.map iD)) M (script.map iD) from rfl) ?_
    walk_at "evs"
    exact hQ

theorem ok__law_begin {P : Program} {w : World} {K : PySem.W.Frag} {mg : Str → Option Value} {base : Heap} {f : Addr} {fd : FuncData} (F : FnP K "_law_begin" "_law_begin" (top 43) f fd) (g : mg "_law_begin" = some (.ref f)) (T : Tx w K mg)   : Cal P w K mg base 1 "_law_begin" ["_law_script"] (S_law_begin) :=
  cal_mk F g (fn__law_begin F T ) (F.bindsN fun _ _ _ _ _ _ us hl => match us, hl with | [_], _ => rfl)

theorem sc__law_draw : FnScope ["_law_draws", "_law_many", "_law_cell", "_law_found"] ["_law_draws", "_law_many"] (defScope (top 44)) := ⟨rfl, rfl, rfl, by decide +kernel, rfl, by decide +kernel, by decide +kernel⟩
theorem fn__law_draw {P : Program} {w : World} {K : PySem.W.Frag} {mg : Str → Option Value} {base : Heap} {f : Addr} {fd : FuncData} (F : FnP K "_law_draw" "_law_draw" (top 44) f fd) (T : Tx w K mg)   : FnOk P w K mg base CX0 1 f fd ["_law_draws", "_law_many"] (spOf K (S_law_draw)) := by
  have sc := sc__law_draw
  refine ok_fn (k := 0) F sc (fun ds M Q h => ?_) (fun cdv A outer s H E hr => ?_)
  · obtain ⟨a, st, many, rfl, hm, hok, h1, h2, hQ⟩ := h; rfl
  · have hu6 : A.units + 64 < cLine := by have := hr.un; show A.units + 64 < cLine; simp only [Around.deeper] at this; omega
    have hu := hu_of hr
    refine ⟨_, (pss_cons (ps_if (pt_cmpR op_eq (pe_ix ix_seq (pv 0) pe_int (fun _ _ => rfl)) pe_int (nomark _)) (pss_one (ps_if (pt_cmpR op_lt (pe_ix ix_seq (pv 0) pe_int (fun _ _ => rfl)) (pe_callB call_len (by rfl) T.b_len (by decide +kernel) (pa_cons (pe_ix ix_seq (pv 0) pe_int (fun _ _ => rfl)) pa_nil)) (nomark _)) (pss_cons (ps_set (i := 2) sc.nd rfl (Or.inl rfl) (pe_ix ix_seq (pe_ix ix_seq (pv 0) pe_int (fun _ _ => rfl)) (pe_ix ix_seq (pv 0) pe_int (fun _ _ => rfl)) (fun _ _ => rfl))) (pss_cons (ps_asg (pe_op op_addA (pe_ix ix_seq (pv 0) pe_int (fun _ _ => rfl)) pe_int) (pg_sub (pv 0) pe_int set_list)) (pss_one (ps_if (pt_cmpR op_ge (pv 2) (pe_op op_pow pe_int pe_int) (nomark _)) (pss_one (ps_asg (pv 2) (pg_sub (pv 0) pe_int set_list))) (pss_one (ps_asg (pe_op op_mod (pe_callTy call_int1 (by rfl) T.b_int (by decide +kernel) (pa_cons (pe_op op_addA (pe_op op_addA (pe_op op_mulA (pe_ix ix_seq (pv 0) pe_int (fun _ _ => rfl)) pe_int) (pe_op op_mulA (pv 2) pe_int)) pe_int) pa_nil)) pe_int) (pg_sub (pv 0) pe_int set_list))))))) (pss_one (ps_asg (pe_op op_mod (pe_callTy call_int1 (by rfl) T.b_int (by decide +kernel) (pa_cons (pe_op op_addA (pe_op op_mulA (pe_ix ix_seq (pv 0) pe_int (fun _ _ => rfl)) pe_int) pe_int) pa_nil)) pe_int) (pg_sub (pv 0) pe_int set_list))))) pss_nil) (pss_cons (ps_if (pt_cmpR op_gt (pe_ix ix_seq (pv 0) pe_int (fun _ _ => rfl)) pe_int (nomark _)) (pss_cons (ps_set (i := 3) sc.nd rfl (Or.inl rfl) (pe_op op_mod (pe_callTy call_int1 (by rfl) T.b_int (by decide +kernel) (pa_cons (pe_ix ix_seq (pv 0) pe_int (fun _ _ => rfl)) pa_nil)) (pv 1))) (pss_cons (ps_asg (pe_op op_fdiv (pe_ix ix_seq (pv 0) pe_int (fun _ _ => rfl)) (pv 1)) (pg_sub (pv 0) pe_int set_list)) (pss_one (ps_ret (pv 3))))) pss_nil) (pss_one (ps_ret (pe_op op_mod (pe_op op_mod (pe_callTy call_int1 (by rfl) T.b_int (by decide +kernel) (pa_cons (pe_op op_mulA (pe_ix ix_seq (pv 0) pe_int (fun _ _ => rfl)) pe_int) pa_nil)) pe_int) (pv 1)))))), fun ds M Q h => ?_⟩
    obtain ⟨a, st, many, rfl, hm, hok, h1, h2, hQ⟩ := h
    try dsimp only [cxOf, Cx.nox]
    obtain ⟨sc0, pos, big, seed⟩ := st
    obtain ⟨hp, hb⟩ := hok
    have hp : 0 ≤ pos := hp
    have hb : 0 ≤ big := hb
    refine stp_cut (fun ρ' M' => ∃ (st' : DrSt) (x : Option Da), st'.Ok ∧ ρ' = [some (.sc (.ref a)), some (iD many), x, none] ∧ updM M a (.lst st'.l) = M') ?_ ?_
    · walk_at "evs"
      refine ifB (fun hz => ?_) (fun hz => ?_)
      · walk_at "evs"
        have hlen : (Da.lst (sc0.map iD)) = Da.lst (sc0.map iD) := rfl
        rw [List.length_map]
        refine ifB (fun hlt => ?_) (fun hlt => ?_)
        · have hlt : pos < (sc0.length : Int) := of_decide_eq_true hlt
          obtain ⟨j, rfl⟩ := Int.eq_ofNat_of_zero_le hp
          have hj : j < sc0.length := by omega
          have hat : atI (sc0.map iD) (j : Int) = some (iD sc0[j]) := atI_nat (by rw [List.getElem?_map, List.getElem?_eq_getElem hj] <;> rfl)
          walk_at "evs"
          try refine rop_ix_L hat ?_
          walk_at "evs"
          refine ifB (fun hge => ?_) (fun hge => ?_)
          · walk_at "evs"
            rw [updM_updM]
            have hge : (10 : Int) ^ 18 ≤ sc0[j] := of_decide_eq_true hge
            have h10 : (0 : Int) ≤ 10 ^ 18 := by decide
            refine ⟨⟨sc0, (j : Int) + 1, sc0[j], seed⟩, _, ⟨?_, Int.le_trans h10 hge⟩, rfl, rfl⟩
            show (0 : Int) ≤ (j : Int) + 1
            omega
          · walk_at "evs"
            rw [updM_updM]
            refine ⟨⟨sc0, (j : Int) + 1, big, (seed * 48271 + sc0[j] * 69621 + 11) % 2147483647⟩, _, ⟨?_, hb⟩, rfl, rfl⟩
            show (0 : Int) ≤ (j : Int) + 1
            omega
        · walk_at "evs"
          exact ⟨⟨sc0, pos, big, (seed * 48271 + 7) % 2147483647⟩, none, ⟨hp, hb⟩, rfl, rfl⟩
      · walk_at "evs"
        exact ⟨⟨sc0, pos, big, seed⟩, none, ⟨hp, hb⟩, rfl, updM_id hm⟩
    · rintro ρ' M' ⟨⟨sc1, pos, big, seed⟩, x, ⟨hp, hb⟩, rfl, rfl⟩
      have hp : 0 ≤ pos := hp
      have hb : 0 ≤ big := hb
      have hm0 : (0 : Int) < (many : Int) := by omega
      have fin : ∀ (z : Int) (big' : Int) (Mz : MH), 0 ≤ z → z < (many : Int) → 0 ≤ big' → Mz = updM M a (.lst (DrSt.l ⟨sc1, pos, big', seed⟩)) → Q (iD z) Mz := by
        intro z big' Mz h0 hlt hb' e
        obtain ⟨r, rfl⟩ := Int.eq_ofNat_of_zero_le h0
        rw [e]
        exact hQ r ⟨sc1, pos, big', seed⟩ ⟨hp, hb'⟩ (by omega)
      walk_at "evs"
      refine ifB (fun h => ?_) (fun h => ?_)
      · walk_at "evs"
        try refine rop_I ⟨hm0, by omega⟩ ?_
        walk_at "evs"
        rw [updM_updM]
        exact fin _ (big / (many : Int)) _ (Int.emod_nonneg _ (by omega)) (Int.emod_lt_of_pos _ hm0) (Int.ediv_nonneg hb (by omega)) rfl
      · walk_at "evs"
        exact fin _ big _ (Int.emod_nonneg _ (by omega)) (Int.emod_lt_of_pos _ hm0) hb rfl

theorem ok__law_draw {P : Program} {w : World} {K : PySem.W.Frag} {mg : Str → Option Value} {base : Heap} {f : Addr} {fd : FuncData} (F : FnP K "_law_draw" "_law_draw" (top 44) f fd) (g : mg "_law_draw" = some (.ref f)) (T : Tx w K mg)   : Cal P w K mg base 1 "_law_draw" ["_law_draws", "_law_many"] (S_law_draw) :=
  cal_mk F g (fn__law_draw F T ) (F.bindsN fun _ _ _ _ _ _ us hl => match us, hl with | [_, _], _ => rfl)

theorem sc__law_keep : FnScope ["_law_draws"] ["_law_draws"] (defScope (top 45)) := ⟨rfl, rfl, rfl, by decide +kernel, rfl, by decide +kernel, by decide +kernel⟩
theorem fn__law_keep {P : Program} {w : World} {K : PySem.W.Frag} {mg : Str → Option Value} {base : Heap} {f : Addr} {fd : FuncData} (F : FnP K "_law_keep" "_law_keep" (top 45) f fd) (T : Tx w K mg) (c__law_draw : Cal P w K mg base 1 "_law_draw" ["_law_draws", "_law_many"] (S_law_draw))  : FnOk P w K mg base CX0 2 f fd ["_law_draws"] (spOf K (S_law_keep)) := by
  have sc := sc__law_keep
  refine ok_fn (k := 1) F sc (fun ds M Q h => ?_) (fun cdv A outer s H E hr => ?_)
  · obtain ⟨a, st, rfl, hm, hok, hQ⟩ := h; rfl
  · have hu6 : A.units + 64 < cLine := by have := hr.un; show A.units + 64 < cLine; simp only [Around.deeper] at this; omega
    have hu := hu_of hr
    refine ⟨_, (pss_one (ps_ret (pe_tup (pa_cons (pe_ix ix_seq (pe_lst (pa_cons pe_str (pa_cons pe_str (pa_cons pe_str (pa_cons pe_str pa_nil))))) (pe_calD c__law_draw (hr.mono (by first | decide | exact Nat.le_refl _)) (by rfl) (pa_cons (pv 0) (pa_cons pe_int pa_nil))) (fun _ _ => rfl)) (pa_cons (pe_ix ix_seq (pe_lst (pa_cons pe_non (pa_cons pe_int (pa_cons pe_int pa_nil)))) (pe_calD c__law_draw (hr.mono (by first | decide | exact Nat.le_refl _)) (by rfl) (pa_cons (pv 0) (pa_cons pe_int pa_nil))) (fun _ _ => rfl)) pa_nil))))), fun ds M Q h => ?_⟩
    obtain ⟨a, st, rfl, hm, hok, hQ⟩ := h
    try dsimp only [cxOf, Cx.nox]
    walk_at "evs"
    refine ⟨a, st, 4, rfl, hm, hok, by decide, by decide, ?_⟩
    intro r st1 hok1 hr
    have hx : ∃ w : What, atI [sD "count", sD "sum", sD "most", sD "any"] (r : Int) = some (sD w.s) := by
      match r, hr with
      | 0, _ => exact ⟨.count, rfl⟩
      | 1, _ => exact ⟨.sum, rfl⟩
      | 2, _ => exact ⟨.most, rfl⟩
      | 3, _ => exact ⟨.any, rfl⟩
    obtain ⟨w', hw⟩ := hx
    refine rop_ix_L hw ?_
    walk_at "evs"
    refine ⟨a, st1, 3, rfl, updM_same, hok1, by decide, by decide, ?_⟩
    intro r2 st2 hok2 hr2
    have hy : ∃ k : Option Int, (k = none ∨ k = some 0 ∨ k = some 1) ∧ atI [Da.sc .non, iD 0, iD 1] (r2 : Int) = some (kindD k) := by
      match r2, hr2 with
      | 0, _ => exact ⟨none, .inl rfl, rfl⟩
      | 1, _ => exact ⟨some 0, .inr (.inl rfl), rfl⟩
      | 2, _ => exact ⟨some 1, .inr (.inr rfl), rfl⟩
    obtain ⟨k, hk, hw2⟩ := hy
    refine rop_ix_L hw2 ?_
    walk_at "evs"
    rw [updM_updM]
    exact hQ ⟨w', k⟩ st2 hok2 hk

theorem ok__law_keep {P : Program} {w : World} {K : PySem.W.Frag} {mg : Str → Option Value} {base : Heap} {f : Addr} {fd : FuncData} (F : FnP K "_law_keep" "_law_keep" (top 45) f fd) (g : mg "_law_keep" = some (.ref f)) (T : Tx w K mg) (c__law_draw : Cal P w K mg base 1 "_law_draw" ["_law_draws", "_law_many"] (S_law_draw))  : Cal P w K mg base 2 "_law_keep" ["_law_draws"] (S_law_keep) :=
  cal_mk F g (fn__law_keep F T c__law_draw) (F.bindsN fun _ _ _ _ _ _ us hl => match us, hl with | [_], _ => rfl)

theorem sc__law_under : FnScope ["_law_keep_here", "_law_word", "_law_step_here"] ["_law_keep_here", "_law_word", "_law_step_here"] (defScope (top 46)) := ⟨rfl, rfl, rfl, by decide +kernel, rfl, by decide +kernel, by decide +kernel⟩
theorem fn__law_under {P : Program} {w : World} {K : PySem.W.Frag} {mg : Str → Option Value} {base : Heap} {f : Addr} {fd : FuncData} (F : FnP K "_law_under" "_law_under" (top 46) f fd) (T : Tx w K mg)   : FnOk P w K mg base CX0 1 f fd ["_law_keep_here", "_law_word", "_law_step_here"] (spOf K (S_law_under)) := by
  have sc := sc__law_under
  refine ok_fn (k := 0) F sc (fun ds M Q h => ?_) (fun cdv A outer s H E hr => ?_)
  · obtain ⟨kp, wd, c, rfl, hQ⟩ := h; rfl
  · have hu6 : A.units + 64 < cLine := by have := hr.un; show A.units + 64 < cLine; simp only [Around.deeper] at this; omega
    have hu := hu_of hr
    refine ⟨_, (pss_cons (ps_if (pt_cmpR op_isN1 (pe_ix ix_seq (pv 0) pe_int (fun _ _ => rfl)) pe_non (nomark _)) (pss_one (ps_ret (pv 2))) pss_nil) (pss_one (ps_ret (pe_tup (pa_cons pe_str (pa_cons (pe_tup (pa_cons (pv 1) (pa_cons (pe_ix ix_seq (pv 0) pe_int (fun _ _ => rfl)) pa_nil))) (pa_cons (pv 2) pa_nil))))))), fun ds M Q h => ?_⟩
    obtain ⟨kp, wd, c, rfl, hQ⟩ := h
    try dsimp only [cxOf, Cx.nox]
    obtain ⟨kw, kk⟩ := kp
    cases kk with
    | none =>
      walk_at "evs"
      exact hQ
    | some z => cases wd <;> (walk_at "evs"; exact hQ)

theorem ok__law_under {P : Program} {w : World} {K : PySem.W.Frag} {mg : Str → Option Value} {base : Heap} {f : Addr} {fd : FuncData} (F : FnP K "_law_under" "_law_under" (top 46) f fd) (g : mg "_law_under" = some (.ref f)) (T : Tx w K mg)   : Cal P w K mg base 1 "_law_under" ["_law_keep_here", "_law_word", "_law_step_here"] (S_law_under) :=
  cal_mk F g (fn__law_under F T ) (F.bindsN fun _ _ _ _ _ _ us hl => match us, hl with | [_, _, _], _ => rfl)

theorem sc__law_right : FnScope ["_law_draws", "_law_most", "_law_keeps", "_law_new_here", "_law_change", "_law_drop", "_law_k", "_law_what", "_law_first", "_law_second"] ["_law_draws", "_law_most"] (defScope (top 47)) := ⟨rfl, rfl, rfl, by decide +kernel, rfl, by decide +kernel, by decide +kernel⟩
theorem fn__law_right {P : Program} {w : World} {K : PySem.W.Frag} {mg : Str → Option Value} {base : Heap} {f : Addr} {fd : FuncData} (F : FnP K "_law_right" "_law_right" (top 47) f fd) (T : Tx w K mg) (c__law_draw : Cal P w K mg base 1 "_law_draw" ["_law_draws", "_law_many"] (S_law_draw)) (c__law_keep : Cal P w K mg base 2 "_law_keep" ["_law_draws"] (S_law_keep)) (c__law_under : Cal P w K mg base 1 "_law_under" ["_law_keep_here", "_law_word", "_law_step_here"] (S_law_under))  : FnOk P w K mg base CX0 3 f fd ["_law_draws", "_law_most"] (spOf K (S_law_right)) := by
  have sc := sc__law_right
  refine ok_fn (k := 2) F sc (fun ds M Q h => ?_) (fun cdv A outer s H E hr => ?_)
  · obtain ⟨a, st, most, rfl, hm, hok, h1, h2, hQ⟩ := h; rfl
  · have hu6 : A.units + 64 < cLine := by have := hr.un; show A.units + 64 < cLine; simp only [Around.deeper] at this; omega
    have hu := hu_of hr
    refine ⟨_, (pss_cons (ps_setLc (i := 2) (own := [("_law_k", 6)]) (by rfl) sc.nd rfl rfl (sw_true rfl rfl rfl (by decide +kernel)) (pi_range1 (by rfl) T.b_range (pa_cons (pe_op op_addA pe_int (pe_calD c__law_draw (hr.mono (by first | decide | exact Nat.le_refl _)) (by rfl) (pa_cons (pv 0) (pa_cons (pv 1) pa_nil)))) pa_nil)) (blkOk_by (own := [("_law_k", 6)]) (N := ["_law_draws", "_law_most", "_law_keeps", "_law_new_here", "_law_change", "_law_drop", "_law_k", "_law_what", "_law_first", "_law_second"]) (sc := defScope (top 47)) (by decide +kernel)) (fun _ _ _ _ _ => (pg_name (i := 6) sc.nd rfl (Or.inl rfl))) (fun _ _ _ _ _ => pts_nil) (fun _ _ _ _ _ => (k_calD (K := K) c__law_keep (hr.mono (by first | decide | exact Nat.le_refl _)) (by rfl) (pa_cons (pv 0) pa_nil)))) (pss_cons (ps_set (i := 3) sc.nd rfl (Or.inl rfl) (pe_lst pa_nil)) (pss_cons (ps_set (i := 4) sc.nd rfl (Or.inl rfl) (pe_lst pa_nil)) (pss_cons (ps_set (i := 5) sc.nd rfl (Or.inl rfl) (pe_lst pa_nil)) (pss_cons (ps_for PassesOwn.never (by rfl) (pi_range1 (by rfl) T.b_range (pa_cons (pe_callB call_len (by rfl) T.b_len (by decide +kernel) (pa_cons (pv 2) pa_nil)) pa_nil)) (pg_name (i := 6) sc.nd rfl (Or.inl rfl)) (pss_cons (ps_set (i := 7) sc.nd rfl (Or.inl rfl) (pe_ix ix_seq (pe_ix ix_seq (pv 2) (pv 6) (fun _ _ => rfl)) pe_int (fun _ _ => rfl))) (pss_one (ps_if (pt_cmpR op_in_seq (pv 7) (pe_tup (pa_cons pe_str (pa_cons pe_str pa_nil))) (by rfl)) (pss_cons (ps_set (i := 8) sc.nd rfl (Or.inl rfl) (pe_ix ix_seq (pe_lst (pa_cons (pe_tup (pa_cons pe_str (pa_cons (pv 6) (pa_cons pe_str pa_nil)))) (pa_cons (pe_tup (pa_cons pe_str (pa_cons (pv 6) (pa_cons pe_str pa_nil)))) pa_nil))) (pe_callTy call_int1 (by rfl) T.b_int (by decide +kernel) (pa_cons (pe_cmpR op_eq (pv 7) pe_str (nomark _)) pa_nil)) (fun _ _ => rfl))) (pss_cons (ps_set (i := 9) sc.nd rfl (Or.inl rfl) (pe_ix ix_seq (pe_lst (pa_cons (pe_tup (pa_cons pe_str (pa_cons (pv 6) (pa_cons pe_str pa_nil)))) (pa_cons (pe_tup (pa_cons pe_str (pa_cons (pv 6) (pa_cons pe_str pa_nil)))) pa_nil))) (pe_callTy call_int1 (by rfl) T.b_int (by decide +kernel) (pa_cons (pe_cmpR op_eq (pv 7) pe_str (nomark _)) pa_nil)) (fun _ _ => rfl))) (pss_cons (ps_expr (pe_bm PySem.F.plainAttrs_list PySem.F.slot_list_append PySem.F.type_list_append mt_append (pv 3) (pa_cons (pe_calD c__law_under (hr.mono (by first | decide | exact Nat.le_refl _)) (by rfl) (pa_cons (pe_ix ix_seq (pv 2) (pv 6) (fun _ _ => rfl)) (pa_cons pe_str (pa_cons (pv 9) pa_nil)))) pa_nil))) (pss_cons (ps_if (PW.pt (pw_or (pt_cmpR op_eq (pv 7) pe_str (nomark _)) (pw_or1 (pt_cmpR op_notN1 (pe_ix ix_seq (pe_ix ix_seq (pv 2) (pv 6) (fun _ _ => rfl)) pe_int (fun _ _ => rfl)) pe_non (nomark _))))) (pss_cons (ps_expr (pe_bm PySem.F.plainAttrs_list PySem.F.slot_list_append PySem.F.type_list_append mt_append (pv 4) (pa_cons (pe_calD c__law_under (hr.mono (by first | decide | exact Nat.le_refl _)) (by rfl) (pa_cons (pe_ix ix_seq (pv 2) (pv 6) (fun _ _ => rfl)) (pa_cons pe_str (pa_cons (pv 8) pa_nil)))) pa_nil))) (pss_one (ps_expr (pe_bm PySem.F.plainAttrs_list PySem.F.slot_list_append PySem.F.type_list_append mt_append (pv 4) (pa_cons (pe_calD c__law_under (hr.mono (by first | decide | exact Nat.le_refl _)) (by rfl) (pa_cons (pe_ix ix_seq (pv 2) (pv 6) (fun _ _ => rfl)) (pa_cons pe_str (pa_cons (pv 9) pa_nil)))) pa_nil))))) pss_nil) (pss_one (ps_expr (pe_bm PySem.F.plainAttrs_list PySem.F.slot_list_append PySem.F.type_list_append mt_append (pv 5) (pa_cons (pe_calD c__law_under (hr.mono (by first | decide | exact Nat.le_refl _)) (by rfl) (pa_cons (pe_ix ix_seq (pv 2) (pv 6) (fun _ _ => rfl)) (pa_cons pe_str (pa_cons (pv 8) pa_nil)))) pa_nil)))))))) (pss_one (ps_if (pt_cmpR op_eq (pv 7) pe_str (nomark _)) (pss_cons (ps_expr (pe_bm PySem.F.plainAttrs_list PySem.F.slot_list_append PySem.F.type_list_append mt_append (pv 3) (pa_cons (pe_calD c__law_under (hr.mono (by first | decide | exact Nat.le_refl _)) (by rfl) (pa_cons (pe_ix ix_seq (pv 2) (pv 6) (fun _ _ => rfl)) (pa_cons pe_str (pa_cons (pe_tup (pa_cons pe_str (pa_cons (pv 6) pa_nil))) pa_nil)))) pa_nil))) (pss_cons (ps_expr (pe_bm PySem.F.plainAttrs_list PySem.F.slot_list_append PySem.F.type_list_append mt_append (pv 4) (pa_cons (pe_tup (pa_cons pe_str (pa_cons (pv 6) pa_nil))) pa_nil))) (pss_one (ps_expr (pe_bm PySem.F.plainAttrs_list PySem.F.slot_list_append PySem.F.type_list_append mt_append (pv 5) (pa_cons (pe_tup (pa_cons pe_str (pa_cons (pe_tup (pa_cons pe_str (pa_cons (pv 6) pa_nil))) (pa_cons (pe_tup (pa_cons pe_str (pa_cons (pv 6) pa_nil))) pa_nil)))) pa_nil)))))) (pss_cons (ps_expr (pe_bm PySem.F.plainAttrs_list PySem.F.slot_list_append PySem.F.type_list_append mt_append (pv 3) (pa_cons (pe_calD c__law_under (hr.mono (by first | decide | exact Nat.le_refl _)) (by rfl) (pa_cons (pe_ix ix_seq (pv 2) (pv 6) (fun _ _ => rfl)) (pa_cons pe_str (pa_cons (pe_tup (pa_cons pe_str (pa_cons (pv 6) pa_nil))) pa_nil)))) pa_nil))) (pss_cons (ps_expr (pe_bm PySem.F.plainAttrs_list PySem.F.slot_list_append PySem.F.type_list_append mt_append (pv 4) (pa_cons (pe_tup (pa_cons pe_str (pa_cons (pv 6) pa_nil))) pa_nil))) (pss_one (ps_expr (pe_bm PySem.F.plainAttrs_list PySem.F.slot_list_append PySem.F.type_list_append mt_append (pv 5) (pa_cons (pe_tup (pa_cons pe_str (pa_cons (pv 6) pa_nil))) pa_nil)))))))))))) (pss_one (ps_ret (pe_lst (pa_cons (pv 2) (pa_cons (pv 3) (pa_cons (pv 4) (pa_cons (pv 5) pa_nil)))))))))))), fun ds M Q h => ?_⟩
    obtain ⟨a, st, most, rfl, hm, hok, h1, h2, hQ⟩ := h
    try dsimp only [cxOf, Cx.nox]
    refine stp_seq (stp_set (ev_lc (js := [6]) (by decide) (sr_range1 ?_)))
    walk_at "evs"
    refine ⟨a, st, most, rfl, hm, hok, h1, by omega, ?_⟩
    intro r st1 hok1 hr
    walk_at "evs"
    refine ⟨by omega, by omega, ?_⟩
    have hrn : (1 + (r : Int)).toNat = r + 1 := by omega
    rw [hrn]
    refine ⟨fun i acc M' => ∃ (ks : List Keep) (st' : DrSt), acc = ks.map keepD ∧ updM M a (.lst st'.l) = M' ∧ st'.Ok ∧ ks.length = i ∧ ∀ k ∈ ks, KeepOk k, ⟨[], st1, rfl, rfl, hok1, rfl, fun _ h => by cases h⟩, ?_, ?_⟩
    · rintro i d acc M' hd ⟨ks, st', rfl, rfl, hok', hlen, hko⟩
      obtain ⟨hi, rfl⟩ := rngD_get hd
      refine ⟨_, tg_name, tv_yes ?_⟩
      rw [if_pos rfl]
      refine ⟨by rw [List.length_map]; omega, ?_⟩
      walk_at "evs"
      refine ⟨a, st', rfl, updM_same, hok', ?_⟩
      intro k st2 hok2 hk
      refine ⟨ks ++ [k], st2, by rw [List.map_append]; rfl, by rw [updM_updM], hok2, by rw [List.length_append, hlen]; rfl, fun x hx => ?_⟩
      rcases List.mem_append.mp hx with h | h
      · exact hko x h
      · rw [List.mem_singleton.mp h]
        exact hk
    · rintro acc M' ⟨ks, st', rfl, rfl, hok', hlen, hko⟩
      rw [rngD_length] at hlen
      have hl3 : ks.length ≤ 3 := by omega
      generalize hN : updM M a (.lst st'.l) = N
      refine stp_seq (stp_set (ev_lstM ?_))
      walk_at "evs"
      intro p1 n1
      refine stp_seq (stp_set (ev_lstM ?_))
      walk_at "evs"
      intro p2 n2
      refine stp_seq (stp_set (ev_lstM ?_))
      walk_at "evs"
      intro p3 n3
      have h12 : p1 ≠ p2 := by
        intro e
        rw [e, updM_same] at n2
        cases n2
      have h13 : p1 ≠ p3 := by
        intro e
        rw [e, updM_ne (by rw [← e]; exact h12), updM_same] at n3
        cases n3
      have h23 : p2 ≠ p3 := by
        intro e
        rw [e, updM_same] at n3
        cases n3
      have N2 : N p2 = none := by rw [updM_ne h12.symm] at n2; exact n2
      have N3 : N p3 = none := by rw [updM_ne h23.symm, updM_ne h13.symm] at n3; exact n3
      refine stp_cut (fun ρ' M' => (∃ x y z u, ρ' = [some (.sc (.ref a)), some (iD most), some (.lst (ks.map keepD)), some (.sc (.ref p1)), some (.sc (.ref p2)), some (.sc (.ref p3)), x, y, z, u]) ∧ MM N p1 p2 p3 ((rightP ks).new.map stepD) ((rightP ks).change.map stepD) ((rightP ks).drop.map stepD) = M') ?_ ?_
      · refine stp_for (js := [6]) (sr_range1 ?_)
        walk_at "evs"
        refine ⟨by rw [List.length_map]; omega, by rw [List.length_map]; omega, ?_⟩
        have hlk : (((ks.map keepD).length : Nat) : Int).toNat = ks.length := by rw [List.length_map]; omega
        rw [hlk]
        refine ⟨fun i ρ' M' => (∃ x y z u, ρ' = [some (.sc (.ref a)), some (iD most), some (.lst (ks.map keepD)), some (.sc (.ref p1)), some (.sc (.ref p2)), some (.sc (.ref p3)), x, y, z, u]) ∧
          MM N p1 p2 p3 (((List.range i).flatMap fun i => rNew i (kAt ks i)).map stepD) (((List.range i).flatMap fun i => rChange i (kAt ks i)).map stepD) (((List.range i).flatMap fun i => rDrop i (kAt ks i)).map stepD) = M', ⟨⟨none, none, none, none, rfl⟩, rfl⟩, ?_, ?_⟩
        · rintro i d ρ' M' hd ⟨⟨x, y, z, u, rfl⟩, rfl⟩
          obtain ⟨hi, rfl⟩ := rngD_get hd
          rw [Int.zero_add]
          have hat : atI (ks.map keepD) (i : Int) = some (keepD (kAt ks i)) := atI_nat (by rw [List.getElem?_map, kAt_get hi] <;> rfl)
          have ln := flatMap_le (f := fun i => rNew i (kAt ks i)) (fun i => rNew_le i (kAt ks i)) (List.range i)
          have lc := flatMap_le (f := fun i => rChange i (kAt ks i)) (fun i => rChange_le i (kAt ks i)) (List.range i)
          have ld := flatMap_le (f := fun i => rDrop i (kAt ks i)) (fun i => rDrop_le i (kAt ks i)) (List.range i)
          rw [List.length_range] at ln lc ld
          refine ⟨_, tg_name, ?_⟩
          generalize hkp : kAt ks i = kp at hat
          obtain ⟨kw, kk⟩ := kp
          cases kw with
          | count =>
            cases kk with
            | none =>
              walk_at "evs"
              refine ⟨_, _, rfl, MM1 h12 h13, rfl, ?_⟩
              walk_at "evs"
              refine ⟨_, true, .add i .one, rfl, ?_⟩
              walk_at "evs"
              refine rmt_append (MM1 h12 h13) (by simp only [List.length_append, List.length_map, List.length_cons, List.length_nil]; omega) ?_
              rw [MMu1 h12 h13]
              walk_at "evs"
              refine ⟨_, _, rfl, MM3, rfl, ?_⟩
              walk_at "evs"
              refine ⟨_, false, .less i .one, rfl, ?_⟩
              walk_at "evs"
              refine rmt_append (MM3) (by simp only [List.length_append, List.length_map, List.length_cons, List.length_nil]; omega) ?_
              rw [MMu3]
              walk_at "evs"
              refine ⟨⟨_, _, _, _, rfl⟩, ?_⟩
              rw [range_succ_flat, range_succ_flat, range_succ_flat, List.map_append, List.map_append, List.map_append, hkp]
              show MM N p1 p2 p3 _ (_ ++ []) _ = _
              rw [List.append_nil]
              rfl
            | some z =>
              walk_at "evs"
              refine ⟨_, _, rfl, MM1 h12 h13, rfl, ?_⟩
              walk_at "evs"
              refine ⟨_, true, .add i .one, rfl, ?_⟩
              walk_at "evs"
              refine rmt_append (MM1 h12 h13) (by simp only [List.length_append, List.length_map, List.length_cons, List.length_nil]; omega) ?_
              rw [MMu1 h12 h13]
              walk_at "evs"
              refine ⟨_, _, rfl, MM2 h23, rfl, ?_⟩
              walk_at "evs"
              refine ⟨_, false, .less i .one, rfl, ?_⟩
              walk_at "evs"
              refine rmt_append (MM2 h23) (by simp only [List.length_append, List.length_map, List.length_cons, List.length_nil]; omega) ?_
              rw [MMu2 h23]
              walk_at "evs"
              refine ⟨_, _, rfl, MM2 h23, rfl, ?_⟩
              walk_at "evs"
              refine ⟨_, true, .add i .one, rfl, ?_⟩
              walk_at "evs"
              refine rmt_append (MM2 h23) (by simp only [List.length_append, List.length_map, List.length_cons, List.length_nil]; omega) ?_
              rw [MMu2 h23]
              walk_at "evs"
              refine ⟨_, _, rfl, MM3, rfl, ?_⟩
              walk_at "evs"
              refine ⟨_, false, .less i .one, rfl, ?_⟩
              walk_at "evs"
              refine rmt_append (MM3) (by simp only [List.length_append, List.length_map, List.length_cons, List.length_nil]; omega) ?_
              rw [MMu3]
              walk_at "evs"
              refine ⟨⟨_, _, _, _, rfl⟩, ?_⟩
              rw [range_succ_flat, range_succ_flat, range_succ_flat, List.map_append, List.map_append, List.map_append, hkp]
              rw [List.append_assoc]
              rfl
          | sum =>
            cases kk with
            | none =>
              walk_at "evs"
              refine ⟨_, _, rfl, MM1 h12 h13, rfl, ?_⟩
              walk_at "evs"
              refine ⟨_, true, .add i .newer, rfl, ?_⟩
              walk_at "evs"
              refine rmt_append (MM1 h12 h13) (by simp only [List.length_append, List.length_map, List.length_cons, List.length_nil]; omega) ?_
              rw [MMu1 h12 h13]
              walk_at "evs"
              refine ⟨_, _, rfl, MM2 h23, rfl, ?_⟩
              walk_at "evs"
              refine ⟨_, false, .less i .elder, rfl, ?_⟩
              walk_at "evs"
              refine rmt_append (MM2 h23) (by simp only [List.length_append, List.length_map, List.length_cons, List.length_nil]; omega) ?_
              rw [MMu2 h23]
              walk_at "evs"
              refine ⟨_, _, rfl, MM2 h23, rfl, ?_⟩
              walk_at "evs"
              refine ⟨_, true, .add i .newer, rfl, ?_⟩
              walk_at "evs"
              refine rmt_append (MM2 h23) (by simp only [List.length_append, List.length_map, List.length_cons, List.length_nil]; omega) ?_
              rw [MMu2 h23]
              walk_at "evs"
              refine ⟨_, _, rfl, MM3, rfl, ?_⟩
              walk_at "evs"
              refine ⟨_, false, .less i .elder, rfl, ?_⟩
              walk_at "evs"
              refine rmt_append (MM3) (by simp only [List.length_append, List.length_map, List.length_cons, List.length_nil]; omega) ?_
              rw [MMu3]
              walk_at "evs"
              refine ⟨⟨_, _, _, _, rfl⟩, ?_⟩
              rw [range_succ_flat, range_succ_flat, range_succ_flat, List.map_append, List.map_append, List.map_append, hkp]
              rw [List.append_assoc]
              rfl
            | some z =>
              walk_at "evs"
              refine ⟨_, _, rfl, MM1 h12 h13, rfl, ?_⟩
              walk_at "evs"
              refine ⟨_, true, .add i .newer, rfl, ?_⟩
              walk_at "evs"
              refine rmt_append (MM1 h12 h13) (by simp only [List.length_append, List.length_map, List.length_cons, List.length_nil]; omega) ?_
              rw [MMu1 h12 h13]
              walk_at "evs"
              refine ⟨_, _, rfl, MM2 h23, rfl, ?_⟩
              walk_at "evs"
              refine ⟨_, false, .less i .elder, rfl, ?_⟩
              walk_at "evs"
              refine rmt_append (MM2 h23) (by simp only [List.length_append, List.length_map, List.length_cons, List.length_nil]; omega) ?_
              rw [MMu2 h23]
              walk_at "evs"
              refine ⟨_, _, rfl, MM2 h23, rfl, ?_⟩
              walk_at "evs"
              refine ⟨_, true, .add i .newer, rfl, ?_⟩
              walk_at "evs"
              refine rmt_append (MM2 h23) (by simp only [List.length_append, List.length_map, List.length_cons, List.length_nil]; omega) ?_
              rw [MMu2 h23]
              walk_at "evs"
              refine ⟨_, _, rfl, MM3, rfl, ?_⟩
              walk_at "evs"
              refine ⟨_, false, .less i .elder, rfl, ?_⟩
              walk_at "evs"
              refine rmt_append (MM3) (by simp only [List.length_append, List.length_map, List.length_cons, List.length_nil]; omega) ?_
              rw [MMu3]
              walk_at "evs"
              refine ⟨⟨_, _, _, _, rfl⟩, ?_⟩
              rw [range_succ_flat, range_succ_flat, range_succ_flat, List.map_append, List.map_append, List.map_append, hkp]
              rw [List.append_assoc]
              rfl
          | most =>
            walk_at "evs"
            refine ⟨_, _, rfl, MM1 h12 h13, rfl, ?_⟩
            walk_at "evs"
            refine ⟨_, true, .lift i, rfl, ?_⟩
            walk_at "evs"
            refine rmt_append (MM1 h12 h13) (by simp only [List.length_append, List.length_map, List.length_cons, List.length_nil]; omega) ?_
            rw [MMu1 h12 h13]
            walk_at "evs"
            refine ⟨_, _, rfl, MM2 h23, rfl, ?_⟩
            walk_at "evs"
            refine rmt_append (MM2 h23) (by simp only [List.length_append, List.length_map, List.length_cons, List.length_nil]; omega) ?_
            rw [MMu2 h23]
            walk_at "evs"
            refine ⟨_, _, rfl, MM3, rfl, ?_⟩
            walk_at "evs"
            refine rmt_append (MM3) (by simp only [List.length_append, List.length_map, List.length_cons, List.length_nil]; omega) ?_
            rw [MMu3]
            walk_at "evs"
            refine ⟨⟨_, _, _, _, rfl⟩, ?_⟩
            rw [range_succ_flat, range_succ_flat, range_succ_flat, List.map_append, List.map_append, List.map_append, hkp]
            rfl
          | any =>
            walk_at "evs"
            refine ⟨_, _, rfl, MM1 h12 h13, rfl, ?_⟩
            walk_at "evs"
            refine ⟨_, true, .mark i, rfl, ?_⟩
            walk_at "evs"
            refine rmt_append (MM1 h12 h13) (by simp only [List.length_append, List.length_map, List.length_cons, List.length_nil]; omega) ?_
            rw [MMu1 h12 h13]
            walk_at "evs"
            refine ⟨_, _, rfl, MM2 h23, rfl, ?_⟩
            walk_at "evs"
            refine rmt_append (MM2 h23) (by simp only [List.length_append, List.length_map, List.length_cons, List.length_nil]; omega) ?_
            rw [MMu2 h23]
            walk_at "evs"
            refine ⟨_, _, rfl, MM3, rfl, ?_⟩
            walk_at "evs"
            refine rmt_append (MM3) (by simp only [List.length_append, List.length_map, List.length_cons, List.length_nil]; omega) ?_
            rw [MMu3]
            walk_at "evs"
            refine ⟨⟨_, _, _, _, rfl⟩, ?_⟩
            rw [range_succ_flat, range_succ_flat, range_succ_flat, List.map_append, List.map_append, List.map_append, hkp]
            rfl
        · rintro ρ' M' ⟨⟨x, y, z, u, rfl⟩, rfl⟩
          rw [rngD_length]
          exact ⟨⟨_, _, _, _, rfl⟩, rfl⟩
      · rintro ρ' M' ⟨⟨x, y, z, u, rfl⟩, rfl⟩
        refine stp_frzL (i := 3) rfl (MM1 h12 h13) ?_
        refine stp_frzL (i := 4) (p := p2) rfl ((delM_ne h12.symm).trans (MM2 h23)) ?_
        refine stp_frzL (i := 5) (p := p3) rfl ((delM_ne h23.symm).trans ((delM_ne h13.symm).trans MM3)) ?_
        rw [MMdel h12 h13 h23 n1 N2 N3]
        refine stp_ret (ev_lstM ?_)
        walk_at "evs"
        intro q hq
        have hqM : M q = none := by
          rw [← hN] at hq
          by_cases e : q = a
          · rw [e, updM_same] at hq
            cases hq
          · rw [updM_ne e] at hq
            exact hq
        rw [← hN]
        exact hQ ks st' q hok' (by omega) (by omega) hko hqM

theorem ok__law_right {P : Program} {w : World} {K : PySem.W.Frag} {mg : Str → Option Value} {base : Heap} {f : Addr} {fd : FuncData} (F : FnP K "_law_right" "_law_right" (top 47) f fd) (g : mg "_law_right" = some (.ref f)) (T : Tx w K mg) (c__law_draw : Cal P w K mg base 1 "_law_draw" ["_law_draws", "_law_many"] (S_law_draw)) (c__law_keep : Cal P w K mg base 2 "_law_keep" ["_law_draws"] (S_law_keep)) (c__law_under : Cal P w K mg base 1 "_law_under" ["_law_keep_here", "_law_word", "_law_step_here"] (S_law_under))  : Cal P w K mg base 3 "_law_right" ["_law_draws", "_law_most"] (S_law_right) :=
  cal_mk F g (fn__law_right F T c__law_draw c__law_keep c__law_under) (F.bindsN fun _ _ _ _ _ _ us hl => match us, hl with | [_, _], _ => rfl)

theorem sc__law_touch : FnScope ["_law_draws", "_law_keeps", "_law_at", "_law_k", "_law_what", "_law_some", "_law_sources"] ["_law_draws", "_law_keeps", "_law_at"] (defScope (top 48)) := ⟨rfl, rfl, rfl, by decide +kernel, rfl, by decide +kernel, by decide +kernel⟩
theorem fn__law_touch {P : Program} {w : World} {K : PySem.W.Frag} {mg : Str → Option Value} {base : Heap} {f : Addr} {fd : FuncData} (F : FnP K "_law_touch" "_law_touch" (top 48) f fd) (T : Tx w K mg) (c__law_draw : Cal P w K mg base 1 "_law_draw" ["_law_draws", "_law_many"] (S_law_draw))  : FnOk P w K mg base CX0 2 f fd ["_law_draws", "_law_keeps", "_law_at"] (spOf K (S_law_touch)) := by
  have sc := sc__law_touch
  refine ok_fn (k := 1) F sc (fun ds M Q h => ?_) (fun cdv A outer s H E hr => ?_)
  · obtain ⟨a, st, ks, n, rfl, hm, hok, h1, h3, hQ⟩ := h; rfl
  · have hu6 : A.units + 64 < cLine := by have := hr.un; show A.units + 64 < cLine; simp only [Around.deeper] at this; omega
    have hu := hu_of hr
    refine ⟨_, (pss_cons (ps_set (i := 3) sc.nd rfl (Or.inl rfl) (pe_calD c__law_draw (hr.mono (by first | decide | exact Nat.le_refl _)) (by rfl) (pa_cons (pv 0) (pa_cons (pe_callB call_len (by rfl) T.b_len (by decide +kernel) (pa_cons (pv 1) pa_nil)) pa_nil)))) (pss_cons (ps_set (i := 4) sc.nd rfl (Or.inl rfl) (pe_ix ix_seq (pe_ix ix_seq (pv 1) (pv 3) (fun _ _ => rfl)) pe_int (fun _ _ => rfl))) (pss_cons (ps_set (i := 5) sc.nd rfl (Or.inl rfl) (pe_lst (pa_cons (pe_tup (pa_cons pe_str (pa_cons (pv 3) pa_nil))) (pa_cons (pe_tup (pa_cons pe_str (pa_cons (pv 3) pa_nil))) pa_nil)))) (pss_cons (ps_if (pt_cmpR op_in_seq (pv 4) (pe_tup (pa_cons pe_str (pa_cons pe_str pa_nil))) (by rfl)) (pss_cons (ps_set (i := 6) sc.nd rfl (Or.inl rfl) (pe_op op_addA (pe_lst (pa_cons pe_str pa_nil)) (pe_ix ix_seq (pe_lst (pa_cons (pe_lst (pa_cons pe_str pa_nil)) (pa_cons (pe_lst (pa_cons pe_str (pa_cons pe_str pa_nil))) (pa_cons (pe_lst (pa_cons pe_str pa_nil)) pa_nil)))) (pe_op op_sub (pv 2) pe_int) (fun _ _ => rfl)))) (pss_cons (ps_if (pt_cmpR op_eq (pv 4) pe_str (nomark _)) (pss_one (ps_set (i := 6) sc.nd rfl (Or.inl rfl) (pe_lst (pa_cons pe_str pa_nil)))) pss_nil) (pss_one (ps_set (i := 5) sc.nd rfl (Or.inl rfl) (pe_op op_addA (pv 5) (pe_op op_mulA (pe_lst (pa_cons (pe_tup (pa_cons (pe_ix ix_seq (pe_lst (pa_cons pe_str (pa_cons pe_str pa_nil))) (pe_calD c__law_draw (hr.mono (by first | decide | exact Nat.le_refl _)) (by rfl) (pa_cons (pv 0) (pa_cons pe_int pa_nil))) (fun _ _ => rfl)) (pa_cons (pv 3) (pa_cons (pe_ix ix_seq (pv 6) (pe_calD c__law_draw (hr.mono (by first | decide | exact Nat.le_refl _)) (by rfl) (pa_cons (pv 0) (pa_cons (pe_callB call_len (by rfl) T.b_len (by decide +kernel) (pa_cons (pv 6) pa_nil)) pa_nil))) (fun _ _ => rfl)) pa_nil)))) pa_nil)) pe_int)))))) pss_nil) (pss_cons (ps_if (PW.pt (pw_and (pt_cmpR op_eq (pv 4) pe_str (nomark _)) (pw_and1 (pt_cmpR op_lt (pv 2) pe_int (nomark _))))) (pss_one (ps_set (i := 5) sc.nd rfl (Or.inl rfl) (pe_op op_addA (pv 5) (pe_op op_mulA (pe_lst (pa_cons (pe_tup (pa_cons pe_str (pa_cons (pv 3) pa_nil))) pa_nil)) pe_int)))) pss_nil) (pss_cons (ps_if (pt_cmpR op_eq (pv 4) pe_str (nomark _)) (pss_one (ps_set (i := 5) sc.nd rfl (Or.inl rfl) (pe_op op_addA (pv 5) (pe_op op_mulA (pe_lst (pa_cons (pe_tup (pa_cons pe_str (pa_cons (pv 3) pa_nil))) pa_nil)) pe_int)))) pss_nil) (pss_one (ps_ret (pe_ix ix_seq (pv 5) (pe_calD c__law_draw (hr.mono (by first | decide | exact Nat.le_refl _)) (by rfl) (pa_cons (pv 0) (pa_cons (pe_callB call_len (by rfl) T.b_len (by decide +kernel) (pa_cons (pv 5) pa_nil)) pa_nil))) (fun _ _ => rfl)))))))))), fun ds M Q h => ?_⟩
    obtain ⟨a, st, ks, n, rfl, hm, hok, h1, h3, hQ⟩ := h
    try dsimp only [cxOf, Cx.nox]
    walk_at "evs"
    refine ⟨a, st, (ks.map keepD).length, rfl, hm, hok, by rw [List.length_map]; omega, by rw [List.length_map]; omega, ?_⟩
    intro k st1 hok1 hk
    rw [List.length_map] at hk
    have hat : atI (ks.map keepD) (k : Int) = some (keepD (kAt ks k)) := atI_nat (by rw [List.getElem?_map, kAt_get hk] <;> rfl)
    have hk' := kAt_get hk
    have hag : TouchOk n ks (.again k) := ⟨_, hk'⟩
    have hem : TouchOk n ks (.empty k) := ⟨_, hk'⟩
    have pick : ∀ (ts : List Touch) (r : Nat), (∀ t ∈ ts, TouchOk n ks t) → r < ts.length → ∃ t, atI (ts.map touchD) (r : Int) = some (touchD t) ∧ TouchOk n ks t := fun ts r ha hr => ⟨ts[r], pickL hr, ha _ (List.getElem_mem hr)⟩
    generalize kAt ks k = kp at hat hk'
    obtain ⟨kw, kk⟩ := kp
    cases n with
    | new =>
      cases kw with
      | count =>
        walk_at "evs"
        refine ⟨a, st1, 2, rfl, updM_same, hok1, by decide, by decide, ?_⟩
        intro r2 st2 hok2 hr2
        have ho : ∃ (mk : Nat → Src → Touch) (w : Str), (∀ s, TouchOk .new ks (mk k s) ↔ AddOk .new ks k s) ∧ (∀ s, touchD (mk k s) = .tup [sD w, iD k, sD s.s]) ∧ atI [sD "add", sD "less"] (r2 : Int) = some (sD w) := by
          match r2, hr2 with
          | 0, _ => exact ⟨.add, "add", fun _ => Iff.rfl, fun _ => rfl, rfl⟩
          | 1, _ => exact ⟨.less, "less", fun _ => Iff.rfl, fun _ => rfl, rfl⟩
        obtain ⟨mk, w0, hmk, hmd, hw0⟩ := ho
        rw [updM_updM]
        refine rop_ix_L hw0 ?_
        walk_at "evs"
        refine ⟨a, st2, 1, rfl, updM_same, hok2, by decide, by decide, ?_⟩
        intro r3 st3 hok3 hr3
        have hs : ∃ s : Src, AddOk .new ks k s ∧ atI [sD "one"] (r3 : Int) = some (sD s.s) := by
          match r3, hr3 with
          | 0, _ => exact ⟨.one, ⟨⟨(by intro h; cases h), (by intro h; cases h)⟩, _, hk', .inr ⟨rfl, rfl⟩⟩, rfl⟩
        obtain ⟨s0, hs0, hat3⟩ := hs
        rw [updM_updM]
        refine rop_ix_L hat3 ?_
        walk_at "evs"
        have hto := (hmk s0).mpr hs0
        refine ⟨a, st3, 6, rfl, updM_same, hok3, by decide, by decide, ?_⟩
        intro r4 st4 hok4 hr4
        obtain ⟨t', ht', hto'⟩ := pick [.again k, .empty k, mk k s0, mk k s0, mk k s0, mk k s0] r4 (by intro t ht; rcases List.mem_cons.mp ht with e | ht; · exact e ▸ hag
                                                                                                       rcases List.mem_cons.mp ht with e | ht; · exact e ▸ hem
                                                                                                       rcases List.mem_cons.mp ht with e | ht; · exact e ▸ hto
                                                                                                       rcases List.mem_cons.mp ht with e | ht; · exact e ▸ hto
                                                                                                       rcases List.mem_cons.mp ht with e | ht; · exact e ▸ hto
                                                                                                       rcases List.mem_cons.mp ht with e | ht; · exact e ▸ hto
                                                                                                       cases ht) hr4
        simp only [List.map_cons, List.map_nil, hmd] at ht'
        refine rop_ix_L ht' ?_
        walk_at "evs"
        rw [updM_updM]
        exact hQ t' st4 hok4 hto'
      | sum =>
        walk_at "evs"
        refine ⟨a, st1, 2, rfl, updM_same, hok1, by decide, by decide, ?_⟩
        intro r2 st2 hok2 hr2
        have ho : ∃ (mk : Nat → Src → Touch) (w : Str), (∀ s, TouchOk .new ks (mk k s) ↔ AddOk .new ks k s) ∧ (∀ s, touchD (mk k s) = .tup [sD w, iD k, sD s.s]) ∧ atI [sD "add", sD "less"] (r2 : Int) = some (sD w) := by
          match r2, hr2 with
          | 0, _ => exact ⟨.add, "add", fun _ => Iff.rfl, fun _ => rfl, rfl⟩
          | 1, _ => exact ⟨.less, "less", fun _ => Iff.rfl, fun _ => rfl, rfl⟩
        obtain ⟨mk, w0, hmk, hmd, hw0⟩ := ho
        rw [updM_updM]
        refine rop_ix_L hw0 ?_
        walk_at "evs"
        refine ⟨a, st2, 2, rfl, updM_same, hok2, by decide, by decide, ?_⟩
        intro r3 st3 hok3 hr3
        have hs : ∃ s : Src, AddOk .new ks k s ∧ atI [sD "one", sD "newer"] (r3 : Int) = some (sD s.s) := by
          match r3, hr3 with
          | 0, _ => exact ⟨.one, ⟨⟨(by intro h; cases h), (by intro h; cases h)⟩, _, hk', .inl rfl⟩, rfl⟩
          | 1, _ => exact ⟨.newer, ⟨⟨(by intros; first | decide | contradiction), (by intros; first | decide | contradiction)⟩, _, hk', .inl rfl⟩, rfl⟩
        obtain ⟨s0, hs0, hat3⟩ := hs
        rw [updM_updM]
        refine rop_ix_L hat3 ?_
        walk_at "evs"
        have hto := (hmk s0).mpr hs0
        refine ⟨a, st3, 6, rfl, updM_same, hok3, by decide, by decide, ?_⟩
        intro r4 st4 hok4 hr4
        obtain ⟨t', ht', hto'⟩ := pick [.again k, .empty k, mk k s0, mk k s0, mk k s0, mk k s0] r4 (by intro t ht; rcases List.mem_cons.mp ht with e | ht; · exact e ▸ hag
                                                                                                       rcases List.mem_cons.mp ht with e | ht; · exact e ▸ hem
                                                                                                       rcases List.mem_cons.mp ht with e | ht; · exact e ▸ hto
                                                                                                       rcases List.mem_cons.mp ht with e | ht; · exact e ▸ hto
                                                                                                       rcases List.mem_cons.mp ht with e | ht; · exact e ▸ hto
                                                                                                       rcases List.mem_cons.mp ht with e | ht; · exact e ▸ hto
                                                                                                       cases ht) hr4
        simp only [List.map_cons, List.map_nil, hmd] at ht'
        refine rop_ix_L ht' ?_
        walk_at "evs"
        rw [updM_updM]
        exact hQ t' st4 hok4 hto'
      | most =>
        have hli : TouchOk .new ks (.lift k) := ⟨by decide, _, hk', rfl⟩
        walk_at "evs"
        refine ⟨a, st1, 4, rfl, updM_same, hok1, by decide, by decide, ?_⟩
        intro r4 st4 hok4 hr4
        obtain ⟨t', ht', hto'⟩ := pick [.again k, .empty k, .lift k, .lift k] r4 (by
          intro t ht
          rcases List.mem_cons.mp ht with e | ht
          · exact e ▸ hag
          rcases List.mem_cons.mp ht with e | ht
          · exact e ▸ hem
          rcases List.mem_cons.mp ht with e | ht
          · exact e ▸ hli
          rcases List.mem_cons.mp ht with e | ht
          · exact e ▸ hli
          cases ht) hr4
        rw [updM_updM]
        refine rop_ix_L ht' ?_
        walk_at "evs"
        exact hQ t' st4 hok4 hto'
      | any =>
        have hma : TouchOk .new ks (.mark k) := ⟨_, hk', rfl⟩
        walk_at "evs"
        refine ⟨a, st1, 4, rfl, updM_same, hok1, by decide, by decide, ?_⟩
        intro r4 st4 hok4 hr4
        obtain ⟨t', ht', hto'⟩ := pick [.again k, .empty k, .mark k, .mark k] r4 (by
          intro t ht
          rcases List.mem_cons.mp ht with e | ht
          · exact e ▸ hag
          rcases List.mem_cons.mp ht with e | ht
          · exact e ▸ hem
          rcases List.mem_cons.mp ht with e | ht
          · exact e ▸ hma
          rcases List.mem_cons.mp ht with e | ht
          · exact e ▸ hma
          cases ht) hr4
        rw [updM_updM]
        refine rop_ix_L ht' ?_
        walk_at "evs"
        exact hQ t' st4 hok4 hto'
    | change =>
      cases kw with
      | count =>
        walk_at "evs"
        refine ⟨a, st1, 2, rfl, updM_same, hok1, by decide, by decide, ?_⟩
        intro r2 st2 hok2 hr2
        have ho : ∃ (mk : Nat → Src → Touch) (w : Str), (∀ s, TouchOk .change ks (mk k s) ↔ AddOk .change ks k s) ∧ (∀ s, touchD (mk k s) = .tup [sD w, iD k, sD s.s]) ∧ atI [sD "add", sD "less"] (r2 : Int) = some (sD w) := by
          match r2, hr2 with
          | 0, _ => exact ⟨.add, "add", fun _ => Iff.rfl, fun _ => rfl, rfl⟩
          | 1, _ => exact ⟨.less, "less", fun _ => Iff.rfl, fun _ => rfl, rfl⟩
        obtain ⟨mk, w0, hmk, hmd, hw0⟩ := ho
        rw [updM_updM]
        refine rop_ix_L hw0 ?_
        walk_at "evs"
        refine ⟨a, st2, 1, rfl, updM_same, hok2, by decide, by decide, ?_⟩
        intro r3 st3 hok3 hr3
        have hs : ∃ s : Src, AddOk .change ks k s ∧ atI [sD "one"] (r3 : Int) = some (sD s.s) := by
          match r3, hr3 with
          | 0, _ => exact ⟨.one, ⟨⟨(by intro h; cases h), (by intro h; cases h)⟩, _, hk', .inr ⟨rfl, rfl⟩⟩, rfl⟩
        obtain ⟨s0, hs0, hat3⟩ := hs
        rw [updM_updM]
        refine rop_ix_L hat3 ?_
        walk_at "evs"
        have hto := (hmk s0).mpr hs0
        refine ⟨a, st3, 6, rfl, updM_same, hok3, by decide, by decide, ?_⟩
        intro r4 st4 hok4 hr4
        obtain ⟨t', ht', hto'⟩ := pick [.again k, .empty k, mk k s0, mk k s0, mk k s0, mk k s0] r4 (by intro t ht; rcases List.mem_cons.mp ht with e | ht; · exact e ▸ hag
                                                                                                       rcases List.mem_cons.mp ht with e | ht; · exact e ▸ hem
                                                                                                       rcases List.mem_cons.mp ht with e | ht; · exact e ▸ hto
                                                                                                       rcases List.mem_cons.mp ht with e | ht; · exact e ▸ hto
                                                                                                       rcases List.mem_cons.mp ht with e | ht; · exact e ▸ hto
                                                                                                       rcases List.mem_cons.mp ht with e | ht; · exact e ▸ hto
                                                                                                       cases ht) hr4
        simp only [List.map_cons, List.map_nil, hmd] at ht'
        refine rop_ix_L ht' ?_
        walk_at "evs"
        rw [updM_updM]
        exact hQ t' st4 hok4 hto'
      | sum =>
        walk_at "evs"
        refine ⟨a, st1, 2, rfl, updM_same, hok1, by decide, by decide, ?_⟩
        intro r2 st2 hok2 hr2
        have ho : ∃ (mk : Nat → Src → Touch) (w : Str), (∀ s, TouchOk .change ks (mk k s) ↔ AddOk .change ks k s) ∧ (∀ s, touchD (mk k s) = .tup [sD w, iD k, sD s.s]) ∧ atI [sD "add", sD "less"] (r2 : Int) = some (sD w) := by
          match r2, hr2 with
          | 0, _ => exact ⟨.add, "add", fun _ => Iff.rfl, fun _ => rfl, rfl⟩
          | 1, _ => exact ⟨.less, "less", fun _ => Iff.rfl, fun _ => rfl, rfl⟩
        obtain ⟨mk, w0, hmk, hmd, hw0⟩ := ho
        rw [updM_updM]
        refine rop_ix_L hw0 ?_
        walk_at "evs"
        refine ⟨a, st2, 3, rfl, updM_same, hok2, by decide, by decide, ?_⟩
        intro r3 st3 hok3 hr3
        have hs : ∃ s : Src, AddOk .change ks k s ∧ atI [sD "one", sD "elder", sD "newer"] (r3 : Int) = some (sD s.s) := by
          match r3, hr3 with
          | 0, _ => exact ⟨.one, ⟨⟨(by intro h; cases h), (by intro h; cases h)⟩, _, hk', .inl rfl⟩, rfl⟩
          | 1, _ => exact ⟨.elder, ⟨⟨(by intros; first | decide | contradiction), (by intros; first | decide | contradiction)⟩, _, hk', .inl rfl⟩, rfl⟩
          | 2, _ => exact ⟨.newer, ⟨⟨(by intros; first | decide | contradiction), (by intros; first | decide | contradiction)⟩, _, hk', .inl rfl⟩, rfl⟩
        obtain ⟨s0, hs0, hat3⟩ := hs
        rw [updM_updM]
        refine rop_ix_L hat3 ?_
        walk_at "evs"
        have hto := (hmk s0).mpr hs0
        refine ⟨a, st3, 6, rfl, updM_same, hok3, by decide, by decide, ?_⟩
        intro r4 st4 hok4 hr4
        obtain ⟨t', ht', hto'⟩ := pick [.again k, .empty k, mk k s0, mk k s0, mk k s0, mk k s0] r4 (by intro t ht; rcases List.mem_cons.mp ht with e | ht; · exact e ▸ hag
                                                                                                       rcases List.mem_cons.mp ht with e | ht; · exact e ▸ hem
                                                                                                       rcases List.mem_cons.mp ht with e | ht; · exact e ▸ hto
                                                                                                       rcases List.mem_cons.mp ht with e | ht; · exact e ▸ hto
                                                                                                       rcases List.mem_cons.mp ht with e | ht; · exact e ▸ hto
                                                                                                       rcases List.mem_cons.mp ht with e | ht; · exact e ▸ hto
                                                                                                       cases ht) hr4
        simp only [List.map_cons, List.map_nil, hmd] at ht'
        refine rop_ix_L ht' ?_
        walk_at "evs"
        rw [updM_updM]
        exact hQ t' st4 hok4 hto'
      | most =>
        have hli : TouchOk .change ks (.lift k) := ⟨by decide, _, hk', rfl⟩
        walk_at "evs"
        refine ⟨a, st1, 4, rfl, updM_same, hok1, by decide, by decide, ?_⟩
        intro r4 st4 hok4 hr4
        obtain ⟨t', ht', hto'⟩ := pick [.again k, .empty k, .lift k, .lift k] r4 (by
          intro t ht
          rcases List.mem_cons.mp ht with e | ht
          · exact e ▸ hag
          rcases List.mem_cons.mp ht with e | ht
          · exact e ▸ hem
          rcases List.mem_cons.mp ht with e | ht
          · exact e ▸ hli
          rcases List.mem_cons.mp ht with e | ht
          · exact e ▸ hli
          cases ht) hr4
        rw [updM_updM]
        refine rop_ix_L ht' ?_
        walk_at "evs"
        exact hQ t' st4 hok4 hto'
      | any =>
        have hma : TouchOk .change ks (.mark k) := ⟨_, hk', rfl⟩
        walk_at "evs"
        refine ⟨a, st1, 4, rfl, updM_same, hok1, by decide, by decide, ?_⟩
        intro r4 st4 hok4 hr4
        obtain ⟨t', ht', hto'⟩ := pick [.again k, .empty k, .mark k, .mark k] r4 (by
          intro t ht
          rcases List.mem_cons.mp ht with e | ht
          · exact e ▸ hag
          rcases List.mem_cons.mp ht with e | ht
          · exact e ▸ hem
          rcases List.mem_cons.mp ht with e | ht
          · exact e ▸ hma
          rcases List.mem_cons.mp ht with e | ht
          · exact e ▸ hma
          cases ht) hr4
        rw [updM_updM]
        refine rop_ix_L ht' ?_
        walk_at "evs"
        exact hQ t' st4 hok4 hto'
    | drop =>
      cases kw with
      | count =>
        walk_at "evs"
        refine ⟨a, st1, 2, rfl, updM_same, hok1, by decide, by decide, ?_⟩
        intro r2 st2 hok2 hr2
        have ho : ∃ (mk : Nat → Src → Touch) (w : Str), (∀ s, TouchOk .drop ks (mk k s) ↔ AddOk .drop ks k s) ∧ (∀ s, touchD (mk k s) = .tup [sD w, iD k, sD s.s]) ∧ atI [sD "add", sD "less"] (r2 : Int) = some (sD w) := by
          match r2, hr2 with
          | 0, _ => exact ⟨.add, "add", fun _ => Iff.rfl, fun _ => rfl, rfl⟩
          | 1, _ => exact ⟨.less, "less", fun _ => Iff.rfl, fun _ => rfl, rfl⟩
        obtain ⟨mk, w0, hmk, hmd, hw0⟩ := ho
        rw [updM_updM]
        refine rop_ix_L hw0 ?_
        walk_at "evs"
        refine ⟨a, st2, 1, rfl, updM_same, hok2, by decide, by decide, ?_⟩
        intro r3 st3 hok3 hr3
        have hs : ∃ s : Src, AddOk .drop ks k s ∧ atI [sD "one"] (r3 : Int) = some (sD s.s) := by
          match r3, hr3 with
          | 0, _ => exact ⟨.one, ⟨⟨(by intro h; cases h), (by intro h; cases h)⟩, _, hk', .inr ⟨rfl, rfl⟩⟩, rfl⟩
        obtain ⟨s0, hs0, hat3⟩ := hs
        rw [updM_updM]
        refine rop_ix_L hat3 ?_
        walk_at "evs"
        have hto := (hmk s0).mpr hs0
        refine ⟨a, st3, 6, rfl, updM_same, hok3, by decide, by decide, ?_⟩
        intro r4 st4 hok4 hr4
        obtain ⟨t', ht', hto'⟩ := pick [.again k, .empty k, mk k s0, mk k s0, mk k s0, mk k s0] r4 (by intro t ht; rcases List.mem_cons.mp ht with e | ht; · exact e ▸ hag
                                                                                                       rcases List.mem_cons.mp ht with e | ht; · exact e ▸ hem
                                                                                                       rcases List.mem_cons.mp ht with e | ht; · exact e ▸ hto
                                                                                                       rcases List.mem_cons.mp ht with e | ht; · exact e ▸ hto
                                                                                                       rcases List.mem_cons.mp ht with e | ht; · exact e ▸ hto
                                                                                                       rcases List.mem_cons.mp ht with e | ht; · exact e ▸ hto
                                                                                                       cases ht) hr4
        simp only [List.map_cons, List.map_nil, hmd] at ht'
        refine rop_ix_L ht' ?_
        walk_at "evs"
        rw [updM_updM]
        exact hQ t' st4 hok4 hto'
      | sum =>
        walk_at "evs"
        refine ⟨a, st1, 2, rfl, updM_same, hok1, by decide, by decide, ?_⟩
        intro r2 st2 hok2 hr2
        have ho : ∃ (mk : Nat → Src → Touch) (w : Str), (∀ s, TouchOk .drop ks (mk k s) ↔ AddOk .drop ks k s) ∧ (∀ s, touchD (mk k s) = .tup [sD w, iD k, sD s.s]) ∧ atI [sD "add", sD "less"] (r2 : Int) = some (sD w) := by
          match r2, hr2 with
          | 0, _ => exact ⟨.add, "add", fun _ => Iff.rfl, fun _ => rfl, rfl⟩
          | 1, _ => exact ⟨.less, "less", fun _ => Iff.rfl, fun _ => rfl, rfl⟩
        obtain ⟨mk, w0, hmk, hmd, hw0⟩ := ho
        rw [updM_updM]
        refine rop_ix_L hw0 ?_
        walk_at "evs"
        refine ⟨a, st2, 2, rfl, updM_same, hok2, by decide, by decide, ?_⟩
        intro r3 st3 hok3 hr3
        have hs : ∃ s : Src, AddOk .drop ks k s ∧ atI [sD "one", sD "elder"] (r3 : Int) = some (sD s.s) := by
          match r3, hr3 with
          | 0, _ => exact ⟨.one, ⟨⟨(by intro h; cases h), (by intro h; cases h)⟩, _, hk', .inl rfl⟩, rfl⟩
          | 1, _ => exact ⟨.elder, ⟨⟨(by intros; first | decide | contradiction), (by intros; first | decide | contradiction)⟩, _, hk', .inl rfl⟩, rfl⟩
        obtain ⟨s0, hs0, hat3⟩ := hs
        rw [updM_updM]
        refine rop_ix_L hat3 ?_
        walk_at "evs"
        have hto := (hmk s0).mpr hs0
        refine ⟨a, st3, 6, rfl, updM_same, hok3, by decide, by decide, ?_⟩
        intro r4 st4 hok4 hr4
        obtain ⟨t', ht', hto'⟩ := pick [.again k, .empty k, mk k s0, mk k s0, mk k s0, mk k s0] r4 (by intro t ht; rcases List.mem_cons.mp ht with e | ht; · exact e ▸ hag
                                                                                                       rcases List.mem_cons.mp ht with e | ht; · exact e ▸ hem
                                                                                                       rcases List.mem_cons.mp ht with e | ht; · exact e ▸ hto
                                                                                                       rcases List.mem_cons.mp ht with e | ht; · exact e ▸ hto
                                                                                                       rcases List.mem_cons.mp ht with e | ht; · exact e ▸ hto
                                                                                                       rcases List.mem_cons.mp ht with e | ht; · exact e ▸ hto
                                                                                                       cases ht) hr4
        simp only [List.map_cons, List.map_nil, hmd] at ht'
        refine rop_ix_L ht' ?_
        walk_at "evs"
        rw [updM_updM]
        exact hQ t' st4 hok4 hto'
      | most =>
        walk_at "evs"
        refine ⟨a, st1, 2, rfl, updM_same, hok1, by decide, by decide, ?_⟩
        intro r4 st4 hok4 hr4
        obtain ⟨t', ht', hto'⟩ := pick [.again k, .empty k] r4 (by
          intro t ht
          rcases List.mem_cons.mp ht with e | ht
          · exact e ▸ hag
          rcases List.mem_cons.mp ht with e | ht
          · exact e ▸ hem
          cases ht) hr4
        rw [updM_updM]
        refine rop_ix_L ht' ?_
        walk_at "evs"
        exact hQ t' st4 hok4 hto'
      | any =>
        have hma : TouchOk .drop ks (.mark k) := ⟨_, hk', rfl⟩
        walk_at "evs"
        refine ⟨a, st1, 4, rfl, updM_same, hok1, by decide, by decide, ?_⟩
        intro r4 st4 hok4 hr4
        obtain ⟨t', ht', hto'⟩ := pick [.again k, .empty k, .mark k, .mark k] r4 (by
          intro t ht
          rcases List.mem_cons.mp ht with e | ht
          · exact e ▸ hag
          rcases List.mem_cons.mp ht with e | ht
          · exact e ▸ hem
          rcases List.mem_cons.mp ht with e | ht
          · exact e ▸ hma
          rcases List.mem_cons.mp ht with e | ht
          · exact e ▸ hma
          cases ht) hr4
        rw [updM_updM]
        refine rop_ix_L ht' ?_
        walk_at "evs"
        exact hQ t' st4 hok4 hto'

theorem ok__law_touch {P : Program} {w : World} {K : PySem.W.Frag} {mg : Str → Option Value} {base : Heap} {f : Addr} {fd : FuncData} (F : FnP K "_law_touch" "_law_touch" (top 48) f fd) (g : mg "_law_touch" = some (.ref f)) (T : Tx w K mg) (c__law_draw : Cal P w K mg base 1 "_law_draw" ["_law_draws", "_law_many"] (S_law_draw))  : Cal P w K mg base 2 "_law_touch" ["_law_draws", "_law_keeps", "_law_at"] (S_law_touch) :=
  cal_mk F g (fn__law_touch F T c__law_draw) (F.bindsN fun _ _ _ _ _ _ us hl => match us, hl with | [_, _, _], _ => rfl)

theorem sc__law_step : FnScope ["_law_draws", "_law_keeps", "_law_at", "_law_touch_here", "_law_tests", "_law_k"] ["_law_draws", "_law_keeps", "_law_at"] (defScope (top 49)) := ⟨rfl, rfl, rfl, by decide +kernel, rfl, by decide +kernel, by decide +kernel⟩
theorem fn__law_step {P : Program} {w : World} {K : PySem.W.Frag} {mg : Str → Option Value} {base : Heap} {f : Addr} {fd : FuncData} (F : FnP K "_law_step" "_law_step" (top 49) f fd) (T : Tx w K mg) (c__law_touch : Cal P w K mg base 2 "_law_touch" ["_law_draws", "_law_keeps", "_law_at"] (S_law_touch)) (c__law_draw : Cal P w K mg base 1 "_law_draw" ["_law_draws", "_law_many"] (S_law_draw))  : FnOk P w K mg base CX0 3 f fd ["_law_draws", "_law_keeps", "_law_at"] (spOf K (S_law_step)) := by
  have sc := sc__law_step
  refine ok_fn (k := 2) F sc (fun ds M Q h => ?_) (fun cdv A outer s H E hr => ?_)
  · obtain ⟨a, st, ks, n, rfl, hm, hok, h1, h3, hko, hQ⟩ := h; rfl
  · have hu6 : A.units + 64 < cLine := by have := hr.un; show A.units + 64 < cLine; simp only [Around.deeper] at this; omega
    have hu := hu_of hr
    refine ⟨_, (pss_cons (ps_set (i := 3) sc.nd rfl (Or.inl rfl) (pe_calD c__law_touch (hr.mono (by first | decide | exact Nat.le_refl _)) (by rfl) (pa_cons (pv 0) (pa_cons (pv 1) (pa_cons (pv 2) pa_nil))))) (pss_cons (ps_set (i := 4) sc.nd rfl (Or.inl rfl) (pe_lst pa_nil)) (pss_cons (ps_if (pt_cmpR op_gt (pv 2) pe_int (nomark _)) (pss_cons (ps_set (i := 4) sc.nd rfl (Or.inl rfl) (pe_op op_addA (pv 4) (pe_lst (pa_cons (pe_tup (pa_cons pe_str (pa_cons (pe_calD c__law_draw (hr.mono (by first | decide | exact Nat.le_refl _)) (by rfl) (pa_cons (pv 0) (pa_cons pe_int pa_nil))) pa_nil))) pa_nil)))) (pss_one (ps_set (i := 4) sc.nd rfl (Or.inl rfl) (pe_op op_addA (pv 4) (pe_lc (own := [("_law_k", 5)]) (by rfl) sc.nd (pi_range1 (by rfl) T.b_range (pa_cons (pe_callB call_len (by rfl) T.b_len (by decide +kernel) (pa_cons (pv 1) pa_nil)) pa_nil)) (blkOk_by (own := [("_law_k", 5)]) (N := ["_law_draws", "_law_keeps", "_law_at", "_law_touch_here", "_law_tests", "_law_k"]) (sc := defScope (top 49)) (by decide +kernel)) (fun _ _ _ _ _ => (pg_name (i := 5) sc.nd rfl (Or.inl rfl))) (fun _ _ _ _ _ => (pts_one (pt_cmpR op_eq (pe_ix (k_ix_seq (K := K)) (pe_ix (k_ix_seq (K := K)) (pv 1) (pv 5) (fun _ _ => rfl)) pe_int (fun _ _ => rfl)) pe_str (nomark _)))) (fun _ _ _ _ _ => (pe_tup (pa_cons pe_str (pa_cons (pv 5) pa_nil))))))))) pss_nil) (pss_cons (ps_if (pt_cmpR op_lt (pv 2) pe_int (nomark _)) (pss_one (ps_set (i := 4) sc.nd rfl (Or.inl rfl) (pe_op op_addA (pv 4) (pe_lst (pa_cons (pe_tup (pa_cons pe_str (pa_cons (pe_calD c__law_draw (hr.mono (by first | decide | exact Nat.le_refl _)) (by rfl) (pa_cons (pv 0) (pa_cons pe_int pa_nil))) pa_nil))) pa_nil))))) pss_nil) (pss_cons (ps_if (pt_cmpR op_eq (pv 2) pe_int (nomark _)) (pss_one (ps_set (i := 4) sc.nd rfl (Or.inl rfl) (pe_op op_addA (pv 4) (pe_lst (pa_cons (pe_tup (pa_cons pe_str pa_nil)) pa_nil))))) pss_nil) (pss_cons (ps_set (i := 4) sc.nd rfl (Or.inl rfl) (pe_op op_addA (pv 4) (pe_lc (own := [("_law_k", 5)]) (by rfl) sc.nd (pi_range1 (by rfl) T.b_range (pa_cons (pe_callB call_len (by rfl) T.b_len (by decide +kernel) (pa_cons (pv 1) pa_nil)) pa_nil)) (blkOk_by (own := [("_law_k", 5)]) (N := ["_law_draws", "_law_keeps", "_law_at", "_law_touch_here", "_law_tests", "_law_k"]) (sc := defScope (top 49)) (by decide +kernel)) (fun _ _ _ _ _ => (pg_name (i := 5) sc.nd rfl (Or.inl rfl))) (fun _ _ _ _ _ => (pts_one (pt_cmpR op_eq (pe_ix (k_ix_seq (K := K)) (pe_ix (k_ix_seq (K := K)) (pv 1) (pv 5) (fun _ _ => rfl)) pe_int (fun _ _ => rfl)) pe_str (nomark _)))) (fun _ _ _ _ _ => (pe_tup (pa_cons pe_str (pa_cons (pv 5) pa_nil))))))) (pss_cons (ps_if (pt_cmpR op_eq (pe_calD c__law_draw (hr.mono (by first | decide | exact Nat.le_refl _)) (by rfl) (pa_cons (pv 0) (pa_cons pe_int pa_nil))) pe_int (nomark _)) (pss_one (ps_ret (pv 3))) pss_nil) (pss_one (ps_ret (pe_tup (pa_cons pe_str (pa_cons (pe_ix ix_seq (pv 4) (pe_calD c__law_draw (hr.mono (by first | decide | exact Nat.le_refl _)) (by rfl) (pa_cons (pv 0) (pa_cons (pe_callB call_len (by rfl) T.b_len (by decide +kernel) (pa_cons (pv 4) pa_nil)) pa_nil))) (fun _ _ => rfl)) (pa_cons (pv 3) pa_nil))))))))))))), fun ds M Q h => ?_⟩
    obtain ⟨a, st, ks, n, rfl, hm, hok, h1, h3, hko, hQ⟩ := h
    try dsimp only [cxOf, Cx.nox]
    walk_at "evs"
    refine ⟨a, st, ks, n, rfl, hm, hok, h1, h3, ?_⟩
    intro t0 st0 hok0 ht0
    walk_at "evs"
    have comp : ∀ (s : Str) (w : What) (mk : Nat → Test) (ρ : Env') (M1 : MH) (PP : Da → MH → Prop), (∀ i : Nat, testD (mk i) = .tup [sD s, iD i]) → (wipeD ρ [5])[1]? = some (some (.lst (ks.map keepD))) → (wipeD ρ [5])[5]? = some none → ρ[1]? = some (some (.lst (ks.map keepD))) →
        PP (.lst ((((List.range ks.length).filter fun i => decide ((kAt ks i).what = w)).map mk).map testD)) M1 →
        EvP K (tLc (iRng1 (tCons (tCB (Dl.rLen K) (tCons (tVar 1) tNil)) tNil)) (gName 5) (tTest (tOp rEq (tOp (rIx K) (tOp (rIx K) (tVar 1) (tVar 5)) (tC (.int 0))) (tC (.str w.s)))) (tTup (tCons (tC (.str s)) (tCons (tVar 5) tNil))) [5]) ρ M1 PP := by
      intro s w mk ρ M1 PP hmk e1 e5 e1' q
      refine ev_lc (js := [5]) (by decide) (sr_range1 (av_cons (ev_cb (av_cons (ev_var e1' (av_nil (rcl_len (show _ = _ from rfl) (av_nil ⟨_, rfl, ?_, ?_, ?_⟩))))))))
      · omega
      · rw [List.length_map]; omega
      have hlk : (((ks.map keepD).length : Nat) : Int).toNat = ks.length := by rw [List.length_map]; omega
      rw [hlk]
      refine ⟨fun i acc M' => acc = ((((List.range i).filter fun i => decide ((kAt ks i).what = w)).map mk).map testD) ∧ M1 = M', ⟨rfl, rfl⟩, ?_, ?_⟩
      · rintro i d acc M' hd ⟨rfl, rfl⟩
        obtain ⟨hi, rfl⟩ := rngD_get hd
        rw [Int.zero_add]
        have hat : atI (ks.map keepD) (i : Int) = some (keepD (kAt ks i)) := atI_nat (by rw [List.getElem?_map, kAt_get hi] <;> rfl)
        refine ⟨_, tg_name, ?_⟩
        have f1 : (setAllD (wipeD ρ [5]) [5] [iD (i : Int)])[1]? = some (some (.lst (ks.map keepD))) := by
          show ((wipeD ρ [5]).set 5 _)[1]? = _
          rw [List.getElem?_set_ne (by decide)]
          exact e1
        have f5 : (setAllD (wipeD ρ [5]) [5] [iD (i : Int)])[5]? = some (some (iD (i : Int))) := by
          show ((wipeD ρ [5]).set 5 _)[5]? = _
          rw [List.getElem?_set_self (List.getElem?_eq_some_iff.mp e5).1]
        refine tv_test (ev_op (ev_op (ev_op (ev_var f1 (ev_var f5 (rop_ix_L hat (ev_c (rop_ix_T rfl (ev_c (rop_eq rfl ⟨_, rfl, ?_⟩))))))))))
        have hdec : decide (V.str (kAt ks i).what.s = V.str w.s) = decide ((kAt ks i).what = w) := by cases (kAt ks i).what <;> cases w <;> rfl
        rw [hdec]
        have hsp : (List.range (i + 1)).filter (fun i => decide ((kAt ks i).what = w)) = (List.range i).filter (fun i => decide ((kAt ks i).what = w)) ++ [i].filter (fun i => decide ((kAt ks i).what = w)) := by rw [List.range_succ, List.filter_append]
        have hle : ((List.range i).filter fun i => decide ((kAt ks i).what = w)).length ≤ i := Nat.le_trans (List.length_filter_le _ _) (by rw [List.length_range]; omega)
        refine ifB (fun h => ?_) (fun h => ?_)
        · refine ⟨by rw [List.length_map, List.length_map]; omega, ?_⟩
          refine ev_tup (av_cons (ev_c (av_cons (ev_var f5 (av_nil ⟨Nat.le_of_ble_eq_true rfl, ?_, rfl⟩)))))
          rw [hsp, List.filter_cons_of_pos (by exact h), List.filter_nil, List.map_append, List.map_append]
          congr 1
          exact congrArg (fun z => [z]) (hmk i).symm
        · refine ⟨?_, rfl⟩
          rw [hsp, List.filter_cons_of_neg (by rw [h]; exact Bool.false_ne_true), List.filter_nil, List.append_nil]
      · rintro acc M' ⟨rfl, rfl⟩
        rw [rngD_length]
        exact q
    have elder : n ≠ .new → ∀ r, r < 2 → TestOk n ks (.elder (r : Nat)) := fun hn r hr => ⟨hn, by omega⟩
    have newer : n ≠ .drop → ∀ r, r < 2 → TestOk n ks (.newer (r : Nat)) := fun hn r hr => ⟨hn, by omega⟩
    have tops : n ≠ .new → ∀ t ∈ (((List.range ks.length).filter fun i => decide ((kAt ks i).what = .most)).map Test.top), TestOk n ks t := by
      intro hn t ht
      obtain ⟨i, hi, rfl⟩ := List.mem_map.mp ht
      obtain ⟨h1, h2⟩ := List.mem_filter.mp hi
      exact ⟨hn, _, kAt_get (List.mem_range.mp h1), of_decide_eq_true h2⟩
    have nones : ∀ t ∈ (((List.range ks.length).filter fun i => decide ((kAt ks i).what = .count)).map Test.none), TestOk n ks t := by
      intro t ht
      obtain ⟨i, hi, rfl⟩ := List.mem_map.mp ht
      obtain ⟨h1, h2⟩ := List.mem_filter.mp hi
      exact ⟨_, kAt_get (List.mem_range.mp h1), of_decide_eq_true h2⟩
    have ltop : (((List.range ks.length).filter fun i => decide ((kAt ks i).what = .most)).map Test.top).length ≤ 3 := by
      rw [List.length_map]
      exact Nat.le_trans (List.length_filter_le _ _) (by rw [List.length_range]; omega)
    have lnone : (((List.range ks.length).filter fun i => decide ((kAt ks i).what = .count)).map Test.none).length ≤ 3 := by
      rw [List.length_map]
      exact Nat.le_trans (List.length_filter_le _ _) (by rw [List.length_range]; omega)
    generalize htops : (((List.range ks.length).filter fun i => decide ((kAt ks i).what = .most)).map Test.top) = top at tops ltop
    generalize hnones : (((List.range ks.length).filter fun i => decide ((kAt ks i).what = .count)).map Test.none) = nn at nones lnone
    have cat : ∀ (xs ys : List Test) (M1 : MH) (PP : Da → MH → Prop), xs.length ≤ 10 → ys.length ≤ 10 → PP (.lst ((xs ++ ys).map testD)) M1 → ROp K (rAddA K) (.lst (xs.map testD)) (.lst (ys.map testD)) M1 PP := by
      intro xs ys M1 PP h1 h2 q
      refine rop_or2 (rop_or2 ?_)
      refine rop_cat (ds := xs.map testD) (es := ys.map testD) (show _ = _ from rfl) (show _ = _ from rfl) (by rw [List.length_map, List.length_map]; omega) ?_
      rw [← List.map_append]
      exact q
    have tail : ∀ (ts : List Test) (st1 : DrSt) (x : Option Da), (∀ t ∈ ts, TestOk n ks t) → 1 ≤ ts.length → ts.length ≤ 20 → st1.Ok →
        StP K (tSeq (tIfS (tTest (tOp rEq (tCall (spOf K S_law_draw) [] E0 (tCons (tVar 0) (tCons (tC (.int 2)) tNil))) (tC (.int 0)))) (tRet (tVar 3)) tNext) (tRet (tTup (tCons (tC (.str "if")) (tCons (tOp (rIx K) (tVar 4) (tCall (spOf K S_law_draw) [] E0 (tCons (tVar 0) (tCons (tCB (Dl.rLen K) (tCons (tVar 4) tNil)) tNil)))) (tCons (tVar 3) tNil))))))
          [some (.sc (.ref a)), some (.lst (ks.map keepD)), some (iD n.at_), some (touchD t0), some (.lst (ts.map testD)), x] (updM M a (.lst st1.l)) (DR Q) := by
      intro ts st1 x hts hl1 hl20 hok1
      walk_at "evs"
      refine ⟨a, st1, 2, rfl, updM_same, hok1, by decide, by decide, ?_⟩
      intro r st2 hok2 hr
      walk_at "evs"
      refine ifB (fun h => ?_) (fun h => ?_)
      · walk_at "evs"
        rw [updM_updM]
        exact hQ ⟨none, t0⟩ st2 hok2 ⟨ht0, fun t h => by cases h⟩
      · walk_at "evs"
        refine ⟨a, st2, (ts.map testD).length, rfl, updM_same, hok2, by rw [List.length_map]; omega, by rw [List.length_map]; omega, ?_⟩
        intro r2 st3 hok3 hr2
        rw [List.length_map] at hr2
        have hp := pickL (f := testD) hr2
        refine rop_ix_L hp ?_
        walk_at "evs"
        rw [updM_updM, updM_updM]
        exact hQ ⟨some ts[r2], t0⟩ st3 hok3 ⟨ht0, fun t h => by cases h; exact hts _ (List.getElem_mem hr2)⟩
    have nonesC : ∀ (ρ : Env') (M1 : MH) (PP : Da → MH → Prop), (wipeD ρ [5])[1]? = some (some (.lst (ks.map keepD))) → (wipeD ρ [5])[5]? = some none → ρ[1]? = some (some (.lst (ks.map keepD))) → PP (.lst (nn.map testD)) M1 →
        EvP K (tLc (iRng1 (tCons (tCB (Dl.rLen K) (tCons (tVar 1) tNil)) tNil)) (gName 5) (tTest (tOp rEq (tOp (rIx K) (tOp (rIx K) (tVar 1) (tVar 5)) (tC (.int 0))) (tC (.str "count")))) (tTup (tCons (tC (.str "none")) (tCons (tVar 5) tNil))) [5]) ρ M1 PP := by
      intro ρ M1 PP e1 e2 e3 q
      refine comp "none" .count .none ρ M1 PP (fun _ => rfl) e1 e2 e3 ?_
      rw [hnones]
      exact q
    have topsC : ∀ (ρ : Env') (M1 : MH) (PP : Da → MH → Prop), (wipeD ρ [5])[1]? = some (some (.lst (ks.map keepD))) → (wipeD ρ [5])[5]? = some none → ρ[1]? = some (some (.lst (ks.map keepD))) → PP (.lst (top.map testD)) M1 →
        EvP K (tLc (iRng1 (tCons (tCB (Dl.rLen K) (tCons (tVar 1) tNil)) tNil)) (gName 5) (tTest (tOp rEq (tOp (rIx K) (tOp (rIx K) (tVar 1) (tVar 5)) (tC (.int 0))) (tC (.str "most")))) (tTup (tCons (tC (.str "top")) (tCons (tVar 5) tNil))) [5]) ρ M1 PP := by
      intro ρ M1 PP e1 e2 e3 q
      refine comp "top" .most .top ρ M1 PP (fun _ => rfl) e1 e2 e3 ?_
      rw [htops]
      exact q
    cases n with
    | new =>
      walk_at "evs"
      refine ⟨a, st0, 2, rfl, updM_same, hok0, by decide, by decide, ?_⟩
      intro r1 st1 hok1 hr1
      rw [updM_updM]
      walk_at "evs"
      refine nonesC _ _ _ rfl rfl rfl ?_
      refine cat [.newer r1] nn _ _ (Nat.le_of_ble_eq_true rfl) (by omega) ?_
      refine tail ([.newer r1] ++ nn) st1 _ ?_ (by simp only [List.length_append, List.length_cons, List.length_nil]; omega) (by simp only [List.length_append, List.length_cons, List.length_nil]; omega) hok1
      intro t ht
      rcases List.mem_append.mp ht with h | h
      · exact (List.mem_singleton.mp h) ▸ newer (by decide) r1 hr1
      · exact nones t h
    | change =>
      walk_at "evs"
      refine ⟨a, st0, 2, rfl, updM_same, hok0, by decide, by decide, ?_⟩
      intro r1 st1 hok1 hr1
      rw [updM_updM]
      walk_at "evs"
      refine topsC _ _ _ rfl rfl rfl ?_
      refine cat [.elder r1] top _ _ (Nat.le_of_ble_eq_true rfl) (by omega) ?_
      walk_at "evs"
      refine ⟨a, st1, 2, rfl, updM_same, hok1, by decide, by decide, ?_⟩
      intro r2 st2 hok2 hr2
      rw [updM_updM]
      walk_at "evs"
      refine cat ([.elder r1] ++ top) [.newer r2] _ _ (by simp only [List.length_append, List.length_cons, List.length_nil]; omega) (Nat.le_of_ble_eq_true rfl) ?_
      walk_at "evs"
      refine cat ([.elder r1] ++ top ++ [.newer r2]) [.moved] _ _ (by simp only [List.length_append, List.length_cons, List.length_nil]; omega) (Nat.le_of_ble_eq_true rfl) ?_
      walk_at "evs"
      refine nonesC _ _ _ rfl rfl rfl ?_
      refine cat ([.elder r1] ++ top ++ [.newer r2] ++ [.moved]) nn _ _ (by simp only [List.length_append, List.length_cons, List.length_nil]; omega) (by omega) ?_
      refine tail ([.elder r1] ++ top ++ [.newer r2] ++ [.moved] ++ nn) st2 _ ?_ (by simp only [List.length_append, List.length_cons, List.length_nil]; omega) (by simp only [List.length_append, List.length_cons, List.length_nil]; omega) hok2
      intro t ht
      rcases List.mem_append.mp ht with h | h
      · rcases List.mem_append.mp h with h | h
        · rcases List.mem_append.mp h with h | h
          · rcases List.mem_append.mp h with h | h
            · exact (List.mem_singleton.mp h) ▸ elder (by decide) r1 hr1
            · exact tops (by decide) t h
          · exact (List.mem_singleton.mp h) ▸ newer (by decide) r2 hr2
        · exact (List.mem_singleton.mp h) ▸ rfl
      · exact nones t h
    | drop =>
      walk_at "evs"
      refine ⟨a, st0, 2, rfl, updM_same, hok0, by decide, by decide, ?_⟩
      intro r1 st1 hok1 hr1
      rw [updM_updM]
      walk_at "evs"
      refine topsC _ _ _ rfl rfl rfl ?_
      refine cat [.elder r1] top _ _ (Nat.le_of_ble_eq_true rfl) (by omega) ?_
      walk_at "evs"
      refine nonesC _ _ _ rfl rfl rfl ?_
      refine cat ([.elder r1] ++ top) nn _ _ (by simp only [List.length_append, List.length_cons, List.length_nil]; omega) (by omega) ?_
      refine tail ([.elder r1] ++ top ++ nn) st1 _ ?_ (by simp only [List.length_append, List.length_cons, List.length_nil]; omega) (by simp only [List.length_append, List.length_cons, List.length_nil]; omega) hok1
      intro t ht
      rcases List.mem_append.mp ht with h | h
      · rcases List.mem_append.mp h with h | h
        · exact (List.mem_singleton.mp h) ▸ elder (by decide) r1 hr1
        · exact tops (by decide) t h
      · exact nones t h

theorem ok__law_step {P : Program} {w : World} {K : PySem.W.Frag} {mg : Str → Option Value} {base : Heap} {f : Addr} {fd : FuncData} (F : FnP K "_law_step" "_law_step" (top 49) f fd) (g : mg "_law_step" = some (.ref f)) (T : Tx w K mg) (c__law_touch : Cal P w K mg base 2 "_law_touch" ["_law_draws", "_law_keeps", "_law_at"] (S_law_touch)) (c__law_draw : Cal P w K mg base 1 "_law_draw" ["_law_draws", "_law_many"] (S_law_draw))  : Cal P w K mg base 3 "_law_step" ["_law_draws", "_law_keeps", "_law_at"] (S_law_step) :=
  cal_mk F g (fn__law_step F T c__law_touch c__law_draw) (F.bindsN fun _ _ _ _ _ _ us hl => match us, hl with | [_, _, _], _ => rfl)

theorem sc__law_made : FnScope ["_law_parts"] ["_law_parts"] (defScope (top 52)) := ⟨rfl, rfl, rfl, by decide +kernel, rfl, by decide +kernel, by decide +kernel⟩
theorem fn__law_made {P : Program} {w : World} {K : PySem.W.Frag} {mg : Str → Option Value} {base : Heap} {f : Addr} {fd : FuncData} (F : FnP K "_law_made" "_law_made" (top 52) f fd) (T : Tx w K mg) (k_Program : CalC P w K mg base (He.ga K "Program") 6 "Program" ["self", "keeps", "new", "change", "drop"] (S_Program_init (He.ga K "Program")))  : FnOk P w K mg base CX0 8 f fd ["_law_parts"] (spOf K (S_law_made (He.ga K "Program"))) := by
  have sc := sc__law_made
  refine ok_fn (k := 7) F sc (fun ds M Q h => ?_) (fun cdv A outer s H E hr => ?_)
  · obtain ⟨d, p, rfl, hd, hv, hQ⟩ := h; rfl
  · have hu6 : A.units + 64 < cLine := by have := hr.un; show A.units + 64 < cLine; simp only [Around.deeper] at this; omega
    have hu := hu_of hr
    refine ⟨_, (pss_one (ps_ret (pe_makD k_Program (hr.mono (by first | decide | exact Nat.le_refl _)) (by rfl) (pa_cons (pe_ix ix_seq (pv 0) pe_int (fun _ _ => rfl)) (pa_cons (pe_ix ix_seq (pv 0) pe_int (fun _ _ => rfl)) (pa_cons (pe_ix ix_seq (pv 0) pe_int (fun _ _ => rfl)) (pa_cons (pe_ix ix_seq (pv 0) pe_int (fun _ _ => rfl)) pa_nil))))))), fun ds M Q h => ?_⟩
    obtain ⟨d, p, rfl, hd, hv, hQ⟩ := h
    try dsimp only [cxOf, Cx.nox]
    refine stp_to M (stp_frzO ?_)
    have hix : ∀ (i : Int) (e : Da) (PP : Da → MH → Prop), atI (partsL p) i = some e → PP e M → ROp K (rIx K) d (iD i) M PP := by
      intro i e PP h q
      cases d with
      | lst es =>
        have e1 : es = partsL p := hd
        rw [e1]
        exact rop_ix_L h q
      | sc v =>
        cases v with
        | ref z => exact rop_ix_M hd h q
        | _ => cases hd
      | tup _ => cases hd
      | obj _ _ _ => cases hd
      | ro _ => cases hd
    walk_at "evs"
    refine hix 0 _ _ rfl ?_
    walk_at "evs"
    refine hix 1 _ _ rfl ?_
    walk_at "evs"
    refine hix 2 _ _ rfl ?_
    walk_at "evs"
    refine hix 3 _ _ rfl ?_
    walk_at "evs"
    intro x hx
    refine ⟨x, _, _, _, _, p, rfl, updM_same, .inl rfl, .inl rfl, .inl rfl, .inl rfl, hv, rfl, ?_⟩
    exact ⟨x, _, _, _, rfl, updM_same, (((SubM.refl M).upd' hx).upd' hx).del hx, hQ⟩

theorem ok__law_made {P : Program} {w : World} {K : PySem.W.Frag} {mg : Str → Option Value} {base : Heap} {f : Addr} {fd : FuncData} (F : FnP K "_law_made" "_law_made" (top 52) f fd) (g : mg "_law_made" = some (.ref f)) (T : Tx w K mg) (k_Program : CalC P w K mg base (He.ga K "Program") 6 "Program" ["self", "keeps", "new", "change", "drop"] (S_Program_init (He.ga K "Program")))  : Cal P w K mg base 8 "_law_made" ["_law_parts"] (S_law_made (He.ga K "Program")) :=
  cal_mk F g (fn__law_made F T k_Program) (F.bindsN fun _ _ _ _ _ _ us hl => match us, hl with | [_], _ => rfl)

theorem sc__law_any : FnScope ["_law_draws", "_law_most", "_law_parts", "_law_k"] ["_law_draws", "_law_most"] (defScope (top 51)) := ⟨rfl, rfl, rfl, by decide +kernel, rfl, by decide +kernel, by decide +kernel⟩
theorem fn__law_any {P : Program} {w : World} {K : PySem.W.Frag} {mg : Str → Option Value} {base : Heap} {f : Addr} {fd : FuncData} (F : FnP K "_law_any" "_law_any" (top 51) f fd) (T : Tx w K mg) (c__law_right : Cal P w K mg base 3 "_law_right" ["_law_draws", "_law_most"] (S_law_right)) (c__law_spoilt : Cal P w K mg base 4 "_law_spoilt" ["_law_draws", "_law_parts"] (S_law_spoilt)) (c__law_draw : Cal P w K mg base 1 "_law_draw" ["_law_draws", "_law_many"] (S_law_draw))  : FnOk P w K mg base CX0 5 f fd ["_law_draws", "_law_most"] (spOf K (S_law_any)) := by
  have sc := sc__law_any
  refine ok_fn (k := 4) F sc (fun ds M Q h => ?_) (fun cdv A outer s H E hr => ?_)
  · obtain ⟨a, st, most, rfl, hm, hok, h1, h3, hQ⟩ := h; rfl
  · have hu6 : A.units + 64 < cLine := by have := hr.un; show A.units + 64 < cLine; simp only [Around.deeper] at this; omega
    have hu := hu_of hr
    refine ⟨_, (pss_cons (ps_set (i := 2) sc.nd rfl (Or.inl rfl) (pe_calD c__law_right (hr.mono (by first | decide | exact Nat.le_refl _)) (by rfl) (pa_cons (pv 0) (pa_cons (pv 1) pa_nil)))) (pss_cons (ps_for PassesOwn.never (by rfl) (pi_range1 (by rfl) T.b_range (pa_cons (pe_calD c__law_draw (hr.mono (by first | decide | exact Nat.le_refl _)) (by rfl) (pa_cons (pv 0) (pa_cons pe_int pa_nil))) pa_nil)) (pg_name (i := 3) sc.nd rfl (Or.inl rfl)) (pss_one (ps_set (i := 2) sc.nd rfl (Or.inl rfl) (pe_calD c__law_spoilt (hr.mono (by first | decide | exact Nat.le_refl _)) (by rfl) (pa_cons (pv 0) (pa_cons (pv 2) pa_nil)))))) (pss_one (ps_ret (pv 2))))), fun ds M Q h => ?_⟩
    obtain ⟨a, st, most, rfl, hm, hok, h1, h3, hQ⟩ := h
    try dsimp only [cxOf, Cx.nox]
    refine stp_seq (stp_set ?_)
    walk_at "evs"
    refine ⟨a, st, most, rfl, hm, hok, h1, h3, ?_⟩
    intro ks st1 p1 hok1 hk1 hkm hko np1
    have hne : ∀ q, M q = none → q ≠ a := by
      intro q hq e
      rw [e, hm] at hq
      cases hq
    have swp : ∀ (q : Addr) (s1 s2 : DrSt) (l : List Da), M q = none → updM (updM (updM M a (.lst s1.l)) q (.lst l)) a (.lst s2.l) = updM (updM M a (.lst s2.l)) q (.lst l) := by
      intro q s1 s2 l hq
      rw [updM_comm (hne q hq), updM_updM]
    refine stp_seq (stp_for (js := [3]) (sr_range1 ?_))
    walk_at "evs"
    refine ⟨a, st1, 3, rfl, by rw [updM_ne (hne p1 np1).symm]; exact updM_same, hok1, by decide, by decide, ?_⟩
    intro r st2 hok2 hr
    rw [swp p1 _ _ _ np1]
    walk_at "evs"
    refine ⟨by omega, by omega, ?_⟩
    have hrn : ((r : Nat) : Int).toNat = r := by omega
    rw [hrn]
    refine ⟨fun i ρ' M' => ∃ (g : Prog) (st' : DrSt) (q : Addr) (x : Option Da), Gen i g ∧ g.keeps.length ≤ most ∧ st'.Ok ∧ M q = none ∧ ρ' = [some (.sc (.ref a)), some (iD most), some (.sc (.ref q)), x] ∧ updM (updM M a (.lst st'.l)) q (.lst (partsL g)) = M', ⟨rightP ks, st2, p1, none, .right ks hk1 (by omega) hko, hkm, hok2, np1, rfl, rfl⟩, ?_, ?_⟩
    · rintro i d ρ' M' hd ⟨g, st', q, x, hg, hgk, hok', nq, rfl, rfl⟩
      obtain ⟨hi, rfl⟩ := rngD_get hd
      refine ⟨_, tg_name, ?_⟩
      refine stp_frzL (i := 2) rfl updM_same ?_
      rw [delM_upd (by rw [updM_ne (hne q nq)]; exact nq)]
      walk_at "evs"
      refine ⟨a, st', g, rfl, updM_same, hok', gen_valid hg, ?_⟩
      intro n l st3 q2 hok3 hsp nq2
      rw [updM_updM]
      have nq2' : M q2 = none := by
        by_cases e : q2 = a
        · rw [e, updM_same] at nq2
          cases nq2
        · rw [updM_ne e] at nq2
          exact nq2
      have hk : (g.with n l).keeps = g.keeps := by cases n <;> rfl
      exact ⟨g.with n l, st3, q2, _, .spoil i g n l hg hsp, by rw [hk]; exact hgk, hok3, nq2', rfl, rfl⟩
    · rintro ρ' M' ⟨g, st', q, x, hg, hgk, hok', nq, rfl, rfl⟩
      rw [rngD_length] at hg
      walk_at "evs"
      exact hQ r g st' q hok' (by omega) hg hgk nq

theorem ok__law_any {P : Program} {w : World} {K : PySem.W.Frag} {mg : Str → Option Value} {base : Heap} {f : Addr} {fd : FuncData} (F : FnP K "_law_any" "_law_any" (top 51) f fd) (g : mg "_law_any" = some (.ref f)) (T : Tx w K mg) (c__law_right : Cal P w K mg base 3 "_law_right" ["_law_draws", "_law_most"] (S_law_right)) (c__law_spoilt : Cal P w K mg base 4 "_law_spoilt" ["_law_draws", "_law_parts"] (S_law_spoilt)) (c__law_draw : Cal P w K mg base 1 "_law_draw" ["_law_draws", "_law_many"] (S_law_draw))  : Cal P w K mg base 5 "_law_any" ["_law_draws", "_law_most"] (S_law_any) :=
  cal_mk F g (fn__law_any F T c__law_right c__law_spoilt c__law_draw) (F.bindsN fun _ _ _ _ _ _ us hl => match us, hl with | [_, _], _ => rfl)

theorem sc__law_spoilt : FnScope ["_law_draws", "_law_parts", "_law_at", "_law_steps_here", "_law_way", "_law_where", "_law_held", "_law_found"] ["_law_draws", "_law_parts"] (defScope (top 50)) := ⟨rfl, rfl, rfl, by decide +kernel, rfl, by decide +kernel, by decide +kernel⟩
theorem fn__law_spoilt {P : Program} {w : World} {K : PySem.W.Frag} {mg : Str → Option Value} {base : Heap} {f : Addr} {fd : FuncData} (F : FnP K "_law_spoilt" "_law_spoilt" (top 50) f fd) (T : Tx w K mg) (c__law_draw : Cal P w K mg base 1 "_law_draw" ["_law_draws", "_law_many"] (S_law_draw)) (c__law_step : Cal P w K mg base 3 "_law_step" ["_law_draws", "_law_keeps", "_law_at"] (S_law_step))  : FnOk P w K mg base CX0 4 f fd ["_law_draws", "_law_parts"] (spOf K (S_law_spoilt)) := by
  have sc := sc__law_spoilt
  refine ok_fn (k := 3) F sc (fun ds M Q h => ?_) (fun cdv A outer s H E hr => ?_)
  · obtain ⟨a, st, p, rfl, hm, hok, hv, hQ⟩ := h; rfl
  · have hu6 : A.units + 64 < cLine := by have := hr.un; show A.units + 64 < cLine; simp only [Around.deeper] at this; omega
    have hu := hu_of hr
    refine ⟨_, (pss_cons (ps_set (i := 2) sc.nd rfl (Or.inl rfl) (pe_op op_addA pe_int (pe_calD c__law_draw (hr.mono (by first | decide | exact Nat.le_refl _)) (by rfl) (pa_cons (pv 0) (pa_cons pe_int pa_nil))))) (pss_cons (ps_set (i := 3) sc.nd rfl (Or.inl rfl) (pe_callTy call_list_of (by rfl) T.b_list (by decide +kernel) (pa_cons (pe_ix ix_seq (pv 1) (pv 2) (fun _ _ => rfl)) pa_nil))) (pss_cons (ps_set (i := 4) sc.nd rfl (Or.inl rfl) (pe_calD c__law_draw (hr.mono (by first | decide | exact Nat.le_refl _)) (by rfl) (pa_cons (pv 0) (pa_cons pe_int pa_nil)))) (pss_cons (ps_set (i := 5) sc.nd rfl (Or.inl rfl) (pe_calD c__law_draw (hr.mono (by first | decide | exact Nat.le_refl _)) (by rfl) (pa_cons (pv 0) (pa_cons (pe_op op_addA (pe_callB call_len (by rfl) T.b_len (by decide +kernel) (pa_cons (pv 3) pa_nil)) pe_int) pa_nil)))) (pss_cons (ps_if (PW.pt (pw_and (pt_cmpR op_eq (pv 4) pe_int (nomark _)) (pw_and1 (pt_cmpR op_gt (pe_callB call_len (by rfl) T.b_len (by decide +kernel) (pa_cons (pv 3) pa_nil)) pe_int (nomark _))))) (pss_cons (ps_set (i := 6) sc.nd rfl (Or.inl rfl) (pe_bm PySem.F.plainAttrs_list PySem.F.slot_list_pop PySem.F.type_list_pop mt_popAt (pv 3) (pa_cons (pe_callB (call_min2 rfl) (by rfl) T.b_min (by decide +kernel) (pa_cons (pv 5) (pa_cons (pe_op op_sub (pe_callB call_len (by rfl) T.b_len (by decide +kernel) (pa_cons (pv 3) pa_nil)) pe_int) pa_nil))) pa_nil))) (pss_one (ps_expr (pe_bm PySem.F.plainAttrs_list PySem.F.slot_list_insert PySem.F.type_list_insert mt_insert (pv 3) (pa_cons (pe_calD c__law_draw (hr.mono (by first | decide | exact Nat.le_refl _)) (by rfl) (pa_cons (pv 0) (pa_cons (pe_op op_addA (pe_callB call_len (by rfl) T.b_len (by decide +kernel) (pa_cons (pv 3) pa_nil)) pe_int) pa_nil))) (pa_cons (pv 6) pa_nil)))))) (pss_one (ps_if (PW.pt (pw_and (pt_cmpR op_eq (pv 4) pe_int (nomark _)) (pw_and1 (pt_cmpR op_lt (pv 5) (pe_callB call_len (by rfl) T.b_len (by decide +kernel) (pa_cons (pv 3) pa_nil)) (nomark _))))) (pss_one (ps_expr (pe_bm PySem.F.plainAttrs_list PySem.F.slot_list_pop PySem.F.type_list_pop mt_popAt (pv 3) (pa_cons (pv 5) pa_nil)))) (pss_one (ps_if (PW.pt (pw_and (pt_cmpR op_le (pv 4) pe_int (nomark _)) (pw_and1 (pt_cmpR op_lt (pe_callB call_len (by rfl) T.b_len (by decide +kernel) (pa_cons (pv 3) pa_nil)) pe_int (nomark _))))) (pss_one (ps_expr (pe_bm PySem.F.plainAttrs_list PySem.F.slot_list_insert PySem.F.type_list_insert mt_insert (pv 3) (pa_cons (pv 5) (pa_cons (pe_calD c__law_step (hr.mono (by first | decide | exact Nat.le_refl _)) (by rfl) (pa_cons (pv 0) (pa_cons (pe_ix ix_seq (pv 1) pe_int (fun _ _ => rfl)) (pa_cons (pv 2) pa_nil)))) pa_nil))))) (pss_one (ps_if (pt_cmpR op_lt (pv 5) (pe_callB call_len (by rfl) T.b_len (by decide +kernel) (pa_cons (pv 3) pa_nil)) (nomark _)) (pss_one (ps_asg (pe_calD c__law_step (hr.mono (by first | decide | exact Nat.le_refl _)) (by rfl) (pa_cons (pv 0) (pa_cons (pe_ix ix_seq (pv 1) pe_int (fun _ _ => rfl)) (pa_cons (pv 2) pa_nil)))) (pg_sub (pv 3) (pv 5) set_list))) pss_nil))))))) (pss_cons (ps_set (i := 7) sc.nd rfl (Or.inl rfl) (pe_callTy call_list_of (by rfl) T.b_list (by decide +kernel) (pa_cons (pv 1) pa_nil))) (pss_cons (ps_asg (pv 3) (pg_sub (pv 7) (pv 2) set_list)) (pss_one (ps_ret (pv 7)))))))))), fun ds M Q h => ?_⟩
    obtain ⟨a, st, p, rfl, hm, hok, hv, hQ⟩ := h
    try dsimp only [cxOf, Cx.nox]
    walk_at "evs"
    refine ⟨a, st, 3, rfl, hm, hok, by decide, by decide, ?_⟩
    intro r st1 hok1 hr
    have hn : ∃ n : Pn, 1 + (r : Int) = (n.at_ : Nat) := by
      match r, hr with
      | 0, _ => exact ⟨.new, rfl⟩
      | 1, _ => exact ⟨.change, rfl⟩
      | 2, _ => exact ⟨.drop, rfl⟩
    obtain ⟨n, hn⟩ := hn
    generalize hL : p.steps n = L at *
    have hLl : L.length ≤ 6 := by rw [← hL]; exact hv.len n
    have hLo : ∀ s ∈ L, StepOk n p.keeps s := by rw [← hL]; exact hv.st n
    have hat : atI (partsL p) ((n.at_ : Nat) : Int) = some (.lst (L.map stepD)) := by rw [← hL]; cases n <;> rfl
    have hat0 : atI (partsL p) 0 = some (.lst (p.keeps.map keepD)) := rfl
    walk_at "evs"
    rw [hn]
    walk_at "evs"
    refine rcl_listM (show SeqAt (.lst (L.map stepD)) _ (L.map stepD) from rfl) ?_
    intro q hq
    have hqa : q ≠ a := by
      intro e
      rw [e, updM_same] at hq
      cases hq
    have hqM : M q = none := by rw [updM_ne hqa] at hq; exact hq
    have rd : ∀ (s1 : DrSt) (l : List Da), updM (updM M a (.lst s1.l)) q (.lst l) a = some (.lst s1.l) := fun s1 l => by rw [updM_ne hqa.symm]; exact updM_same
    have swp : ∀ (s1 s2 : DrSt) (l : List Da), updM (updM (updM M a (.lst s1.l)) q (.lst l)) a (.lst s2.l) = updM (updM M a (.lst s2.l)) q (.lst l) := by
      intro s1 s2 l
      rw [updM_comm hqa, updM_updM]
    walk_at "evs"
    refine ⟨a, st1, 5, rfl, rd _ _, hok1, by decide, by decide, ?_⟩
    intro way st2 hok2 hway
    rw [swp]
    walk_at "evs"
    refine rcl_len ⟨_, updM_same, rfl⟩ ?_
    walk_at "evs"
    refine ⟨a, st2, (L.map stepD).length + 1, rfl, rd _ _, hok2, by omega, by rw [List.length_map]; omega, ?_⟩
    intro wh st3 hok3 hwh
    rw [swp]
    rw [List.length_map] at hwh
    refine stp_cut (fun ρ' M' => ∃ (st' : DrSt) (l : List Step) (x : Option Da), Sp n p.keeps L l ∧ st'.Ok ∧ ρ' = [some (.sc (.ref a)), some (.lst (partsL p)), some (iD n.at_), some (.sc (.ref q)), some (iD way), some (iD wh), x, none] ∧ updM (updM M a (.lst st'.l)) q (.lst (l.map stepD)) = M') ?_ ?_
    · have hlq : ∀ (s1 : DrSt) (l : List Da), LenAt (.sc (.ref q)) (updM (updM M a (.lst s1.l)) q (.lst l)) l.length := fun s1 l => ⟨_, updM_same, rfl⟩
      -- the last two ways
      have last : ∀ {D : DE}, (∀ (st' : DrSt) (l : List Step) (x : Option Da), Sp n p.keeps L l → st'.Ok → D.nx [some (.sc (.ref a)), some (.lst (partsL p)), some (iD n.at_), some (.sc (.ref q)), some (iD way), some (iD wh), x, none] (updM (updM M a (.lst st'.l)) q (.lst (l.map stepD)))) →
          StP K (tIfS (tTest (tOp (rI0 fun i j => .bl (decide (i < j))) (tVar 5) (tCB (Dl.rLen K) (tCons (tVar 3) tNil)))) (tAsg (tCall (spOf K S_law_step) [] E0 (tCons (tVar 0) (tCons (tOp (rIx K) (tVar 1) (tC (.int 0))) (tCons (tVar 2) tNil)))) (gSub (tVar 3) (tVar 5) rSetL)) tNext)
            [some (.sc (.ref a)), some (.lst (partsL p)), some (iD n.at_), some (.sc (.ref q)), some (iD way), some (iD wh), none, none] (updM (updM M a (.lst st3.l)) q (.lst (L.map stepD))) D := by
        intro D hD
        walk_at "evs"
        refine rcl_len (hlq _ _) ?_
        walk_at "evs"
        rw [List.length_map]
        refine ifB (fun h => ?_) (fun h => ?_)
        · have hwl : wh < L.length := by have := of_decide_eq_true h; omega
          walk_at "evs"
          refine ⟨a, st3, p.keeps, n, rfl, rd _ _, hok3, hv.k1, hv.k3, hv.ok, ?_⟩
          intro s st4 hok4 hs
          rw [swp]
          walk_at "evs"
          refine rset_L (j := wh) updM_same ?_ ?_
          · unfold ixN
            rw [List.length_map, if_pos (by omega), if_pos (by omega), Int.toNat_natCast]
          rw [updM_updM, ← List.map_set]
          exact hD st4 (L.set wh s) none (.set wh s hwl hs) hok4
        · walk_at "evs"
          exact hD st3 L none .same hok3
      have mid : ∀ {D : DE}, (∀ (st' : DrSt) (l : List Step) (x : Option Da), Sp n p.keeps L l → st'.Ok → D.nx [some (.sc (.ref a)), some (.lst (partsL p)), some (iD n.at_), some (.sc (.ref q)), some (iD way), some (iD wh), x, none] (updM (updM M a (.lst st'.l)) q (.lst (l.map stepD)))) →
          StP K (tIfS (tAnd (tTest (tOp (rI0 fun i j => .bl (decide (i ≤ j))) (tVar 4) (tC (.int 3)))) (tTest (tOp (rI0 fun i j => .bl (decide (i < j))) (tCB (Dl.rLen K) (tCons (tVar 3) tNil)) (tC (.int 5)))))
              (tDrop (tBM K "list" rInsert (tVar 3) (tCons (tVar 5) (tCons (tCall (spOf K S_law_step) [] E0 (tCons (tVar 0) (tCons (tOp (rIx K) (tVar 1) (tC (.int 0))) (tCons (tVar 2) tNil)))) tNil))))
              (tIfS (tTest (tOp (rI0 fun i j => .bl (decide (i < j))) (tVar 5) (tCB (Dl.rLen K) (tCons (tVar 3) tNil)))) (tAsg (tCall (spOf K S_law_step) [] E0 (tCons (tVar 0) (tCons (tOp (rIx K) (tVar 1) (tC (.int 0))) (tCons (tVar 2) tNil)))) (gSub (tVar 3) (tVar 5) rSetL)) tNext))
            [some (.sc (.ref a)), some (.lst (partsL p)), some (iD n.at_), some (.sc (.ref q)), some (iD way), some (iD wh), none, none] (updM (updM M a (.lst st3.l)) q (.lst (L.map stepD))) D := by
        intro D hD
        walk_at "evs"
        refine ifB (fun h => ?_) (fun h => ?_)
        · walk_at "evs"
          refine rcl_len (hlq _ _) ?_
          walk_at "evs"
          rw [List.length_map]
          refine ifB (fun h5 => ?_) (fun h5 => last hD)
          have h5 : L.length < 5 := by have := of_decide_eq_true h5; omega
          walk_at "evs"
          refine ⟨_, _, rfl, updM_same, rfl, ?_⟩
          walk_at "evs"
          refine ⟨a, st3, p.keeps, n, rfl, rd _ _, hok3, hv.k1, hv.k3, hv.ok, ?_⟩
          intro s st4 hok4 hs
          rw [swp]
          walk_at "evs"
          refine rmt_insert updM_same (by rw [List.length_map]; omega) (by omega) (by omega) ?_
          rw [updM_updM, Int.toNat_natCast]
          have e : (L.map stepD).take wh ++ [stepD s] ++ (L.map stepD).drop wh = (L.take wh ++ [s] ++ L.drop wh).map stepD := by
            rw [List.map_append, List.map_append, List.map_take, List.map_drop]
            rfl
          rw [e]
          exact hD st4 _ none (.put wh s h5 hs) hok4
        · exact ifF rfl (last hD)
      have third : ∀ {D : DE}, (∀ (st' : DrSt) (l : List Step) (x : Option Da), Sp n p.keeps L l → st'.Ok → D.nx [some (.sc (.ref a)), some (.lst (partsL p)), some (iD n.at_), some (.sc (.ref q)), some (iD way), some (iD wh), x, none] (updM (updM M a (.lst st'.l)) q (.lst (l.map stepD)))) →
          StP K (tIfS (tAnd (tTest (tOp rEq (tVar 4) (tC (.int 1)))) (tTest (tOp (rI0 fun i j => .bl (decide (i < j))) (tVar 5) (tCB (Dl.rLen K) (tCons (tVar 3) tNil)))))
              (tDrop (tBM K "list" rPopAt (tVar 3) (tCons (tVar 5) tNil)))
              (tIfS (tAnd (tTest (tOp (rI0 fun i j => .bl (decide (i ≤ j))) (tVar 4) (tC (.int 3)))) (tTest (tOp (rI0 fun i j => .bl (decide (i < j))) (tCB (Dl.rLen K) (tCons (tVar 3) tNil)) (tC (.int 5)))))
              (tDrop (tBM K "list" rInsert (tVar 3) (tCons (tVar 5) (tCons (tCall (spOf K S_law_step) [] E0 (tCons (tVar 0) (tCons (tOp (rIx K) (tVar 1) (tC (.int 0))) (tCons (tVar 2) tNil)))) tNil))))
              (tIfS (tTest (tOp (rI0 fun i j => .bl (decide (i < j))) (tVar 5) (tCB (Dl.rLen K) (tCons (tVar 3) tNil)))) (tAsg (tCall (spOf K S_law_step) [] E0 (tCons (tVar 0) (tCons (tOp (rIx K) (tVar 1) (tC (.int 0))) (tCons (tVar 2) tNil)))) (gSub (tVar 3) (tVar 5) rSetL)) tNext)))
            [some (.sc (.ref a)), some (.lst (partsL p)), some (iD n.at_), some (.sc (.ref q)), some (iD way), some (iD wh), none, none] (updM (updM M a (.lst st3.l)) q (.lst (L.map stepD))) D := by
        intro D hD
        walk_at "evs"
        refine ifB (fun h => ?_) (fun h => ?_)
        · walk_at "evs"
          refine rcl_len (hlq _ _) ?_
          walk_at "evs"
          rw [List.length_map]
          refine ifB (fun h5 => ?_) (fun h5 => mid hD)
          have h5 : wh < L.length := by have := of_decide_eq_true h5; omega
          walk_at "evs"
          refine ⟨_, _, rfl, updM_same, rfl, ?_⟩
          walk_at "evs"
          refine rmt_popAt updM_same (by rw [List.getElem?_map, List.getElem?_eq_getElem h5] <;> rfl) (by rw [List.length_map]; omega) ?_
          rw [updM_updM, eraseIdx_mapD]
          exact hD st3 _ none (.out wh) hok3
        · exact ifF rfl (mid hD)
      walk_at "evs"
      refine ifB (fun h => ?_) (fun h => ?_)
      · walk_at "evs"
        refine rcl_len (hlq _ _) ?_
        walk_at "evs"
        rw [List.length_map]
        refine ifB (fun h5 => ?_) (fun h5 => by
          refine third ?_
          intro st' l x h1 h2
          exact ⟨st', l, x, h1, h2, rfl, rfl⟩)
        have h5 : 1 < L.length := by have := of_decide_eq_true h5; omega
        walk_at "evs"
        refine ⟨_, _, rfl, updM_same, rfl, ?_⟩
        walk_at "evs"
        refine rcl_len (hlq _ _) ?_
        walk_at "evs"
        rw [List.length_map]
        have hj : min (wh : Int) ((L.length : Int) - 1) = ((min wh (L.length - 1) : Nat) : Int) := by omega
        rw [hj]
        have hjl : min wh (L.length - 1) < L.length := by omega
        generalize min wh (L.length - 1) = j at hjl ⊢
        refine rmt_popAt (e := stepD L[j]) updM_same (by rw [List.getElem?_map, List.getElem?_eq_getElem hjl] <;> rfl) (by rw [List.length_map]; omega) ?_
        rw [updM_updM, eraseIdx_mapD]
        have hel : (L.eraseIdx j).length = L.length - 1 := List.length_eraseIdx_of_lt hjl
        walk_at "evs"
        refine ⟨_, _, rfl, updM_same, rfl, ?_⟩
        walk_at "evs"
        refine rcl_len (hlq _ _) ?_
        walk_at "evs"
        rw [List.length_map]
        refine ⟨a, st3, (L.eraseIdx j).length + 1, rfl, rd _ _, hok3, by omega, by omega, ?_⟩
        intro r5 st5 hok5 hr5
        rw [swp]
        walk_at "evs"
        refine rmt_insert updM_same (by rw [List.length_map]; omega) (by omega) (by omega) ?_
        rw [updM_updM, Int.toNat_natCast]
        have e : ((L.eraseIdx j).map stepD).take r5 ++ [stepD L[j]] ++ ((L.eraseIdx j).map stepD).drop r5 = ((L.eraseIdx j).take r5 ++ [L[j]] ++ (L.eraseIdx j).drop r5).map stepD := by
          rw [List.map_append, List.map_append, List.map_take, List.map_drop]
          rfl
        rw [e]
        exact ⟨st5, _, some (stepD L[j]), .move j r5 L[j] (List.getElem?_eq_getElem hjl) (by omega), hok5, rfl, rfl⟩
      · refine ifF rfl (third ?_)
        intro st' l x h1 h2
        exact ⟨st', l, x, h1, h2, rfl, rfl⟩
    · rintro ρ' M' ⟨st', l, x, hsp, hok', rfl, rfl⟩
      refine stp_frzL (i := 3) rfl updM_same ?_
      rw [delM_upd (by rw [updM_ne hqa]; exact hqM)]
      walk_at "evs"
      refine rcl_listM (show SeqAt (.lst (partsL p)) _ (partsL p) from rfl) ?_
      intro q2 hq2
      have hq2a : q2 ≠ a := by
        intro e
        rw [e, updM_same] at hq2
        cases hq2
      have hq2M : M q2 = none := by rw [updM_ne hq2a] at hq2; exact hq2
      walk_at "evs"
      refine rset_L (j := n.at_) updM_same ?_ ?_
      · cases n <;> rfl
      rw [updM_updM]
      walk_at "evs"
      have e : (partsL p).set n.at_ (.lst (l.map stepD)) = partsL (p.with n l) := by cases n <;> rfl
      rw [e]
      exact hQ n l st' q2 hok' (by rw [hL]; exact hsp) hq2M

theorem ok__law_spoilt {P : Program} {w : World} {K : PySem.W.Frag} {mg : Str → Option Value} {base : Heap} {f : Addr} {fd : FuncData} (F : FnP K "_law_spoilt" "_law_spoilt" (top 50) f fd) (g : mg "_law_spoilt" = some (.ref f)) (T : Tx w K mg) (c__law_draw : Cal P w K mg base 1 "_law_draw" ["_law_draws", "_law_many"] (S_law_draw)) (c__law_step : Cal P w K mg base 3 "_law_step" ["_law_draws", "_law_keeps", "_law_at"] (S_law_step))  : Cal P w K mg base 4 "_law_spoilt" ["_law_draws", "_law_parts"] (S_law_spoilt) :=
  cal_mk F g (fn__law_spoilt F T c__law_draw c__law_step) (F.bindsN fun _ _ _ _ _ _ us hl => match us, hl with | [_, _], _ => rfl)

theorem sc_nothing_kept : FnScope ["keeps", "keep"] ["keeps"] (defScope (top 26)) := ⟨rfl, rfl, rfl, by decide +kernel, rfl, by decide +kernel, by decide +kernel⟩
theorem fn_nothing_kept {P : Program} {w : World} {K : PySem.W.Frag} {mg : Str → Option Value} {base : Heap} {f : Addr} {fd : FuncData} (F : FnP K "nothing_kept" "nothing_kept" (top 26) f fd) (T : Tx w K mg)   : FnOk P w K mg base CX0 1 f fd ["keeps"] (spOf K (S_nothing_kept)) := by
  have sc := sc_nothing_kept
  refine ok_fn (k := 0) F sc (fun ds M Q h => ?_) (fun cdv A outer s H E hr => ?_)
  · obtain ⟨ks, rfl, h3, hQ⟩ := h; rfl
  · have hu6 : A.units + 64 < cLine := by have := hr.un; show A.units + 64 < cLine; simp only [Around.deeper] at this; omega
    have hu := hu_of hr
    obtain ⟨es_NOTHING, n_NOTHING, D_NOTHING⟩ := T.noth
    refine ⟨_, (pss_one (ps_ret (pe_lc (own := [("keep", 1)]) (by rfl) sc.nd (pi_seq (pv 0)) (blkOk_by (own := [("keep", 1)]) (N := ["keeps", "keep"]) (sc := defScope (top 26)) (by decide +kernel)) (fun _ _ _ _ _ => (pg_name (i := 1) sc.nd rfl (Or.inl rfl))) (fun _ _ _ _ _ => pts_nil) (fun _ _ _ _ _ => (k_pe_ixTab (K := K) D_NOTHING (pe_glob (v := .ref _) (by rfl) T.g_NOTHING rfl) (pe_ix (k_ix_seq (K := K)) (pv 1) pe_int (fun _ _ => rfl)) (fun _ _ => rfl)))))), fun ds M Q h => ?_⟩
    obtain ⟨ks, rfl, h3, hQ⟩ := h
    try dsimp only [cxOf, Cx.nox]
    refine stp_ret (ev_lcMap [1] (by decide) (sr_seq ?_))
    walk_at "evs"
    refine ⟨ks.map keepD, .inr rfl, (trueValues ks []).map Da.sc, by simp [trueValues], by simp [trueValues]; omega, ?_, hQ⟩
    intro i d e hd he
    rw [List.getElem?_map] at hd
    obtain ⟨k, hk, rfl⟩ := Option.map_eq_some_iff.mp hd
    unfold trueValues at he
    rw [List.getElem?_map, List.getElem?_map, hk] at he
    obtain rfl := Option.some.inj he
    refine ⟨_, tg_name, ?_⟩
    obtain ⟨u, hn, hv⟩ := T.v_NOTHING k.what
    walk_at "evs"
    refine rop_itemKD hn hv (fun F => rp_sc.mpr rfl) ?_
    exact ⟨by rw [nothing_true], rfl⟩

theorem ok_nothing_kept {P : Program} {w : World} {K : PySem.W.Frag} {mg : Str → Option Value} {base : Heap} {f : Addr} {fd : FuncData} (F : FnP K "nothing_kept" "nothing_kept" (top 26) f fd) (g : mg "nothing_kept" = some (.ref f)) (T : Tx w K mg)   : Cal P w K mg base 1 "nothing_kept" ["keeps"] (S_nothing_kept) :=
  cal_mk F g (fn_nothing_kept F T ) (F.bindsN fun _ _ _ _ _ _ us hl => match us, hl with | [_], _ => rfl)

theorem sc__law_true : FnScope ["_law_keep_here", "_law_things", "_law_numbers", "_law_thing"] ["_law_keep_here", "_law_things"] (defScope (top 53)) := ⟨rfl, rfl, rfl, by decide +kernel, rfl, by decide +kernel, by decide +kernel⟩
theorem fn__law_true {P : Program} {w : World} {K : PySem.W.Frag} {mg : Str → Option Value} {base : Heap} {f : Addr} {fd : FuncData} (F : FnP K "_law_true" "_law_true" (top 53) f fd) (T : Tx w K mg)   : FnOk P w K mg base CX0 1 f fd ["_law_keep_here", "_law_things"] (spOf K (S_law_true)) := by
  have sc := sc__law_true
  refine ok_fn (k := 0) F sc (fun ds M Q h => ?_) (fun cdv A outer s H E hr => ?_)
  · obtain ⟨k, ts, rfl, hl, hQ⟩ := h; rfl
  · have hu6 : A.units + 64 < cLine := by have := hr.un; show A.units + 64 < cLine; simp only [Around.deeper] at this; omega
    have hu := hu_of hr
    refine ⟨_, (pss_cons (ps_setLc (i := 2) (own := [("_law_thing", 3)]) (by rfl) sc.nd rfl rfl (sw_true rfl rfl rfl (by decide +kernel)) (pi_seq (pv 1)) (blkOk_by (own := [("_law_thing", 3)]) (N := ["_law_keep_here", "_law_things", "_law_numbers", "_law_thing"]) (sc := defScope (top 53)) (by decide +kernel)) (fun _ _ _ _ _ => (pg_name (i := 3) sc.nd rfl (Or.inl rfl))) (fun _ _ _ _ _ => (pts_one (PW.pt (pw_or (pt_cmpR op_isN1 (pe_ix (k_ix_seq (K := K)) (pv 0) pe_int (fun _ _ => rfl)) pe_non (nomark _)) (pw_or1 (pt_cmpR op_eq (pe_ix (k_ix_seq (K := K)) (pv 3) pe_int (fun _ _ => rfl)) (pe_ix (k_ix_seq (K := K)) (pv 0) pe_int (fun _ _ => rfl)) (nomark _))))))) (fun _ _ _ _ _ => (pe_ix (k_ix_seq (K := K)) (pv 3) pe_int (fun _ _ => rfl)))) (pss_cons (ps_if (pt_cmpR op_eq (pe_ix ix_seq (pv 0) pe_int (fun _ _ => rfl)) pe_str (nomark _)) (pss_one (ps_ret (pe_callB call_len (by rfl) T.b_len (by decide +kernel) (pa_cons (pv 2) pa_nil)))) pss_nil) (pss_cons (ps_if (pt_cmpR op_eq (pe_ix ix_seq (pv 0) pe_int (fun _ _ => rfl)) pe_str (nomark _)) (pss_one (ps_ret (pe_callB (cr_sum rfl) (by rfl) T.b_sum (by decide +kernel) (pa_cons (pv 2) pa_nil)))) pss_nil) (pss_cons (ps_if (pt_cmpR op_eq (pe_ix ix_seq (pv 0) pe_int (fun _ _ => rfl)) pe_str (nomark _)) (pss_one (ps_ret (pe_cmpR op_gt (pe_callB call_len (by rfl) T.b_len (by decide +kernel) (pa_cons (pv 2) pa_nil)) pe_int (nomark _)))) pss_nil) (pss_cons (ps_if (pt_cmpR op_eq (pe_callB call_len (by rfl) T.b_len (by decide +kernel) (pa_cons (pv 2) pa_nil)) pe_int (nomark _)) (pss_one (ps_ret pe_non)) pss_nil) (pss_one (ps_ret (pe_callB (cr_max rfl) (by rfl) T.b_max (by decide +kernel) (pa_cons (pv 2) pa_nil))))))))), fun ds M Q h => ?_⟩
    obtain ⟨k, ts, rfl, hl, hQ⟩ := h
    try dsimp only [cxOf, Cx.nox]
    obtain ⟨kw, kk⟩ := k
    refine stp_seq (stp_set (ev_lc (js := [3]) (by decide) (sr_seq ?_)))
    walk_at "evs"
    have keep : ∀ (t : Thing) (ρ : Env') (PB : Bool → MH → Prop), ρ[0]? = some (some (keepD ⟨kw, kk⟩)) → ρ[3]? = some (some (thingD t)) → PB (inKind kk t) M → TvP K (tOr (tTest (tOp rIsN (tOp (rIx K) (tVar 0) (tC (.int 1))) (tC .non))) (tTest (tOp rEq (tOp (rIx K) (tVar 3) (tC (.int 0))) (tOp (rIx K) (tVar 0) (tC (.int 1)))))) ρ M PB := by
      intro t ρ PB h0 h3 q
      refine tv_or (tv_test (ev_op (ev_op (ev_var h0 (ev_c (rop_ix_T rfl (ev_c (rop_isN ⟨_, rfl, ?_⟩))))))))
      cases kk with
      | none => exact q
      | some c =>
        refine tv_test (ev_op (ev_op (ev_var h3 (ev_c (rop_ix_T rfl (ev_op (ev_var h0 (ev_c (rop_ix_T rfl (rop_eq rfl ⟨_, rfl, ?_⟩))))))))))
        have e : decide (V.int t.1 = kindV (some c)) = decide (t.1 = c) := by simp [kindV]
        rw [e]
        exact q
    let nums : List Thing → List Int := fun us => numbersOf ⟨kw, kk⟩ us
    refine ⟨ts.map thingD, .inl rfl, fun i acc M' => acc = (nums (ts.take i)).map iD ∧ M = M', ⟨rfl, rfl⟩, ?_, ?_⟩
    · rintro i d acc M' hd ⟨ea, em⟩
      subst ea em
      rw [List.getElem?_map] at hd
      obtain ⟨t, ht, rfl⟩ := Option.map_eq_some_iff.mp hd
      refine ⟨_, tg_name, ?_⟩
      refine keep t _ _ rfl rfl ?_
      have hsp : nums (ts.take (i + 1)) = nums (ts.take i) ++ nums [t] := by
        rw [take_succ_some ht]
        exact numbersOf_snoc _ _ _
      have hb : (nums (ts.take i)).length ≤ i := Nat.le_trans (numbersOf_le ⟨kw, kk⟩ (ts.take i)) (by rw [List.length_take]; omega)
      have hi : i < ts.length := (List.getElem?_eq_some_iff.mp ht).1
      refine ifB (fun h => ?_) (fun h => ?_)
      · refine ⟨by rw [List.length_map]; omega, ?_⟩
        walk_at "evs"
        refine ⟨?_, rfl⟩
        have e1 : nums [t] = [t.2] := numbersOf_in h
        rw [hsp, e1, List.map_append]
        rfl
      · refine ⟨?_, rfl⟩
        have e1 : nums [t] = [] := numbersOf_out h
        rw [hsp, e1, List.append_nil]
    · rintro acc M' ⟨ea, em⟩
      subst ea em
      rw [List.length_map, List.take_length]
      have hlen : LenAt (.lst ((nums ts).map iD)) M (nums ts).length := (List.length_map ..).symm
      cases kw with
      | count =>
        walk_at "evs"
        rw [List.length_map]
        exact hQ
      | sum =>
        walk_at "evs"
        exact rcl_sum rfl hQ
      | any =>
        walk_at "evs"
        rw [List.length_map]
        have e : decide ((((nums ts).length : Nat) : Int) > 0) = decide (0 < (nums ts).length) := by simp
        have hQ : Q (.sc (.bl (decide (0 < (nums ts).length)))) M := hQ
        rw [← e] at hQ
        exact hQ
      | most =>
        have hQ : Q (.sc (maxV (nums ts))) M := hQ
        cases hn : nums ts with
        | nil =>
          rw [hn] at hQ
          walk_at "evs"
          exact hQ
        | cons x xs =>
          rw [hn] at hQ
          walk_at "evs"
          try refine ifF (decide_eq_false (fun z => by injection z with z; simp at z; omega)) ?_
          walk_at "evs"
          refine rcl_max rfl (Nat.succ_pos _) fun m hm hle => ?_
          have e : xs.foldl max x = m := maxV_eq hm hle
          have hQ : Q (.sc (.int (xs.foldl max x))) M := hQ
          rw [e] at hQ
          exact hQ

theorem ok__law_true {P : Program} {w : World} {K : PySem.W.Frag} {mg : Str → Option Value} {base : Heap} {f : Addr} {fd : FuncData} (F : FnP K "_law_true" "_law_true" (top 53) f fd) (g : mg "_law_true" = some (.ref f)) (T : Tx w K mg)   : Cal P w K mg base 1 "_law_true" ["_law_keep_here", "_law_things"] (S_law_true) :=
  cal_mk F g (fn__law_true F T ) (F.bindsN fun _ _ _ _ _ _ us hl => match us, hl with | [_, _], _ => rfl)

theorem sc__law_around : FnScope ["_law_state", "_law_thing"] ["_law_state"] (defScope (top 58)) := ⟨rfl, rfl, rfl, by decide +kernel, rfl, by decide +kernel, by decide +kernel⟩
theorem fn__law_around {P : Program} {w : World} {K : PySem.W.Frag} {mg : Str → Option Value} {base : Heap} {f : Addr} {fd : FuncData} (F : FnP K "_law_around" "_law_around" (top 58) f fd) (T : Tx w K mg)   : FnOk P w K mg base CX0 1 f fd ["_law_state"] (spOf K (S_law_around)) := by
  have sc := sc__law_around
  refine ok_fn (k := 0) F sc (fun ds M Q h => ?_) (fun cdv A outer s H E hr => ?_)
  · obtain ⟨s, t, kl, st, rfl, hS, hnd, hlen, hQ⟩ := h; rfl
  · have hu6 : A.units + 64 < cLine := by have := hr.un; show A.units + 64 < cLine; simp only [Around.deeper] at this; omega
    have hu := hu_of hr
    refine ⟨_, (pss_one (ps_ret (pe_lock (pe_lc (own := [("_law_thing", 1)]) (by rfl) sc.nd (pi_keys (pe_dget hu (pv 0) pe_str (fun _ _ => rfl))) (blkOk_by (own := [("_law_thing", 1)]) (N := ["_law_state", "_law_thing"]) (sc := defScope (top 58)) (by decide +kernel)) (fun _ _ _ _ _ => (pg_name (i := 1) sc.nd rfl (Or.inl rfl))) (fun _ _ _ _ _ => pts_nil) (fun _ _ _ _ _ => (pe_dget hu (pe_dget hu (pv 0) pe_str (fun _ _ => rfl)) (pv 1) (fun _ _ => rfl))))))), fun ds M Q h => ?_⟩
    obtain ⟨s, t, kl, st, rfl, hS, hnd, hlen, hQ⟩ := h
    try dsimp only [cxOf, Cx.nox]
    have hs := hS.hs
    have hs' : delM M t s = some (.dK (stD t st.made kl)) := by rw [delM_ne hS.ne]; exact hs
    refine stp_ret (ev_vals t (tbD st.tb) (by decide) hS.ht (tbD_get hnd) (by rw [tbD_len]; omega) (by exact Nat.le_of_ble_eq_true rfl) ?_ (fun k => ?_) ?_)
    · walk_at "evs"
      exact ⟨s, _, .inr "table", _, rfl, hs', rfl, rfl, rfl, rfl⟩
    · walk_at "evs"
      exact ⟨s, _, .inr "table", _, rfl, hs', rfl, rfl, rfl, rfl⟩
    rw [tbD_vals]
    exact hQ

theorem ok__law_around {P : Program} {w : World} {K : PySem.W.Frag} {mg : Str → Option Value} {base : Heap} {f : Addr} {fd : FuncData} (F : FnP K "_law_around" "_law_around" (top 58) f fd) (g : mg "_law_around" = some (.ref f)) (T : Tx w K mg)   : Cal P w K mg base 1 "_law_around" ["_law_state"] (S_law_around) :=
  cal_mk F g (fn__law_around F T ) (F.bindsN fun _ _ _ _ _ _ us hl => match us, hl with | [_], _ => rfl)

theorem sc__law_new : FnScope ["_law_parts", "_law_state", "_law_keep_here"] ["_law_parts"] (defScope (top 54)) := ⟨rfl, rfl, rfl, by decide +kernel, rfl, by decide +kernel, by decide +kernel⟩
theorem fn__law_new {P : Program} {w : World} {K : PySem.W.Frag} {mg : Str → Option Value} {base : Heap} {f : Addr} {fd : FuncData} (F : FnP K "_law_new" "_law_new" (top 54) f fd) (T : Tx w K mg) (c__law_true : Cal P w K mg base 1 "_law_true" ["_law_keep_here", "_law_things"] (S_law_true))  : FnOk P w K mg base CX0 2 f fd ["_law_parts"] (spOf K (S_law_new)) := by
  have sc := sc__law_new
  refine ok_fn (k := 1) F sc (fun ds M Q h => ?_) (fun cdv A outer s H E hr => ?_)
  · obtain ⟨pr, rfl, h3, hQ⟩ := h; rfl
  · have hu6 : A.units + 64 < cLine := by have := hr.un; show A.units + 64 < cLine; simp only [Around.deeper] at this; omega
    have hu := hu_of hr
    refine ⟨_, (pss_cons (ps_set (i := 1) sc.nd rfl (Or.inl rfl) pe_dnewK) (pss_cons (ps_dput hu (pv 1) pe_str pe_dnewK rfl) (pss_cons (ps_dput hu (pv 1) pe_str pe_int rfl) (pss_cons (ps_dput hu (pv 1) pe_str (pe_lc (own := [("_law_keep_here", 2)]) (by rfl) sc.nd (pi_seq (pe_ix ix_seq (pv 0) pe_int (fun _ _ => rfl))) (blkOk_by (own := [("_law_keep_here", 2)]) (N := ["_law_parts", "_law_state", "_law_keep_here"]) (sc := defScope (top 54)) (by decide +kernel)) (fun _ _ _ _ _ => (pg_name (i := 2) sc.nd rfl (Or.inl rfl))) (fun _ _ _ _ _ => pts_nil) (fun _ _ _ _ _ => (k_calD (K := K) c__law_true (hr.mono (by first | decide | exact Nat.le_refl _)) (by rfl) (pa_cons (pv 2) (pa_cons (pe_lst pa_nil) pa_nil))))) rfl) (pss_one (ps_ret (pv 1))))))), fun ds M Q h => ?_⟩
    obtain ⟨pr, rfl, h3, hQ⟩ := h
    try dsimp only [cxOf, Cx.nox]
    refine stp_seq (stp_set (ev_dnew fun s hs => ?_))
    refine stp_seq (stp_dput ?_)
    refine ev_dnew fun t ht => ?_
    have hst : s ≠ t := ne_N updM_same ht
    have htM : M t = none := by rw [updM_ne hst.symm] at ht; exact ht
    walk_at "evs"
    refine ⟨s, _, .inr "table", rfl, by rw [updM_ne hst]; exact updM_same, rfl, Nat.le_of_ble_eq_true rfl, ?_⟩
    refine stp_seq (stp_dput ?_)
    walk_at "evs"
    refine ⟨s, _, .inr "made", rfl, updM_same, rfl, Nat.le_of_ble_eq_true rfl, ?_⟩
    rw [updM_updM]
    refine stp_seq (stp_dput ?_)
    refine ev_lcM (js := [2]) (by decide) (sr_seq ?_)
    walk_at "evs"
    refine ⟨pr.keeps.map keepD, .inl rfl, fun i acc M' => acc = ((trueValues (pr.keeps.take i) []).map Da.sc) ∧ _ = M', ⟨rfl, rfl⟩, ?_, ?_⟩
    · rintro i d acc M' hd ⟨ea, em⟩
      subst ea em
      rw [List.getElem?_map] at hd
      obtain ⟨k, hk, rfl⟩ := Option.map_eq_some_iff.mp hd
      have hi : i < pr.keeps.length := (List.getElem?_eq_some_iff.mp hk).1
      refine ⟨_, tg_name, tv_yes ?_⟩
      rw [if_pos rfl]
      refine ⟨by unfold trueValues; rw [List.length_map, List.length_map, List.length_take]; omega, ?_⟩
      walk_at "evs"
      refine ⟨k, [], rfl, Nat.zero_le _, ?_⟩
      refine ⟨?_, rfl⟩
      rw [take_succ_some hk]
      unfold trueValues
      rw [List.map_append, List.map_append]
      rfl
    · rintro acc M' ⟨ea, em⟩
      subst ea em
      intro kl hkl
      rw [List.length_map, List.take_length]
      have hks : s ≠ kl := ne_N updM_same hkl
      have hkt : t ≠ kl := by
        rintro rfl
        simp [updM, hst.symm] at hkl
      have hkM : M kl = none := by simpa [updM, hks.symm, hkt.symm] using hkl
      walk_at "evs"
      refine ⟨s, _, .inr "kept", rfl, by rw [updM_ne hks]; exact updM_same, rfl, Nat.le_of_ble_eq_true rfl, ?_⟩
      have hsM : M s = none := hs
      walk_at "evs"
      refine hQ s t kl _ ⟨updM_same, ?_, ?_, hst⟩ (fun a o hn e => ?_) hsM htM hkM
      · simp [updM, hst.symm, hkt]
        rfl
      · simp [updM, hks.symm]
        rfl
      · simp [updM, ne_N e hsM, ne_N e htM, ne_N e hkM, e]

theorem ok__law_new {P : Program} {w : World} {K : PySem.W.Frag} {mg : Str → Option Value} {base : Heap} {f : Addr} {fd : FuncData} (F : FnP K "_law_new" "_law_new" (top 54) f fd) (g : mg "_law_new" = some (.ref f)) (T : Tx w K mg) (c__law_true : Cal P w K mg base 1 "_law_true" ["_law_keep_here", "_law_things"] (S_law_true))  : Cal P w K mg base 2 "_law_new" ["_law_parts"] (S_law_new) :=
  cal_mk F g (fn__law_new F T c__law_true) (F.bindsN fun _ _ _ _ _ _ us hl => match us, hl with | [_], _ => rfl)

theorem sc__law_holds : FnScope ["_law_kept", "_law_test", "_law_elder", "_law_newer"] ["_law_kept", "_law_test", "_law_elder", "_law_newer"] (defScope (top 56)) := ⟨rfl, rfl, rfl, by decide +kernel, rfl, by decide +kernel, by decide +kernel⟩
theorem fn__law_holds {P : Program} {w : World} {K : PySem.W.Frag} {mg : Str → Option Value} {base : Heap} {f : Addr} {fd : FuncData} (F : FnP K "_law_holds" "_law_holds" (top 56) f fd) (T : Tx w K mg)   : FnOk P w K mg base CX0 1 f fd ["_law_kept", "_law_test", "_law_elder", "_law_newer"] (spOf K (S_law_holds)) := by
  have sc := sc__law_holds
  refine ok_fn (k := 0) F sc (fun ds M Q h => ?_) (fun cdv A outer s H E hr => ?_)
  · obtain ⟨kl, d, am, n, t, rfl, hl, hok, hty, ht, hQ⟩ := h; rfl
  · have hu6 : A.units + 64 < cLine := by have := hr.un; show A.units + 64 < cLine; simp only [Around.deeper] at this; omega
    have hu := hu_of hr
    refine ⟨_, (pss_cons (ps_if (pt_cmpR op_eq (pe_ix ix_seq (pv 1) pe_int (fun _ _ => rfl)) pe_str (nomark _)) (pss_one (ps_ret (pe_cmpR op_eq (pe_ix ix_seq (pv 2) pe_int (fun _ _ => rfl)) (pe_ix ix_seq (pv 1) pe_int (fun _ _ => rfl)) (nomark _)))) pss_nil) (pss_cons (ps_if (pt_cmpR op_eq (pe_ix ix_seq (pv 1) pe_int (fun _ _ => rfl)) pe_str (nomark _)) (pss_one (ps_ret (pe_cmpR op_eq (pe_ix ix_seq (pv 3) pe_int (fun _ _ => rfl)) (pe_ix ix_seq (pv 1) pe_int (fun _ _ => rfl)) (nomark _)))) pss_nil) (pss_cons (ps_if (pt_cmpR op_eq (pe_ix ix_seq (pv 1) pe_int (fun _ _ => rfl)) pe_str (nomark _)) (pss_one (ps_ret (pe_cmpR op_ne (pe_ix ix_seq (pv 2) pe_int (fun _ _ => rfl)) (pe_ix ix_seq (pv 3) pe_int (fun _ _ => rfl)) (nomark _)))) pss_nil) (pss_cons (ps_if (pt_cmpR op_eq (pe_ix ix_seq (pv 1) pe_int (fun _ _ => rfl)) pe_str (nomark _)) (pss_one (ps_ret (pe_cmpR op_eq (pe_ix ix_seq (pv 0) (pe_ix ix_seq (pv 1) pe_int (fun _ _ => rfl)) (fun _ _ => rfl)) pe_int (nomark _)))) pss_nil) (pss_one (ps_ret (pe_cmpR op_eq (pe_ix ix_seq (pv 0) (pe_ix ix_seq (pv 1) pe_int (fun _ _ => rfl)) (fun _ _ => rfl)) (pe_ix ix_seq (pv 2) pe_int (fun _ _ => rfl)) (nomark _)))))))), fun ds M Q h => ?_⟩
    obtain ⟨kl, d, am, n, t, rfl, hl, hok, hty, ht, hQ⟩ := h
    try dsimp only [cxOf, Cx.nox]
    obtain ⟨ks, ar, el, nw⟩ := d
    obtain ⟨h3, hel, hnw⟩ := hok
    have el_ : n ≠ .new → ∃ t, el = some t := hel
    have nw_ : n ≠ .drop → ∃ t, nw = some t := hnw
    cases t with
    | elder c =>
      obtain ⟨z, rfl⟩ := el_ ht.1
      walk_at "evs"
      rw [decInt]
      exact hQ
    | newer c =>
      obtain ⟨z, rfl⟩ := nw_ ht.1
      walk_at "evs"
      rw [decInt]
      exact hQ
    | moved =>
      have hn : n = .change := ht
      subst hn
      obtain ⟨z, rfl⟩ := el_ (by decide)
      obtain ⟨y, rfl⟩ := nw_ (by decide)
      walk_at "evs"
      rw [decInt]
      exact hQ
    | none k =>
      obtain ⟨kp, hk, hw⟩ := ht
      obtain ⟨v, hv, tv⟩ := hty.at_ hk
      rw [hw] at tv
      obtain ⟨z, rfl⟩ := tv
      have hat : atI (am.map Da.sc) (k : Int) = some (iD z) := atI_nat (by rw [List.getElem?_map, hv] <;> rfl)
      walk_at "evs"
      try refine rop_ix_M hl hat ?_
      walk_at "evs"
      have e : holds ⟨ks, ar, el, nw⟩ am (.none k) = decide (V.int z = V.int 0) := by
        show decide (at_ am k = .int 0) = _
        rw [at_some hv]
      rw [e] at hQ
      exact hQ
    | top k =>
      obtain ⟨hn, kp, hk, hw⟩ := ht
      obtain ⟨y, rfl⟩ := el_ hn
      obtain ⟨v, hv, tv⟩ := hty.at_ hk
      rw [hw] at tv
      have hat : atI (am.map Da.sc) (k : Int) = some (.sc v) := atI_nat (by rw [List.getElem?_map, hv] <;> rfl)
      walk_at "evs"
      try refine rop_ix_M hl hat ?_
      walk_at "evs"
      have e : holds ⟨ks, ar, some y, nw⟩ am (.top k) = decide (v = V.int y.2) := by
        show decide (at_ am k = .int y.2) = _
        rw [at_some hv]
      rw [e] at hQ
      refine rop_eq ?_ hQ
      rcases tv with rfl | ⟨z, rfl⟩ <;> rfl

theorem ok__law_holds {P : Program} {w : World} {K : PySem.W.Frag} {mg : Str → Option Value} {base : Heap} {f : Addr} {fd : FuncData} (F : FnP K "_law_holds" "_law_holds" (top 56) f fd) (g : mg "_law_holds" = some (.ref f)) (T : Tx w K mg)   : Cal P w K mg base 1 "_law_holds" ["_law_kept", "_law_test", "_law_elder", "_law_newer"] (S_law_holds) :=
  cal_mk F g (fn__law_holds F T ) (F.bindsN fun _ _ _ _ _ _ us hl => match us, hl with | [_, _, _, _], _ => rfl)

theorem sc__law_touched : FnScope ["_law_keeps", "_law_kept", "_law_step_here", "_law_elder", "_law_newer", "_law_around_here", "_law_k", "_law_amount"] ["_law_keeps", "_law_kept", "_law_step_here", "_law_elder", "_law_newer", "_law_around_here"] (defScope (top 57)) := ⟨rfl, rfl, rfl, by decide +kernel, rfl, by decide +kernel, by decide +kernel⟩
theorem fn__law_touched {P : Program} {w : World} {K : PySem.W.Frag} {mg : Str → Option Value} {base : Heap} {f : Addr} {fd : FuncData} (F : FnP K "_law_touched" "_law_touched" (top 57) f fd) (T : Tx w K mg) (c__law_true : Cal P w K mg base 1 "_law_true" ["_law_keep_here", "_law_things"] (S_law_true))  : FnOk P w K mg base CX0 2 f fd ["_law_keeps", "_law_kept", "_law_step_here", "_law_elder", "_law_newer", "_law_around_here"] (spOf K (S_law_touched)) := by
  have sc := sc__law_touched
  refine ok_fn (k := 1) F sc (fun ds M Q h => ?_) (fun cdv A outer s H E hr => ?_)
  · obtain ⟨l, d, am, n, t, rfl, hl, hok, hty, ht, har, hQ⟩ := h; rfl
  · have hu6 : A.units + 64 < cLine := by have := hr.un; show A.units + 64 < cLine; simp only [Around.deeper] at this; omega
    have hu := hu_of hr
    refine ⟨_, (pss_cons (ps_set (i := 6) sc.nd rfl (Or.inl rfl) (pe_ix ix_seq (pv 2) pe_int (fun _ _ => rfl))) (pss_cons (ps_if (pt_cmpR op_in_seq (pe_ix ix_seq (pv 2) pe_int (fun _ _ => rfl)) (pe_tup (pa_cons pe_str (pa_cons pe_str pa_nil))) (by rfl)) (pss_cons (ps_set (i := 7) sc.nd rfl (Or.inl rfl) pe_int) (pss_cons (ps_if (pt_cmpR op_eq (pe_ix ix_seq (pv 2) pe_int (fun _ _ => rfl)) pe_str (nomark _)) (pss_one (ps_set (i := 7) sc.nd rfl (Or.inl rfl) (pe_ix ix_seq (pv 3) pe_int (fun _ _ => rfl)))) pss_nil) (pss_cons (ps_if (pt_cmpR op_eq (pe_ix ix_seq (pv 2) pe_int (fun _ _ => rfl)) pe_str (nomark _)) (pss_one (ps_set (i := 7) sc.nd rfl (Or.inl rfl) (pe_ix ix_seq (pv 4) pe_int (fun _ _ => rfl)))) pss_nil) (pss_cons (ps_if (pt_cmpR op_eq (pe_ix ix_seq (pv 2) pe_int (fun _ _ => rfl)) pe_str (nomark _)) (pss_one (ps_set (i := 7) sc.nd rfl (Or.inl rfl) (pe_op op_sub pe_int (pv 7)))) pss_nil) (pss_one (ps_asg (pe_op op_addA (pe_ix ix_seq (pv 1) (pv 6) (fun _ _ => rfl)) (pv 7)) (pg_sub (pv 1) (pv 6) set_list))))))) pss_nil) (pss_cons (ps_if (PW.pt (pw_and (pt_cmpR op_eq (pe_ix ix_seq (pv 2) pe_int (fun _ _ => rfl)) pe_str (nomark _)) (pw_and1 (PW.pt (pw_or (pt_cmpR op_isN1 (pe_ix ix_seq (pv 1) (pv 6) (fun _ _ => rfl)) pe_non (nomark _)) (pw_or1 (pt_cmpR op_lt (pe_ix ix_seq (pv 1) (pv 6) (fun _ _ => rfl)) (pe_ix ix_seq (pv 4) pe_int (fun _ _ => rfl)) (nomark _)))))))) (pss_one (ps_asg (pe_ix ix_seq (pv 4) pe_int (fun _ _ => rfl)) (pg_sub (pv 1) (pv 6) set_list))) pss_nil) (pss_cons (ps_if (pt_cmpR op_eq (pe_ix ix_seq (pv 2) pe_int (fun _ _ => rfl)) pe_str (nomark _)) (pss_one (ps_asg pe_bl (pg_sub (pv 1) (pv 6) set_list))) pss_nil) (pss_cons (ps_if (pt_cmpR op_eq (pe_ix ix_seq (pv 2) pe_int (fun _ _ => rfl)) pe_str (nomark _)) (pss_one (ps_asg (pe_calD c__law_true (hr.mono (by first | decide | exact Nat.le_refl _)) (by rfl) (pa_cons (pe_ix ix_seq (pv 0) (pv 6) (fun _ _ => rfl)) (pa_cons (pe_lst pa_nil) pa_nil))) (pg_sub (pv 1) (pv 6) set_list))) pss_nil) (pss_one (ps_if (pt_cmpR op_eq (pe_ix ix_seq (pv 2) pe_int (fun _ _ => rfl)) pe_str (nomark _)) (pss_one (ps_asg (pe_calD c__law_true (hr.mono (by first | decide | exact Nat.le_refl _)) (by rfl) (pa_cons (pe_ix ix_seq (pv 0) (pv 6) (fun _ _ => rfl)) (pa_cons (pv 5) pa_nil))) (pg_sub (pv 1) (pv 6) set_list))) pss_nil))))))), fun ds M Q h => ?_⟩
    obtain ⟨l, d, am, n, t, rfl, hl, hok, hty, ht, har, hQ⟩ := h
    try dsimp only [cxOf, Cx.nox]
    have put : ∀ (k : Nat) (v : Da) (kp : Keep) (ρ : Env') (D : DE), d.keeps[k]? = some kp → D.nx ρ (updM M l (.lst ((am.map Da.sc).set k v))) → RSet K rSetL (.sc (.ref l)) (iD k) v M fun M3 => D.nx ρ M3 := by
      intro k v kp ρ D hk q
      have hkl : k < am.length := by rw [hty.len]; exact (List.getElem?_eq_some_iff.mp hk).1
      refine rset_L (j := k) hl ?_ q
      unfold ixN
      rw [List.length_map, if_pos (by omega), if_pos (by omega), Int.toNat_natCast]
    cases t with
    | add k s =>
      obtain ⟨hs, kp, hk, hw⟩ := ht
      obtain ⟨v, hv, tv⟩ := hty.at_ hk
      have tv' : ∃ z, v = .int z := by
        rcases hw with hw | ⟨hw, _⟩ <;> rw [hw] at tv <;> exact tv
      obtain ⟨z, rfl⟩ := tv'
      have hat : atI (am.map Da.sc) (k : Int) = some (iD z) := atI_nat (by rw [List.getElem?_map, hv] <;> rfl)
      have e : (touch d am (.add k s)).map Da.sc = (am.map Da.sc).set k (iD (z +  amt d s)) := by
        show (am.set k (addV (at_ am k) (amt d s))).map Da.sc = _
        rw [at_some hv, List.map_set]
        rfl
      rw [e] at hQ
      obtain ⟨ks, ar, el, nw⟩ := d
      obtain ⟨h3, hel, hnw⟩ := hok
      cases s with
      | one =>
        walk_at "evs"
        refine put k _ kp _ _ hk ?_
        walk_at "evs"
        exact hQ
      | elder =>
        obtain ⟨y, hy⟩ := hel (hs.1 rfl)
        have hy : el = some y := hy
        subst hy
        walk_at "evs"
        refine put k _ kp _ _ hk ?_
        walk_at "evs"
        exact hQ
      | newer =>
        obtain ⟨y, hy⟩ := hnw (hs.2 rfl)
        have hy : nw = some y := hy
        subst hy
        walk_at "evs"
        refine put k _ kp _ _ hk ?_
        walk_at "evs"
        exact hQ
    | less k s =>
      obtain ⟨hs, kp, hk, hw⟩ := ht
      obtain ⟨v, hv, tv⟩ := hty.at_ hk
      have tv' : ∃ z, v = .int z := by
        rcases hw with hw | ⟨hw, _⟩ <;> rw [hw] at tv <;> exact tv
      obtain ⟨z, rfl⟩ := tv'
      have hat : atI (am.map Da.sc) (k : Int) = some (iD z) := atI_nat (by rw [List.getElem?_map, hv] <;> rfl)
      have e : (touch d am (.less k s)).map Da.sc = (am.map Da.sc).set k (iD (z + (0 - amt d s))) := by
        show (am.set k (subV (at_ am k) (amt d s))).map Da.sc = _
        rw [at_some hv, List.map_set]
        show _ = List.set _ k (iD (z + (0 - amt d s))); rw [show z + (0 - amt d s) = z - amt d s by omega]; rfl
      rw [e] at hQ
      obtain ⟨ks, ar, el, nw⟩ := d
      obtain ⟨h3, hel, hnw⟩ := hok
      cases s with
      | one =>
        walk_at "evs"
        refine put k _ kp _ _ hk ?_
        walk_at "evs"
        exact hQ
      | elder =>
        obtain ⟨y, hy⟩ := hel (hs.1 rfl)
        have hy : el = some y := hy
        subst hy
        walk_at "evs"
        refine put k _ kp _ _ hk ?_
        walk_at "evs"
        exact hQ
      | newer =>
        obtain ⟨y, hy⟩ := hnw (hs.2 rfl)
        have hy : nw = some y := hy
        subst hy
        walk_at "evs"
        refine put k _ kp _ _ hk ?_
        walk_at "evs"
        exact hQ
    | lift k =>
      obtain ⟨hn, kp, hk, hw⟩ := ht
      obtain ⟨v, hv, tv⟩ := hty.at_ hk
      obtain ⟨ks, ar, el, nw⟩ := d
      obtain ⟨h3, hel, hnw⟩ := hok
      obtain ⟨y, hy⟩ := hnw hn
      have hy : nw = some y := hy
      subst hy
      rw [hw] at tv
      have hat : atI (am.map Da.sc) (k : Int) = some (.sc v) := atI_nat (by rw [List.getElem?_map, hv] <;> rfl)
      have e : (touch ⟨ks, ar, el, some y⟩ am (.lift k)).map Da.sc = (am.map Da.sc).set k (.sc (liftV v y.2)) := by
        show (am.set k (liftV (at_ am k) y.2)).map Da.sc = _
        rw [at_some hv, List.map_set]
      rw [e] at hQ
      walk_at "evs"
      try refine rop_ix_M hl hat ?_
      walk_at "evs"
      rcases tv with rfl | ⟨z, rfl⟩
      · walk_at "evs"
        refine put k _ kp _ _ hk ?_
        walk_at "evs"
        exact hQ
      · walk_at "evs"
        try refine rop_ix_M hl hat ?_
        walk_at "evs"
        have hQ' : Q (.sc .non) (updM M l (.lst ((am.map Da.sc).set k (.sc (if z < y.2 then V.int y.2 else V.int z))))) := hQ
        refine ifB (fun h => ?_) (fun h => ?_)
        · rw [if_pos (of_decide_eq_true h)] at hQ'
          walk_at "evs"
          refine put k _ kp _ _ hk ?_
          walk_at "evs"
          exact hQ'
        · rw [if_neg (of_decide_eq_false h)] at hQ'
          walk_at "evs"
          have e2 : (am.map Da.sc).set k (.sc (.int z)) = am.map Da.sc := by
            rw [← List.map_set]
            congr 1
            exact set_same hv
          rw [e2, updM_id hl] at hQ'
          exact hQ'
    | mark k =>
      obtain ⟨kp, hk, hw⟩ := ht
      have e : (touch d am (.mark k)).map Da.sc = (am.map Da.sc).set k (.sc (.bl true)) := by
        rw [← List.map_set]
        rfl
      rw [e] at hQ
      walk_at "evs"
      refine put k _ kp _ _ hk ?_
      walk_at "evs"
      exact hQ
    | empty k =>
      obtain ⟨kp, hk⟩ := ht
      have e : (touch d am (.empty k)).map Da.sc = (am.map Da.sc).set k (.sc (nothing (d.keep k).what)) := by
        rw [← List.map_set]
        rfl
      rw [e] at hQ
      rw [keep_at hk, nothing_true] at hQ
      have hat : atI (d.keeps.map keepD) (k : Int) = some (keepD kp) := atI_nat (by rw [List.getElem?_map, hk] <;> rfl)
      walk_at "evs"
      try refine rop_ix_L hat ?_
      walk_at "evs"
      refine ⟨kp, [], rfl, Nat.zero_le _, ?_⟩
      walk_at "evs"
      refine put k _ kp _ _ hk ?_
      walk_at "evs"
      exact hQ
    | again k =>
      obtain ⟨kp, hk⟩ := ht
      have e : (touch d am (.again k)).map Da.sc = (am.map Da.sc).set k (.sc (trueValue (d.keep k) d.around)) := by
        rw [← List.map_set]
        rfl
      rw [e] at hQ
      rw [keep_at hk] at hQ
      have hat : atI (d.keeps.map keepD) (k : Int) = some (keepD kp) := atI_nat (by rw [List.getElem?_map, hk] <;> rfl)
      walk_at "evs"
      try refine rop_ix_L hat ?_
      walk_at "evs"
      refine ⟨kp, d.around, rfl, har, ?_⟩
      walk_at "evs"
      refine put k _ kp _ _ hk ?_
      walk_at "evs"
      exact hQ

theorem ok__law_touched {P : Program} {w : World} {K : PySem.W.Frag} {mg : Str → Option Value} {base : Heap} {f : Addr} {fd : FuncData} (F : FnP K "_law_touched" "_law_touched" (top 57) f fd) (g : mg "_law_touched" = some (.ref f)) (T : Tx w K mg) (c__law_true : Cal P w K mg base 1 "_law_true" ["_law_keep_here", "_law_things"] (S_law_true))  : Cal P w K mg base 2 "_law_touched" ["_law_keeps", "_law_kept", "_law_step_here", "_law_elder", "_law_newer", "_law_around_here"] (S_law_touched) :=
  cal_mk F g (fn__law_touched F T c__law_true) (F.bindsN fun _ _ _ _ _ _ us hl => match us, hl with | [_, _, _, _, _, _], _ => rfl)

theorem sc__law_trues : FnScope ["_law_state", "_law_parts", "_law_keep_here"] ["_law_state", "_law_parts"] (defScope (top 61)) := ⟨rfl, rfl, rfl, by decide +kernel, rfl, by decide +kernel, by decide +kernel⟩
theorem fn__law_trues {P : Program} {w : World} {K : PySem.W.Frag} {mg : Str → Option Value} {base : Heap} {f : Addr} {fd : FuncData} (F : FnP K "_law_trues" "_law_trues" (top 61) f fd) (T : Tx w K mg) (c__law_true : Cal P w K mg base 1 "_law_true" ["_law_keep_here", "_law_things"] (S_law_true)) (c__law_around : Cal P w K mg base 1 "_law_around" ["_law_state"] (S_law_around))  : FnOk P w K mg base CX0 2 f fd ["_law_state", "_law_parts"] (spOf K (S_law_trues)) := by
  have sc := sc__law_trues
  refine ok_fn (k := 1) F sc (fun ds M Q h => ?_) (fun cdv A outer s H E hr => ?_)
  · obtain ⟨s, t, kl, st, pr, rfl, hS, h3, hnd, hlen, hQ⟩ := h; rfl
  · have hu6 : A.units + 64 < cLine := by have := hr.un; show A.units + 64 < cLine; simp only [Around.deeper] at this; omega
    have hu := hu_of hr
    refine ⟨_, (pss_one (ps_ret (pe_lc (own := [("_law_keep_here", 2)]) (by rfl) sc.nd (pi_seq (pe_ix ix_seq (pv 1) pe_int (fun _ _ => rfl))) (blkOk_by (own := [("_law_keep_here", 2)]) (N := ["_law_state", "_law_parts", "_law_keep_here"]) (sc := defScope (top 61)) (by decide +kernel)) (fun _ _ _ _ _ => (pg_name (i := 2) sc.nd rfl (Or.inl rfl))) (fun _ _ _ _ _ => pts_nil) (fun _ _ _ _ _ => (k_calD (K := K) c__law_true (hr.mono (by first | decide | exact Nat.le_refl _)) (by rfl) (pa_cons (pv 2) (pa_cons (k_calD (K := K) c__law_around (hr.mono (by first | decide | exact Nat.le_refl _)) (by rfl) (pa_cons (pv 0) pa_nil)) pa_nil))))))), fun ds M Q h => ?_⟩
    obtain ⟨s, t, kl, st, pr, rfl, hS, h3, hnd, hlen, hQ⟩ := h
    try dsimp only [cxOf, Cx.nox]
    refine stp_ret (ev_lcMap [2] (by decide) (sr_seq ?_))
    walk_at "evs"
    refine ⟨pr.keeps.map keepD, .inl rfl, (trueValues pr.keeps st.things).map Da.sc, by simp [trueValues], by simp [trueValues]; omega, ?_, hQ⟩
    intro i d e hd he
    rw [List.getElem?_map] at hd
    obtain ⟨k, hk, rfl⟩ := Option.map_eq_some_iff.mp hd
    unfold trueValues at he
    rw [List.getElem?_map, List.getElem?_map, hk] at he
    obtain rfl := Option.some.inj he
    refine ⟨_, tg_name, ?_⟩
    walk_at "evs"
    refine ⟨s, t, kl, st, rfl, hS, hnd, hlen, ?_⟩
    walk_at "evs"
    exact ⟨k, st.things, rfl, by unfold LgS.things; rw [List.length_map]; omega, rfl, rfl⟩

theorem ok__law_trues {P : Program} {w : World} {K : PySem.W.Frag} {mg : Str → Option Value} {base : Heap} {f : Addr} {fd : FuncData} (F : FnP K "_law_trues" "_law_trues" (top 61) f fd) (g : mg "_law_trues" = some (.ref f)) (T : Tx w K mg) (c__law_true : Cal P w K mg base 1 "_law_true" ["_law_keep_here", "_law_things"] (S_law_true)) (c__law_around : Cal P w K mg base 1 "_law_around" ["_law_state"] (S_law_around))  : Cal P w K mg base 2 "_law_trues" ["_law_state", "_law_parts"] (S_law_trues) :=
  cal_mk F g (fn__law_trues F T c__law_true c__law_around) (F.bindsN fun _ _ _ _ _ _ us hl => match us, hl with | [_, _], _ => rfl)

theorem sc__law_steps : FnScope ["_law_state", "_law_parts", "_law_at", "_law_elder", "_law_newer", "_law_around_here", "_law_step_here"] ["_law_state", "_law_parts", "_law_at", "_law_elder", "_law_newer"] (defScope (top 59)) := ⟨rfl, rfl, rfl, by decide +kernel, rfl, by decide +kernel, by decide +kernel⟩
theorem fn__law_steps {P : Program} {w : World} {K : PySem.W.Frag} {mg : Str → Option Value} {base : Heap} {f : Addr} {fd : FuncData} (F : FnP K "_law_steps" "_law_steps" (top 59) f fd) (T : Tx w K mg) (c__law_around : Cal P w K mg base 1 "_law_around" ["_law_state"] (S_law_around)) (c__law_touched : Cal P w K mg base 2 "_law_touched" ["_law_keeps", "_law_kept", "_law_step_here", "_law_elder", "_law_newer", "_law_around_here"] (S_law_touched)) (c__law_holds : Cal P w K mg base 1 "_law_holds" ["_law_kept", "_law_test", "_law_elder", "_law_newer"] (S_law_holds))  : FnOk P w K mg base CX0 3 f fd ["_law_state", "_law_parts", "_law_at", "_law_elder", "_law_newer"] (spOf K (S_law_steps)) := by
  have sc := sc__law_steps
  refine ok_fn (k := 2) F sc (fun ds M Q h => ?_) (fun cdv A outer s H E hr => ?_)
  · obtain ⟨s, t, kl, st, pr, n, el, nw, rfl, hS, hv, hok, hty, hnd, hlen, hQ⟩ := h; rfl
  · have hu6 : A.units + 64 < cLine := by have := hr.un; show A.units + 64 < cLine; simp only [Around.deeper] at this; omega
    have hu := hu_of hr
    refine ⟨_, (pss_cons (ps_set (i := 5) sc.nd rfl (Or.inl rfl) (pe_calD c__law_around (hr.mono (by first | decide | exact Nat.le_refl _)) (by rfl) (pa_cons (pv 0) pa_nil))) (pss_one (ps_for PassesOwn.never (by rfl) (pi_seq (pe_ix ix_seq (pv 1) (pv 2) (fun _ _ => rfl))) (pg_name (i := 6) sc.nd rfl (Or.inl rfl)) (pss_one (ps_if (pt_cmpR op_ne (pe_ix ix_seq (pv 6) pe_int (fun _ _ => rfl)) pe_str (nomark _)) (pss_one (ps_expr (pe_calD c__law_touched (hr.mono (by first | decide | exact Nat.le_refl _)) (by rfl) (pa_cons (pe_ix ix_seq (pv 1) pe_int (fun _ _ => rfl)) (pa_cons (pe_dget hu (pv 0) pe_str (fun _ _ => rfl)) (pa_cons (pv 6) (pa_cons (pv 3) (pa_cons (pv 4) (pa_cons (pv 5) pa_nil))))))))) (pss_one (ps_if (pt_val (pe_calD c__law_holds (hr.mono (by first | decide | exact Nat.le_refl _)) (by rfl) (pa_cons (pe_dget hu (pv 0) pe_str (fun _ _ => rfl)) (pa_cons (pe_ix ix_seq (pv 6) pe_int (fun _ _ => rfl)) (pa_cons (pv 3) (pa_cons (pv 4) pa_nil)))))) (pss_one (ps_expr (pe_calD c__law_touched (hr.mono (by first | decide | exact Nat.le_refl _)) (by rfl) (pa_cons (pe_ix ix_seq (pv 1) pe_int (fun _ _ => rfl)) (pa_cons (pe_dget hu (pv 0) pe_str (fun _ _ => rfl)) (pa_cons (pe_ix ix_seq (pv 6) pe_int (fun _ _ => rfl)) (pa_cons (pv 3) (pa_cons (pv 4) (pa_cons (pv 5) pa_nil))))))))) pss_nil))))))), fun ds M Q h => ?_⟩
    obtain ⟨s, t, kl, st, pr, n, el, nw, rfl, hS, hv, hok, hty, hnd, hlen, hQ⟩ := h
    try dsimp only [cxOf, Cx.nox]
    have ⟨st_, sk, tk⟩ := hS.nes
    have har : st.things.length ≤ 10000 := by unfold LgS.things; rw [List.length_map]; omega
    refine stp_seq (stp_set ?_)
    walk_at "evs"
    refine ⟨s, t, kl, st, rfl, hS, hnd, hlen, ?_⟩
    have hat : atI (partsL pr) (n.at_ : Int) = some (.lst ((pr.steps n).map stepD)) := by cases n <;> rfl
    have h0 : atI (partsL pr) 0 = some (.lst (pr.keeps.map keepD)) := rfl
    let d : DeedS := ⟨pr.keeps, st.things, el, nw⟩
    let ss := pr.steps n
    have hst := hv.st n
    refine stp_for (js := [6]) (sr_seq ?_)
    walk_at "evs"
    refine ⟨ss.map stepD, .inl rfl, fun i ρ' M' => (∃ a, ρ' = [some (.sc (.ref s)), some (.lst (partsL pr)), some (iD n.at_), some (optD el), some (optD nw), some (.lst (st.things.map thingD)), a]) ∧ updM M kl (.lst ((run d (ss.take i) st.kept).map Da.sc)) = M', ⟨⟨none, rfl⟩, updM_id hS.hk⟩, ?_, ?_⟩
    · rintro i e ρ' M' hd ⟨⟨a, rfl⟩, eM⟩
      rw [List.getElem?_map] at hd
      obtain ⟨z, hss, rfl⟩ := Option.map_eq_some_iff.mp hd
      have hso := hst z (List.mem_of_getElem? hss)
      have hty' : TyA d.keeps (run d (ss.take i) st.kept) := tyA_run (n := n) hty fun z hz => hst z (List.mem_of_mem_take hz)
      have hs' : M' s = some (.dK (stD t st.made kl)) := by rw [← eM, updM_ne sk]; exact hS.hs
      have hk' : M' kl = some (.lst ((run d (ss.take i) st.kept).map Da.sc)) := by rw [← eM]; exact updM_same
      have hrun : run d (ss.take (i + 1)) st.kept = runStep d (run d (ss.take i) st.kept) z := by
        rw [take_succ_some hss]
        unfold run
        rw [List.foldl_append]
        rfl
      refine ⟨_, tg_name, ?_⟩
      obtain ⟨te, tc⟩ := z
      obtain ⟨h1, h2⟩ := hso
      have fin : updM M kl (.lst ((run d (ss.take (i + 1)) st.kept).map Da.sc)) = updM M' kl (.lst ((runStep d (run d (ss.take i) st.kept) ⟨te, tc⟩).map Da.sc)) := by rw [← eM, updM_updM, hrun]
      cases te with
      | none =>
        cases tc <;> (walk_at "evs"; refine ⟨s, _, .inr "kept", _, rfl, hs', rfl, rfl, ?_⟩; walk_at "evs"; refine ⟨kl, d, run d (ss.take i) st.kept, n, _, rfl, hk', hok, hty', h1, har, ?_⟩; exact ⟨⟨_, rfl⟩, fin⟩)
      | some t' =>
        walk_at "evs"
        refine ⟨s, _, .inr "kept", _, rfl, hs', rfl, rfl, ?_⟩
        walk_at "evs"
        refine ⟨kl, d, run d (ss.take i) st.kept, n, t', rfl, hk', hok, hty', h2 t' rfl, ?_⟩
        walk_at "evs"
        have fin : updM M kl (.lst ((run d (ss.take (i + 1)) st.kept).map Da.sc)) = updM M' kl (.lst ((if holds d (run d (ss.take i) st.kept) t' = true then touch d (run d (ss.take i) st.kept) tc else run d (ss.take i) st.kept).map Da.sc)) := fin
        refine ifB (fun h => ?_) (fun h => ?_)
        · rw [if_pos h] at fin
          walk_at "evs"
          refine ⟨s, _, .inr "kept", _, rfl, hs', rfl, rfl, ?_⟩
          walk_at "evs"
          refine ⟨kl, d, run d (ss.take i) st.kept, n, tc, rfl, hk', hok, hty', h1, har, ?_⟩
          exact ⟨⟨_, rfl⟩, fin⟩
        · rw [if_neg (by rw [h]; exact Bool.false_ne_true), updM_id hk'] at fin
          walk_at "evs"
          exact ⟨⟨_, rfl⟩, fin⟩
    · rintro ρ' M' ⟨⟨a, rfl⟩, eM⟩
      rw [List.length_map, List.take_length] at eM
      subst eM
      exact hQ

theorem ok__law_steps {P : Program} {w : World} {K : PySem.W.Frag} {mg : Str → Option Value} {base : Heap} {f : Addr} {fd : FuncData} (F : FnP K "_law_steps" "_law_steps" (top 59) f fd) (g : mg "_law_steps" = some (.ref f)) (T : Tx w K mg) (c__law_around : Cal P w K mg base 1 "_law_around" ["_law_state"] (S_law_around)) (c__law_touched : Cal P w K mg base 2 "_law_touched" ["_law_keeps", "_law_kept", "_law_step_here", "_law_elder", "_law_newer", "_law_around_here"] (S_law_touched)) (c__law_holds : Cal P w K mg base 1 "_law_holds" ["_law_kept", "_law_test", "_law_elder", "_law_newer"] (S_law_holds))  : Cal P w K mg base 3 "_law_steps" ["_law_state", "_law_parts", "_law_at", "_law_elder", "_law_newer"] (S_law_steps) :=
  cal_mk F g (fn__law_steps F T c__law_around c__law_touched c__law_holds) (F.bindsN fun _ _ _ _ _ _ us hl => match us, hl with | [_, _, _, _, _], _ => rfl)

theorem sc__law_do : FnScope ["_law_state", "_law_parts", "_law_deed_here", "_law_elder"] ["_law_state", "_law_parts", "_law_deed_here"] (defScope (top 60)) := ⟨rfl, rfl, rfl, by decide +kernel, rfl, by decide +kernel, by decide +kernel⟩
theorem fn__law_do {P : Program} {w : World} {K : PySem.W.Frag} {mg : Str → Option Value} {base : Heap} {f : Addr} {fd : FuncData} (F : FnP K "_law_do" "_law_do" (top 60) f fd) (T : Tx w K mg) (c__law_steps : Cal P w K mg base 3 "_law_steps" ["_law_state", "_law_parts", "_law_at", "_law_elder", "_law_newer"] (S_law_steps))  : FnOk P w K mg base CX0 4 f fd ["_law_state", "_law_parts", "_law_deed_here"] (spOf K (S_law_do)) := by
  have sc := sc__law_do
  refine ok_fn (k := 3) F sc (fun ds M Q h => ?_) (fun cdv A outer s H E hr => ?_)
  · obtain ⟨s, t, kl, st, pr, d, rfl, hS, hv, hW, hd, hmd, hQ⟩ := h; rfl
  · have hu6 : A.units + 64 < cLine := by have := hr.un; show A.units + 64 < cLine; simp only [Around.deeper] at this; omega
    have hu := hu_of hr
    refine ⟨_, (pss_one (ps_if (pt_cmpR op_eq (pe_ix ix_seq (pv 2) pe_int (fun _ _ => rfl)) pe_str (nomark _)) (pss_cons (ps_dput hu (pv 0) pe_str (pe_op op_addA (pe_dget hu (pv 0) pe_str (fun _ _ => rfl)) pe_int) rfl) (pss_cons (ps_dput hu (pe_dget hu (pv 0) pe_str (fun _ _ => rfl)) (pe_dget hu (pv 0) pe_str (fun _ _ => rfl)) (pe_tup (pa_cons (pe_ix ix_seq (pv 2) pe_int (fun _ _ => rfl)) (pa_cons (pe_ix ix_seq (pv 2) pe_int (fun _ _ => rfl)) pa_nil))) rfl) (pss_one (ps_expr (pe_calD c__law_steps (hr.mono (by first | decide | exact Nat.le_refl _)) (by rfl) (pa_cons (pv 0) (pa_cons (pv 1) (pa_cons pe_int (pa_cons pe_non (pa_cons (pe_tup (pa_cons (pe_ix ix_seq (pv 2) pe_int (fun _ _ => rfl)) (pa_cons (pe_ix ix_seq (pv 2) pe_int (fun _ _ => rfl)) pa_nil))) pa_nil)))))))))) (pss_one (ps_if (pt_cmpR op_eq (pe_ix ix_seq (pv 2) pe_int (fun _ _ => rfl)) pe_str (nomark _)) (pss_cons (ps_set (i := 3) sc.nd rfl (Or.inl rfl) (pe_dget hu (pe_dget hu (pv 0) pe_str (fun _ _ => rfl)) (pe_ix ix_seq (pv 2) pe_int (fun _ _ => rfl)) (fun _ _ => rfl))) (pss_cons (ps_dput hu (pe_dget hu (pv 0) pe_str (fun _ _ => rfl)) (pe_ix ix_seq (pv 2) pe_int (fun _ _ => rfl)) (pe_tup (pa_cons (pe_ix ix_seq (pv 2) pe_int (fun _ _ => rfl)) (pa_cons (pe_ix ix_seq (pv 2) pe_int (fun _ _ => rfl)) pa_nil))) rfl) (pss_one (ps_expr (pe_calD c__law_steps (hr.mono (by first | decide | exact Nat.le_refl _)) (by rfl) (pa_cons (pv 0) (pa_cons (pv 1) (pa_cons pe_int (pa_cons (pv 3) (pa_cons (pe_tup (pa_cons (pe_ix ix_seq (pv 2) pe_int (fun _ _ => rfl)) (pa_cons (pe_ix ix_seq (pv 2) pe_int (fun _ _ => rfl)) pa_nil))) pa_nil)))))))))) (pss_cons (ps_set (i := 3) sc.nd rfl (Or.inl rfl) (pe_dpop1 (pe_dget hu (pv 0) pe_str (fun _ _ => rfl)) (pe_ix ix_seq (pv 2) pe_int (fun _ _ => rfl)) ⟨rfl, rfl, rfl, rfl⟩)) (pss_one (ps_expr (pe_calD c__law_steps (hr.mono (by first | decide | exact Nat.le_refl _)) (by rfl) (pa_cons (pv 0) (pa_cons (pv 1) (pa_cons pe_int (pa_cons (pv 3) (pa_cons pe_non pa_nil))))))))))))), fun ds M Q h => ?_⟩
    obtain ⟨s, t, kl, st, pr, d, rfl, hS, hv, hW, hd, hmd, hQ⟩ := h
    try dsimp only [cxOf, Cx.nox]
    have ⟨st_, sk, tk⟩ := hS.nes
    have hlen := hW.len
    have hW' := lgW_do hv hW hd
    have hs := hS.hs
    have em : (st.made : Int) + 1 = ((st.made + 1 : Nat) : Int) := by omega
    have fin : ∀ (n : Pn) (st1 : LgS) (el nw : Option Thing) (M1 : MH), StC M1 s t kl st1 → Keeps [s, t, kl] M M1 → doD pr st d = ⟨st1.tb, st1.made, run ⟨pr.keeps, st1.things, el, nw⟩ (pr.steps n) st1.kept⟩ → Q (.sc .non) (updM M1 kl (.lst ((run ⟨pr.keeps, st1.things, el, nw⟩ (pr.steps n) st1.kept).map Da.sc))) := by
      intro n st1 el nw M1 h1 k1 e
      refine hQ _ ?_ (k1.upd (by simp))
      rw [e]
      exact ⟨by rw [updM_ne sk]; exact h1.hs, by rw [updM_ne tk]; exact h1.ht, updM_same, st_⟩
    cases d with
    | new k n =>
      walk_at "evs"
      refine ⟨s, _, .inr "made", _, rfl, hs, rfl, rfl, ?_⟩
      walk_at "evs"
      refine ⟨s, _, .inr "made", rfl, hs, rfl, Nat.le_of_ble_eq_true rfl, ?_⟩
      rw [em]
      generalize hM1 : updM M s _ = M1
      have k1 : Keeps [s] M M1 := by rw [← hM1]; exact (Keeps.refl _ _).upd List.mem_cons_self
      have hs1 : M1 s = some (.dK (stD t (st.made + 1) kl)) := by rw [← hM1]; exact updM_same
      have ht1 : M1 t = some (.dK (tbD st.tb)) := k1 _ _ (by simp [st_.symm]) hS.ht
      refine stp_seq (stp_dput ?_)
      walk_at "evs"
      refine ⟨s, _, .inr "table", _, rfl, hs1, rfl, rfl, ?_⟩
      walk_at "evs"
      refine ⟨s, _, .inr "made", _, rfl, hs1, rfl, rfl, ?_⟩
      refine ⟨t, _, .inl ((st.made + 1 : Nat) : Int), rfl, ht1, rfl, by rw [tbD_len]; omega, ?_⟩
      have hnew : st.made + 1 ∉ st.tb.map (·.1) := fun z => by have := hW.le _ z; omega
      have eput := tbD_add st.tb (st.made + 1) (k, n) hnew
      have eput : putD (tbD st.tb) (.inl ((st.made + 1 : Nat) : Int)) (.tup [iD k, iD n]) = tbD (st.tb ++ [(st.made + 1, (k, n))]) := eput
      rw [eput]
      generalize hM2 : updM M1 t _ = M2
      have k2 : Keeps [t] M1 M2 := by rw [← hM2]; exact (Keeps.refl _ _).upd List.mem_cons_self
      have h2 : StC M2 s t kl ⟨st.tb ++ [(st.made + 1, (k, n))], st.made + 1, st.kept⟩ := ⟨k2 _ _ (by simp [st_]) hs1, by rw [← hM2]; exact updM_same, k2 _ _ (by simp [tk.symm]) (k1 _ _ (by simp [sk.symm]) hS.hk), st_⟩
      walk_at "evs"
      refine ⟨s, t, kl, _, pr, .new, none, some (k, n), rfl, h2, hv, ⟨hv.k3, fun h => absurd rfl h, fun _ => ⟨_, rfl⟩⟩, hW.ty, hW'.nd, by show (st.tb ++ [_]).length ≤ _; rw [List.length_append]; show st.tb.length + 1 ≤ _; omega, ?_⟩
      exact fin .new _ none (some (k, n)) M2 h2 ((k1.mono (by simp)).trans (k2.mono (by simp))) rfl
    | change i k n =>
      walk_at "evs"
      refine ⟨s, _, .inr "table", _, rfl, hs, rfl, rfl, ?_⟩
      walk_at "evs"
      refine ⟨t, _, .inl (i : Int), _, rfl, hS.ht, rfl, tbD_el hd.1, ?_⟩
      refine stp_seq (stp_dput ?_)
      walk_at "evs"
      refine ⟨s, _, .inr "table", _, rfl, hs, rfl, rfl, ?_⟩
      walk_at "evs"
      refine ⟨t, _, .inl (i : Int), rfl, hS.ht, rfl, by rw [tbD_len]; omega, ?_⟩
      have eput := tbD_put st.tb i (k, n) hd.1
      have eput : putD (tbD st.tb) (.inl (i : Int)) (.tup [iD k, iD n]) = tbD (putT st.tb i (k, n)) := eput
      rw [eput]
      generalize hM2 : updM M t _ = M2
      have k2 : Keeps [t] M M2 := by rw [← hM2]; exact (Keeps.refl _ _).upd List.mem_cons_self
      have h2 : StC M2 s t kl ⟨putT st.tb i (k, n), st.made, st.kept⟩ := ⟨k2 _ _ (by simp [st_]) hs, by rw [← hM2]; exact updM_same, k2 _ _ (by simp [tk.symm]) hS.hk, st_⟩
      walk_at "evs"
      refine ⟨s, t, kl, _, pr, .change, some (st.el i), some (k, n), rfl, h2, hv, ⟨hv.k3, fun _ => ⟨_, rfl⟩, fun _ => ⟨_, rfl⟩⟩, hW.ty, hW'.nd, by show (putT st.tb i (k, n)).length ≤ _; unfold putT; rw [List.length_map]; omega, ?_⟩
      exact fin .change _ (some (st.el i)) (some (k, n)) M2 h2 (k2.mono (by simp)) rfl
    | drop i =>
      walk_at "evs"
      refine ev_dpop ?_
      walk_at "evs"
      refine ⟨s, _, .inr "table", _, rfl, hs, rfl, rfl, ?_⟩
      refine ⟨t, _, rfl, hS.ht, ?_⟩
      walk_at "evs"
      refine ⟨rfl, .inl (i : Int), _, rfl, tbD_el hd, ?_⟩
      rw [tbD_drop]
      generalize hM2 : updM M t _ = M2
      have k2 : Keeps [t] M M2 := by rw [← hM2]; exact (Keeps.refl _ _).upd List.mem_cons_self
      have h2 : StC M2 s t kl ⟨dropT st.tb i, st.made, st.kept⟩ := ⟨k2 _ _ (by simp [st_]) hs, by rw [← hM2]; exact updM_same, k2 _ _ (by simp [tk.symm]) hS.hk, st_⟩
      walk_at "evs"
      refine ⟨s, t, kl, _, pr, .drop, some (st.el i), none, rfl, h2, hv, ⟨hv.k3, fun _ => ⟨_, rfl⟩, fun h => absurd rfl h⟩, hW.ty, hW'.nd, Nat.le_trans (List.length_filter_le _ _) (by omega), ?_⟩
      exact fin .drop _ (some (st.el i)) none M2 h2 (k2.mono (by simp)) rfl

theorem ok__law_do {P : Program} {w : World} {K : PySem.W.Frag} {mg : Str → Option Value} {base : Heap} {f : Addr} {fd : FuncData} (F : FnP K "_law_do" "_law_do" (top 60) f fd) (g : mg "_law_do" = some (.ref f)) (T : Tx w K mg) (c__law_steps : Cal P w K mg base 3 "_law_steps" ["_law_state", "_law_parts", "_law_at", "_law_elder", "_law_newer"] (S_law_steps))  : Cal P w K mg base 4 "_law_do" ["_law_state", "_law_parts", "_law_deed_here"] (S_law_do) :=
  cal_mk F g (fn__law_do F T c__law_steps) (F.bindsN fun _ _ _ _ _ _ us hl => match us, hl with | [_, _, _], _ => rfl)

theorem sc__law_lies : FnScope ["_law_state", "_law_parts", "_law_trues_here", "_law_k"] ["_law_state", "_law_parts"] (defScope (top 62)) := ⟨rfl, rfl, rfl, by decide +kernel, rfl, by decide +kernel, by decide +kernel⟩
theorem fn__law_lies {P : Program} {w : World} {K : PySem.W.Frag} {mg : Str → Option Value} {base : Heap} {f : Addr} {fd : FuncData} (F : FnP K "_law_lies" "_law_lies" (top 62) f fd) (T : Tx w K mg) (c__law_trues : Cal P w K mg base 2 "_law_trues" ["_law_state", "_law_parts"] (S_law_trues))  : FnOk P w K mg base CX0 3 f fd ["_law_state", "_law_parts"] (spOf K (S_law_lies)) := by
  have sc := sc__law_lies
  refine ok_fn (k := 2) F sc (fun ds M Q h => ?_) (fun cdv A outer s H E hr => ?_)
  · obtain ⟨s, t, kl, st, pr, rfl, hS, h3, hty, hnd, hlen, hQ⟩ := h; rfl
  · have hu6 : A.units + 64 < cLine := by have := hr.un; show A.units + 64 < cLine; simp only [Around.deeper] at this; omega
    have hu := hu_of hr
    refine ⟨_, (pss_cons (ps_set (i := 2) sc.nd rfl (Or.inr rfl) (pe_calD c__law_trues (hr.mono (by first | decide | exact Nat.le_refl _)) (by rfl) (pa_cons (pv 0) (pa_cons (pv 1) pa_nil)))) (pss_one (ps_ret (pe_lc (own := [("_law_k", 3)]) (by rfl) sc.nd (pi_range1 (by rfl) T.b_range (pa_cons (pe_callB call_len (by rfl) T.b_len (by decide +kernel) (pa_cons (pv 2) pa_nil)) pa_nil)) (blkOk_by (own := [("_law_k", 3)]) (N := ["_law_state", "_law_parts", "_law_trues_here", "_law_k"]) (sc := defScope (top 62)) (by decide +kernel)) (fun _ _ _ _ _ => (pg_name (i := 3) sc.nd rfl (Or.inl rfl))) (fun _ _ _ _ _ => (pts_one (pt_cmpR op_ne (pe_ix (k_ix_seq (K := K)) (pe_dget hu (pv 0) pe_str (fun _ _ => rfl)) (pv 3) (fun _ _ => rfl)) (pe_ix (k_ix_seq (K := K)) (pv 2) (pv 3) (fun _ _ => rfl)) (nomark _)))) (fun _ _ _ _ _ => (pv 3)))))), fun ds M Q h => ?_⟩
    obtain ⟨s, t, kl, st, pr, rfl, hS, h3, hty, hnd, hlen, hQ⟩ := h
    try dsimp only [cxOf, Cx.nox]
    refine stp_seq (stp_set ?_)
    walk_at "evs"
    refine ⟨s, t, kl, st, pr, rfl, hS, h3, hnd, hlen, ?_⟩
    have ht2 : TyA pr.keeps (trueValues pr.keeps st.things) := tyA_true _ _
    have hl2 : (trueValues pr.keeps st.things).length = pr.keeps.length := ht2.len
    let pd : Nat → Bool := fun i => !decide (at_ st.kept i = at_ (trueValues pr.keeps st.things) i)
    have hF : liesM pr st = (List.range pr.keeps.length).filter pd := rfl
    refine stp_ret (ev_lc (js := [3]) (by decide) (sr_range1 ?_))
    walk_at "evs"
    rw [List.length_map, hl2]
    refine ⟨by omega, by omega, ?_⟩
    have hmn : ((pr.keeps.length : Nat) : Int).toNat = pr.keeps.length := by omega
    rw [hmn]
    refine ⟨fun i acc M' => acc = ((List.range i).filter pd).map (fun i : Nat => iD i) ∧ M = M', ⟨rfl, rfl⟩, ?_, ?_⟩
    · rintro i d acc M' hd ⟨ea, em⟩
      subst ea em
      obtain ⟨hil, rfl⟩ := rngD_get hd
      rw [Int.zero_add]
      have hk : pr.keeps[i]? = some pr.keeps[i] := List.getElem?_eq_getElem hil
      obtain ⟨v, hv, tv⟩ := hty.at_ hk
      obtain ⟨u, hu', tu⟩ := ht2.at_ hk
      have hat : atI (st.kept.map Da.sc) (i : Int) = some (.sc v) := atI_nat (by rw [List.getElem?_map, hv] <;> rfl)
      have hat2 : atI ((trueValues pr.keeps st.things).map Da.sc) (i : Int) = some (.sc u) := atI_nat (by rw [List.getElem?_map, hu'] <;> rfl)
      have hpr : pd i = !decide (v = u) := by
        show (!decide (at_ _ i = at_ _ i)) = _
        rw [at_some hv, at_some hu']
      have hfl : ((List.range i).filter pd).length ≤ i := Nat.le_trans (List.length_filter_le _ _) (by rw [List.length_range]; exact Nat.le_refl _)
      have hsp : (List.range (i + 1)).filter pd = (List.range i).filter pd ++ [i].filter pd := by rw [List.range_succ, List.filter_append]
      refine ⟨_, tg_name, ?_⟩
      walk_at "evs"
      refine ⟨s, _, .inr "kept", _, rfl, hS.hs, rfl, rfl, ?_⟩
      walk_at "evs"
      try refine rop_ix_M hS.hk hat ?_
      walk_at "evs"
      try refine rop_ix_L hat2 ?_
      try walk_at "evs"
      refine rop_ne (scal_ty tv tu) ?_
      refine ⟨_, rfl, ?_⟩
      refine ifB (fun h => ?_) (fun h => ?_)
      · refine ⟨by rw [List.length_map]; omega, ?_⟩
        walk_at "evs"
        refine ⟨?_, rfl⟩
        rw [hsp, List.filter_cons_of_pos (hpr.trans h), List.filter_nil, List.map_append]
        rfl
      · refine ⟨?_, rfl⟩
        rw [hsp, List.filter_cons_of_neg (by rw [hpr, h]; exact Bool.false_ne_true), List.filter_nil, List.append_nil]
    · rintro acc M' ⟨ea, em⟩
      subst ea em
      rw [rngD_length, ← hF]
      exact hQ

theorem ok__law_lies {P : Program} {w : World} {K : PySem.W.Frag} {mg : Str → Option Value} {base : Heap} {f : Addr} {fd : FuncData} (F : FnP K "_law_lies" "_law_lies" (top 62) f fd) (g : mg "_law_lies" = some (.ref f)) (T : Tx w K mg) (c__law_trues : Cal P w K mg base 2 "_law_trues" ["_law_state", "_law_parts"] (S_law_trues))  : Cal P w K mg base 3 "_law_lies" ["_law_state", "_law_parts"] (S_law_lies) :=
  cal_mk F g (fn__law_lies F T c__law_trues) (F.bindsN fun _ _ _ _ _ _ us hl => match us, hl with | [_, _], _ => rfl)

theorem sc__law_number : FnScope ["_law_draws", "_law_at"] ["_law_draws"] (defScope (top 63)) := ⟨rfl, rfl, rfl, by decide +kernel, rfl, by decide +kernel, by decide +kernel⟩
theorem fn__law_number {P : Program} {w : World} {K : PySem.W.Frag} {mg : Str → Option Value} {base : Heap} {f : Addr} {fd : FuncData} (F : FnP K "_law_number" "_law_number" (top 63) f fd) (T : Tx w K mg) (c__law_draw : Cal P w K mg base 1 "_law_draw" ["_law_draws", "_law_many"] (S_law_draw))  : FnOk P w K mg base CX0 2 f fd ["_law_draws"] (spOf K (S_law_number)) := by
  have sc := sc__law_number
  refine ok_fn (k := 1) F sc (fun ds M Q h => ?_) (fun cdv A outer s H E hr => ?_)
  · obtain ⟨a, st, rfl, hm, hok, hQ⟩ := h; rfl
  · have hu6 : A.units + 64 < cLine := by have := hr.un; show A.units + 64 < cLine; simp only [Around.deeper] at this; omega
    have hu := hu_of hr
    refine ⟨_, (pss_cons (ps_set (i := 1) sc.nd rfl (Or.inl rfl) (pe_calD c__law_draw (hr.mono (by first | decide | exact Nat.le_refl _)) (by rfl) (pa_cons (pv 0) (pa_cons pe_int pa_nil)))) (pss_cons (ps_if (pt_cmpR op_eq (pv 1) pe_int (nomark _)) (pss_one (ps_ret (pe_op op_mulA (pe_op op_sub (pe_calD c__law_draw (hr.mono (by first | decide | exact Nat.le_refl _)) (by rfl) (pa_cons (pv 0) (pa_cons pe_int pa_nil))) pe_int) pe_int))) pss_nil) (pss_one (ps_ret (pe_op op_sub (pe_calD c__law_draw (hr.mono (by first | decide | exact Nat.le_refl _)) (by rfl) (pa_cons (pv 0) (pa_cons pe_int pa_nil))) pe_int))))), fun ds M Q h => ?_⟩
    obtain ⟨a, st, rfl, hm, hok, hQ⟩ := h
    try dsimp only [cxOf, Cx.nox]
    walk_at "evs"
    refine ⟨a, st, 9, rfl, hm, hok, by decide, by decide, ?_⟩
    intro r st1 hok1 hr
    walk_at "evs"
    refine ifB (fun h => ?_) (fun h => ?_)
    · walk_at "evs"
      refine ⟨a, st1, 5, rfl, updM_same, hok1, by decide, by decide, ?_⟩
      intro r2 st2 hok2 hr2
      rw [updM_updM]
      walk_at "evs"
      exact hQ _ st2 hok2
    · walk_at "evs"
      refine ⟨a, st1, 13, rfl, updM_same, hok1, by decide, by decide, ?_⟩
      intro r2 st2 hok2 hr2
      rw [updM_updM]
      walk_at "evs"
      exact hQ _ st2 hok2

theorem ok__law_number {P : Program} {w : World} {K : PySem.W.Frag} {mg : Str → Option Value} {base : Heap} {f : Addr} {fd : FuncData} (F : FnP K "_law_number" "_law_number" (top 63) f fd) (g : mg "_law_number" = some (.ref f)) (T : Tx w K mg) (c__law_draw : Cal P w K mg base 1 "_law_draw" ["_law_draws", "_law_many"] (S_law_draw))  : Cal P w K mg base 2 "_law_number" ["_law_draws"] (S_law_number) :=
  cal_mk F g (fn__law_number F T c__law_draw) (F.bindsN fun _ _ _ _ _ _ us hl => match us, hl with | [_], _ => rfl)

theorem sc__law_deed : FnScope ["_law_draws", "_law_state", "_law_there", "_law_way", "_law_thing"] ["_law_draws", "_law_state"] (defScope (top 64)) := ⟨rfl, rfl, rfl, by decide +kernel, rfl, by decide +kernel, by decide +kernel⟩
theorem fn__law_deed {P : Program} {w : World} {K : PySem.W.Frag} {mg : Str → Option Value} {base : Heap} {f : Addr} {fd : FuncData} (F : FnP K "_law_deed" "_law_deed" (top 64) f fd) (T : Tx w K mg) (c__law_draw : Cal P w K mg base 1 "_law_draw" ["_law_draws", "_law_many"] (S_law_draw)) (c__law_number : Cal P w K mg base 2 "_law_number" ["_law_draws"] (S_law_number))  : FnOk P w K mg base CX0 3 f fd ["_law_draws", "_law_state"] (spOf K (S_law_deed)) := by
  have sc := sc__law_deed
  refine ok_fn (k := 2) F sc (fun ds M Q h => ?_) (fun cdv A outer s H E hr => ?_)
  · obtain ⟨a, s, t, kl, dr, st, rfl, hm, hok, hS, hak, hlen, hQ⟩ := h; rfl
  · have hu6 : A.units + 64 < cLine := by have := hr.un; show A.units + 64 < cLine; simp only [Around.deeper] at this; omega
    have hu := hu_of hr
    refine ⟨_, (pss_cons (ps_set (i := 2) sc.nd rfl (Or.inl rfl) (pe_callTy (cr_listD rfl) (by rfl) T.b_list (by decide +kernel) (pa_cons (pe_dget hu (pv 1) pe_str (fun _ _ => rfl)) pa_nil))) (pss_cons (ps_set (i := 3) sc.nd rfl (Or.inl rfl) (pe_calD c__law_draw (hr.mono (by first | decide | exact Nat.le_refl _)) (by rfl) (pa_cons (pv 0) (pa_cons pe_int pa_nil)))) (pss_cons (ps_if (PW.pt (pw_or (pt_cmpR op_eq (pe_callB call_len (by rfl) T.b_len (by decide +kernel) (pa_cons (pv 2) pa_nil)) pe_int (nomark _)) (pw_or1 (pt_cmpR op_le (pv 3) pe_int (nomark _))))) (pss_one (ps_ret (pe_tup (pa_cons pe_str (pa_cons (pe_calD c__law_draw (hr.mono (by first | decide | exact Nat.le_refl _)) (by rfl) (pa_cons (pv 0) (pa_cons pe_int pa_nil))) (pa_cons (pe_calD c__law_number (hr.mono (by first | decide | exact Nat.le_refl _)) (by rfl) (pa_cons (pv 0) pa_nil)) pa_nil)))))) pss_nil) (pss_cons (ps_set (i := 4) sc.nd rfl (Or.inl rfl) (pe_ix ix_seq (pv 2) (pe_calD c__law_draw (hr.mono (by first | decide | exact Nat.le_refl _)) (by rfl) (pa_cons (pv 0) (pa_cons (pe_callB call_len (by rfl) T.b_len (by decide +kernel) (pa_cons (pv 2) pa_nil)) pa_nil))) (fun _ _ => rfl))) (pss_cons (ps_if (pt_cmpR op_le (pv 3) pe_int (nomark _)) (pss_one (ps_ret (pe_tup (pa_cons pe_str (pa_cons (pv 4) pa_nil))))) pss_nil) (pss_one (ps_ret (pe_tup (pa_cons pe_str (pa_cons (pv 4) (pa_cons (pe_calD c__law_draw (hr.mono (by first | decide | exact Nat.le_refl _)) (by rfl) (pa_cons (pv 0) (pa_cons pe_int pa_nil))) (pa_cons (pe_calD c__law_number (hr.mono (by first | decide | exact Nat.le_refl _)) (by rfl) (pa_cons (pv 0) pa_nil)) pa_nil)))))))))))), fun ds M Q h => ?_⟩
    obtain ⟨a, s, t, kl, dr, st, rfl, hm, hok, hS, hak, hlen, hQ⟩ := h
    try dsimp only [cxOf, Cx.nox]
    have hs := hS.hs
    refine stp_seq (stp_set ?_)
    walk_at "evs"
    refine ⟨s, _, .inr "table", _, rfl, hs, rfl, rfl, ?_⟩
    walk_at "evs"
    refine rcl_listD hS.ht ?_
    have ekeys : (tbD st.tb).map (fun kv => keyDa kv.1) = st.ids.map fun i : Nat => iD i := by
      unfold tbD LgS.ids
      rw [List.map_map, List.map_map]
      rfl
    rw [ekeys]
    have hil : st.ids.length = st.tb.length := by unfold LgS.ids; rw [List.length_map]
    refine stp_seq (stp_set ?_)
    walk_at "evs"
    refine ⟨a, dr, 6, rfl, hm, hok, by decide, by decide, ?_⟩
    intro r dr1 hok1 hr
    have fin : ∀ (d : Dd) (dr' : DrSt) (o : MO), dr'.Ok → DdOk st d → Q (ddD d) (updM (updM M a o) a (.lst dr'.l)) := fun d dr' o h1 h2 => by
      rw [updM_updM]
      exact hQ d dr' h1 h2
    -- a new thing
    have anew : ∀ (ρ : Env') (dr1 : DrSt) (D : DE), D.rt = Q → dr1.Ok → ρ[0]? = some (some (.sc (.ref a))) → StP K (tRet (tTup (tCons (tC (.str "new")) (tCons (tCall (spOf K S_law_draw) [] E0 (tCons (tVar 0) (tCons (tC (.int 2)) tNil))) (tCons (tCall (spOf K S_law_number) [] E0 (tCons (tVar 0) tNil)) tNil))))) ρ (updM M a (.lst dr1.l)) D := by
      intro ρ dr1 D hD hok1 h0
      refine stp_ret (ev_tup (av_cons (ev_c (av_cons (ev_call (av_cons (ev_var h0 (av_cons (ev_c (av_nil ?_)))))))))) 
      refine ⟨a, dr1, 2, rfl, updM_same, hok1, by decide, by decide, ?_⟩
      intro k dr2 hok2 hk
      rw [updM_updM]
      refine av_cons (ev_call (av_cons (ev_var h0 (av_nil ?_))))
      refine ⟨a, dr2, rfl, updM_same, hok2, ?_⟩
      intro z dr3 hok3
      refine av_nil ⟨Nat.le_of_ble_eq_true rfl, ?_⟩
      rw [hD]
      exact fin (.new k z) dr3 _ hok3 (by show (k : Int) = 0 ∨ (k : Int) = 1; omega)
    have hlm : (st.ids.map fun i : Nat => iD i).length = st.tb.length := by rw [List.length_map, hil]
    walk_at "evs"
    rw [hlm, decInt]
    refine ifB (fun h0 => ?_) (fun h0 => ?_)
    · refine ifT rfl ?_
      exact anew _ dr1 _ rfl hok1 rfl
    · have h0 := of_decide_eq_false h0
      walk_at "evs"
      refine ifB (fun h1 => ?_) (fun h1 => ?_)
      · exact anew _ dr1 _ rfl hok1 rfl
      · walk_at "evs"
        refine ⟨a, dr1, (st.ids.map fun i : Nat => iD i).length, rfl, updM_same, hok1, by rw [hlm]; omega, by rw [hlm]; omega, ?_⟩
        intro r2 dr2 hok2 hr2
        rw [updM_updM]
        have hr3 : r2 < st.ids.length := by rw [List.length_map] at hr2; exact hr2
        have hat : atI (st.ids.map fun i : Nat => iD i) (r2 : Int) = some (iD st.ids[r2]) := pickL hr3
        have hmem : st.ids[r2] ∈ st.ids := List.getElem_mem hr3
        generalize st.ids[r2] = i at hat hmem
        try refine rop_ix_L hat ?_
        walk_at "evs"
        refine ifB (fun h3 => ?_) (fun h3 => ?_)
        · walk_at "evs"
          exact hQ (.drop i) dr2 hok2 hmem
        · walk_at "evs"
          refine ⟨a, dr2, 2, rfl, updM_same, hok2, by decide, by decide, ?_⟩
          intro k dr3 hok3 hk
          rw [updM_updM]
          walk_at "evs"
          refine ⟨a, dr3, rfl, updM_same, hok3, ?_⟩
          intro z dr4 hok4
          walk_at "evs"
          exact fin (.change i k z) dr4 _ hok4 ⟨hmem, by omega⟩

theorem ok__law_deed {P : Program} {w : World} {K : PySem.W.Frag} {mg : Str → Option Value} {base : Heap} {f : Addr} {fd : FuncData} (F : FnP K "_law_deed" "_law_deed" (top 64) f fd) (g : mg "_law_deed" = some (.ref f)) (T : Tx w K mg) (c__law_draw : Cal P w K mg base 1 "_law_draw" ["_law_draws", "_law_many"] (S_law_draw)) (c__law_number : Cal P w K mg base 2 "_law_number" ["_law_draws"] (S_law_number))  : Cal P w K mg base 3 "_law_deed" ["_law_draws", "_law_state"] (S_law_deed) :=
  cal_mk F g (fn__law_deed F T c__law_draw c__law_number) (F.bindsN fun _ _ _ _ _ _ us hl => match us, hl with | [_, _], _ => rfl)

theorem sc__law_act : FnScope ["_law_ledger", "_law_deed_here", "_law_told"] ["_law_ledger", "_law_deed_here"] (defScope (top 65)) := ⟨rfl, rfl, rfl, by decide +kernel, rfl, by decide +kernel, by decide +kernel⟩
theorem fn__law_act {P : Program} {w : World} {K : PySem.W.Frag} {mg : Str → Option Value} {base : Heap} {f : Addr} {fd : FuncData} (F : FnP K "_law_act" "_law_act" (top 65) f fd) (T : Tx w K mg) (m_make : CalM P w K mg base (He.ga K "Ledger") 5 "make" ["self", "kind", "number"] (S_Ledger_make (He.ga K "Ledger") (He.ga K "Program"))) (m_alter : CalM P w K mg base (He.ga K "Ledger") 5 "alter" ["self", "thing", "kind", "number"] (S_Ledger_alter (He.ga K "Ledger") (He.ga K "Program"))) (m_release : CalM P w K mg base (He.ga K "Ledger") 5 "release" ["self", "thing"] (S_Ledger_release (He.ga K "Ledger") (He.ga K "Program")))  : FnOk P w K mg base CX0 6 f fd ["_law_ledger", "_law_deed_here"] (spOf K (S_law_act (He.ga K "Ledger") (He.ga K "Program"))) := by
  have sc := sc__law_act
  refine ok_fn (k := 5) F sc (fun ds M Q h => ?_) (fun cdv A outer s H E hr => ?_)
  · obtain ⟨x, p, dl, pa, pr, s, n, d, rfl, hL, hv, hW, hd, hn, hmd, hQ⟩ := h; rfl
  · have hu6 : A.units + 64 < cLine := by have := hr.un; show A.units + 64 < cLine; simp only [Around.deeper] at this; omega
    have hu := hu_of hr
    refine ⟨_, (pss_cons (ps_set (i := 2) sc.nd rfl (Or.inl rfl) pe_non) (pss_cons (ps_if (pt_cmpR op_eq (pe_ix ix_seq (pv 1) pe_int (fun _ _ => rfl)) pe_str (nomark _)) (pss_one (ps_set (i := 2) sc.nd rfl (Or.inl rfl) (pe_metD m_make (hr.mono (by first | decide | exact Nat.le_refl _)) (pv 0) (pa_cons (pe_ix ix_seq (pv 1) pe_int (fun _ _ => rfl)) (pa_cons (pe_ix ix_seq (pv 1) pe_int (fun _ _ => rfl)) pa_nil))))) (pss_one (ps_if (pt_cmpR op_eq (pe_ix ix_seq (pv 1) pe_int (fun _ _ => rfl)) pe_str (nomark _)) (pss_one (ps_set (i := 2) sc.nd rfl (Or.inl rfl) (pe_metD m_alter (hr.mono (by first | decide | exact Nat.le_refl _)) (pv 0) (pa_cons (pe_ix ix_seq (pv 1) pe_int (fun _ _ => rfl)) (pa_cons (pe_ix ix_seq (pv 1) pe_int (fun _ _ => rfl)) (pa_cons (pe_ix ix_seq (pv 1) pe_int (fun _ _ => rfl)) pa_nil)))))) (pss_one (ps_set (i := 2) sc.nd rfl (Or.inl rfl) (pe_metD m_release (hr.mono (by first | decide | exact Nat.le_refl _)) (pv 0) (pa_cons (pe_ix ix_seq (pv 1) pe_int (fun _ _ => rfl)) pa_nil))))))) (pss_one (ps_ret (pv 2))))), fun ds M Q h => ?_⟩
    obtain ⟨x, p, dl, pa, pr, s, n, d, rfl, hL, hv, hW, hd, hn, hmd, hQ⟩ := h
    try dsimp only [cxOf, Cx.nox]
    cases d with
    | new k m =>
      walk_at "evs"
      refine ⟨_, _, hL.hx, by decide +kernel, ?_⟩
      walk_at "evs"
      refine ⟨x, p, dl, pa, pr, s, n, k, m, rfl, hL, hv, hW, hd, hn, hmd, ?_⟩
      intro M' h1 k1
      walk_at "evs"
      exact hQ _ p M' h1 k1 (.inl rfl)
    | change i k m =>
      walk_at "evs"
      refine ⟨_, _, hL.hx, by decide +kernel, ?_⟩
      walk_at "evs"
      refine ⟨x, p, dl, pa, pr, s, n, i, k, m, rfl, hL, hv, hW, hd.1, hd.2, hn, hmd, ?_⟩
      intro M' h1 k1
      walk_at "evs"
      exact hQ _ p M' h1 k1 (.inl rfl)
    | drop i =>
      walk_at "evs"
      refine ⟨_, _, hL.hx, by decide +kernel, ?_⟩
      walk_at "evs"
      refine ⟨x, p, dl, pa, pr, s, n, i, rfl, hL, hv, hW, hd, hn, hmd, ?_⟩
      intro p' M' h1 k1 hp'
      walk_at "evs"
      exact hQ _ p' M' h1 k1 (.inr hp')

theorem ok__law_act {P : Program} {w : World} {K : PySem.W.Frag} {mg : Str → Option Value} {base : Heap} {f : Addr} {fd : FuncData} (F : FnP K "_law_act" "_law_act" (top 65) f fd) (g : mg "_law_act" = some (.ref f)) (T : Tx w K mg) (m_make : CalM P w K mg base (He.ga K "Ledger") 5 "make" ["self", "kind", "number"] (S_Ledger_make (He.ga K "Ledger") (He.ga K "Program"))) (m_alter : CalM P w K mg base (He.ga K "Ledger") 5 "alter" ["self", "thing", "kind", "number"] (S_Ledger_alter (He.ga K "Ledger") (He.ga K "Program"))) (m_release : CalM P w K mg base (He.ga K "Ledger") 5 "release" ["self", "thing"] (S_Ledger_release (He.ga K "Ledger") (He.ga K "Program")))  : Cal P w K mg base 6 "_law_act" ["_law_ledger", "_law_deed_here"] (S_law_act (He.ga K "Ledger") (He.ga K "Program")) :=
  cal_mk F g (fn__law_act F T m_make m_alter m_release) (F.bindsN fun _ _ _ _ _ _ us hl => match us, hl with | [_, _], _ => rfl)

theorem sc_law : FnScope ["_law_script", "_law_draws", "_law_parts", "_law_program", "_law_state", "_law_history", "_law_index", "_law_deed_here", "_law_k", "_law_ledger", "_law_j"] ["_law_script"] (defScope (top 66)) := ⟨rfl, rfl, rfl, by decide +kernel, rfl, by decide +kernel, by decide +kernel⟩
theorem fn_law {P : Program} {w : World} {K : PySem.W.Frag} {mg : Str → Option Value} {base : Heap} {f : Addr} {fd : FuncData} (F : FnP K "law" "law" (top 66) f fd) (T : Tx w K mg) (c__law_begin : Cal P w K mg base 1 "_law_begin" ["_law_script"] (S_law_begin)) (c__law_right : Cal P w K mg base 3 "_law_right" ["_law_draws", "_law_most"] (S_law_right)) (c__law_any : Cal P w K mg base 5 "_law_any" ["_law_draws", "_law_most"] (S_law_any)) (c__law_made : Cal P w K mg base 8 "_law_made" ["_law_parts"] (S_law_made (He.ga K "Program"))) (c_is_right : Cal P w K mg base 7 "is_right" ["program"] (S_is_right (He.ga K "Program"))) (c_lie : Cal P w K mg base 6 "lie" ["program"] (S_lie (He.ga K "Program"))) (c__law_new : Cal P w K mg base 2 "_law_new" ["_law_parts"] (S_law_new)) (c__law_do : Cal P w K mg base 4 "_law_do" ["_law_state", "_law_parts", "_law_deed_here"] (S_law_do)) (c__law_lies : Cal P w K mg base 3 "_law_lies" ["_law_state", "_law_parts"] (S_law_lies)) (c__law_deed : Cal P w K mg base 3 "_law_deed" ["_law_draws", "_law_state"] (S_law_deed)) (c__law_act : Cal P w K mg base 6 "_law_act" ["_law_ledger", "_law_deed_here"] (S_law_act (He.ga K "Ledger") (He.ga K "Program"))) (c__law_trues : Cal P w K mg base 2 "_law_trues" ["_law_state", "_law_parts"] (S_law_trues)) (m_lies : CalM P w K mg base (He.ga K "Ledger") 4 "lies" ["self"] (S_Ledger_lies (He.ga K "Ledger") (He.ga K "Program"))) (m_kept : CalM P w K mg base (He.ga K "Ledger") 1 "kept" ["self"] (S_Ledger_kept (He.ga K "Ledger") (He.ga K "Program"))) (k_Ledger : CalC P w K mg base (He.ga K "Ledger") 2 "Ledger" ["self", "program"] (S_Ledger_init (He.ga K "Ledger") (He.ga K "Program")))  : FnOk P w K mg base CX0 9 f fd ["_law_script"] (spOf K (S_law)) := by
  have sc := sc_law
  refine ok_fn (k := 8) F sc (fun ds M Q h => ?_) (fun cdv A outer s H E hr => ?_)
  · obtain ⟨script, rfl, hQ⟩ := h; rfl
  · have hu6 : A.units + 64 < cLine := by have := hr.un; show A.units + 64 < cLine; simp only [Around.deeper] at this; omega
    have hu := hu_of hr
    refine ⟨_, (pss_cons (ps_set (i := 1) sc.nd rfl (Or.inl rfl) (pe_calD c__law_begin (hr.mono (by first | decide | exact Nat.le_refl _)) (by rfl) (pa_cons (pv 0) pa_nil))) (pss_cons (ps_if (pt_not (pt_val (pe_calD c_is_right (hr.mono (by first | decide | exact Nat.le_refl _)) (by rfl) (pa_cons (pe_calD c__law_made (hr.mono (by first | decide | exact Nat.le_refl _)) (by rfl) (pa_cons (pe_calD c__law_right (hr.mono (by first | decide | exact Nat.le_refl _)) (by rfl) (pa_cons (pv 1) (pa_cons pe_int pa_nil))) pa_nil)) pa_nil)))) (pss_one (ps_ret pe_bl)) pss_nil) (pss_cons (ps_set (i := 2) sc.nd rfl (Or.inl rfl) (pe_calD c__law_any (hr.mono (by first | decide | exact Nat.le_refl _)) (by rfl) (pa_cons (pv 1) (pa_cons pe_int pa_nil)))) (pss_cons (ps_set (i := 3) sc.nd rfl (Or.inl rfl) (pe_calD c__law_made (hr.mono (by first | decide | exact Nat.le_refl _)) (by rfl) (pa_cons (pv 2) pa_nil))) (pss_cons (ps_if (pt_not (pt_val (pe_calD c_is_right (hr.mono (by first | decide | exact Nat.le_refl _)) (by rfl) (pa_cons (pv 3) pa_nil)))) (pss_cons (ps_set (i := 4) sc.nd rfl (Or.inl rfl) (pe_calD c__law_new (hr.mono (by first | decide | exact Nat.le_refl _)) (by rfl) (pa_cons (pv 2) pa_nil))) (pss_cons (ps_asg (pe_calD c_lie (hr.mono (by first | decide | exact Nat.le_refl _)) (by rfl) (pa_cons (pv 3) pa_nil)) (pg_tup (n := 2) (by rfl) (pgs_cons (pg_name (i := 5) sc.nd rfl (Or.inl rfl)) (pgs_cons (pg_name (i := 6) sc.nd rfl (Or.inl rfl)) pgs_nil)))) (pss_cons (ps_for PassesOwn.never (by rfl) (pi_seq (pv 5)) (pg_name (i := 7) sc.nd rfl (Or.inl rfl)) (pss_one (ps_expr (pe_calD c__law_do (hr.mono (by first | decide | exact Nat.le_refl _)) (by rfl) (pa_cons (pv 4) (pa_cons (pv 2) (pa_cons (pv 7) pa_nil))))))) (pss_one (ps_ret (pe_cmpR op_in_seq (pv 6) (pe_calD c__law_lies (hr.mono (by first | decide | exact Nat.le_refl _)) (by rfl) (pa_cons (pv 4) (pa_cons (pv 2) pa_nil))) (by rfl))))))) pss_nil) (pss_cons (ps_for PassesOwn.never (by rfl) (pi_range1 (by rfl) T.b_range (pa_cons pe_int pa_nil)) (pg_name (i := 8) sc.nd rfl (Or.inl rfl)) (pss_cons (ps_set (i := 9) sc.nd rfl (Or.inl rfl) (pe_makD k_Ledger (hr.mono (by first | decide | exact Nat.le_refl _)) (by rfl) (pa_cons (pv 3) pa_nil))) (pss_cons (ps_set (i := 4) sc.nd rfl (Or.inl rfl) (pe_calD c__law_new (hr.mono (by first | decide | exact Nat.le_refl _)) (by rfl) (pa_cons (pv 2) pa_nil))) (pss_cons (ps_for PassesOwn.never (by rfl) (pi_range1 (by rfl) T.b_range (pa_cons pe_int pa_nil)) (pg_name (i := 10) sc.nd rfl (Or.inl rfl)) (pss_cons (ps_set (i := 7) sc.nd rfl (Or.inl rfl) (pe_calD c__law_deed (hr.mono (by first | decide | exact Nat.le_refl _)) (by rfl) (pa_cons (pv 1) (pa_cons (pv 4) pa_nil)))) (pss_cons (ps_expr (pe_calD c__law_act (hr.mono (by first | decide | exact Nat.le_refl _)) (by rfl) (pa_cons (pv 9) (pa_cons (pv 7) pa_nil)))) (pss_cons (ps_expr (pe_calD c__law_do (hr.mono (by first | decide | exact Nat.le_refl _)) (by rfl) (pa_cons (pv 4) (pa_cons (pv 2) (pa_cons (pv 7) pa_nil))))) (pss_one (ps_if (PW.pt (pw_or (pt_cmpR (op_neD (by exact hr.units)) (pe_calD c__law_lies (hr.mono (by first | decide | exact Nat.le_refl _)) (by rfl) (pa_cons (pv 4) (pa_cons (pv 2) pa_nil))) (pe_lst pa_nil) (nomark _)) (pw_or1 (pt_cmpR (op_neD (by exact hr.units)) (pe_met0D m_lies (hr.mono (by first | decide | exact Nat.le_refl _)) (pv 9)) (pe_lst pa_nil) (nomark _))))) (pss_one (ps_ret pe_bl)) pss_nil)))))) (pss_one (ps_if (pt_cmpR (op_neD (by exact hr.units)) (pe_met0D m_kept (hr.mono (by first | decide | exact Nat.le_refl _)) (pv 9)) (pe_calD c__law_trues (hr.mono (by first | decide | exact Nat.le_refl _)) (by rfl) (pa_cons (pv 4) (pa_cons (pv 2) pa_nil))) (nomark _)) (pss_one (ps_ret pe_bl)) pss_nil)))))) (pss_one (ps_ret pe_bl)))))))), fun ds M Q h => ?_⟩
    obtain ⟨script, rfl, hQ⟩ := h
    try dsimp only [cxOf, Cx.nox]
    refine stp_to M ?_
    refine stp_seq (stp_set ?_)
    walk_at "evs"
    refine ⟨script, rfl, ?_⟩
    intro a ha
    walk_at "evs"
    refine ⟨a, _, 3, rfl, updM_same, ⟨Int.le_refl _, Int.le_refl _⟩, by decide, by decide, ?_⟩
    intro ks st0 q0 hok0 k1 k3 ko hq0
    rw [updM_updM]
    have hq0a : q0 ≠ a := fun e => by rw [e, updM_same] at hq0; cases hq0
    have hq0M : M q0 = none := by rw [updM_ne hq0a] at hq0; exact hq0
    walk_at "evs"
    refine ⟨_, rightP ks, rfl, updM_same, right_valid k1 k3 ko, ?_⟩
    walk_at "evs"
    refine ⟨_, rfl, right_valid k1 k3 ko, ?_⟩
    rw [right_right k1 k3 ko]
    refine ⟨_, rfl, ?_⟩
    refine ifF rfl (stp_next ?_)
    have hs1 : SubM M (updM (updM M a (.lst st0.l)) q0 (.lst (partsL (rightP ks)))) := ((SubM.refl M).upd' ha).upd' hq0M
    have ha1 : updM (updM M a (.lst st0.l)) q0 (.lst (partsL (rightP ks))) a = some (.lst st0.l) := by rw [updM_ne hq0a.symm]; exact updM_same
    generalize updM (updM M a (.lst st0.l)) q0 (.lst (partsL (rightP ks))) = N1 at hs1 ha1
    refine stp_seq (stp_set ?_)
    walk_at "evs"
    refine ⟨a, st0, 3, rfl, ha1, hok0, by decide, by decide, ?_⟩
    intro mm p st1 q hok1 hm2 hg hgk hq
    have hv := gen_valid hg
    have hqa : q ≠ a := fun e => by rw [e, ha1] at hq; cases hq
    refine stp_frzL (i := 2) rfl updM_same ?_
    rw [delM_upd (by rw [updM_ne hqa]; exact hq)]
    have hs2 : SubM M (updM N1 a (.lst st1.l)) := hs1.upd' ha
    have ha2 : updM N1 a (.lst st1.l) a = some (.lst st1.l) := updM_same
    generalize updM N1 a (.lst st1.l) = N at hs2 ha2
    refine stp_seq (stp_set ?_)
    walk_at "evs"
    refine ⟨_, p, rfl, rfl, hv, ?_⟩
    walk_at "evs"
    refine ⟨_, rfl, hv, ?_⟩
    refine ⟨_, rfl, ?_⟩
    cases hr : isRight p with
    | false =>
      refine ifT rfl ?_
      refine stp_seq (stp_set ?_)
      walk_at "evs"
      refine ⟨p, rfl, hv.k3, ?_⟩
      intro s t kl N1 hS kS hs ht hk
      have hsN : SubM M N1 := kS.sub hs2 (by simp)
      have hsM := subM_none hs2 hs
      have htM := subM_none hs2 ht
      have hkM := subM_none hs2 hk
      walk_at "evs"
      refine ⟨p, rfl, hv, ?_⟩
      cases hl : lie p with
      | none =>
        unfold isRight at hr
        rw [hl] at hr
        cases hr
      | some z =>
        obtain ⟨h, i⟩ := z
        obtain ⟨H1, H2, H3, H4⟩ := lie_shows hv hl
        have at_ := hOk_at hv (initL_ok p) H1
        have hmade : (initL p).made = 0 := rfl
        refine gv_tg (js := [5, 6]) (tg_tup rfl rfl) ?_
        refine stp_seq (stp_for (js := [7]) (sr_seq ?_))
        walk_at "evs"
        refine ⟨h.map ddD, .inl rfl, fun j ρ' M' => (∃ y, ρ' = [some (.ro (script.map iD)), some (.sc (.ref a)), some (.lst (partsL p)), some (progD (He.ga K "Program") p), some (.sc (.ref s)), some (.lst (h.map ddD)), some (iD i), y, none, none, none]) ∧ StC M' s t kl (runH p (initL p) (h.take j)) ∧ Keeps [s, t, kl] N1 M', ⟨⟨none, rfl⟩, hS, Keeps.refl _ _⟩, ?_, ?_⟩
        · rintro j d ρ' M' hd ⟨⟨y, rfl⟩, hS', kS'⟩
          rw [List.getElem?_map] at hd
          obtain ⟨dd, hdd, rfl⟩ := Option.map_eq_some_iff.mp hd
          obtain ⟨w1, w2, w3⟩ := at_ j
          have hj : j < h.length := (List.getElem?_eq_some_iff.mp hdd).1
          refine ⟨_, tg_name, ?_⟩
          walk_at "evs"
          refine ⟨s, t, kl, _, p, dd, rfl, hS', hv, w1, w3 dd hdd, by omega, ?_⟩
          intro M2 h2 k2
          refine ⟨⟨_, rfl⟩, ?_, kS'.trans k2⟩
          rw [runH_take hdd]
          exact h2
        · rintro ρ' M' ⟨⟨y, rfl⟩, hS', kS'⟩
          rw [List.length_map, List.take_length] at hS'
          obtain ⟨w1, w2, _⟩ := at_ h.length
          rw [List.take_length] at w1 w2
          walk_at "evs"
          refine ⟨s, t, kl, _, p, rfl, hS', hv.k3, w1.ty, w1.nd, by have := w1.len; omega, ?_⟩
          rw [lies_data]
          refine rop_inL rfl (ints_flat _) ?_
          have hin : i ∈ liesM p (runH p (initL p) h) := List.mem_filter.mpr ⟨List.mem_range.mpr H3, by simp [H4]⟩
          rw [if_neg Bool.false_ne_true, inV_mem hin]
          refine ⟨kS'.sub hsN fun b hb => ?_, hQ⟩
          simp only [List.mem_cons, List.not_mem_nil, or_false] at hb
          rcases hb with rfl | rfl | rfl
          · exact hsM
          · exact htM
          · exact hkM
    | true =>
      refine ifF rfl (stp_next ?_)
      refine stp_seq (stp_for (js := [8]) (sr_range1 ?_))
      walk_at "evs"
      refine ⟨by decide, by decide, ?_⟩
      refine ⟨fun i ρ' M' => (∃ b4 b5 b6 b7 b8 b9 b10, ρ' = [some (.ro (script.map iD)), some (.sc (.ref a)), some (.lst (partsL p)), some (progD (He.ga K "Program") p), b4, b5, b6, b7, b8, b9, b10]) ∧ SubM M M' ∧ ∃ dr : DrSt, M' a = some (.lst dr.l) ∧ dr.Ok, ⟨⟨_, _, _, _, _, _, _, rfl⟩, hs2, st1, ha2, hok1⟩, ?_, ?_⟩
      · rintro i d ρ' M' hd ⟨⟨b4, b5, b6, b7, b8, b9, b10, rfl⟩, hsub, dr, hdr, hdok⟩
        obtain ⟨hi, rfl⟩ := rngD_get hd
        refine ⟨_, tg_name, ?_⟩
        refine stp_seq (stp_set ?_)
        walk_at "evs"
        intro x hx
        have hxM := subM_none hsub hx
        have ax : a ≠ x := ne_N hdr hx
        refine ⟨x, p, rfl, updM_same, hv.k3, ?_⟩
        intro pp dl pa M2 hL kL hpp hdl hpa
        refine ⟨rfl, ?_⟩
        have hdr1 : updM M' x (.ins (He.ga K "Ledger") [] []) a = some (.lst dr.l) := by rw [updM_ne ax]; exact hdr
        have ap : a ≠ pp := ne_N hdr1 hpp
        have ad : a ≠ dl := ne_N hdr1 hdl
        have aa : a ≠ pa := ne_N hdr1 hpa
        have hsub1 : SubM M (updM M' x (.ins (He.ga K "Ledger") [] [])) := hsub.upd' hxM
        have hppM := subM_none hsub1 hpp
        have hdlM := subM_none hsub1 hdl
        have hpaM := subM_none hsub1 hpa
        have hsub2 : SubM M M2 := kL.sub hsub1 (by intro b hb; rw [List.mem_singleton.mp hb]; exact hxM)
        have hdr2 : M2 a = some (.lst dr.l) := kL _ _ (by simp [ax]) hdr1
        refine stp_seq (stp_set ?_)
        walk_at "evs"
        refine ⟨p, rfl, hv.k3, ?_⟩
        intro s t kl M3 hS kS hs ht hk
        have hsM := subM_none hsub2 hs
        have htM := subM_none hsub2 ht
        have hkM := subM_none hsub2 hk
        obtain ⟨es, hde, _⟩ := hL.hd
        obtain ⟨fs, hpe, _⟩ := hL.ha
        have hI : LawI (He.ga K "Ledger") (He.ga K "Program") M M3 a s t kl x pp dl pa p (initL p) 0 := by
          refine ⟨⟨dr, kS _ _ (by simp) hdr2, hdok⟩, hL.keep kS (by simp) (by simp) (by simp) (by simp), hS, initL_ok p, Nat.le_refl _, rfl, by simp [ne_N hdr2 hs, ne_N hdr2 ht, ne_N hdr2 hk], ?_, kS.sub hsub2 (by simp), ?_⟩
          · intro b hb
            simp only [List.mem_cons, List.not_mem_nil, or_false] at hb
            rcases hb with rfl | rfl | rfl | rfl
            · simp [ax, ap, ad, aa]
            · simp [(ne_N hL.hx hs).symm, (ne_N hL.hp hs).symm, (ne_N hde hs).symm, (ne_N hpe hs).symm]
            · simp [(ne_N hL.hx ht).symm, (ne_N hL.hp ht).symm, (ne_N hde ht).symm, (ne_N hpe ht).symm]
            · simp [(ne_N hL.hx hk).symm, (ne_N hL.hp hk).symm, (ne_N hde hk).symm, (ne_N hpe hk).symm]
          · intro b hb
            simp only [List.mem_cons, List.not_mem_nil, or_false] at hb
            rcases hb with rfl | rfl | rfl | rfl | rfl | rfl | rfl | rfl
            · exact ha
            · exact hsM
            · exact htM
            · exact hkM
            · exact hxM
            · exact hppM
            · exact hdlM
            · exact hpaM
        refine stp_seq (stp_for (js := [10]) (sr_range1 ?_))
        walk_at "evs"
        refine ⟨by decide, by decide, ?_⟩
        refine ⟨fun j ρ' M' => ∃ pp st, (∃ b5 b6 b7 b8 b10, ρ' = [some (.ro (script.map iD)), some (.sc (.ref a)), some (.lst (partsL p)), some (progD (He.ga K "Program") p), some (.sc (.ref s)), b5, b6, b7, b8, some (.sc (.ref x)), b10]) ∧ LawI (He.ga K "Ledger") (He.ga K "Program") M M' a s t kl x pp dl pa p st j, ⟨pp, initL p, ⟨_, _, _, _, _, rfl⟩, hI⟩, ?_, ?_⟩
        · rintro j d ρ' M' hd ⟨pp, st, ⟨b5, b6, b7, b8, b10, rfl⟩, hI⟩
          obtain ⟨hj, rfl⟩ := rngD_get hd
          have hj60 : j < 60 := hj
          have hmd := hI.made
          have hln := hI.w.len
          obtain ⟨dr, hdr, hdok⟩ := hI.dr
          refine ⟨_, tg_name, ?_⟩
          refine stp_seq (stp_set ?_)
          walk_at "evs"
          refine ⟨a, s, t, kl, dr, st, rfl, hdr, hdok, hI.own, (by have := hI.na; simp at this; exact this.2.2), by omega, ?_⟩
          intro d dr' hdok' hd
          have h1 := hI.draw hdok'
          walk_at "evs"
          refine ⟨x, pp, dl, pa, p, st, j, d, rfl, h1.led, hv, h1.w, hd, by omega, by omega, ?_⟩
          intro v pp' M2 h2 k2 hp'
          have nl := h1.nl
          have hS2 : StC M2 s t kl st := h1.own.keep k2 (nl s (by simp)) (nl t (by simp)) (nl kl (by simp))
          walk_at "evs"
          refine ⟨s, t, kl, st, p, d, rfl, hS2, hv, h1.w, hd, by omega, ?_⟩
          intro M3 h3 k3
          have hI3 := h1.step hg hm2 hr hd h2 k2 hp' h3 k3
          have hmd3 := hI3.made
          have hln3 := hI3.w.len
          have hnil := lies_nil hI3.kept
          refine stp_if (tv_or ?_)
          walk_at "evs"
          refine ⟨s, t, kl, _, p, rfl, hI3.own, hv.k3, hI3.w.ty, hI3.w.nd, by omega, ?_⟩
          walk_at "evs"
          rw [hnil]
          refine rop_neSame (vs := []) rfl ?_
          refine ⟨_, rfl, ?_⟩
          refine ifF rfl ?_
          walk_at "evs"
          refine ⟨_, _, hI3.led.hx, by decide +kernel, ?_⟩
          walk_at "evs"
          refine ⟨x, pp', dl, pa, p, _, j + 1, rfl, hI3.led, hv.k3, hI3.w.ty, hI3.w.nd, by omega, ?_⟩
          walk_at "evs"
          rw [hnil]
          refine rop_neSame (vs := []) rfl ?_
          refine ⟨_, rfl, ?_⟩
          refine ifF rfl ?_
          walk_at "evs"
          exact ⟨pp', _, ⟨_, _, _, _, _, rfl⟩, hI3⟩
        · rintro ρ' M' ⟨pp, st, ⟨b5, b6, b7, b8, b10, rfl⟩, hI⟩
          have hmd := hI.made
          have hln := hI.w.len
          rw [rngD_length] at hmd
          have hmd : st.made ≤ 60 := hmd
          walk_at "evs"
          refine ⟨_, _, hI.led.hx, by decide +kernel, ?_⟩
          walk_at "evs"
          refine ⟨x, pp, dl, pa, p, _, _, rfl, hI.led, ?_⟩
          walk_at "evs"
          refine ⟨s, t, kl, _, p, rfl, hI.own, hv.k3, hI.w.nd, by omega, ?_⟩
          rw [hI.kept]
          refine rop_neSame (tyA_plain (tyA_true _ _)) ?_
          refine ⟨_, rfl, ?_⟩
          refine ifF rfl ?_
          walk_at "evs"
          exact ⟨⟨_, _, _, _, _, _, _, rfl⟩, hI.sub, hI.dr⟩
      · rintro ρ' M' ⟨_, hsub, _⟩
        walk_at "evs"
        exact ⟨hsub, hQ⟩

theorem ok_law {P : Program} {w : World} {K : PySem.W.Frag} {mg : Str → Option Value} {base : Heap} {f : Addr} {fd : FuncData} (F : FnP K "law" "law" (top 66) f fd) (g : mg "law" = some (.ref f)) (T : Tx w K mg) (c__law_begin : Cal P w K mg base 1 "_law_begin" ["_law_script"] (S_law_begin)) (c__law_right : Cal P w K mg base 3 "_law_right" ["_law_draws", "_law_most"] (S_law_right)) (c__law_any : Cal P w K mg base 5 "_law_any" ["_law_draws", "_law_most"] (S_law_any)) (c__law_made : Cal P w K mg base 8 "_law_made" ["_law_parts"] (S_law_made (He.ga K "Program"))) (c_is_right : Cal P w K mg base 7 "is_right" ["program"] (S_is_right (He.ga K "Program"))) (c_lie : Cal P w K mg base 6 "lie" ["program"] (S_lie (He.ga K "Program"))) (c__law_new : Cal P w K mg base 2 "_law_new" ["_law_parts"] (S_law_new)) (c__law_do : Cal P w K mg base 4 "_law_do" ["_law_state", "_law_parts", "_law_deed_here"] (S_law_do)) (c__law_lies : Cal P w K mg base 3 "_law_lies" ["_law_state", "_law_parts"] (S_law_lies)) (c__law_deed : Cal P w K mg base 3 "_law_deed" ["_law_draws", "_law_state"] (S_law_deed)) (c__law_act : Cal P w K mg base 6 "_law_act" ["_law_ledger", "_law_deed_here"] (S_law_act (He.ga K "Ledger") (He.ga K "Program"))) (c__law_trues : Cal P w K mg base 2 "_law_trues" ["_law_state", "_law_parts"] (S_law_trues)) (m_lies : CalM P w K mg base (He.ga K "Ledger") 4 "lies" ["self"] (S_Ledger_lies (He.ga K "Ledger") (He.ga K "Program"))) (m_kept : CalM P w K mg base (He.ga K "Ledger") 1 "kept" ["self"] (S_Ledger_kept (He.ga K "Ledger") (He.ga K "Program"))) (k_Ledger : CalC P w K mg base (He.ga K "Ledger") 2 "Ledger" ["self", "program"] (S_Ledger_init (He.ga K "Ledger") (He.ga K "Program")))  : Cal P w K mg base 9 "law" ["_law_script"] (S_law) :=
  cal_mk F g (fn_law F T c__law_begin c__law_right c__law_any c__law_made c_is_right c_lie c__law_new c__law_do c__law_lies c__law_deed c__law_act c__law_trues m_lies m_kept k_Ledger) (F.bindsN fun _ _ _ _ _ _ us hl => match us, hl with | [_], _ => rfl)
end Kc
namespace Kc
open PySem L2 Dl
local macro_rules | `(tactic| walk_at "evE") => `(tactic| (first
  | ((with_reducible refine' ev_var ?evh ?_); (case evh => exact rfl))
  | with_reducible refine' ev_k (Tx.d_NAMES (by assumption)) ?_
  | with_reducible refine' ev_k (Tx.d_WHATS (by assumption)) ?_
  | with_reducible refine' ev_k (Tx.d_SOURCES (by assumption)) ?_
  | with_reducible refine' ev_k (Tx.d_NUMBERS (by assumption)) ?_
  | with_reducible refine' ev_c ?_
  | with_reducible refine' ev_op ?_
  | with_reducible refine' ev_call ?_
  | with_reducible refine' ev_cb ?_
  | with_reducible refine' ev_tup ?_
  | with_reducible refine' ev_lst ?_
  | with_reducible refine' ev_if ?_
  | with_reducible refine' ev_andV ?_
  | with_reducible refine' ev_orV ?_
  | with_reducible refine' ev_notV ?_
  | with_reducible refine' ev_chain ?_
  | with_reducible refine' ev_sl ?_
  | with_reducible refine' ev_dget ?_
  | with_reducible refine' ev_disp ?_
  | walk_at "evF"
  | with_reducible refine' ev_meth ?_
  | with_reducible refine' ev_make ?_
  | with_reducible refine' ev_bm ?_))
local macro_rules | `(tactic| walk_at "evR") => `(tactic| (first
  | with_reducible refine' rop_I0 ?_
  | ((with_reducible refine' rop_eq ?evs ?_); (case evs => exact rfl))
  | ((with_reducible refine' rop_ne ?evs ?_); (case evs => exact rfl))
  | ((with_reducible refine' rop_ix_T ?evs ?_); (case evs => (first | assumption | exact rfl)))
  | ((with_reducible refine' rop_ix_L ?evs ?_); (case evs => (first | assumption | exact rfl)))
  | ((with_reducible refine' rop_ix_M ?evh ?evs ?_); (case evh => (first | exact updM_same | assumption)); (case evs => (first | assumption | exact rfl)))
  | with_reducible refine' rop_or1 (rop_I0 ?_)
  | ((with_reducible refine' rop_or2 (rop_or1 (rop_catA ?evz ?_))); (case evz => (first | exact Nat.le_of_ble_eq_true rfl | omega | (simp; done) | (simp; omega))))
  | ((with_reducible refine' rop_or1 (rop_I ?evh ?_)); (case evh => (first | exact Or.inl ⟨by decide, by decide⟩ | exact Or.inr ⟨by decide, by decide⟩)))
  | ((with_reducible refine' rop_I ?evh ?_); (case evh => (first | (exact (show (0:Int) < _ by omega)) | exact ⟨by decide, by decide, by decide⟩)))
  | ((with_reducible refine' rop_or2 (rop_or1 (rop_rep ?evs ?eva ?evb ?evc ?_))); (case evs => exact rfl); (case eva => decide); (case evb => decide); (case evc => exact Nat.le_of_ble_eq_true rfl))
  | ((with_reducible refine' rop_or2 (rop_or2 (rop_cat ?evs ?evt ?evz ?_))); (case evs => exact rfl); (case evt => exact rfl); (case evz => exact Nat.le_of_ble_eq_true rfl))
  | with_reducible refine' rop_isN ?_
  | with_reducible refine' rop_notN ?_
  | ((with_reducible refine' rop_isN0 ?evs ?_); (case evs => intro _ h; cases h))
  | ((with_reducible refine' rop_notN0 ?evs ?_); (case evs => intro _ h; cases h))
  | ((with_reducible refine' rop_inT ?evs ?evt ?_); (case evs => exact rfl); (case evt => first | assumption | exact rfl))
  | ((with_reducible refine' rop_inS ?evs ?evt ?evu ?_); (case evs => exact rfl); (case evt => exact rfl); (case evu => exact rfl))))
local macro_rules | `(tactic| walk_at "evC") => `(tactic| (first
  | ((with_reducible refine' rcl_len ?evs ?_); (case evs => exact rfl))
  | ((with_reducible refine' rcl_isi ?evs ?evk ?_); (case evs => exact rfl); (case evk => (first | exact kit_int_int | exact kit_int_bool | exact kit_int_str | exact kit_int_tuple | exact kit_int_list | exact kit_bool_int | exact kit_bool_bool | exact kit_bool_str | exact kit_bool_tuple | exact kit_bool_list | exact kit_str_int | exact kit_str_bool | exact kit_str_str | exact kit_str_tuple | exact kit_str_list | exact kit_tuple_int | exact kit_tuple_bool | exact kit_tuple_str | exact kit_tuple_tuple | exact kit_tuple_list | exact kit_list_int | exact kit_list_bool | exact kit_list_str | exact kit_list_tuple | exact kit_list_list | exact kit_NoneType_int | exact kit_NoneType_bool | exact kit_NoneType_str | exact kit_NoneType_tuple | exact kit_NoneType_list)))
  | with_reducible refine' rcl_int ?_
  | with_reducible refine' rcl_intB ?_
  | with_reducible refine' rcl_max2 ?_
  | with_reducible refine' rcl_min2 ?_))
local macro_rules | `(tactic| walk_at "evT") => `(tactic| (first
  | with_reducible refine' tv_test ?_
  | with_reducible refine' tv_or ?_
  | with_reducible refine' tv_and ?_
  | with_reducible refine' tv_not ?_
  | with_reducible refine' tv_B ?_
  | with_reducible refine' tv_tru ?_
  | with_reducible refine' tv_yes ?_))
local macro_rules | `(tactic| walk_at "evA") => `(tactic| (first
  | with_reducible refine' av_cons ?_
  | with_reducible refine' av_nil ?_))
local macro_rules | `(tactic| walk_at "evS") => `(tactic| (first
  | with_reducible refine' stp_seq ?_
  | with_reducible refine' stp_if ?_
  | with_reducible refine' stp_ret ?_
  | with_reducible refine' stp_next ?_
  | with_reducible refine' stp_set ?_
  | with_reducible refine' stp_asg ?_
  | with_reducible refine' stp_drop ?_
  | with_reducible refine' stp_par ?_
  | with_reducible refine' stp_dput ?_
  | with_reducible refine' stp_augL ?_
  | with_reducible refine' stp_retN ?_
  | with_reducible refine' stp_brk ?_
  | with_reducible refine' stp_cont ?_))
local macro_rules | `(tactic| walk_at "evI") => `(tactic| (first
  | ((with_reducible refine' ifT ?evs ?_); (case evs => exact rfl))
  | ((with_reducible refine' ifF ?evs ?_); (case evs => exact rfl))))
local macro_rules | `(tactic| walk_at "ev") => `(tactic| (first
  | ((with_reducible show EvP _ _ _ _ _); walk_at "evE")
  | ((with_reducible show ROp _ _ _ _ _ _); walk_at "evR")
  | ((with_reducible show AvP _ _ _ _ _); walk_at "evA")
  | ((with_reducible show TvP _ _ _ _ _); walk_at "evT")
  | ((with_reducible show RCl _ _ _ _ _); walk_at "evC")
  | ((with_reducible show StP _ _ _ _ _); walk_at "evS")
  | ((with_reducible show ite _ _ _); walk_at "evI")
  | with_reducible refine' ov_none ?_
  | with_reducible refine' ov_some ?_
  | ((with_reducible show RSl _ _ _ _ _ _ _); (first | with_reducible refine' rsl_T ?_ | ((with_reducible refine' rsl_L ?evh ?_); (case evh => exact rfl))))
  | with_reducible refine' gv_name ?_
  | with_reducible refine' gv_sub ?_
  | ((with_reducible show RSet _ _ _ _ _ _ _); ((with_reducible refine' rset_L ?evh ?evs ?_); (case evh => (first | exact updM_same | assumption)); (case evs => exact rfl)))
  | with_reducible refine' pv_cons ?_
  | with_reducible refine' pv_nil ?_
  | ((with_reducible show Exists _); refine ⟨_, rfl, ?_⟩)
  | ((with_reducible show Exists _); refine ⟨_, _, rfl, ?_⟩)
  | ((with_reducible show Exists _); refine ⟨_, _, (by first | exact ⟨rfl, rfl, rfl⟩ | exact rfl | assumption), (by first | exact rfl | decide +kernel), ?_⟩)
  | ((with_reducible show And _ _); refine ⟨Nat.le_of_ble_eq_true rfl, ?_⟩)))
local macro_rules | `(tactic| walk_at "evs") => `(tactic| (repeat walk_at "ev"))
local macro_rules | `(tactic| walk_at "evF") => `(tactic| ((with_reducible refine' ev_fld (C := He.ga _ "Program") (ns := progN) (Tx.c_Program (by assumption)) (Tx.n_Program (by assumption) _ ?evm) ?_); (case evm => decide +kernel)))

theorem sc_Program_steps_of : FnScope ["self", "name"] ["self", "name"] (defScope (inClass (top 21) 3)) := ⟨rfl, rfl, rfl, by decide +kernel, rfl, by decide +kernel, by decide +kernel⟩
theorem fn_Program_steps_of {P : Program} {w : World} {K : PySem.W.Frag} {mg : Str → Option Value} {base : Heap} {f : Addr} {fd : FuncData} (F : FnP K "steps_of" "Program.steps_of" (inClass (top 21) 3) f fd) (T : Tx w K mg)   : FnOk P w K mg base CX0 1 f fd ["self", "name"] (spOf K (S_steps_of (He.ga K "Program"))) := by
  have sc := sc_Program_steps_of
  refine ok_fn (k := 0) F sc (fun ds M Q h => ?_) (fun cdv A outer s H E hr => ?_)
  · obtain ⟨p, n, rfl, hQ⟩ := h; rfl
  · have hu6 : A.units + 64 < cLine := by have := hr.un; show A.units + 64 < cLine; simp only [Around.deeper] at this; omega
    have hu := hu_of hr
    refine ⟨_, (pss_one (ps_ret (pe_dget hu (pe_disp (pps_cons pe_str (pe_fld (pv 0) rfl) (pps_cons pe_str (pe_fld (pv 0) rfl) (pps_cons pe_str (pe_fld (pv 0) rfl) pps_nil))) (by rfl) (by rfl) (fun z => by cases z) (by decide)) (pv 1) (fun _ _ => rfl)))), fun ds M Q h => ?_⟩
    obtain ⟨p, n, rfl, hQ⟩ := h
    try dsimp only [cxOf, Cx.nox]
    refine stp_to M ?_
    walk_at "evs"
    intro q hq
    cases n <;> (walk_at "evs"; refine ⟨_, _, _, _, rfl, updM_same, rfl, rfl, ?_⟩; exact subU hq hQ)


theorem sc_asks_none : FnScope ["program", "rows", "name", "row", "step"] ["program"] (defScope (top 31)) := ⟨rfl, rfl, rfl, by decide +kernel, rfl, by decide +kernel, by decide +kernel⟩
theorem fn_asks_none {P : Program} {w : World} {K : PySem.W.Frag} {mg : Str → Option Value} {base : Heap} {f : Addr} {fd : FuncData} (F : FnP K "asks_none" "asks_none" (top 31) f fd) (T : Tx w K mg) (m_steps_of : CalM P w K mg base (He.ga K "Program") 1 "steps_of" ["self", "name"] (S_steps_of (He.ga K "Program")))  : FnOk P w K mg base CX0 2 f fd ["program"] (spOf K (S_asks_none (He.ga K "Program"))) := by
  have sc := sc_asks_none
  refine ok_fn (k := 1) F sc (fun ds M Q h => ?_) (fun cdv A outer s H E hr => ?_)
  · obtain ⟨p, rfl, hv, hQ⟩ := h; rfl
  · have hu6 : A.units + 64 < cLine := by have := hr.un; show A.units + 64 < cLine; simp only [Around.deeper] at this; omega
    have hu := hu_of hr
    refine ⟨_, (pss_cons (ps_setLc (i := 1) (own := [("name", 2)]) (by rfl) sc.nd rfl rfl (sw_true rfl rfl rfl (by decide +kernel)) (pi_seq (pe_glob (v := .ref _) (by rfl) T.g_NAMES rfl)) (blkOk_by (own := [("name", 2)]) (N := ["program", "rows", "name", "row", "step"]) (sc := defScope (top 31)) (by decide +kernel)) (fun _ _ _ _ _ => (pg_name (i := 2) sc.nd rfl (Or.inl rfl))) (fun _ _ _ _ _ => pts_nil) (fun _ _ _ _ _ => (k_metD (K := K) m_steps_of (hr.mono (by first | decide | exact Nat.le_refl _)) (pv 0) (pa_cons (pv 2) pa_nil)))) (pss_one (ps_ret (pe_callB (cr_any rfl) (by rfl) T.b_any (by decide +kernel) (pa_cons (pe_lc2 (own := [("row", 3), ("step", 4)]) (vs1 := [4]) (by rfl) sc.nd (pi_seq (pv 1)) (blkOk_by (own := [("row", 3), ("step", 4)]) (N := ["program", "rows", "name", "row", "step"]) (sc := defScope (top 31)) (by decide +kernel)) (by decide) (fun _ _ _ _ _ => (pg_name (i := 3) sc.nd rfl (Or.inl rfl))) (fun _ _ _ _ _ => pts_nil) (fun _ _ _ _ _ => (k_pi_seq (K := K) (pv 3))) (fun _ _ _ _ _ => (pg_name (i := 4) sc.nd rfl (Or.inl rfl))) (fun _ _ _ _ _ => pts_nil) (fun _ _ _ _ _ => (pe_and (pe_cmpR op_eq (pe_ix (k_ix_seq (K := K)) (pv 4) pe_int (fun _ _ => rfl)) pe_str (nomark _)) (pe_one (pe_cmpR op_eq (pe_ix (k_ix_seq (K := K)) (pe_ix (k_ix_seq (K := K)) (pv 4) pe_int (fun _ _ => rfl)) pe_int (fun _ _ => rfl)) pe_str (nomark _)))))) pa_nil))))), fun ds M Q h => ?_⟩
    obtain ⟨p, rfl, hv, hQ⟩ := h
    try dsimp only [cxOf, Cx.nox]
    have nm : ∀ (i : Nat) (d : Da), [sD "new", sD "change", sD "drop"][i]? = some d → ∃ m : Pn, d = sD m.s ∧ [p.new, p.change, p.drop][i]? = some (p.steps m) := by
      intro i d hd
      match i, hd with
      | 0, hd => exact ⟨.new, (Option.some.inj hd).symm, rfl⟩
      | 1, hd => exact ⟨.change, (Option.some.inj hd).symm, rfl⟩
      | 2, hd => exact ⟨.drop, (Option.some.inj hd).symm, rfl⟩
      | n + 3, hd => simp at hd
    have h1 : p.new.length ≤ 6 := hv.len .new
    have h2 : p.change.length ≤ 6 := hv.len .change
    have h3 : p.drop.length ≤ 6 := hv.len .drop
    refine stp_seq (stp_set (ev_lcMap [2] (by decide) (sr_seq ?_)))
    walk_at "evs"
    refine ⟨_, .inr rfl, [p.new, p.change, p.drop].map fun l => .tup (l.map stepD), rfl, by simp, ?_, ?_⟩
    · intro i d e hd he
      obtain ⟨m, rfl, hm⟩ := nm i d hd
      rw [List.getElem?_map, hm] at he
      obtain rfl := Option.some.inj he
      refine ⟨_, tg_name, ?_⟩
      walk_at "evs"
      exact ⟨p, m, rfl, rfl, rfl⟩
    · walk_at "evs"
      refine ev_lc2Map [3] [4] (by decide) (by decide) (sr_seq ?_)
      walk_at "evs"
      refine ⟨_, .inl rfl, [p.new, p.change, p.drop].map fun l => l.map fun s => .sc (.bl s.asksNone), rfl, by simp; omega, ?_, ?_⟩
      · intro i d es hd he
        rw [List.getElem?_map] at hd he
        obtain ⟨l, hl, rfl⟩ := Option.map_eq_some_iff.mp hd
        rw [hl] at he
        obtain rfl := Option.some.inj he
        refine ⟨_, tg_name, sr_seq ?_⟩
        walk_at "evs"
        refine ⟨_, .inr rfl, rfl, by simp, ?_⟩
        intro j f e hf hee
        rw [List.getElem?_map] at hf hee
        obtain ⟨s, hs, rfl⟩ := Option.map_eq_some_iff.mp hf
        rw [hs] at hee
        obtain rfl := Option.some.inj hee
        refine ⟨_, tg_name, ?_⟩
        obtain ⟨te, tc⟩ := s
        cases te with
        | none => cases tc <;> (walk_at "evs"; exact ⟨rfl, rfl⟩)
        | some t => cases t <;> (walk_at "evs"; exact ⟨rfl, rfl⟩)
      · have e : ([p.new, p.change, p.drop].map fun l => l.map fun s => Da.sc (.bl s.asksNone)).flatten = ((p.new ++ p.change ++ p.drop).map Step.asksNone).map fun b => Da.sc (.bl b) := by
          simp [List.map_append, Function.comp_def]
        rw [e]
        walk_at "evs"
        refine rcl_any (bs := (p.new ++ p.change ++ p.drop).map Step.asksNone) (by exact rfl) ?_
        have e2 : ((p.new ++ p.change ++ p.drop).map Step.asksNone).any id = asksNone p := by
          unfold asksNone
          rw [List.any_map]
          rfl
        rw [e2]
        exact hQ

theorem ok_asks_none {P : Program} {w : World} {K : PySem.W.Frag} {mg : Str → Option Value} {base : Heap} {f : Addr} {fd : FuncData} (F : FnP K "asks_none" "asks_none" (top 31) f fd) (g : mg "asks_none" = some (.ref f)) (T : Tx w K mg) (m_steps_of : CalM P w K mg base (He.ga K "Program") 1 "steps_of" ["self", "name"] (S_steps_of (He.ga K "Program")))  : Cal P w K mg base 2 "asks_none" ["program"] (S_asks_none (He.ga K "Program")) :=
  cal_mk F g (fn_asks_none F T m_steps_of) (F.bindsN fun _ _ _ _ _ _ us hl => match us, hl with | [_], _ => rfl)

theorem sc_most_others : FnScope ["program", "name"] ["program"] (defScope (top 32)) := ⟨rfl, rfl, rfl, by decide +kernel, rfl, by decide +kernel, by decide +kernel⟩
theorem fn_most_others {P : Program} {w : World} {K : PySem.W.Frag} {mg : Str → Option Value} {base : Heap} {f : Addr} {fd : FuncData} (F : FnP K "most_others" "most_others" (top 32) f fd) (T : Tx w K mg) (c_asks_none : Cal P w K mg base 2 "asks_none" ["program"] (S_asks_none (He.ga K "Program"))) (m_steps_of : CalM P w K mg base (He.ga K "Program") 1 "steps_of" ["self", "name"] (S_steps_of (He.ga K "Program")))  : FnOk P w K mg base CX0 3 f fd ["program"] (spOf K (S_most_others (He.ga K "Program"))) := by
  have sc := sc_most_others
  refine ok_fn (k := 2) F sc (fun ds M Q h => ?_) (fun cdv A outer s H E hr => ?_)
  · obtain ⟨p, rfl, hv, hQ⟩ := h; rfl
  · have hu6 : A.units + 64 < cLine := by have := hr.un; show A.units + 64 < cLine; simp only [Around.deeper] at this; omega
    have hu := hu_of hr
    refine ⟨_, (pss_one (ps_ret (pe_callB (cr_max rfl) (by rfl) T.b_max (by decide +kernel) (pa_cons (pe_op op_addA (pe_lst (pa_cons pe_int pa_nil)) (pe_lc (own := [("name", 1)]) (by rfl) sc.nd (pi_seq (pe_glob (v := .ref _) (by rfl) T.g_NAMES rfl)) (blkOk_by (own := [("name", 1)]) (N := ["program", "name"]) (sc := defScope (top 32)) (by decide +kernel)) (fun _ _ _ _ _ => (pg_name (i := 1) sc.nd rfl (Or.inl rfl))) (fun _ _ _ _ _ => (pts_one (pt_val (k_calD (K := K) c_asks_none (hr.mono (by first | decide | exact Nat.le_refl _)) (by rfl) (pa_cons (pv 0) pa_nil))))) (fun _ _ _ _ _ => (pe_callB (k_call_len (K := K)) (by rfl) T.b_len (by decide +kernel) (pa_cons (k_metD (K := K) m_steps_of (hr.mono (by first | decide | exact Nat.le_refl _)) (pv 0) (pa_cons (pv 1) pa_nil)) pa_nil))))) pa_nil)))), fun ds M Q h => ?_⟩
    obtain ⟨p, rfl, hv, hQ⟩ := h
    try dsimp only [cxOf, Cx.nox]
    have nm : ∀ (i : Nat) (d : Da), [sD "new", sD "change", sD "drop"][i]? = some d → ∃ m : Pn, d = sD m.s ∧ [p.new, p.change, p.drop][i]? = some (p.steps m) := by
      intro i d hd
      match i, hd with
      | 0, hd => exact ⟨.new, (Option.some.inj hd).symm, rfl⟩
      | 1, hd => exact ⟨.change, (Option.some.inj hd).symm, rfl⟩
      | 2, hd => exact ⟨.drop, (Option.some.inj hd).symm, rfl⟩
      | n + 3, hd => simp at hd
    let ls : List Int := if asksNone p = true then [(p.new.length : Int), (p.change.length : Int), (p.drop.length : Int)] else []
    walk_at "evs"
    refine ev_lc (js := [1]) (by decide) (sr_seq ?_)
    walk_at "evs"
    refine ⟨_, .inr rfl, fun i acc M' => acc = (ls.take i).map iD ∧ M = M', ⟨rfl, rfl⟩, ?_, ?_⟩
    · rintro i d acc M' hd ⟨ea, em⟩
      subst ea em
      obtain ⟨m, rfl, hm⟩ := nm i d hd
      refine ⟨_, tg_name, ?_⟩
      walk_at "evs"
      refine ⟨p, rfl, hv, ?_⟩
      walk_at "evs"
      refine ifB (fun h => ?_) (fun h => ?_)
      · have e : ls = [p.new, p.change, p.drop].map fun l => (l.length : Int) := by
          show (if _ then _ else _) = _
          rw [if_pos h]
          rfl
        refine ⟨by rw [e]; simp; omega, ?_⟩
        walk_at "evs"
        refine ⟨p, m, rfl, ?_⟩
        walk_at "evs"
        refine ⟨?_, rfl⟩
        rw [List.length_map, take_succ_some (l := ls) (e := ((p.steps m).length : Int)) (by rw [e, List.getElem?_map, hm] <;> rfl), List.map_append]
        rfl
      · refine ⟨?_, rfl⟩
        have e : ls = [] := by
          show (if _ then _ else _) = _
          rw [if_neg (by rw [h]; exact Bool.false_ne_true)]
        rw [e, List.take_nil, List.take_nil]
    · rintro acc M' ⟨ea, em⟩
      subst ea em
      have e : ls.take 3 = ls := by
        show List.take 3 (if _ then _ else _) = (if _ then _ else _)
        split <;> rfl
      refine rop_or2 (rop_or2 ?_)
      refine rop_cat (ds := [iD 2]) (es := ls.map iD) (show _ = _ from rfl) (show _ = _ from congrArg _ e) ?_ ?_
      · rw [List.length_map, ← e, List.length_take]
        simp; omega
      · walk_at "evs"
        refine rcl_max (ns := 2 :: ls) (show _ = _ from rfl) (Nat.succ_pos _) fun m hm hle => ?_
        have em : m = (mostOthers p : Nat) := by
          rw [← maxV_eq hm hle]
          have e0 : (if asksNone p = true then [(p.new.length : Int), (p.change.length : Int), (p.drop.length : Int)] else []) = ls := rfl
          unfold mostOthers
          by_cases hb : asksNone p = true
          · rw [if_pos hb] at e0 ⊢
            rw [← e0]
            show max (max (max (2 : Int) p.new.length) p.change.length) p.drop.length = _
            omega
          · rw [if_neg hb] at e0 ⊢
            rw [← e0]
            rfl
        subst em
        exact hQ

theorem ok_most_others {P : Program} {w : World} {K : PySem.W.Frag} {mg : Str → Option Value} {base : Heap} {f : Addr} {fd : FuncData} (F : FnP K "most_others" "most_others" (top 32) f fd) (g : mg "most_others" = some (.ref f)) (T : Tx w K mg) (c_asks_none : Cal P w K mg base 2 "asks_none" ["program"] (S_asks_none (He.ga K "Program"))) (m_steps_of : CalM P w K mg base (He.ga K "Program") 1 "steps_of" ["self", "name"] (S_steps_of (He.ga K "Program")))  : Cal P w K mg base 3 "most_others" ["program"] (S_most_others (He.ga K "Program")) :=
  cal_mk F g (fn_most_others F T c_asks_none m_steps_of) (F.bindsN fun _ _ _ _ _ _ us hl => match us, hl with | [_], _ => rfl)

theorem sc_first_lie : FnScope ["program", "steps", "before", "after", "elder", "newer", "kept", "told", "index", "true"] ["program", "steps", "before", "after", "elder", "newer"] (defScope (top 35)) := ⟨rfl, rfl, rfl, by decide +kernel, rfl, by decide +kernel, by decide +kernel⟩
theorem fn_first_lie {P : Program} {w : World} {K : PySem.W.Frag} {mg : Str → Option Value} {base : Heap} {f : Addr} {fd : FuncData} (F : FnP K "first_lie" "first_lie" (top 35) f fd) (T : Tx w K mg) (c_true_values : Cal P w K mg base 2 "true_values" ["keeps", "things"] (S_true_values)) (m_steps : CalM P w K mg base (He.ga K "Deed") 3 "steps" ["self", "some"] (S_steps (He.ga K "Deed"))) (k_Deed : CalC P w K mg base (He.ga K "Deed") 1 "Deed" ["self", "keeps", "kept", "things", "elder", "newer"] (S_Deed_init (He.ga K "Deed")))  : FnOk P w K mg base CX0 4 f fd ["program", "steps", "before", "after", "elder", "newer"] (spOf K (S_first_lie (He.ga K "Program"))) := by
  have sc := sc_first_lie
  refine ok_fn (k := 3) F sc (fun ds M Q h => ?_) (fun cdv A outer s H E hr => ?_)
  · obtain ⟨p, ss, before, after, elder, newer, n, rfl, h3, hok, hst, hb, ha, hQ⟩ := h; rfl
  · have hu6 : A.units + 64 < cLine := by have := hr.un; show A.units + 64 < cLine; simp only [Around.deeper] at this; omega
    have hu := hu_of hr
    refine ⟨_, (pss_cons (ps_set (i := 6) sc.nd rfl (Or.inl rfl) (pe_calD c_true_values (hr.mono (by first | decide | exact Nat.le_refl _)) (by rfl) (pa_cons (pe_fld (pv 0) rfl) (pa_cons (pv 2) pa_nil)))) (pss_cons (ps_set (i := 7) sc.nd rfl (Or.inl rfl) (pe_metD m_steps (hr.mono (by first | decide | exact Nat.le_refl _)) (pe_makD k_Deed (hr.mono (by first | decide | exact Nat.le_refl _)) (by rfl) (pa_cons (pe_fld (pv 0) rfl) (pa_cons (pv 6) (pa_cons (pv 3) (pa_cons (pv 4) (pa_cons (pv 5) pa_nil)))))) (pa_cons (pv 1) pa_nil))) (pss_cons (ps_for PassesOwn.never (by rfl) (pi_enumA (by rfl) T.b_enumerate (pa_cons (pe_calD c_true_values (hr.mono (by first | decide | exact Nat.le_refl _)) (by rfl) (pa_cons (pe_fld (pv 0) rfl) (pa_cons (pv 3) pa_nil))) pa_nil)) (pg_tup (n := 2) (by rfl) (pgs_cons (pg_name (i := 8) sc.nd rfl (Or.inl rfl)) (pgs_cons (pg_name (i := 9) sc.nd rfl (Or.inl rfl)) pgs_nil))) (pss_one (ps_if (pt_cmpR op_ne (pe_ix ix_seq (pv 7) (pv 8) (fun _ _ => rfl)) (pv 9) (nomark _)) (pss_one (ps_ret (pv 8))) pss_nil))) (pss_one (ps_ret pe_non))))), fun ds M Q h => ?_⟩
    obtain ⟨p, ss, before, after, elder, newer, n, rfl, h3, hok, hst, hb, ha, hQ⟩ := h
    try dsimp only [cxOf, Cx.nox]
    refine stp_to M ?_
    walk_at "evs"
    refine ⟨.tup (p.keeps.map keepD), p.keeps, before, rfl, .inr rfl, h3, hb, ?_⟩
    walk_at "evs"
    intro x hx
    refine ⟨x, trueValues p.keeps before, ⟨p.keeps, after, elder, newer⟩, rfl, updM_same, ?_⟩
    intro l hl
    refine ⟨rfl, ?_⟩
    have hxl : x ≠ l := by
      intro e
      subst e
      rw [updM_same] at hl
      cases hl
    have hlM : M l = none := by rw [updM_ne hxl.symm] at hl; exact hl
    refine ⟨_, _, (by show _ = _; rw [updM_ne hxl]; exact updM_same), by decide +kernel, ?_⟩
    walk_at "evs"
    refine ⟨x, l, ⟨p.keeps, after, elder, newer⟩, trueValues p.keeps before, n, _, ss, rfl, .inr rfl, ⟨by rw [updM_ne hxl]; exact updM_same, updM_same, hxl⟩, hok, tyA_true _ _, hst, ha, ?_⟩
    walk_at "evs"
    let N : MH := updM (updM (updM (updM M x (.ins (He.ga K "Deed") [] [])) x (.ins (He.ga K "Deed") deedN [.tup (p.keeps.map keepD), .sc (.ref l), .lst (after.map thingD), optD elder, optD newer])) l (.lst ((trueValues p.keeps before).map Da.sc))) l (.lst ((run ⟨p.keeps, after, elder, newer⟩ ss (trueValues p.keeps before)).map Da.sc))
    have hsub : SubM M N := ((((SubM.refl M).upd' hx).upd' hx).upd' hlM).upd' hlM
    have hN : N l = some (.lst ((run ⟨p.keeps, after, elder, newer⟩ ss (trueValues p.keeps before)).map Da.sc)) := updM_same
    let pr : Nat → Bool := fun i => !decide (at_ (run ⟨p.keeps, after, elder, newer⟩ ss (trueValues p.keeps before)) i = at_ (trueValues p.keeps after) i)
    have hfl : firstLie p ss before after elder newer = (List.range p.keeps.length).find? pr := rfl
    have ht1 : TyA p.keeps (run ⟨p.keeps, after, elder, newer⟩ ss (trueValues p.keeps before)) := tyA_run (n := n) (d := ⟨p.keeps, after, elder, newer⟩) (tyA_true _ _) hst
    have ht2 : TyA p.keeps (trueValues p.keeps after) := tyA_true _ _
    refine stp_for (js := [8, 9]) (sr_enumA ?_)
    walk_at "evs"
    refine ⟨.tup (p.keeps.map keepD), p.keeps, after, rfl, .inr rfl, h3, ha, ?_⟩
    walk_at "evs"
    refine ⟨_, .inl rfl, fun i ρ' M' => (∃ a b, ρ' = [some (progD (He.ga K "Program") p), some (.tup (ss.map stepD)), some (.lst (before.map thingD)), some (.lst (after.map thingD)), some (optD elder), some (optD newer), some (.lst ((trueValues p.keeps before).map Da.sc)), some (.sc (.ref l)), a, b]) ∧ N = M' ∧ ∀ j, j < i → (!pr j) = true, ⟨⟨none, none, rfl⟩, rfl, fun j hj => absurd hj (Nat.not_lt_zero j)⟩, ?_, ?_⟩
    · rintro i d ρ' M' hd ⟨⟨a, b, rfl⟩, eN, hprev⟩
      obtain ⟨e, he, rfl⟩ := enumD_get hd
      rw [List.getElem?_map] at he
      obtain ⟨u, hu', rfl⟩ := Option.map_eq_some_iff.mp he
      have hil : i < p.keeps.length := by rw [← ht2.len]; exact (List.getElem?_eq_some_iff.mp hu').1
      have hk : p.keeps[i]? = some p.keeps[i] := List.getElem?_eq_getElem hil
      obtain ⟨v, hv, tv⟩ := ht1.at_ hk
      have tu := ht2.ty i _ u hk hu'
      have hat : atI ((run ⟨p.keeps, after, elder, newer⟩ ss (trueValues p.keeps before)).map Da.sc) (i : Int) = some (.sc v) := atI_nat (by rw [List.getElem?_map, hv] <;> rfl)
      have hpr : pr i = !decide (v = u) := by
        show (!decide (at_ _ i = at_ _ i)) = _
        rw [at_some hv, at_some hu']
      subst eN
      refine ⟨_, tg_tup (js := [8, 9]) rfl rfl, ?_⟩
      walk_at "evs"
      try refine rop_ix_M hN hat ?_
      walk_at "evs"
      refine rop_ne (scal_ty tv tu) ?_
      walk_at "evs"
      refine ifB (fun h => ?_) (fun h => ?_)
      · walk_at "evs"
        refine ⟨hsub, ?_⟩
        have e : (List.range p.keeps.length).find? pr = some i := List.find?_range_eq_some.mpr ⟨hpr.trans h, List.mem_range.mpr hil, hprev⟩
        rw [hfl, e] at hQ
        exact hQ
      · walk_at "evs"
        refine ⟨⟨_, _, rfl⟩, rfl, fun j hj => ?_⟩
        by_cases e : j = i
        · rw [e, hpr, h]; rfl
        · exact hprev j (by omega)
    · rintro ρ' M' ⟨_, eN, hall⟩
      subst eN
      walk_at "evs"
      refine ⟨hsub, ?_⟩
      have e : (List.range p.keeps.length).find? pr = none := List.find?_range_eq_none.mpr fun i hi => hall i (by rw [enumD_length, List.length_map, ht2.len]; exact hi)
      rw [hfl, e] at hQ
      exact hQ

theorem ok_first_lie {P : Program} {w : World} {K : PySem.W.Frag} {mg : Str → Option Value} {base : Heap} {f : Addr} {fd : FuncData} (F : FnP K "first_lie" "first_lie" (top 35) f fd) (g : mg "first_lie" = some (.ref f)) (T : Tx w K mg) (c_true_values : Cal P w K mg base 2 "true_values" ["keeps", "things"] (S_true_values)) (m_steps : CalM P w K mg base (He.ga K "Deed") 3 "steps" ["self", "some"] (S_steps (He.ga K "Deed"))) (k_Deed : CalC P w K mg base (He.ga K "Deed") 1 "Deed" ["self", "keeps", "kept", "things", "elder", "newer"] (S_Deed_init (He.ga K "Deed")))  : Cal P w K mg base 4 "first_lie" ["program", "steps", "before", "after", "elder", "newer"] (S_first_lie (He.ga K "Program")) :=
  cal_mk F g (fn_first_lie F T c_true_values m_steps k_Deed) (F.bindsN fun _ _ _ _ _ _ us hl => match us, hl with | [_, _, _, _, _, _], _ => rfl)

theorem sc_lie_of_new : FnScope ["program", "many", "most", "crowd", "newer", "index"] ["program", "many", "most"] (defScope (top 36)) := ⟨rfl, rfl, rfl, by decide +kernel, rfl, by decide +kernel, by decide +kernel⟩
theorem fn_lie_of_new {P : Program} {w : World} {K : PySem.W.Frag} {mg : Str → Option Value} {base : Heap} {f : Addr} {fd : FuncData} (F : FnP K "lie_of_new" "lie_of_new" (top 36) f fd) (T : Tx w K mg) (c_crowds : Cal P w K mg base 1 "crowds" ["many", "most"] (S_crowds)) (c_all_things : Cal P w K mg base 1 "all_things" ["numbers"] (S_all_things)) (c_first_lie : Cal P w K mg base 4 "first_lie" ["program", "steps", "before", "after", "elder", "newer"] (S_first_lie (He.ga K "Program"))) (c_news : Cal P w K mg base 1 "news" ["things"] (S_news))  : FnOk P w K mg base CX0 5 f fd ["program", "many", "most"] (spOf K (S_lie_of_new (He.ga K "Program"))) := by
  have sc := sc_lie_of_new
  refine ok_fn (k := 4) F sc (fun ds M Q h => ?_) (fun cdv A outer s H E hr => ?_)
  · obtain ⟨p, many, most, rfl, hv, hmost, hmany, hQ⟩ := h; rfl
  · have hu6 : A.units + 64 < cLine := by have := hr.un; show A.units + 64 < cLine; simp only [Around.deeper] at this; omega
    have hu := hu_of hr
    refine ⟨_, (pss_cons (ps_for PassesOwn.never (by rfl) (pi_seq (pe_calD c_crowds (hr.mono (by first | decide | exact Nat.le_refl _)) (by rfl) (pa_cons (pv 1) (pa_cons (pv 2) pa_nil)))) (pg_name (i := 3) sc.nd rfl (Or.inl rfl)) (pss_one (ps_for PassesOwn.never (by rfl) (pi_seq (pe_calD c_all_things (hr.mono (by first | decide | exact Nat.le_refl _)) (by rfl) (pa_cons (pe_glob (v := .ref _) (by rfl) T.g_NUMBERS rfl) pa_nil))) (pg_name (i := 4) sc.nd rfl (Or.inl rfl)) (pss_cons (ps_set (i := 5) sc.nd rfl (Or.inl rfl) (pe_calD c_first_lie (hr.mono (by first | decide | exact Nat.le_refl _)) (by rfl) (pa_cons (pv 0) (pa_cons (pe_fld (pv 0) rfl) (pa_cons (pe_callTy call_list_of (by rfl) T.b_list (by decide +kernel) (pa_cons (pv 3) pa_nil)) (pa_cons (pe_op op_addA (pe_callTy call_list_of (by rfl) T.b_list (by decide +kernel) (pa_cons (pv 3) pa_nil)) (pe_lst (pa_cons (pv 4) pa_nil))) (pa_cons pe_non (pa_cons (pv 4) pa_nil)))))))) (pss_one (ps_if (pt_cmpR op_notN1 (pv 5) pe_non (nomark _)) (pss_one (ps_ret (pe_tup (pa_cons (pe_op op_addA (pe_calD c_news (hr.mono (by first | decide | exact Nat.le_refl _)) (by rfl) (pa_cons (pv 3) pa_nil)) (pe_lst (pa_cons (pe_op op_addA (pe_tup (pa_cons pe_str pa_nil)) (pv 4)) pa_nil))) (pa_cons (pv 5) pa_nil))))) pss_nil)))))) (pss_one (ps_ret pe_non))), fun ds M Q h => ?_⟩
    obtain ⟨p, many, most, rfl, hv, hmost, hmany, hQ⟩ := h
    try dsimp only [cxOf, Cx.nox]
    let F : List Thing → Thing → Option Lie := fun c nw => (firstLie p p.new c (c ++ [nw]) none (some nw)).map fun i => (news c ++ [.new nw.1 nw.2], i)
    have hF : lieOfNew p many most = (crowds many most).findSome? fun c => allThings.findSome? (F c) := rfl
    refine stp_seq (stp_for (js := [3]) (sr_seq ?_))
    walk_at "evs"
    refine ⟨many, most, rfl, hmost, hmany, ?_⟩
    have hcl := crowds_le many most
    refine ⟨_, .inl rfl, fun i ρ' M' => (∃ a b c, ρ' = [some (progD (He.ga K "Program") p), some (iD many), some (iD most), a, b, c]) ∧ M = M' ∧ ((crowds many most).take i).findSome? (fun c => allThings.findSome? (F c)) = none, ⟨⟨none, none, none, rfl⟩, rfl, rfl⟩, ?_, ?_⟩
    · rintro i d ρ' M' hd ⟨⟨a, b, c, rfl⟩, rfl, hno⟩
      rw [List.getElem?_map] at hd
      obtain ⟨cr, hcr, rfl⟩ := Option.map_eq_some_iff.mp hd
      have hcm := crowds_mem (List.mem_of_getElem? hcr)
      refine ⟨_, tg_name, stp_for (js := [4]) (sr_seq ?_)⟩
      walk_at "evs"
      refine ⟨rfl, ?_⟩
      refine ⟨_, .inl rfl, fun i ρ' M' => (∃ b c, ρ' = [some (progD (He.ga K "Program") p), some (iD many), some (iD most), some (crowdD cr), b, c]) ∧ M = M' ∧ (allThings.take i).findSome? (F cr) = none, ⟨⟨_, _, rfl⟩, rfl, rfl⟩, ?_, ?_⟩
      · rintro j d ρ' M' hd ⟨⟨b, c, rfl⟩, rfl, hno1⟩
        rw [List.getElem?_map] at hd
        obtain ⟨nw, hnw, rfl⟩ := Option.map_eq_some_iff.mp hd
        refine ⟨_, tg_name, ?_⟩
        walk_at "evs"
        refine rcl_list (show SeqAt (.tup (cr.map thingD)) M (cr.map thingD) from rfl) ?_
        walk_at "evs"
        refine rcl_list (show SeqAt (.tup (cr.map thingD)) M (cr.map thingD) from rfl) ?_
        walk_at "evs"
        refine rop_or2 (rop_or2 ?_)
        refine rop_cat (ds := cr.map thingD) (es := [thingD nw]) (show _ = _ from rfl) (show _ = _ from rfl) (by simp; omega) ?_
        walk_at "evs"
        refine ⟨p, p.new, cr, cr ++ [nw], none, some nw, .new, by rw [List.map_append]; rfl, hv.k3, ⟨hv.k3, fun h => absurd rfl h, fun _ => ⟨_, rfl⟩⟩, hv.st .new, by omega, by rw [List.length_append]; simp; omega, ?_⟩
        cases hfl : firstLie p p.new cr (cr ++ [nw]) none (some nw) with
        | none =>
          walk_at "evs"
          refine ⟨⟨_, _, rfl⟩, rfl, findSome_snoc hnw hno1 ?_⟩
          show Option.map _ (firstLie p p.new cr (cr ++ [nw]) none (some nw)) = none
          rw [hfl]
          rfl
        | some ix =>
          walk_at "evs"
          refine ⟨crowdD cr, cr, rfl, .inr rfl, by omega, ?_⟩
          walk_at "evs"
          refine rop_or2 (rop_or2 ?_)
          refine rop_cat (ds := (news cr).map ddD) (es := [ddD (Dd.new nw.1 nw.2)]) (show _ = _ from rfl) (show _ = _ from rfl) (by simp [news]; omega) ?_
          walk_at "evs"
          have e : F cr nw = some (news cr ++ [.new nw.1 nw.2], ix) := by
            show Option.map _ (firstLie p p.new cr (cr ++ [nw]) none (some nw)) = _
            rw [hfl]
            rfl
          rw [hF, findSome_hit hcr hno (findSome_hit hnw hno1 e)] at hQ
          have hQ : Q (.tup [.lst ((news cr ++ [Dd.new nw.1 nw.2]).map ddD), iD ix]) M := hQ
          rw [List.map_append] at hQ
          exact hQ
      · rintro ρ' M' ⟨⟨b, c, rfl⟩, rfl, hall⟩
        refine ⟨⟨_, _, _, rfl⟩, rfl, findSome_snoc hcr hno ?_⟩
        exact hall
    · rintro ρ' M' ⟨⟨a, b, c, rfl⟩, rfl, hall⟩
      walk_at "evs"
      rw [List.length_map, List.take_length] at hall
      rw [hF, hall] at hQ
      exact hQ

theorem ok_lie_of_new {P : Program} {w : World} {K : PySem.W.Frag} {mg : Str → Option Value} {base : Heap} {f : Addr} {fd : FuncData} (F : FnP K "lie_of_new" "lie_of_new" (top 36) f fd) (g : mg "lie_of_new" = some (.ref f)) (T : Tx w K mg) (c_crowds : Cal P w K mg base 1 "crowds" ["many", "most"] (S_crowds)) (c_all_things : Cal P w K mg base 1 "all_things" ["numbers"] (S_all_things)) (c_first_lie : Cal P w K mg base 4 "first_lie" ["program", "steps", "before", "after", "elder", "newer"] (S_first_lie (He.ga K "Program"))) (c_news : Cal P w K mg base 1 "news" ["things"] (S_news))  : Cal P w K mg base 5 "lie_of_new" ["program", "many", "most"] (S_lie_of_new (He.ga K "Program")) :=
  cal_mk F g (fn_lie_of_new F T c_crowds c_all_things c_first_lie c_news) (F.bindsN fun _ _ _ _ _ _ us hl => match us, hl with | [_, _, _], _ => rfl)

theorem sc_lie_of_old : FnScope ["program", "many", "most", "crowd", "elder", "before", "index", "newer"] ["program", "many", "most"] (defScope (top 37)) := ⟨rfl, rfl, rfl, by decide +kernel, rfl, by decide +kernel, by decide +kernel⟩
theorem fn_lie_of_old {P : Program} {w : World} {K : PySem.W.Frag} {mg : Str → Option Value} {base : Heap} {f : Addr} {fd : FuncData} (F : FnP K "lie_of_old" "lie_of_old" (top 37) f fd) (T : Tx w K mg) (c_crowds : Cal P w K mg base 1 "crowds" ["many", "most"] (S_crowds)) (c_all_things : Cal P w K mg base 1 "all_things" ["numbers"] (S_all_things)) (c_first_lie : Cal P w K mg base 4 "first_lie" ["program", "steps", "before", "after", "elder", "newer"] (S_first_lie (He.ga K "Program"))) (c_news : Cal P w K mg base 1 "news" ["things"] (S_news))  : FnOk P w K mg base CX0 5 f fd ["program", "many", "most"] (spOf K (S_lie_of_old (He.ga K "Program"))) := by
  have sc := sc_lie_of_old
  refine ok_fn (k := 4) F sc (fun ds M Q h => ?_) (fun cdv A outer s H E hr => ?_)
  · obtain ⟨p, many, most, rfl, hv, hmost, hmany, hQ⟩ := h; rfl
  · have hu6 : A.units + 64 < cLine := by have := hr.un; show A.units + 64 < cLine; simp only [Around.deeper] at this; omega
    have hu := hu_of hr
    refine ⟨_, (pss_cons (ps_for PassesOwn.never (by rfl) (pi_seq (pe_calD c_crowds (hr.mono (by first | decide | exact Nat.le_refl _)) (by rfl) (pa_cons (pv 1) (pa_cons (pv 2) pa_nil)))) (pg_name (i := 3) sc.nd rfl (Or.inl rfl)) (pss_one (ps_for PassesOwn.never (by rfl) (pi_seq (pe_calD c_all_things (hr.mono (by first | decide | exact Nat.le_refl _)) (by rfl) (pa_cons (pe_glob (v := .ref _) (by rfl) T.g_NUMBERS rfl) pa_nil))) (pg_name (i := 4) sc.nd rfl (Or.inl rfl)) (pss_cons (ps_set (i := 5) sc.nd rfl (Or.inl rfl) (pe_op op_addA (pe_callTy call_list_of (by rfl) T.b_list (by decide +kernel) (pa_cons (pv 3) pa_nil)) (pe_lst (pa_cons (pv 4) pa_nil)))) (pss_cons (ps_set (i := 6) sc.nd rfl (Or.inl rfl) (pe_calD c_first_lie (hr.mono (by first | decide | exact Nat.le_refl _)) (by rfl) (pa_cons (pv 0) (pa_cons (pe_fld (pv 0) rfl) (pa_cons (pv 5) (pa_cons (pe_callTy call_list_of (by rfl) T.b_list (by decide +kernel) (pa_cons (pv 3) pa_nil)) (pa_cons (pv 4) (pa_cons pe_non pa_nil)))))))) (pss_cons (ps_if (pt_cmpR op_notN1 (pv 6) pe_non (nomark _)) (pss_one (ps_ret (pe_tup (pa_cons (pe_op op_addA (pe_calD c_news (hr.mono (by first | decide | exact Nat.le_refl _)) (by rfl) (pa_cons (pv 5) pa_nil)) (pe_lst (pa_cons (pe_tup (pa_cons pe_str (pa_cons (pe_callB call_len (by rfl) T.b_len (by decide +kernel) (pa_cons (pv 5) pa_nil)) pa_nil))) pa_nil))) (pa_cons (pv 6) pa_nil))))) pss_nil) (pss_one (ps_for PassesOwn.never (by rfl) (pi_seq (pe_calD c_all_things (hr.mono (by first | decide | exact Nat.le_refl _)) (by rfl) (pa_cons (pe_glob (v := .ref _) (by rfl) T.g_NUMBERS rfl) pa_nil))) (pg_name (i := 7) sc.nd rfl (Or.inl rfl)) (pss_cons (ps_set (i := 6) sc.nd rfl (Or.inl rfl) (pe_calD c_first_lie (hr.mono (by first | decide | exact Nat.le_refl _)) (by rfl) (pa_cons (pv 0) (pa_cons (pe_fld (pv 0) rfl) (pa_cons (pv 5) (pa_cons (pe_op op_addA (pe_callTy call_list_of (by rfl) T.b_list (by decide +kernel) (pa_cons (pv 3) pa_nil)) (pe_lst (pa_cons (pv 7) pa_nil))) (pa_cons (pv 4) (pa_cons (pv 7) pa_nil)))))))) (pss_one (ps_if (pt_cmpR op_notN1 (pv 6) pe_non (nomark _)) (pss_one (ps_ret (pe_tup (pa_cons (pe_op op_addA (pe_calD c_news (hr.mono (by first | decide | exact Nat.le_refl _)) (by rfl) (pa_cons (pv 5) pa_nil)) (pe_lst (pa_cons (pe_op op_addA (pe_tup (pa_cons pe_str (pa_cons (pe_callB call_len (by rfl) T.b_len (by decide +kernel) (pa_cons (pv 5) pa_nil)) pa_nil))) (pv 7)) pa_nil))) (pa_cons (pv 6) pa_nil))))) pss_nil))))))))))) (pss_one (ps_ret pe_non))), fun ds M Q h => ?_⟩
    obtain ⟨p, many, most, rfl, hv, hmost, hmany, hQ⟩ := h
    try dsimp only [cxOf, Cx.nox]
    let G : List Thing → Thing → Thing → Option Lie := fun c el nw => (firstLie p p.change (c ++ [el]) (c ++ [nw]) (some el) (some nw)).map fun i => (news (c ++ [el]) ++ [.change (c.length + 1) nw.1 nw.2], i)
    let F : List Thing → Thing → Option Lie := fun c el => match firstLie p p.drop (c ++ [el]) c (some el) none with
      | some i => some (news (c ++ [el]) ++ [.drop (c.length + 1)], i)
      | none => allThings.findSome? (G c el)
    have hF : lieOfOld p many most = (crowds many most).findSome? fun c => allThings.findSome? (F c) := rfl
    refine stp_seq (stp_for (js := [3]) (sr_seq ?_))
    walk_at "evs"
    refine ⟨many, most, rfl, hmost, hmany, ?_⟩
    have hcl := crowds_le many most
    refine ⟨_, .inl rfl, fun i ρ' M' => (∃ a b c d e, ρ' = [some (progD (He.ga K "Program") p), some (iD many), some (iD most), a, b, c, d, e]) ∧ M = M' ∧ ((crowds many most).take i).findSome? (fun c => allThings.findSome? (F c)) = none, ⟨⟨none, none, none, none, none, rfl⟩, rfl, rfl⟩, ?_, ?_⟩
    · rintro i d ρ' M' hd ⟨⟨a, b, c, d', e', rfl⟩, rfl, hno⟩
      rw [List.getElem?_map] at hd
      obtain ⟨cr, hcr, rfl⟩ := Option.map_eq_some_iff.mp hd
      have hcm := crowds_mem (List.mem_of_getElem? hcr)
      refine ⟨_, tg_name, stp_for (js := [4]) (sr_seq ?_)⟩
      walk_at "evs"
      refine ⟨rfl, ?_⟩
      refine ⟨_, .inl rfl, fun i ρ' M' => (∃ b c d e, ρ' = [some (progD (He.ga K "Program") p), some (iD many), some (iD most), some (crowdD cr), b, c, d, e]) ∧ M = M' ∧ (allThings.take i).findSome? (F cr) = none, ⟨⟨_, _, _, _, rfl⟩, rfl, rfl⟩, ?_, ?_⟩
      · rintro j d ρ' M' hd ⟨⟨b, c, d', e', rfl⟩, rfl, hno1⟩
        rw [List.getElem?_map] at hd
        obtain ⟨el, hel, rfl⟩ := Option.map_eq_some_iff.mp hd
        refine ⟨_, tg_name, ?_⟩
        have hce : (cr ++ [el]).length = many + 1 := by rw [List.length_append, hcm]; rfl
        have hce' : (cr ++ [el]).map thingD = cr.map thingD ++ [thingD el] := by rw [List.map_append]; rfl
        walk_at "evs"
        refine rcl_list (show SeqAt (.tup (cr.map thingD)) M (cr.map thingD) from rfl) ?_
        walk_at "evs"
        refine rop_or2 (rop_or2 ?_)
        refine rop_cat (ds := cr.map thingD) (es := [thingD el]) (show _ = _ from rfl) (show _ = _ from rfl) (by simp; omega) ?_
        rw [← hce']
        walk_at "evs"
        refine rcl_list (show SeqAt (.tup (cr.map thingD)) M (cr.map thingD) from rfl) ?_
        walk_at "evs"
        refine ⟨p, p.drop, cr ++ [el], cr, some el, none, .drop, rfl, hv.k3, ⟨hv.k3, fun _ => ⟨_, rfl⟩, fun h => absurd rfl h⟩, hv.st .drop, by omega, by omega, ?_⟩
        have hFe : F cr el = match firstLie p p.drop (cr ++ [el]) cr (some el) none with
          | some i => some (news (cr ++ [el]) ++ [.drop (cr.length + 1)], i)
          | none => allThings.findSome? (G cr el) := rfl
        cases hfl : firstLie p p.drop (cr ++ [el]) cr (some el) none with
        | some ix =>
          rw [hfl] at hFe
          walk_at "evs"
          refine ⟨_, cr ++ [el], rfl, .inl rfl, by omega, ?_⟩
          walk_at "evs"
          have hln : (((cr ++ [el]).map thingD).length : Int) = ((cr.length + 1 : Nat) : Int) := by simp
          rw [hln]
          refine rop_or2 (rop_or2 ?_)
          refine rop_cat (ds := (news (cr ++ [el])).map ddD) (es := [ddD (Dd.drop (cr.length + 1))]) (show _ = _ from rfl) (show _ = _ from rfl) (by simp [news]; omega) ?_
          walk_at "evs"
          rw [hF, findSome_hit hcr hno (findSome_hit hel hno1 hFe)] at hQ
          have hQ : Q (.tup [.lst ((news (cr ++ [el]) ++ [Dd.drop (cr.length + 1)]).map ddD), iD ix]) M := hQ
          rw [List.map_append] at hQ
          exact hQ
        | none =>
          rw [hfl] at hFe
          walk_at "evs"
          refine stp_for (js := [7]) (sr_seq ?_)
          walk_at "evs"
          refine ⟨rfl, ?_⟩
          refine ⟨_, .inl rfl, fun i ρ' M' => (∃ d e, ρ' = [some (progD (He.ga K "Program") p), some (iD many), some (iD most), some (crowdD cr), some (thingD el), some (.lst ((cr ++ [el]).map thingD)), d, e]) ∧ M = M' ∧ (allThings.take i).findSome? (G cr el) = none, ⟨⟨_, _, rfl⟩, rfl, rfl⟩, ?_, ?_⟩
          · rintro k d ρ' M' hd ⟨⟨d', e', rfl⟩, rfl, hno2⟩
            rw [List.getElem?_map] at hd
            obtain ⟨nw, hnw, rfl⟩ := Option.map_eq_some_iff.mp hd
            refine ⟨_, tg_name, ?_⟩
            walk_at "evs"
            refine rcl_list (show SeqAt (.tup (cr.map thingD)) M (cr.map thingD) from rfl) ?_
            walk_at "evs"
            refine rop_or2 (rop_or2 ?_)
            refine rop_cat (ds := cr.map thingD) (es := [thingD nw]) (show _ = _ from rfl) (show _ = _ from rfl) (by simp; omega) ?_
            walk_at "evs"
            have hcn : (cr ++ [nw]).map thingD = cr.map thingD ++ [thingD nw] := by rw [List.map_append]; rfl
            refine ⟨p, p.change, cr ++ [el], cr ++ [nw], some el, some nw, .change, by rw [hcn], hv.k3, ⟨hv.k3, fun _ => ⟨_, rfl⟩, fun _ => ⟨_, rfl⟩⟩, hv.st .change, by omega, by rw [List.length_append]; simp; omega, ?_⟩
            have hGe : G cr el nw = (firstLie p p.change (cr ++ [el]) (cr ++ [nw]) (some el) (some nw)).map fun i => (news (cr ++ [el]) ++ [.change (cr.length + 1) nw.1 nw.2], i) := rfl
            cases hfc : firstLie p p.change (cr ++ [el]) (cr ++ [nw]) (some el) (some nw) with
            | none =>
              rw [hfc] at hGe
              walk_at "evs"
              exact ⟨⟨_, _, rfl⟩, rfl, findSome_snoc hnw hno2 hGe⟩
            | some ix =>
              rw [hfc] at hGe
              walk_at "evs"
              refine ⟨_, cr ++ [el], rfl, .inl rfl, by omega, ?_⟩
              walk_at "evs"
              have hln : (((cr ++ [el]).map thingD).length : Int) = ((cr.length + 1 : Nat) : Int) := by simp
              rw [hln]
              refine rop_or2 (rop_or2 ?_)
              refine rop_cat (ds := (news (cr ++ [el])).map ddD) (es := [ddD (Dd.change (cr.length + 1) nw.1 nw.2)]) (show _ = _ from rfl) (show _ = _ from rfl) (by simp [news]; omega) ?_
              walk_at "evs"
              have hFe2 : F cr el = some (news (cr ++ [el]) ++ [.change (cr.length + 1) nw.1 nw.2], ix) := hFe.trans (findSome_hit hnw hno2 hGe)
              rw [hF, findSome_hit hcr hno (findSome_hit hel hno1 hFe2)] at hQ
              have hQ : Q (.tup [.lst ((news (cr ++ [el]) ++ [Dd.change (cr.length + 1) nw.1 nw.2]).map ddD), iD ix]) M := hQ
              rw [List.map_append] at hQ
              exact hQ
          · rintro ρ' M' ⟨⟨d', e', rfl⟩, rfl, hall⟩
            exact ⟨⟨_, _, _, _, rfl⟩, rfl, findSome_snoc hel hno1 (hFe.trans hall)⟩
      · rintro ρ' M' ⟨⟨b, c, d', e', rfl⟩, rfl, hall⟩
        refine ⟨⟨_, _, _, _, _, rfl⟩, rfl, findSome_snoc hcr hno ?_⟩
        exact hall
    · rintro ρ' M' ⟨⟨a, b, c, d', e', rfl⟩, rfl, hall⟩
      walk_at "evs"
      rw [List.length_map, List.take_length] at hall
      rw [hF, hall] at hQ
      exact hQ

theorem ok_lie_of_old {P : Program} {w : World} {K : PySem.W.Frag} {mg : Str → Option Value} {base : Heap} {f : Addr} {fd : FuncData} (F : FnP K "lie_of_old" "lie_of_old" (top 37) f fd) (g : mg "lie_of_old" = some (.ref f)) (T : Tx w K mg) (c_crowds : Cal P w K mg base 1 "crowds" ["many", "most"] (S_crowds)) (c_all_things : Cal P w K mg base 1 "all_things" ["numbers"] (S_all_things)) (c_first_lie : Cal P w K mg base 4 "first_lie" ["program", "steps", "before", "after", "elder", "newer"] (S_first_lie (He.ga K "Program"))) (c_news : Cal P w K mg base 1 "news" ["things"] (S_news))  : Cal P w K mg base 5 "lie_of_old" ["program", "many", "most"] (S_lie_of_old (He.ga K "Program")) :=
  cal_mk F g (fn_lie_of_old F T c_crowds c_all_things c_first_lie c_news) (F.bindsN fun _ _ _ _ _ _ us hl => match us, hl with | [_, _, _], _ => rfl)
end Kc
namespace Kc
open PySem L2 Dl
local macro_rules | `(tactic| walk_at "evE") => `(tactic| (first
  | ((with_reducible refine' ev_var ?evh ?_); (case evh => exact rfl))
  | with_reducible refine' ev_k (Tx.d_NAMES (by assumption)) ?_
  | with_reducible refine' ev_k (Tx.d_WHATS (by assumption)) ?_
  | with_reducible refine' ev_k (Tx.d_SOURCES (by assumption)) ?_
  | with_reducible refine' ev_k (Tx.d_NUMBERS (by assumption)) ?_
  | with_reducible refine' ev_c ?_
  | with_reducible refine' ev_op ?_
  | with_reducible refine' ev_call ?_
  | with_reducible refine' ev_cb ?_
  | with_reducible refine' ev_tup ?_
  | with_reducible refine' ev_lst ?_
  | with_reducible refine' ev_if ?_
  | with_reducible refine' ev_andV ?_
  | with_reducible refine' ev_orV ?_
  | with_reducible refine' ev_notV ?_
  | with_reducible refine' ev_chain ?_
  | with_reducible refine' ev_sl ?_
  | with_reducible refine' ev_dget ?_
  | with_reducible refine' ev_disp ?_
  | walk_at "evF"
  | with_reducible refine' ev_meth ?_
  | with_reducible refine' ev_make ?_
  | with_reducible refine' ev_bm ?_))
local macro_rules | `(tactic| walk_at "evR") => `(tactic| (first
  | with_reducible refine' rop_I0 ?_
  | ((with_reducible refine' rop_eq ?evs ?_); (case evs => exact rfl))
  | ((with_reducible refine' rop_ne ?evs ?_); (case evs => exact rfl))
  | ((with_reducible refine' rop_ix_T ?evs ?_); (case evs => (first | assumption | exact rfl)))
  | ((with_reducible refine' rop_ix_L ?evs ?_); (case evs => (first | assumption | exact rfl)))
  | ((with_reducible refine' rop_ix_M ?evh ?evs ?_); (case evh => (first | exact updM_same | assumption)); (case evs => (first | assumption | exact rfl)))
  | with_reducible refine' rop_or1 (rop_I0 ?_)
  | ((with_reducible refine' rop_or2 (rop_or1 (rop_catA ?evz ?_))); (case evz => (first | exact Nat.le_of_ble_eq_true rfl | omega | (simp; done) | (simp; omega))))
  | ((with_reducible refine' rop_or1 (rop_I ?evh ?_)); (case evh => (first | exact Or.inl ⟨by decide, by decide⟩ | exact Or.inr ⟨by decide, by decide⟩)))
  | ((with_reducible refine' rop_I ?evh ?_); (case evh => (first | (exact (show (0:Int) < _ by omega)) | exact ⟨by decide, by decide, by decide⟩)))
  | ((with_reducible refine' rop_or2 (rop_or1 (rop_rep ?evs ?eva ?evb ?evc ?_))); (case evs => exact rfl); (case eva => decide); (case evb => decide); (case evc => exact Nat.le_of_ble_eq_true rfl))
  | ((with_reducible refine' rop_or2 (rop_or2 (rop_cat ?evs ?evt ?evz ?_))); (case evs => exact rfl); (case evt => exact rfl); (case evz => exact Nat.le_of_ble_eq_true rfl))
  | with_reducible refine' rop_isN ?_
  | with_reducible refine' rop_notN ?_
  | ((with_reducible refine' rop_isN0 ?evs ?_); (case evs => intro _ h; cases h))
  | ((with_reducible refine' rop_notN0 ?evs ?_); (case evs => intro _ h; cases h))
  | ((with_reducible refine' rop_inT ?evs ?evt ?_); (case evs => exact rfl); (case evt => first | assumption | exact rfl))
  | ((with_reducible refine' rop_inS ?evs ?evt ?evu ?_); (case evs => exact rfl); (case evt => exact rfl); (case evu => exact rfl))))
local macro_rules | `(tactic| walk_at "evC") => `(tactic| (first
  | ((with_reducible refine' rcl_len ?evs ?_); (case evs => exact rfl))
  | ((with_reducible refine' rcl_isi ?evs ?evk ?_); (case evs => exact rfl); (case evk => (first | exact kit_int_int | exact kit_int_bool | exact kit_int_str | exact kit_int_tuple | exact kit_int_list | exact kit_bool_int | exact kit_bool_bool | exact kit_bool_str | exact kit_bool_tuple | exact kit_bool_list | exact kit_str_int | exact kit_str_bool | exact kit_str_str | exact kit_str_tuple | exact kit_str_list | exact kit_tuple_int | exact kit_tuple_bool | exact kit_tuple_str | exact kit_tuple_tuple | exact kit_tuple_list | exact kit_list_int | exact kit_list_bool | exact kit_list_str | exact kit_list_tuple | exact kit_list_list | exact kit_NoneType_int | exact kit_NoneType_bool | exact kit_NoneType_str | exact kit_NoneType_tuple | exact kit_NoneType_list)))
  | with_reducible refine' rcl_int ?_
  | with_reducible refine' rcl_intB ?_
  | with_reducible refine' rcl_max2 ?_
  | with_reducible refine' rcl_min2 ?_))
local macro_rules | `(tactic| walk_at "evT") => `(tactic| (first
  | with_reducible refine' tv_test ?_
  | with_reducible refine' tv_or ?_
  | with_reducible refine' tv_and ?_
  | with_reducible refine' tv_not ?_
  | with_reducible refine' tv_B ?_
  | with_reducible refine' tv_tru ?_
  | with_reducible refine' tv_yes ?_))
local macro_rules | `(tactic| walk_at "evA") => `(tactic| (first
  | with_reducible refine' av_cons ?_
  | with_reducible refine' av_nil ?_))
local macro_rules | `(tactic| walk_at "evS") => `(tactic| (first
  | with_reducible refine' stp_seq ?_
  | with_reducible refine' stp_if ?_
  | with_reducible refine' stp_ret ?_
  | with_reducible refine' stp_next ?_
  | with_reducible refine' stp_set ?_
  | with_reducible refine' stp_asg ?_
  | with_reducible refine' stp_drop ?_
  | with_reducible refine' stp_par ?_
  | with_reducible refine' stp_dput ?_
  | with_reducible refine' stp_augL ?_
  | with_reducible refine' stp_retN ?_
  | with_reducible refine' stp_brk ?_
  | with_reducible refine' stp_cont ?_))
local macro_rules | `(tactic| walk_at "evI") => `(tactic| (first
  | ((with_reducible refine' ifT ?evs ?_); (case evs => exact rfl))
  | ((with_reducible refine' ifF ?evs ?_); (case evs => exact rfl))))
local macro_rules | `(tactic| walk_at "ev") => `(tactic| (first
  | ((with_reducible show EvP _ _ _ _ _); walk_at "evE")
  | ((with_reducible show ROp _ _ _ _ _ _); walk_at "evR")
  | ((with_reducible show AvP _ _ _ _ _); walk_at "evA")
  | ((with_reducible show TvP _ _ _ _ _); walk_at "evT")
  | ((with_reducible show RCl _ _ _ _ _); walk_at "evC")
  | ((with_reducible show StP _ _ _ _ _); walk_at "evS")
  | ((with_reducible show ite _ _ _); walk_at "evI")
  | with_reducible refine' ov_none ?_
  | with_reducible refine' ov_some ?_
  | ((with_reducible show RSl _ _ _ _ _ _ _); (first | with_reducible refine' rsl_T ?_ | ((with_reducible refine' rsl_L ?evh ?_); (case evh => exact rfl))))
  | with_reducible refine' gv_name ?_
  | with_reducible refine' gv_sub ?_
  | ((with_reducible show RSet _ _ _ _ _ _ _); ((with_reducible refine' rset_L ?evh ?evs ?_); (case evh => (first | exact updM_same | assumption)); (case evs => exact rfl)))
  | with_reducible refine' pv_cons ?_
  | with_reducible refine' pv_nil ?_
  | ((with_reducible show Exists _); refine ⟨_, rfl, ?_⟩)
  | ((with_reducible show Exists _); refine ⟨_, _, rfl, ?_⟩)
  | ((with_reducible show Exists _); refine ⟨_, _, (by first | exact ⟨rfl, rfl, rfl⟩ | exact rfl | assumption), (by first | exact rfl | decide +kernel), ?_⟩)
  | ((with_reducible show And _ _); refine ⟨Nat.le_of_ble_eq_true rfl, ?_⟩)))
local macro_rules | `(tactic| walk_at "evs") => `(tactic| (repeat walk_at "ev"))
local macro_rules | `(tactic| walk_at "evF") => `(tactic| ((with_reducible refine' ev_fld (C := He.ga _ "Deed") (ns := deedN) (Tx.c_Deed (by assumption)) (Tx.n_Deed (by assumption) _ ?evm) ?_); (case evm => decide +kernel)))

theorem sc_Deed_does_hold : FnScope ["self", "test"] ["self", "test"] (defScope (inClass (top 27) 1)) := ⟨rfl, rfl, rfl, by decide +kernel, rfl, by decide +kernel, by decide +kernel⟩
theorem fn_Deed_does_hold {P : Program} {w : World} {K : PySem.W.Frag} {mg : Str → Option Value} {base : Heap} {f : Addr} {fd : FuncData} (F : FnP K "does_hold" "Deed.does_hold" (inClass (top 27) 1) f fd) (T : Tx w K mg)   : FnOk P w K mg base CX0 1 f fd ["self", "test"] (spOf K (S_does_hold (He.ga K "Deed"))) := by
  have sc := sc_Deed_does_hold
  refine ok_fn (k := 0) F sc (fun ds M Q h => ?_) (fun cdv A outer s H E hr => ?_)
  · obtain ⟨x, l, d, am, n, t, rfl, ⟨hx, hl, hxl⟩, hok, hty, ht, hQ⟩ := h; rfl
  · have hu6 : A.units + 64 < cLine := by have := hr.un; show A.units + 64 < cLine; simp only [Around.deeper] at this; omega
    have hu := hu_of hr
    refine ⟨_, (pss_cons (ps_if (pt_cmpR op_eq (pe_ix ix_seq (pv 1) pe_int (fun _ _ => rfl)) pe_str (nomark _)) (pss_one (ps_ret (pe_cmpR op_eq (pe_ix ix_seq (pe_fld (pv 0) rfl) pe_int (fun _ _ => rfl)) (pe_ix ix_seq (pv 1) pe_int (fun _ _ => rfl)) (nomark _)))) pss_nil) (pss_cons (ps_if (pt_cmpR op_eq (pe_ix ix_seq (pv 1) pe_int (fun _ _ => rfl)) pe_str (nomark _)) (pss_one (ps_ret (pe_cmpR op_eq (pe_ix ix_seq (pe_fld (pv 0) rfl) pe_int (fun _ _ => rfl)) (pe_ix ix_seq (pv 1) pe_int (fun _ _ => rfl)) (nomark _)))) pss_nil) (pss_cons (ps_if (pt_cmpR op_eq (pe_ix ix_seq (pv 1) pe_int (fun _ _ => rfl)) pe_str (nomark _)) (pss_one (ps_ret (pe_cmpR op_ne (pe_ix ix_seq (pe_fld (pv 0) rfl) pe_int (fun _ _ => rfl)) (pe_ix ix_seq (pe_fld (pv 0) rfl) pe_int (fun _ _ => rfl)) (nomark _)))) pss_nil) (pss_cons (ps_if (pt_cmpR op_eq (pe_ix ix_seq (pv 1) pe_int (fun _ _ => rfl)) pe_str (nomark _)) (pss_one (ps_ret (pe_cmpR op_eq (pe_ix ix_seq (pe_fld (pv 0) rfl) (pe_ix ix_seq (pv 1) pe_int (fun _ _ => rfl)) (fun _ _ => rfl)) pe_int (nomark _)))) pss_nil) (pss_one (ps_ret (pe_cmpR op_eq (pe_ix ix_seq (pe_fld (pv 0) rfl) (pe_ix ix_seq (pv 1) pe_int (fun _ _ => rfl)) (fun _ _ => rfl)) (pe_ix ix_seq (pe_fld (pv 0) rfl) pe_int (fun _ _ => rfl)) (nomark _)))))))), fun ds M Q h => ?_⟩
    obtain ⟨x, l, d, am, n, t, rfl, ⟨hx, hl, hxl⟩, hok, hty, ht, hQ⟩ := h
    try dsimp only [cxOf, Cx.nox]
    obtain ⟨ks, ar, el, nw⟩ := d
    obtain ⟨h3, hel, hnw⟩ := hok
    have el_ : n ≠ .new → ∃ t, el = some t := hel
    have nw_ : n ≠ .drop → ∃ t, nw = some t := hnw
    cases t with
    | elder c =>
      obtain ⟨z, rfl⟩ := el_ ht.1
      walk_at "evs"
      rw [decInt]
      exact hQ
    | newer c =>
      obtain ⟨z, rfl⟩ := nw_ ht.1
      walk_at "evs"
      rw [decInt]
      exact hQ
    | moved =>
      have hn : n = .change := ht
      subst hn
      obtain ⟨z, rfl⟩ := el_ (by decide)
      obtain ⟨y, rfl⟩ := nw_ (by decide)
      walk_at "evs"
      rw [decInt]
      exact hQ
    | none k =>
      obtain ⟨kp, hk, hw⟩ := ht
      obtain ⟨v, hv, tv⟩ := hty.at_ hk
      rw [hw] at tv
      obtain ⟨z, rfl⟩ := tv
      have hat : atI (am.map Da.sc) (k : Int) = some (iD z) := atI_nat (by rw [List.getElem?_map, hv] <;> rfl)
      walk_at "evs"
      try refine rop_ix_M hl hat ?_
      walk_at "evs"
      have e : holds ⟨ks, ar, el, nw⟩ am (.none k) = decide (V.int z = V.int 0) := by
        show decide (at_ am k = .int 0) = _
        rw [at_some hv]
      rw [e] at hQ
      exact hQ
    | top k =>
      obtain ⟨hn, kp, hk, hw⟩ := ht
      obtain ⟨y, rfl⟩ := el_ hn
      obtain ⟨v, hv, tv⟩ := hty.at_ hk
      rw [hw] at tv
      have hat : atI (am.map Da.sc) (k : Int) = some (.sc v) := atI_nat (by rw [List.getElem?_map, hv] <;> rfl)
      walk_at "evs"
      try refine rop_ix_M hl hat ?_
      walk_at "evs"
      have e : holds ⟨ks, ar, some y, nw⟩ am (.top k) = decide (v = V.int y.2) := by
        show decide (at_ am k = .int y.2) = _
        rw [at_some hv]
      rw [e] at hQ
      refine rop_eq ?_ hQ
      rcases tv with rfl | ⟨z, rfl⟩ <;> rfl


theorem sc_Deed_amount : FnScope ["self", "source"] ["self", "source"] (defScope (inClass (top 27) 2)) := ⟨rfl, rfl, rfl, by decide +kernel, rfl, by decide +kernel, by decide +kernel⟩
theorem fn_Deed_amount {P : Program} {w : World} {K : PySem.W.Frag} {mg : Str → Option Value} {base : Heap} {f : Addr} {fd : FuncData} (F : FnP K "amount" "Deed.amount" (inClass (top 27) 2) f fd) (T : Tx w K mg)   : FnOk P w K mg base CX0 1 f fd ["self", "source"] (spOf K (S_amount (He.ga K "Deed"))) := by
  have sc := sc_Deed_amount
  refine ok_fn (k := 0) F sc (fun ds M Q h => ?_) (fun cdv A outer s H E hr => ?_)
  · obtain ⟨x, l, d, am, n, s, rfl, ⟨hx, hl, hxl⟩, hok, hs, hQ⟩ := h; rfl
  · have hu6 : A.units + 64 < cLine := by have := hr.un; show A.units + 64 < cLine; simp only [Around.deeper] at this; omega
    have hu := hu_of hr
    refine ⟨_, (pss_cons (ps_if (pt_cmpR op_eq (pv 1) pe_str (nomark _)) (pss_one (ps_ret pe_int)) pss_nil) (pss_one (ps_ret (pe_ifExp (pt_cmpR op_eq (pv 1) pe_str (nomark _)) (pe_ix ix_seq (pe_fld (pv 0) rfl) pe_int (fun _ _ => rfl)) (pe_ix ix_seq (pe_fld (pv 0) rfl) pe_int (fun _ _ => rfl)))))), fun ds M Q h => ?_⟩
    obtain ⟨x, l, d, am, n, s, rfl, ⟨hx, hl, hxl⟩, hok, hs, hQ⟩ := h
    try dsimp only [cxOf, Cx.nox]
    obtain ⟨ks, ar, el, nw⟩ := d
    obtain ⟨h3, hel, hnw⟩ := hok
    have el_ : n ≠ .new → ∃ t, el = some t := hel
    have nw_ : n ≠ .drop → ∃ t, nw = some t := hnw
    cases s with
    | one =>
      walk_at "evs"
      exact hQ
    | elder =>
      obtain ⟨z, rfl⟩ := el_ (hs.1 rfl)
      walk_at "evs"
      exact hQ
    | newer =>
      obtain ⟨z, rfl⟩ := nw_ (hs.2 rfl)
      walk_at "evs"
      exact hQ


theorem sc_Deed_touch : FnScope ["self", "step", "word", "index"] ["self", "step"] (defScope (inClass (top 27) 3)) := ⟨rfl, rfl, rfl, by decide +kernel, rfl, by decide +kernel, by decide +kernel⟩
theorem fn_Deed_touch {P : Program} {w : World} {K : PySem.W.Frag} {mg : Str → Option Value} {base : Heap} {f : Addr} {fd : FuncData} (F : FnP K "touch" "Deed.touch" (inClass (top 27) 3) f fd) (T : Tx w K mg) (c_true_value : Cal P w K mg base 1 "true_value" ["keep", "things"] (S_true_value)) (m_amount : CalM P w K mg base (He.ga K "Deed") 1 "amount" ["self", "source"] (S_amount (He.ga K "Deed")))  : FnOk P w K mg base CX0 2 f fd ["self", "step"] (spOf K (S_touch (He.ga K "Deed"))) := by
  have sc := sc_Deed_touch
  refine ok_fn (k := 1) F sc (fun ds M Q h => ?_) (fun cdv A outer s H E hr => ?_)
  · obtain ⟨x, l, d, am, n, t, rfl, ⟨hx, hl, hxl⟩, hok, hty, ht, har, hQ⟩ := h; rfl
  · have hu6 : A.units + 64 < cLine := by have := hr.un; show A.units + 64 < cLine; simp only [Around.deeper] at this; omega
    have hu := hu_of hr
    obtain ⟨es_NOTHING, n_NOTHING, D_NOTHING⟩ := T.noth
    refine ⟨_, (pss_cons (ps_par (i := 2) (j := 3) (by rfl) sc.nd rfl rfl (by decide) rfl rfl (pa_cons (pe_ix ix_seq (pv 1) pe_int (fun _ _ => rfl)) (pa_cons (pe_ix ix_seq (pv 1) pe_int (fun _ _ => rfl)) pa_nil)) (by rfl)) (pss_one (ps_if (pt_cmpR op_eq (pv 2) pe_str (nomark _)) (pss_one (ps_augS (pe_fld (pv 0) rfl) (pv 3) pget_list (pe_metD m_amount (hr.mono (by first | decide | exact Nat.le_refl _)) (pv 0) (pa_cons (pe_ix ix_seq (pv 1) pe_int (fun _ _ => rfl)) pa_nil)) ip_add set_list)) (pss_one (ps_if (pt_cmpR op_eq (pv 2) pe_str (nomark _)) (pss_one (ps_augS (pe_fld (pv 0) rfl) (pv 3) pget_list (pe_metD m_amount (hr.mono (by first | decide | exact Nat.le_refl _)) (pv 0) (pa_cons (pe_ix ix_seq (pv 1) pe_int (fun _ _ => rfl)) pa_nil)) ip_sub set_list)) (pss_one (ps_if (pt_cmpR op_eq (pv 2) pe_str (nomark _)) (pss_one (ps_if (PW.pt (pw_or (pt_cmpR op_isN1 (pe_ix ix_seq (pe_fld (pv 0) rfl) (pv 3) (fun _ _ => rfl)) pe_non (nomark _)) (pw_or1 (pt_cmpR op_lt (pe_ix ix_seq (pe_fld (pv 0) rfl) (pv 3) (fun _ _ => rfl)) (pe_ix ix_seq (pe_fld (pv 0) rfl) pe_int (fun _ _ => rfl)) (nomark _))))) (pss_one (ps_asg (pe_ix ix_seq (pe_fld (pv 0) rfl) pe_int (fun _ _ => rfl)) (pg_sub (pe_fld (pv 0) rfl) (pv 3) set_list))) pss_nil)) (pss_one (ps_if (pt_cmpR op_eq (pv 2) pe_str (nomark _)) (pss_one (ps_asg pe_bl (pg_sub (pe_fld (pv 0) rfl) (pv 3) set_list))) (pss_one (ps_if (pt_cmpR op_eq (pv 2) pe_str (nomark _)) (pss_one (ps_asg (pe_ixTab D_NOTHING (pe_glob (v := .ref _) (by rfl) T.g_NOTHING rfl) (pe_ix ix_seq (pe_ix ix_seq (pe_fld (pv 0) rfl) (pv 3) (fun _ _ => rfl)) pe_int (fun _ _ => rfl)) (fun _ _ => rfl)) (pg_sub (pe_fld (pv 0) rfl) (pv 3) set_list))) (pss_one (ps_asg (pe_calD c_true_value (hr.mono (by first | decide | exact Nat.le_refl _)) (by rfl) (pa_cons (pe_ix ix_seq (pe_fld (pv 0) rfl) (pv 3) (fun _ _ => rfl)) (pa_cons (pe_fld (pv 0) rfl) pa_nil))) (pg_sub (pe_fld (pv 0) rfl) (pv 3) set_list)))))))))))))), fun ds M Q h => ?_⟩
    obtain ⟨x, l, d, am, n, t, rfl, ⟨hx, hl, hxl⟩, hok, hty, ht, har, hQ⟩ := h
    try dsimp only [cxOf, Cx.nox]
    have put : ∀ (k : Nat) (ti : TE) (v : Da) (kp : Keep) (ρ : Env') (D : DE), d.keeps[k]? = some kp → D.nx ρ (updM M l (.lst ((am.map Da.sc).set k v))) → RSet K rSetL (.sc (.ref l)) (iD k) v M fun M3 => D.nx ρ M3 := by
      intro k ti v kp ρ D hk q
      have hkl : k < am.length := by rw [hty.len]; exact (List.getElem?_eq_some_iff.mp hk).1
      refine rset_L (j := k) hl ?_ q
      unfold ixN
      rw [List.length_map, if_pos (by omega), if_pos (by omega), Int.toNat_natCast]
    cases t with
    | add k s =>
      obtain ⟨hs, kp, hk, hw⟩ := ht
      obtain ⟨v, hv, tv⟩ := hty.at_ hk
      have tv' : ∃ z, v = .int z := by
        rcases hw with hw | ⟨hw, _⟩ <;> rw [hw] at tv <;> exact tv
      obtain ⟨z, rfl⟩ := tv'
      walk_at "evs"
      refine ⟨l, _, k, z, rfl, rfl, hl, by rw [List.getElem?_map, hv] <;> rfl, ?_⟩
      walk_at "evs"
      refine ⟨x, l, d, am, n, s, rfl, ⟨hx, hl, hxl⟩, hok, hs, ?_⟩
      refine ⟨_, _, rfl, hl, rfl, ?_⟩
      have e : (touch d am (.add k s)).map Da.sc = (am.map Da.sc).set k (iD (z + amt d s)) := by
        show (am.set k (addV (at_ am k) (amt d s))).map Da.sc = _
        rw [at_some hv, List.map_set] <;> rfl
      rw [e] at hQ
      exact hQ
    | less k s =>
      obtain ⟨hs, kp, hk, hw⟩ := ht
      obtain ⟨v, hv, tv⟩ := hty.at_ hk
      have tv' : ∃ z, v = .int z := by
        rcases hw with hw | ⟨hw, _⟩ <;> rw [hw] at tv <;> exact tv
      obtain ⟨z, rfl⟩ := tv'
      walk_at "evs"
      refine ⟨l, _, k, z, rfl, rfl, hl, by rw [List.getElem?_map, hv] <;> rfl, ?_⟩
      walk_at "evs"
      refine ⟨x, l, d, am, n, s, rfl, ⟨hx, hl, hxl⟩, hok, hs, ?_⟩
      refine ⟨_, _, rfl, hl, rfl, ?_⟩
      have e : (touch d am (.less k s)).map Da.sc = (am.map Da.sc).set k (iD (z - amt d s)) := by
        show (am.set k (subV (at_ am k) (amt d s))).map Da.sc = _
        rw [at_some hv, List.map_set] <;> rfl
      rw [e] at hQ
      exact hQ
    | lift k =>
      obtain ⟨hn, kp, hk, hw⟩ := ht
      obtain ⟨v, hv, tv⟩ := hty.at_ hk
      obtain ⟨ks, ar, el, nw⟩ := d
      obtain ⟨h3, hel, hnw⟩ := hok
      obtain ⟨y, hy⟩ := hnw hn
      have hy : nw = some y := hy
      subst hy
      rw [hw] at tv
      have hat : atI (am.map Da.sc) (k : Int) = some (.sc v) := atI_nat (by rw [List.getElem?_map, hv] <;> rfl)
      have e : (touch ⟨ks, ar, el, some y⟩ am (.lift k)).map Da.sc = (am.map Da.sc).set k (.sc (liftV v y.2)) := by
        show (am.set k (liftV (at_ am k) y.2)).map Da.sc = _
        rw [at_some hv, List.map_set]
      rw [e] at hQ
      walk_at "evs"
      try refine rop_ix_M hl hat ?_
      walk_at "evs"
      rcases tv with rfl | ⟨z, rfl⟩
      · walk_at "evs"
        try refine gv_sub ?_
        walk_at "evs"
        exact put k (tVar 0) _ kp _ _ hk hQ
      · walk_at "evs"
        try refine rop_ix_M hl hat ?_
        walk_at "evs"
        have hQ' : Q (.sc .non) (updM M l (.lst ((am.map Da.sc).set k (.sc (if z < y.2 then V.int y.2 else V.int z))))) := hQ
        refine ifB (fun h => ?_) (fun h => ?_)
        · rw [if_pos (of_decide_eq_true h)] at hQ'
          walk_at "evs"
          try refine gv_sub ?_
          walk_at "evs"
          exact put k (tVar 0) _ kp _ _ hk hQ'
        · rw [if_neg (of_decide_eq_false h)] at hQ'
          walk_at "evs"
          have e2 : (am.map Da.sc).set k (.sc (.int z)) = am.map Da.sc := by
            rw [← List.map_set]
            congr 1
            exact set_same hv
          rw [e2, updM_id hl] at hQ'
          exact hQ'
    | mark k =>
      obtain ⟨kp, hk, hw⟩ := ht
      have e : (touch d am (.mark k)).map Da.sc = (am.map Da.sc).set k (.sc (.bl true)) := by
        rw [← List.map_set]
        rfl
      rw [e] at hQ
      walk_at "evs"
      try refine gv_sub ?_
      walk_at "evs"
      exact put k (tVar 0) _ kp _ _ hk hQ
    | empty k =>
      obtain ⟨kp, hk⟩ := ht
      have e : (touch d am (.empty k)).map Da.sc = (am.map Da.sc).set k (.sc (nothing (d.keep k).what)) := by
        rw [← List.map_set]
        rfl
      rw [e] at hQ
      rw [keep_at hk] at hQ
      have hat : atI (d.keeps.map keepD) (k : Int) = some (keepD kp) := atI_nat (by rw [List.getElem?_map, hk] <;> rfl)
      obtain ⟨u, hn, hv⟩ := T.v_NOTHING kp.what
      walk_at "evs"
      try refine rop_ix_T hat ?_
      walk_at "evs"
      refine rop_itemKD hn hv (fun F => rp_sc.mpr rfl) ?_
      walk_at "evs"
      try refine gv_sub ?_
      walk_at "evs"
      exact put k (tVar 0) _ kp _ _ hk hQ
    | again k =>
      obtain ⟨kp, hk⟩ := ht
      have e : (touch d am (.again k)).map Da.sc = (am.map Da.sc).set k (.sc (trueValue (d.keep k) d.around)) := by
        rw [← List.map_set]
        rfl
      rw [e] at hQ
      rw [keep_at hk] at hQ
      have hat : atI (d.keeps.map keepD) (k : Int) = some (keepD kp) := atI_nat (by rw [List.getElem?_map, hk] <;> rfl)
      walk_at "evs"
      try refine rop_ix_T hat ?_
      walk_at "evs"
      refine ⟨kp, d.around, rfl, har, ?_⟩
      try refine gv_sub ?_
      walk_at "evs"
      exact put k (tVar 0) _ kp _ _ hk hQ


theorem sc_Deed_steps : FnScope ["self", "some", "step"] ["self", "some"] (defScope (inClass (top 27) 4)) := ⟨rfl, rfl, rfl, by decide +kernel, rfl, by decide +kernel, by decide +kernel⟩
theorem fn_Deed_steps {P : Program} {w : World} {K : PySem.W.Frag} {mg : Str → Option Value} {base : Heap} {f : Addr} {fd : FuncData} (F : FnP K "steps" "Deed.steps" (inClass (top 27) 4) f fd) (T : Tx w K mg) (m_touch : CalM P w K mg base (He.ga K "Deed") 2 "touch" ["self", "step"] (S_touch (He.ga K "Deed"))) (m_does_hold : CalM P w K mg base (He.ga K "Deed") 1 "does_hold" ["self", "test"] (S_does_hold (He.ga K "Deed")))  : FnOk P w K mg base CX0 3 f fd ["self", "some"] (spOf K (S_steps (He.ga K "Deed"))) := by
  have sc := sc_Deed_steps
  refine ok_fn (k := 2) F sc (fun ds M Q h => ?_) (fun cdv A outer s H E hr => ?_)
  · obtain ⟨x, l, d, am, n, sd, ss, rfl, hs, ⟨hx, hl, hxl⟩, hok, hty, hst, har, hQ⟩ := h; rfl
  · have hu6 : A.units + 64 < cLine := by have := hr.un; show A.units + 64 < cLine; simp only [Around.deeper] at this; omega
    have hu := hu_of hr
    refine ⟨_, (pss_cons (ps_for PassesOwn.never (by rfl) (pi_seq (pv 1)) (pg_name (i := 2) sc.nd rfl (Or.inl rfl)) (pss_one (ps_if (pt_cmpR op_ne (pe_ix ix_seq (pv 2) pe_int (fun _ _ => rfl)) pe_str (nomark _)) (pss_one (ps_expr (pe_metD m_touch (hr.mono (by first | decide | exact Nat.le_refl _)) (pv 0) (pa_cons (pv 2) pa_nil)))) (pss_one (ps_if (pt_val (pe_metD m_does_hold (hr.mono (by first | decide | exact Nat.le_refl _)) (pv 0) (pa_cons (pe_ix ix_seq (pv 2) pe_int (fun _ _ => rfl)) pa_nil))) (pss_one (ps_expr (pe_metD m_touch (hr.mono (by first | decide | exact Nat.le_refl _)) (pv 0) (pa_cons (pe_ix ix_seq (pv 2) pe_int (fun _ _ => rfl)) pa_nil)))) pss_nil))))) (pss_one (ps_ret (pe_fld (pv 0) rfl)))), fun ds M Q h => ?_⟩
    obtain ⟨x, l, d, am, n, sd, ss, rfl, hs, ⟨hx, hl, hxl⟩, hok, hty, hst, har, hQ⟩ := h
    try dsimp only [cxOf, Cx.nox]
    refine stp_seq (stp_for (js := [2]) (sr_seq ?_))
    walk_at "evs"
    refine ⟨ss.map stepD, hs.elim (fun e => .inl (by rw [e])) (fun e => .inr (by rw [e])), fun i ρ' M' => (∃ a, ρ' = [some (.sc (.ref x)), some sd, a]) ∧ updM M l (.lst ((run d (ss.take i) am).map Da.sc)) = M', ⟨⟨none, rfl⟩, updM_id hl⟩, ?_, ?_⟩
    · rintro i e ρ' M' hd ⟨⟨a, rfl⟩, rfl⟩
      rw [List.getElem?_map] at hd
      obtain ⟨s, hss, rfl⟩ := Option.map_eq_some_iff.mp hd
      have hso := hst s (List.mem_of_getElem? hss)
      have hty' : TyA d.keeps (run d (ss.take i) am) := tyA_run hty fun z hz => hst z (List.mem_of_mem_take hz)
      have hx' : updM M l (.lst ((run d (ss.take i) am).map Da.sc)) x = some (.ins (He.ga K "Deed") deedN [.tup (d.keeps.map keepD), .sc (.ref l), .lst (d.around.map thingD), optD d.elder, optD d.newer]) := by
        rw [updM_ne hxl]
        exact hx
      have hat : DeedAt (He.ga K "Deed") (updM M l (.lst ((run d (ss.take i) am).map Da.sc))) x l d (run d (ss.take i) am) := ⟨hx', updM_same, hxl⟩
      have hrun : run d (ss.take (i + 1)) am = runStep d (run d (ss.take i) am) s := by
        rw [take_succ_some hss]
        unfold run
        rw [List.foldl_append]
        rfl
      refine ⟨_, tg_name, ?_⟩
      obtain ⟨te, tc⟩ := s
      obtain ⟨h1, h2⟩ := hso
      have fin : updM (updM M l (.lst ((run d (ss.take i) am).map Da.sc))) l (.lst ((runStep d (run d (ss.take i) am) ⟨te, tc⟩).map Da.sc)) = updM M l (.lst ((run d (ss.take (i + 1)) am).map Da.sc)) := by rw [updM_updM, hrun]
      cases te with
      | none =>
        cases tc <;> (walk_at "evs"; refine ⟨x, l, d, run d (ss.take i) am, n, _, rfl, hat, hok, hty', h1, har, ?_⟩; exact ⟨⟨_, rfl⟩, fin.symm⟩)
      | some t =>
        walk_at "evs"
        refine ⟨x, l, d, run d (ss.take i) am, n, t, rfl, hat, hok, hty', h2 t rfl, ?_⟩
        walk_at "evs"
        have fin : updM (updM M l (.lst ((run d (ss.take i) am).map Da.sc))) l (.lst ((if holds d (run d (ss.take i) am) t = true then touch d (run d (ss.take i) am) tc else run d (ss.take i) am).map Da.sc)) = updM M l (.lst ((run d (ss.take (i + 1)) am).map Da.sc)) := fin
        refine ifB (fun h => ?_) (fun h => ?_)
        · rw [if_pos h] at fin
          walk_at "evs"
          refine ⟨x, l, d, run d (ss.take i) am, n, tc, rfl, hat, hok, hty', h1, har, ?_⟩
          exact ⟨⟨_, rfl⟩, fin.symm⟩
        · rw [if_neg (by rw [h]; exact Bool.false_ne_true), updM_updM] at fin
          walk_at "evs"
          exact ⟨⟨_, rfl⟩, fin.symm⟩
    · rintro ρ' M' ⟨⟨a, rfl⟩, rfl⟩
      rw [List.length_map, List.take_length]
      have hx' : updM M l (.lst ((run d ss am).map Da.sc)) x = some (.ins (He.ga K "Deed") deedN [.tup (d.keeps.map keepD), .sc (.ref l), .lst (d.around.map thingD), optD d.elder, optD d.newer]) := by
        rw [updM_ne hxl]
        exact hx
      walk_at "evs"
      exact hQ

end Kc
namespace Kc
open PySem L2 Dl
local macro_rules | `(tactic| walk_at "evE") => `(tactic| (first
  | ((with_reducible refine' ev_var ?evh ?_); (case evh => exact rfl))
  | with_reducible refine' ev_k (Tx.d_NAMES (by assumption)) ?_
  | with_reducible refine' ev_k (Tx.d_WHATS (by assumption)) ?_
  | with_reducible refine' ev_k (Tx.d_SOURCES (by assumption)) ?_
  | with_reducible refine' ev_k (Tx.d_NUMBERS (by assumption)) ?_
  | with_reducible refine' ev_c ?_
  | with_reducible refine' ev_op ?_
  | with_reducible refine' ev_call ?_
  | with_reducible refine' ev_cb ?_
  | with_reducible refine' ev_tup ?_
  | with_reducible refine' ev_lst ?_
  | with_reducible refine' ev_if ?_
  | with_reducible refine' ev_andV ?_
  | with_reducible refine' ev_orV ?_
  | with_reducible refine' ev_notV ?_
  | with_reducible refine' ev_chain ?_
  | with_reducible refine' ev_sl ?_
  | with_reducible refine' ev_dget ?_
  | with_reducible refine' ev_disp ?_
  | walk_at "evF"
  | with_reducible refine' ev_meth ?_
  | with_reducible refine' ev_make ?_
  | with_reducible refine' ev_bm ?_))
local macro_rules | `(tactic| walk_at "evR") => `(tactic| (first
  | with_reducible refine' rop_I0 ?_
  | ((with_reducible refine' rop_eq ?evs ?_); (case evs => exact rfl))
  | ((with_reducible refine' rop_ne ?evs ?_); (case evs => exact rfl))
  | ((with_reducible refine' rop_ix_T ?evs ?_); (case evs => (first | assumption | exact rfl)))
  | ((with_reducible refine' rop_ix_L ?evs ?_); (case evs => (first | assumption | exact rfl)))
  | ((with_reducible refine' rop_ix_M ?evh ?evs ?_); (case evh => (first | exact updM_same | assumption)); (case evs => (first | assumption | exact rfl)))
  | with_reducible refine' rop_or1 (rop_I0 ?_)
  | ((with_reducible refine' rop_or2 (rop_or1 (rop_catA ?evz ?_))); (case evz => (first | exact Nat.le_of_ble_eq_true rfl | omega | (simp; done) | (simp; omega))))
  | ((with_reducible refine' rop_or1 (rop_I ?evh ?_)); (case evh => (first | exact Or.inl ⟨by decide, by decide⟩ | exact Or.inr ⟨by decide, by decide⟩)))
  | ((with_reducible refine' rop_I ?evh ?_); (case evh => (first | (exact (show (0:Int) < _ by omega)) | exact ⟨by decide, by decide, by decide⟩)))
  | ((with_reducible refine' rop_or2 (rop_or1 (rop_rep ?evs ?eva ?evb ?evc ?_))); (case evs => exact rfl); (case eva => decide); (case evb => decide); (case evc => exact Nat.le_of_ble_eq_true rfl))
  | ((with_reducible refine' rop_or2 (rop_or2 (rop_cat ?evs ?evt ?evz ?_))); (case evs => exact rfl); (case evt => exact rfl); (case evz => exact Nat.le_of_ble_eq_true rfl))
  | with_reducible refine' rop_isN ?_
  | with_reducible refine' rop_notN ?_
  | ((with_reducible refine' rop_isN0 ?evs ?_); (case evs => intro _ h; cases h))
  | ((with_reducible refine' rop_notN0 ?evs ?_); (case evs => intro _ h; cases h))
  | ((with_reducible refine' rop_inT ?evs ?evt ?_); (case evs => exact rfl); (case evt => first | assumption | exact rfl))
  | ((with_reducible refine' rop_inS ?evs ?evt ?evu ?_); (case evs => exact rfl); (case evt => exact rfl); (case evu => exact rfl))))
local macro_rules | `(tactic| walk_at "evC") => `(tactic| (first
  | ((with_reducible refine' rcl_len ?evs ?_); (case evs => exact rfl))
  | ((with_reducible refine' rcl_isi ?evs ?evk ?_); (case evs => exact rfl); (case evk => (first | exact kit_int_int | exact kit_int_bool | exact kit_int_str | exact kit_int_tuple | exact kit_int_list | exact kit_bool_int | exact kit_bool_bool | exact kit_bool_str | exact kit_bool_tuple | exact kit_bool_list | exact kit_str_int | exact kit_str_bool | exact kit_str_str | exact kit_str_tuple | exact kit_str_list | exact kit_tuple_int | exact kit_tuple_bool | exact kit_tuple_str | exact kit_tuple_tuple | exact kit_tuple_list | exact kit_list_int | exact kit_list_bool | exact kit_list_str | exact kit_list_tuple | exact kit_list_list | exact kit_NoneType_int | exact kit_NoneType_bool | exact kit_NoneType_str | exact kit_NoneType_tuple | exact kit_NoneType_list)))
  | with_reducible refine' rcl_int ?_
  | with_reducible refine' rcl_intB ?_
  | with_reducible refine' rcl_max2 ?_
  | with_reducible refine' rcl_min2 ?_))
local macro_rules | `(tactic| walk_at "evT") => `(tactic| (first
  | with_reducible refine' tv_test ?_
  | with_reducible refine' tv_or ?_
  | with_reducible refine' tv_and ?_
  | with_reducible refine' tv_not ?_
  | with_reducible refine' tv_B ?_
  | with_reducible refine' tv_tru ?_
  | with_reducible refine' tv_yes ?_))
local macro_rules | `(tactic| walk_at "evA") => `(tactic| (first
  | with_reducible refine' av_cons ?_
  | with_reducible refine' av_nil ?_))
local macro_rules | `(tactic| walk_at "evS") => `(tactic| (first
  | with_reducible refine' stp_seq ?_
  | with_reducible refine' stp_if ?_
  | with_reducible refine' stp_ret ?_
  | with_reducible refine' stp_next ?_
  | with_reducible refine' stp_set ?_
  | with_reducible refine' stp_asg ?_
  | with_reducible refine' stp_drop ?_
  | with_reducible refine' stp_par ?_
  | with_reducible refine' stp_dput ?_
  | with_reducible refine' stp_augL ?_
  | with_reducible refine' stp_retN ?_
  | with_reducible refine' stp_brk ?_
  | with_reducible refine' stp_cont ?_))
local macro_rules | `(tactic| walk_at "evI") => `(tactic| (first
  | ((with_reducible refine' ifT ?evs ?_); (case evs => exact rfl))
  | ((with_reducible refine' ifF ?evs ?_); (case evs => exact rfl))))
local macro_rules | `(tactic| walk_at "ev") => `(tactic| (first
  | ((with_reducible show EvP _ _ _ _ _); walk_at "evE")
  | ((with_reducible show ROp _ _ _ _ _ _); walk_at "evR")
  | ((with_reducible show AvP _ _ _ _ _); walk_at "evA")
  | ((with_reducible show TvP _ _ _ _ _); walk_at "evT")
  | ((with_reducible show RCl _ _ _ _ _); walk_at "evC")
  | ((with_reducible show StP _ _ _ _ _); walk_at "evS")
  | ((with_reducible show ite _ _ _); walk_at "evI")
  | with_reducible refine' ov_none ?_
  | with_reducible refine' ov_some ?_
  | ((with_reducible show RSl _ _ _ _ _ _ _); (first | with_reducible refine' rsl_T ?_ | ((with_reducible refine' rsl_L ?evh ?_); (case evh => exact rfl))))
  | with_reducible refine' gv_name ?_
  | with_reducible refine' gv_sub ?_
  | ((with_reducible show RSet _ _ _ _ _ _ _); ((with_reducible refine' rset_L ?evh ?evs ?_); (case evh => (first | exact updM_same | assumption)); (case evs => exact rfl)))
  | with_reducible refine' pv_cons ?_
  | with_reducible refine' pv_nil ?_
  | ((with_reducible show Exists _); refine ⟨_, rfl, ?_⟩)
  | ((with_reducible show Exists _); refine ⟨_, _, rfl, ?_⟩)
  | ((with_reducible show Exists _); refine ⟨_, _, (by first | exact ⟨rfl, rfl, rfl⟩ | exact rfl | assumption), (by first | exact rfl | decide +kernel), ?_⟩)
  | ((with_reducible show And _ _); refine ⟨Nat.le_of_ble_eq_true rfl, ?_⟩)))
local macro_rules | `(tactic| walk_at "evs") => `(tactic| (repeat walk_at "ev"))
local macro_rules | `(tactic| walk_at "evF") => `(tactic| ((with_reducible refine' ev_fld (C := He.ga _ "Program") (ns := progN) (Tx.c_Program (by assumption)) (Tx.n_Program (by assumption) _ ?evm) ?_); (case evm => decide +kernel)))
local macro_rules | `(tactic| walk_at "evF") => `(tactic| ((with_reducible refine' ev_fld (C := He.ga _ "Ledger") (ns := ledN) (TxL.c_Ledger (by assumption)) (TxL.n_Ledger (by assumption) _ ?evm) ?_); (case evm => decide +kernel)))

theorem sc_Ledger___init__ : FnScope ["self", "program"] ["self", "program"] (defScope (inClass (top 41) 0)) := ⟨rfl, rfl, rfl, by decide +kernel, rfl, by decide +kernel, by decide +kernel⟩
theorem fn_Ledger___init__ {P : Program} {w : World} {K : PySem.W.Frag} {mg : Str → Option Value} {base : Heap} {f : Addr} {fd : FuncData} (F : FnP K "__init__" "Ledger.__init__" (inClass (top 41) 0) f fd) (T : Tx w K mg) (c_nothing_kept : Cal P w K mg base 1 "nothing_kept" ["keeps"] (S_nothing_kept)) (TL : TxL K) : FnOk P w K mg base CX0 2 f fd ["self", "program"] (spOf K (S_Ledger_init (He.ga K "Ledger") (He.ga K "Program"))) := by
  have sc := sc_Ledger___init__
  refine ok_fn (k := 1) F sc (fun ds M Q h => ?_) (fun cdv A outer s H E hr => ?_)
  · obtain ⟨x, pr, rfl, hx, h3, hQ⟩ := h; rfl
  · have hu6 : A.units + 64 < cLine := by have := hr.un; show A.units + 64 < cLine; simp only [Around.deeper] at this; omega
    have hu := hu_of hr
    refine ⟨_, (pss_cons (ps_fld (pv 0) (pv 1) rfl) (pss_cons (ps_fld (pv 0) pe_dnewK rfl) (pss_cons (ps_fld (pv 0) pe_int rfl) (pss_cons (ps_fld (pv 0) (pe_calD c_nothing_kept (hr.mono (by first | decide | exact Nat.le_refl _)) (by rfl) (pa_cons (pe_fld (pv 1) rfl) pa_nil)) rfl) (pss_cons (ps_fld (pv 0) (pe_lst pa_nil) rfl) (pss_one (ps_fld (pv 0) (pe_lst pa_nil) rfl))))))), fun ds M Q h => ?_⟩
    obtain ⟨x, pr, rfl, hx, h3, hQ⟩ := h
    try dsimp only [cxOf, Cx.nox]
    have fld : ∀ (f : Str) (tv : TE) (ns : List Str) (es : List Da) (ρ : Env') (M1 : MH) (D : DE), f ∈ ledN → ρ[0]? = some (some (.sc (.ref x))) → f ∉ ns → ns.length < 1000 →
        EvP K tv ρ M1 (fun v M2 => M2 x = some (.ins (He.ga K "Ledger") ns es) ∧ D.nx ρ (updM M2 x (.ins (He.ga K "Ledger") (ns ++ [f]) (es ++ [v])))) → StP K (sFld K (tVar 0) tv f) ρ M1 D := by
      intro f tv ns es ρ M1 D hf h0 hnf hl q
      refine stp_fldN TL.c_Ledger (TL.n_Ledger f hf) (q.mono fun v M2 hq => ?_)
      exact ev_var h0 ⟨x, ns, es, rfl, hq.1, hnf, hl, hq.2⟩
    refine stp_seq (fld "program" _ [] [] _ _ _ (by decide +kernel) rfl (by decide +kernel) (by decide) ?_)
    walk_at "evs"
    refine ⟨hx, ?_⟩
    refine stp_seq (fld "table" _ ["program"] [progD (He.ga K "Program") pr] _ _ _ (by decide +kernel) rfl (by decide +kernel) (by decide) ?_)
    refine ev_dnew fun p hp => ?_
    have hxp : x ≠ p := ne_N updM_same hp
    have hpM : M p = none := by rw [updM_ne hxp.symm] at hp; exact hp
    refine ⟨by rw [updM_ne hxp]; exact updM_same, ?_⟩
    refine stp_seq (fld "made" _ ["program", "table"] [progD (He.ga K "Program") pr, .sc (.ref p)] _ _ _ (by decide +kernel) rfl (by decide +kernel) (by decide) ?_)
    walk_at "evs"
    refine ⟨updM_same, ?_⟩
    refine stp_seq (fld "amounts" _ ["program", "table", "made"] [progD (He.ga K "Program") pr, .sc (.ref p), iD 0] _ _ _ (by decide +kernel) rfl (by decide +kernel) (by decide) ?_)
    walk_at "evs"
    refine ⟨pr.keeps, rfl, h3, ?_⟩
    refine ⟨updM_same, ?_⟩
    refine stp_seq (fld "deeds" _ ["program", "table", "made", "amounts"] [progD (He.ga K "Program") pr, .sc (.ref p), iD 0, .lst ((trueValues pr.keeps []).map Da.sc)] _ _ _ (by decide +kernel) rfl (by decide +kernel) (by decide) ?_)
    refine ev_lstM (av_nil ⟨Nat.zero_le _, fun dl hdl => ?_⟩)
    have hxd : x ≠ dl := ne_N updM_same hdl
    refine ⟨by rw [updM_ne hxd]; exact updM_same, ?_⟩
    refine fld "past" _ ["program", "table", "made", "amounts", "deeds"] [progD (He.ga K "Program") pr, .sc (.ref p), iD 0, .lst ((trueValues pr.keeps []).map Da.sc), .sc (.ref dl)] _ _ _ (by decide +kernel) rfl (by decide +kernel) (by decide) ?_
    refine ev_lstM (av_nil ⟨Nat.zero_le _, fun pa hpa => ?_⟩)
    have hxa : x ≠ pa := ne_N updM_same hpa
    refine ⟨by rw [updM_ne hxa]; exact updM_same, ?_⟩
    have hpd : p ≠ dl := by
      rintro rfl
      simp [updM, hxp, hxp.symm] at hdl
    have hpda : p ≠ pa := by
      rintro rfl
      simp [updM, hxp, hxp.symm, hpd, hpd.symm] at hpa
    have hda : dl ≠ pa := by
      rintro rfl
      simp [updM, hxd, hxd.symm] at hpa
    have hdM : M dl = none := by simpa [updM, hxd.symm, hpd.symm] using hdl
    have haM : M pa = none := by simpa [updM, hxa.symm, hpda.symm, hda.symm] using hpa
    refine hQ p dl pa _ ⟨?_, ?_, ⟨[], ?_, Nat.le_refl _⟩, ⟨[], ?_, Nat.le_refl _⟩, hda⟩ (fun a o hn e => ?_) hpM hdM haM
    · exact updM_same
    · simp [updM, hxp.symm, hpd, hpda]
      rfl
    · simp [updM, hxd.symm, hda]
    · simp [updM, hxa.symm]
    · have h1 : a ≠ x := fun z => hn (by rw [z]; exact List.mem_cons_self)
      have h2 : a ≠ p := ne_N e hpM
      have h3 : a ≠ dl := ne_N e hdM
      have h4 : a ≠ pa := ne_N e haM
      simp [updM, h1, h2, h3, h4, e]


theorem sc_Ledger_note : FnScope ["self", "deed"] ["self", "deed"] (defScope (inClass (top 41) 1)) := ⟨rfl, rfl, rfl, by decide +kernel, rfl, by decide +kernel, by decide +kernel⟩
theorem fn_Ledger_note {P : Program} {w : World} {K : PySem.W.Frag} {mg : Str → Option Value} {base : Heap} {f : Addr} {fd : FuncData} (F : FnP K "note" "Ledger.note" (inClass (top 41) 1) f fd) (T : Tx w K mg)  (TL : TxL K) : FnOk P w K mg base CX0 1 f fd ["self", "deed"] (spOf K (S_Ledger_note (He.ga K "Ledger") (He.ga K "Program"))) := by
  have sc := sc_Ledger_note
  refine ok_fn (k := 0) F sc (fun ds M Q h => ?_) (fun cdv A outer s H E hr => ?_)
  · obtain ⟨x, p, dl, pa, pr, s, n, d, rfl, hL, hn, hQ⟩ := h; rfl
  · have hu6 : A.units + 64 < cLine := by have := hr.un; show A.units + 64 < cLine; simp only [Around.deeper] at this; omega
    have hu := hu_of hr
    refine ⟨_, (pss_cons (ps_expr (pe_bm PySem.F.plainAttrs_list PySem.F.slot_list_append PySem.F.type_list_append mt_append (pe_fld (pv 0) rfl) (pa_cons (pe_tup (pa_cons (pe_callTy cr_dictC (by rfl) T.b_dict (by decide +kernel) (pa_cons (pe_fld (pv 0) rfl) pa_nil)) (pa_cons (pe_fld (pv 0) rfl) (pa_cons (pe_callTy call_list_of (by rfl) T.b_list (by decide +kernel) (pa_cons (pe_fld (pv 0) rfl) pa_nil)) pa_nil)))) pa_nil))) (pss_one (ps_expr (pe_bm PySem.F.plainAttrs_list PySem.F.slot_list_append PySem.F.type_list_append mt_append (pe_fld (pv 0) rfl) (pa_cons (pv 1) pa_nil))))), fun ds M Q h => ?_⟩
    obtain ⟨x, p, dl, pa, pr, s, n, d, rfl, hL, hn, hQ⟩ := h
    try dsimp only [cxOf, Cx.nox]
    obtain ⟨hx, hp, ⟨es, hd, hdl⟩, ⟨fs, ha, hal⟩, hda⟩ := hL
    have ⟨xp, xd, xa, pd, pa', _⟩ := (⟨hx, hp, ⟨es, hd, hdl⟩, ⟨fs, ha, hal⟩, hda⟩ : LedC _ _ M x p dl pa pr s n).nes
    refine stp_seq (stp_drop (ev_bm ?_))
    walk_at "evs"
    refine ⟨_, _, rfl, ha, rfl, ?_⟩
    walk_at "evs"
    refine rcl_dictC hp fun r hr => ?_
    have rx : x ≠ r := ne_N hx hr
    have rp : p ≠ r := ne_N hp hr
    have rd : dl ≠ r := ne_N hd hr
    have ra : pa ≠ r := ne_N ha hr
    refine av_cons ?_
    have hx1 : updM M r (.dK (tbD s.tb)) x = some (.ins (He.ga K "Ledger") ledN [progD (He.ga K "Program") pr, .sc (.ref p), iD s.made, .lst (s.kept.map Da.sc), .sc (.ref dl), .sc (.ref pa)]) := by rw [updM_ne rx]; exact hx
    walk_at "evs"
    refine rcl_list (show SeqAt (.lst (s.kept.map Da.sc)) _ (s.kept.map Da.sc) from rfl) ?_
    walk_at "evs"
    refine rmt_append (by rw [updM_ne ra]; exact ha) (by omega) ?_
    have hx2 : ∀ o, updM (updM M r (.dK (tbD s.tb))) pa o x = some (.ins (He.ga K "Ledger") ledN [progD (He.ga K "Program") pr, .sc (.ref p), iD s.made, .lst (s.kept.map Da.sc), .sc (.ref dl), .sc (.ref pa)]) := fun o => by rw [updM_ne xa]; exact hx1
    refine stp_drop (ev_bm ?_)
    walk_at "evs"
    refine ⟨_, _, (by exact hx2 _), (by exact rfl), ?_⟩
    refine ⟨_, _, rfl, (by rw [updM_ne hda, updM_ne rd]; exact hd), rfl, ?_⟩
    walk_at "evs"
    refine rmt_append (by rw [updM_ne hda, updM_ne rd]; exact hd) (by omega) ?_
    refine hQ _ ⟨?_, ?_, ⟨_, updM_same, ?_⟩, ⟨_, (by rw [updM_ne hda.symm]; exact updM_same), ?_⟩, hda⟩ (fun a o hn e => ?_)
    · rw [updM_ne xd]; exact hx2 _
    · rw [updM_ne pd, updM_ne pa', updM_ne rp]; exact hp
    · rw [List.length_append]; show es.length + 1 ≤ _; omega
    · rw [List.length_append]; show fs.length + 1 ≤ _; omega
    · have h1 : a ≠ dl := fun z => hn (by rw [z]; exact List.mem_cons_self)
      have h2 : a ≠ pa := fun z => hn (by rw [z]; exact List.mem_cons_of_mem _ List.mem_cons_self)
      rw [updM_ne h1, updM_ne h2, updM_ne (ne_N e hr)]
      exact e


theorem sc_Ledger_need : FnScope ["self", "thing"] ["self", "thing"] (defScope (inClass (top 41) 2)) := ⟨rfl, rfl, rfl, by decide +kernel, rfl, by decide +kernel, by decide +kernel⟩
theorem fn_Ledger_need {P : Program} {w : World} {K : PySem.W.Frag} {mg : Str → Option Value} {base : Heap} {f : Addr} {fd : FuncData} (F : FnP K "need" "Ledger.need" (inClass (top 41) 2) f fd) (T : Tx w K mg)  (TL : TxL K) : FnOk P w K mg base CX0 1 f fd ["self", "thing"] (spOf K (S_Ledger_need (He.ga K "Ledger") (He.ga K "Program"))) := by
  have sc := sc_Ledger_need
  refine ok_fn (k := 0) F sc (fun ds M Q h => ?_) (fun cdv A outer s H E hr => ?_)
  · obtain ⟨x, p, dl, pa, pr, s, n, t, rfl, hL, ht, hQ⟩ := h; rfl
  · have hu6 : A.units + 64 < cLine := by have := hr.un; show A.units + 64 < cLine; simp only [Around.deeper] at this; omega
    have hu := hu_of hr
    refine ⟨_, (pss_one (ps_if (pt_cmp (pc_dnotin hu (pv 1) (pe_fld (pv 0) rfl))) (pss_one ps_never) pss_nil)), fun ds M Q h => ?_⟩
    obtain ⟨x, p, dl, pa, pr, s, n, t, rfl, hL, ht, hQ⟩ := h
    try dsimp only [cxOf, Cx.nox]
    have hx := hL.hx
    refine stp_if (tv_B (tv_dnotin ?_))
    walk_at "evs"
    refine ⟨p, _, .inl (t : Int), _, rfl, hL.hp, rfl, tbD_el ht, ?_⟩
    refine ⟨_, rfl, ifF rfl (stp_next ?_)⟩
    exact hQ


theorem sc_Ledger_touch : FnScope ["self", "steps", "elder", "newer", "around", "thing"] ["self", "steps", "elder", "newer"] (defScope (inClass (top 41) 3)) := ⟨rfl, rfl, rfl, by decide +kernel, rfl, by decide +kernel, by decide +kernel⟩
theorem fn_Ledger_touch {P : Program} {w : World} {K : PySem.W.Frag} {mg : Str → Option Value} {base : Heap} {f : Addr} {fd : FuncData} (F : FnP K "touch" "Ledger.touch" (inClass (top 41) 3) f fd) (T : Tx w K mg) (m_steps : CalM P w K mg base (He.ga K "Deed") 3 "steps" ["self", "some"] (S_steps (He.ga K "Deed"))) (k_Deed : CalC P w K mg base (He.ga K "Deed") 1 "Deed" ["self", "keeps", "kept", "things", "elder", "newer"] (S_Deed_init (He.ga K "Deed"))) (TL : TxL K) : FnOk P w K mg base CX0 4 f fd ["self", "steps", "elder", "newer"] (spOf K (S_Ledger_touch (He.ga K "Ledger") (He.ga K "Program"))) := by
  have sc := sc_Ledger_touch
  refine ok_fn (k := 3) F sc (fun ds M Q h => ?_) (fun cdv A outer s H E hr => ?_)
  · obtain ⟨x, p, dl, pa, pr, s, n, ss, el, nw, m, rfl, hL, hok, hty, hst, hnd, hlen, hQ⟩ := h; rfl
  · have hu6 : A.units + 64 < cLine := by have := hr.un; show A.units + 64 < cLine; simp only [Around.deeper] at this; omega
    have hu := hu_of hr
    refine ⟨_, (pss_cons (ps_lock (ps_setLc (i := 4) (own := [("thing", 5)]) (by rfl) sc.nd rfl rfl (sw_true rfl rfl rfl (by decide +kernel)) (pi_keys (pe_fld (pv 0) rfl)) (blkOk_by (own := [("thing", 5)]) (N := ["self", "steps", "elder", "newer", "around", "thing"]) (sc := defScope (inClass (top 41) 3)) (by decide +kernel)) (fun _ _ _ _ _ => (pg_name (i := 5) sc.nd rfl (Or.inl rfl))) (fun _ _ _ _ _ => pts_nil) (fun _ _ _ _ _ => (pe_dget hu (k_pe_fld (K := K) (pv 0) rfl) (pv 5) (fun _ _ => rfl))))) (pss_one (ps_fld (pv 0) (pe_callTy call_list_of (by rfl) T.b_list (by decide +kernel) (pa_cons (pe_metD m_steps (hr.mono (by first | decide | exact Nat.le_refl _)) (pe_makD k_Deed (hr.mono (by first | decide | exact Nat.le_refl _)) (by rfl) (pa_cons (pe_fld (pe_fld (pv 0) rfl) rfl) (pa_cons (pe_fld (pv 0) rfl) (pa_cons (pv 4) (pa_cons (pv 2) (pa_cons (pv 3) pa_nil)))))) (pa_cons (pv 1) pa_nil)) pa_nil)) rfl))), fun ds M Q h => ?_⟩
    obtain ⟨x, p, dl, pa, pr, s, n, ss, el, nw, m, rfl, hL, hok, hty, hst, hnd, hlen, hQ⟩ := h
    try dsimp only [cxOf, Cx.nox]
    have ⟨xp, xd, xa, pd, pa', da⟩ := hL.nes
    have hx := hL.hx
    have hp := hL.hp
    have h3 := hok.k3
    refine stp_seq (stp_lock (stp_set ?_))
    have hx' : delM M p x = some (.ins (He.ga K "Ledger") ledN [progD (He.ga K "Program") pr, .sc (.ref p), iD s.made, .lst (s.kept.map Da.sc), .sc (.ref dl), .sc (.ref pa)]) := by rw [delM_ne xp]; exact hx
    refine ev_vals p (tbD s.tb) (by decide) hp (tbD_get hnd) (by rw [tbD_len]; omega) (by exact Nat.le_of_ble_eq_true rfl) ?_ (fun k => ?_) ?_
    · walk_at "evs"
      exact ⟨rfl, rfl⟩
    · walk_at "evs"
      exact ⟨rfl, rfl⟩
    rw [tbD_vals]
    show StP _ _ _ _ _
    refine stp_fldS (C := He.ga K "Ledger") TL.c_Ledger (TL.n_Ledger "amounts" (by decide +kernel)) ?_
    walk_at "evs"
    intro y hy
    refine ⟨y, s.kept, ⟨pr.keeps, s.things, el, nw⟩, rfl, updM_same, ?_⟩
    intro l hl
    refine ⟨rfl, ?_⟩
    have hyl : y ≠ l := ne_N updM_same hl
    have hlM : M l = none := by rw [updM_ne hyl.symm] at hl; exact hl
    have hyM : M y = none := hy
    refine ⟨_, _, (by show _ = _; rw [updM_ne hyl]; exact updM_same), by decide +kernel, ?_⟩
    walk_at "evs"
    refine ⟨y, l, ⟨pr.keeps, s.things, el, nw⟩, s.kept, m, _, ss, rfl, .inr rfl, ⟨by rw [updM_ne hyl]; exact updM_same, updM_same, hyl⟩, hok, hty, hst, by show s.things.length ≤ _; unfold LgS.things; rw [List.length_map]; omega, ?_⟩
    walk_at "evs"
    have xy : x ≠ y := ne_N hx hyM
    have xl : x ≠ l := ne_N hx hlM
    generalize hN : updM (updM (updM (updM M y (.ins (He.ga K "Deed") [] [])) y (.ins (He.ga K "Deed") deedN [.tup (pr.keeps.map keepD), .sc (.ref l), .lst (s.things.map thingD), optD el, optD nw])) l (.lst (s.kept.map Da.sc))) l (.lst ((run ⟨pr.keeps, s.things, el, nw⟩ ss s.kept).map Da.sc)) = N
    have kN : ∀ a o, M a = some o → N a = some o := fun a o e => by
      rw [← hN, updM_ne (ne_N e hlM), updM_ne (ne_N e hlM), updM_ne (ne_N e hyM), updM_ne (ne_N e hyM)]
      exact e
    have hNl : N l = some (.lst ((run ⟨pr.keeps, s.things, el, nw⟩ ss s.kept).map Da.sc)) := by rw [← hN]; exact updM_same
    refine rcl_list (show SeqAt (.sc (.ref l)) N _ from hNl) ?_
    refine ev_var rfl ⟨x, _, _, 3, rfl, kN _ _ hx, rfl, by decide +kernel, by decide, ?_⟩
    obtain ⟨es, hd, hdl⟩ := hL.hd
    obtain ⟨fs, ha, hal⟩ := hL.ha
    refine hQ _ ⟨updM_same, ?_, ⟨es, ?_, hdl⟩, ⟨fs, ?_, hal⟩, da⟩ (fun a o hn e => ?_)
    · rw [updM_ne xp.symm]; exact kN _ _ hp
    · rw [updM_ne xd.symm]; exact kN _ _ hd
    · rw [updM_ne xa.symm]; exact kN _ _ ha
    · rw [updM_ne fun z => hn (by rw [z]; exact List.mem_cons_self)]; exact kN _ _ e


theorem sc_Ledger_kept : FnScope ["self"] ["self"] (defScope (inClass (top 41) 7)) := ⟨rfl, rfl, rfl, by decide +kernel, rfl, by decide +kernel, by decide +kernel⟩
theorem fn_Ledger_kept {P : Program} {w : World} {K : PySem.W.Frag} {mg : Str → Option Value} {base : Heap} {f : Addr} {fd : FuncData} (F : FnP K "kept" "Ledger.kept" (inClass (top 41) 7) f fd) (T : Tx w K mg)  (TL : TxL K) : FnOk P w K mg base CX0 1 f fd ["self"] (spOf K (S_Ledger_kept (He.ga K "Ledger") (He.ga K "Program"))) := by
  have sc := sc_Ledger_kept
  refine ok_fn (k := 0) F sc (fun ds M Q h => ?_) (fun cdv A outer s H E hr => ?_)
  · obtain ⟨x, p, dl, pa, pr, s, n, rfl, hL, hQ⟩ := h; rfl
  · have hu6 : A.units + 64 < cLine := by have := hr.un; show A.units + 64 < cLine; simp only [Around.deeper] at this; omega
    have hu := hu_of hr
    refine ⟨_, (pss_one (ps_ret (pe_callTy call_list_of (by rfl) T.b_list (by decide +kernel) (pa_cons (pe_fld (pv 0) rfl) pa_nil)))), fun ds M Q h => ?_⟩
    obtain ⟨x, p, dl, pa, pr, s, n, rfl, hL, hQ⟩ := h
    try dsimp only [cxOf, Cx.nox]
    have hx := hL.hx
    walk_at "evs"
    refine rcl_list (show SeqAt (.lst (s.kept.map Da.sc)) _ (s.kept.map Da.sc) from rfl) ?_
    exact hQ


theorem sc_Ledger_anew : FnScope ["self", "thing"] ["self"] (defScope (inClass (top 41) 8)) := ⟨rfl, rfl, rfl, by decide +kernel, rfl, by decide +kernel, by decide +kernel⟩
theorem fn_Ledger_anew {P : Program} {w : World} {K : PySem.W.Frag} {mg : Str → Option Value} {base : Heap} {f : Addr} {fd : FuncData} (F : FnP K "anew" "Ledger.anew" (inClass (top 41) 8) f fd) (T : Tx w K mg) (c_true_values : Cal P w K mg base 2 "true_values" ["keeps", "things"] (S_true_values)) (TL : TxL K) : FnOk P w K mg base CX0 3 f fd ["self"] (spOf K (S_Ledger_anew (He.ga K "Ledger") (He.ga K "Program"))) := by
  have sc := sc_Ledger_anew
  refine ok_fn (k := 2) F sc (fun ds M Q h => ?_) (fun cdv A outer s H E hr => ?_)
  · obtain ⟨x, p, dl, pa, pr, s, n, rfl, hL, h3, hnd, hlen, hQ⟩ := h; rfl
  · have hu6 : A.units + 64 < cLine := by have := hr.un; show A.units + 64 < cLine; simp only [Around.deeper] at this; omega
    have hu := hu_of hr
    refine ⟨_, (pss_one (ps_ret (pe_calD c_true_values (hr.mono (by first | decide | exact Nat.le_refl _)) (by rfl) (pa_cons (pe_fld (pe_fld (pv 0) rfl) rfl) (pa_cons (pe_lock (pe_lc (own := [("thing", 1)]) (by rfl) sc.nd (pi_keys (pe_fld (pv 0) rfl)) (blkOk_by (own := [("thing", 1)]) (N := ["self", "thing"]) (sc := defScope (inClass (top 41) 8)) (by decide +kernel)) (fun _ _ _ _ _ => (pg_name (i := 1) sc.nd rfl (Or.inl rfl))) (fun _ _ _ _ _ => pts_nil) (fun _ _ _ _ _ => (pe_dget hu (k_pe_fld (K := K) (pv 0) rfl) (pv 1) (fun _ _ => rfl))))) pa_nil))))), fun ds M Q h => ?_⟩
    obtain ⟨x, p, dl, pa, pr, s, n, rfl, hL, h3, hnd, hlen, hQ⟩ := h
    try dsimp only [cxOf, Cx.nox]
    have ⟨xp, xd, xa, pd, pa', da⟩ := hL.nes
    have hx := hL.hx
    have hp := hL.hp
    have hx' : delM M p x = some (.ins (He.ga K "Ledger") ledN [progD (He.ga K "Program") pr, .sc (.ref p), iD s.made, .lst (s.kept.map Da.sc), .sc (.ref dl), .sc (.ref pa)]) := by rw [delM_ne xp]; exact hx
    walk_at "evs"
    refine ev_vals p (tbD s.tb) (by decide) hp (tbD_get hnd) (by rw [tbD_len]; omega) (by exact Nat.le_of_ble_eq_true rfl) ?_ (fun k => ?_) ?_
    · walk_at "evs"
      exact ⟨rfl, rfl⟩
    · walk_at "evs"
      exact ⟨rfl, rfl⟩
    rw [tbD_vals]
    walk_at "evs"
    refine ⟨_, pr.keeps, s.things, rfl, .inr rfl, h3, by unfold LgS.things; rw [List.length_map]; omega, ?_⟩
    exact hQ


theorem sc_Ledger_lies : FnScope ["self", "index", "true"] ["self"] (defScope (inClass (top 41) 9)) := ⟨rfl, rfl, rfl, by decide +kernel, rfl, by decide +kernel, by decide +kernel⟩
theorem fn_Ledger_lies {P : Program} {w : World} {K : PySem.W.Frag} {mg : Str → Option Value} {base : Heap} {f : Addr} {fd : FuncData} (F : FnP K "lies" "Ledger.lies" (inClass (top 41) 9) f fd) (T : Tx w K mg) (m_anew : CalM P w K mg base (He.ga K "Ledger") 3 "anew" ["self"] (S_Ledger_anew (He.ga K "Ledger") (He.ga K "Program"))) (TL : TxL K) : FnOk P w K mg base CX0 4 f fd ["self"] (spOf K (S_Ledger_lies (He.ga K "Ledger") (He.ga K "Program"))) := by
  have sc := sc_Ledger_lies
  refine ok_fn (k := 3) F sc (fun ds M Q h => ?_) (fun cdv A outer s H E hr => ?_)
  · obtain ⟨x, p, dl, pa, pr, s, n, rfl, hL, h3, hty, hnd, hlen, hQ⟩ := h; rfl
  · have hu6 : A.units + 64 < cLine := by have := hr.un; show A.units + 64 < cLine; simp only [Around.deeper] at this; omega
    have hu := hu_of hr
    refine ⟨_, (pss_one (ps_ret (pe_lc (own := [("index", 1), ("true", 2)]) (by rfl) sc.nd (pi_enumA (by rfl) T.b_enumerate (pa_cons (pe_met0D m_anew (hr.mono (by first | decide | exact Nat.le_refl _)) (pv 0)) pa_nil)) (blkOk_by (own := [("index", 1), ("true", 2)]) (N := ["self", "index", "true"]) (sc := defScope (inClass (top 41) 9)) (by decide +kernel)) (fun _ _ _ _ _ => (k_pg_tup (K := K) (n := 2) (by rfl) (pgs_cons (pg_name (i := 1) sc.nd rfl (Or.inl rfl)) (pgs_cons (pg_name (i := 2) sc.nd rfl (Or.inl rfl)) pgs_nil)))) (fun _ _ _ _ _ => (pts_one (pt_cmpR op_ne (pe_ix (k_ix_seq (K := K)) (k_pe_fld (K := K) (pv 0) rfl) (pv 1) (fun _ _ => rfl)) (pv 2) (nomark _)))) (fun _ _ _ _ _ => (pv 1))))), fun ds M Q h => ?_⟩
    obtain ⟨x, p, dl, pa, pr, s, n, rfl, hL, h3, hty, hnd, hlen, hQ⟩ := h
    try dsimp only [cxOf, Cx.nox]
    have hx := hL.hx
    refine stp_ret (ev_lc (js := [1, 2]) (by decide) (sr_enumA ?_))
    walk_at "evs"
    refine ⟨x, p, dl, pa, pr, s, n, rfl, hL, h3, hnd, hlen, ?_⟩
    walk_at "evs"
    have ht2 : TyA pr.keeps (trueValues pr.keeps s.things) := tyA_true _ _
    let pd : Nat → Bool := fun i => !decide (at_ s.kept i = at_ (trueValues pr.keeps s.things) i)
    have hF : liesM pr s = (List.range pr.keeps.length).filter pd := rfl
    refine ⟨_, .inl rfl, fun i acc M' => acc = ((List.range i).filter pd).map (fun i : Nat => iD i) ∧ M = M', ⟨rfl, rfl⟩, ?_, ?_⟩
    · rintro i d acc M' hd ⟨ea, em⟩
      subst ea em
      obtain ⟨e, he, rfl⟩ := enumD_get hd
      rw [List.getElem?_map] at he
      obtain ⟨u, hu', rfl⟩ := Option.map_eq_some_iff.mp he
      have hil : i < pr.keeps.length := by rw [← ht2.len]; exact (List.getElem?_eq_some_iff.mp hu').1
      have hk : pr.keeps[i]? = some pr.keeps[i] := List.getElem?_eq_getElem hil
      obtain ⟨v, hv, tv⟩ := hty.at_ hk
      have tu := ht2.ty i _ u hk hu'
      have hat : atI (s.kept.map Da.sc) (i : Int) = some (.sc v) := atI_nat (by rw [List.getElem?_map, hv] <;> rfl)
      have hpr : pd i = !decide (v = u) := by
        show (!decide (at_ _ i = at_ _ i)) = _
        rw [at_some hv, at_some hu']
      have hfl : ((List.range i).filter pd).length ≤ i := Nat.le_trans (List.length_filter_le _ _) (by rw [List.length_range]; exact Nat.le_refl _)
      have hsp : (List.range (i + 1)).filter pd = (List.range i).filter pd ++ [i].filter pd := by rw [List.range_succ, List.filter_append]
      refine ⟨_, tg_tup (js := [1, 2]) rfl rfl, ?_⟩
      walk_at "evs"
      try refine rop_ix_L hat ?_
      try walk_at "evs"
      refine rop_ne (scal_ty tv tu) ?_
      refine ⟨_, rfl, ?_⟩
      refine ifB (fun h => ?_) (fun h => ?_)
      · refine ⟨by rw [List.length_map]; omega, ?_⟩
        walk_at "evs"
        refine ⟨?_, rfl⟩
        rw [hsp, List.filter_cons_of_pos (hpr.trans h), List.filter_nil, List.map_append]
        rfl
      · refine ⟨?_, rfl⟩
        rw [hsp, List.filter_cons_of_neg (by rw [hpr, h]; exact Bool.false_ne_true), List.filter_nil, List.append_nil]
    · rintro acc M' ⟨ea, em⟩
      subst ea em
      rw [enumD_length, List.length_map, ht2.len, ← hF]
      exact hQ


theorem sc_Ledger_make : FnScope ["self", "kind", "number"] ["self", "kind", "number"] (defScope (inClass (top 41) 4)) := ⟨rfl, rfl, rfl, by decide +kernel, rfl, by decide +kernel, by decide +kernel⟩
theorem fn_Ledger_make {P : Program} {w : World} {K : PySem.W.Frag} {mg : Str → Option Value} {base : Heap} {f : Addr} {fd : FuncData} (F : FnP K "make" "Ledger.make" (inClass (top 41) 4) f fd) (T : Tx w K mg) (m_note : CalM P w K mg base (He.ga K "Ledger") 1 "note" ["self", "deed"] (S_Ledger_note (He.ga K "Ledger") (He.ga K "Program"))) (m_touch : CalM P w K mg base (He.ga K "Ledger") 4 "touch" ["self", "steps", "elder", "newer"] (S_Ledger_touch (He.ga K "Ledger") (He.ga K "Program"))) (TL : TxL K) : FnOk P w K mg base CX0 5 f fd ["self", "kind", "number"] (spOf K (S_Ledger_make (He.ga K "Ledger") (He.ga K "Program"))) := by
  have sc := sc_Ledger_make
  refine ok_fn (k := 4) F sc (fun ds M Q h => ?_) (fun cdv A outer s H E hr => ?_)
  · obtain ⟨x, p, dl, pa, pr, s, n, k, m, rfl, hL, hv, hW, hk, hn, hmd, hQ⟩ := h; rfl
  · have hu6 : A.units + 64 < cLine := by have := hr.un; show A.units + 64 < cLine; simp only [Around.deeper] at this; omega
    have hu := hu_of hr
    refine ⟨_, (pss_cons (ps_expr (pe_metD m_note (hr.mono (by first | decide | exact Nat.le_refl _)) (pv 0) (pa_cons (pe_tup (pa_cons pe_str (pa_cons (pv 1) (pa_cons (pv 2) pa_nil)))) pa_nil))) (pss_cons (ps_fldaug (pv 0) pe_int in_add) (pss_cons (ps_dput hu (pe_fld (pv 0) rfl) (pe_fld (pv 0) rfl) (pe_tup (pa_cons (pv 1) (pa_cons (pv 2) pa_nil))) rfl) (pss_cons (ps_expr (pe_metD m_touch (hr.mono (by first | decide | exact Nat.le_refl _)) (pv 0) (pa_cons (pe_fld (pe_fld (pv 0) rfl) rfl) (pa_cons pe_non (pa_cons (pe_tup (pa_cons (pv 1) (pa_cons (pv 2) pa_nil))) pa_nil))))) (pss_one (ps_ret (pe_fld (pv 0) rfl))))))), fun ds M Q h => ?_⟩
    obtain ⟨x, p, dl, pa, pr, s, n, k, m, rfl, hL, hv, hW, hk, hn, hmd, hQ⟩ := h
    try dsimp only [cxOf, Cx.nox]
    have hx := hL.hx
    have ⟨xp, xd, xa, pd, pa', da⟩ := hL.nes
    have hlen := hW.len
    walk_at "evs"
    refine ⟨x, p, dl, pa, pr, s, n, _, rfl, hL, by omega, ?_⟩
    intro M1 h1 k1
    refine stp_seq (stp_fldaug (C := He.ga K "Ledger") (ns := ledN) TL.c_Ledger (TL.n_Ledger "made" (by decide +kernel)) ?_)
    refine ev_var rfl ⟨x, _, 2, s.made, rfl, h1.hx, rfl, by decide +kernel, by decide, rfl, ev_c ⟨1, rfl, rfl, ?_⟩⟩
    have em : (s.made : Int) + 1 = ((s.made + 1 : Nat) : Int) := by omega
    rw [em]
    generalize hM2 : updM M1 x _ = M2
    have hx2 : M2 x = some (.ins (He.ga K "Ledger") ledN [progD (He.ga K "Program") pr, .sc (.ref p), iD ((s.made + 1 : Nat) : Int), .lst (s.kept.map Da.sc), .sc (.ref dl), .sc (.ref pa)]) := by rw [← hM2]; exact updM_same
    have k2 : Keeps [x] M1 M2 := by rw [← hM2]; exact (Keeps.refl _ _).upd List.mem_cons_self
    have hp2 : M2 p = some (.dK (tbD s.tb)) := k2 _ _ (by simp [xp.symm]) h1.hp
    refine stp_seq (stp_dput ?_)
    walk_at "evs"
    refine ⟨p, _, .inl ((s.made + 1 : Nat) : Int), rfl, hp2, rfl, by rw [tbD_len]; omega, ?_⟩
    have hnew : s.made + 1 ∉ s.tb.map (·.1) := fun z => by have := hW.le _ z; omega
    have eput := tbD_add s.tb (s.made + 1) (k, m) hnew
    have eput : putD (tbD s.tb) (.inl ((s.made + 1 : Nat) : Int)) (.tup [iD k, iD m]) = tbD (s.tb ++ [(s.made + 1, (k, m))]) := eput
    rw [eput]
    generalize hM3 : updM M2 p _ = M3
    have k3 : Keeps [p] M2 M3 := by rw [← hM3]; exact (Keeps.refl _ _).upd List.mem_cons_self
    have h3 : LedC (He.ga K "Ledger") (He.ga K "Program") M3 x p dl pa pr ⟨s.tb ++ [(s.made + 1, (k, m))], s.made + 1, s.kept⟩ (n + 1) := by
      refine ⟨k3 _ _ (by simp [xp]) hx2, by rw [← hM3]; exact updM_same, h1.hd.imp fun es z => ⟨k3 _ _ (by simp [pd.symm]) (k2 _ _ (by simp [xd.symm]) z.1), z.2⟩, h1.ha.imp fun es z => ⟨k3 _ _ (by simp [pa'.symm]) (k2 _ _ (by simp [xa.symm]) z.1), z.2⟩, da⟩
    have hx3 := h3.hx
    walk_at "evs"
    have hW' := lgW_do hv hW (d := .new k m) hk
    refine ⟨x, p, dl, pa, pr, _, n + 1, pr.new, none, some (k, m), .new, rfl, h3, ⟨hv.k3, fun h => absurd rfl h, fun _ => ⟨_, rfl⟩⟩, hW.ty, hv.st .new, hW'.nd, by show (s.tb ++ [_]).length ≤ _; rw [List.length_append]; show s.tb.length + 1 ≤ _; omega, ?_⟩
    intro M4 h4 k4
    have hx4 := h4.hx
    walk_at "evs"
    have e : ((s.made + 1 : Nat) : Int) = (s.made : Int) + 1 := by omega
    rw [e]
    refine hQ M4 h4 ?_
    have sub : ∀ (S : List Addr), (∀ a ∈ S, a ∈ [x, p, dl, pa]) → ∀ {A B : MH}, Keeps S A B → Keeps [x, p, dl, pa] A B := fun S h A B k => k.mono h
    exact (((sub _ (by simp) k1).trans (sub _ (by simp) k2)).trans (sub _ (by simp) k3)).trans (sub _ (by simp) k4)


theorem sc_Ledger_alter : FnScope ["self", "thing", "kind", "number", "elder"] ["self", "thing", "kind", "number"] (defScope (inClass (top 41) 5)) := ⟨rfl, rfl, rfl, by decide +kernel, rfl, by decide +kernel, by decide +kernel⟩
theorem fn_Ledger_alter {P : Program} {w : World} {K : PySem.W.Frag} {mg : Str → Option Value} {base : Heap} {f : Addr} {fd : FuncData} (F : FnP K "alter" "Ledger.alter" (inClass (top 41) 5) f fd) (T : Tx w K mg) (m_note : CalM P w K mg base (He.ga K "Ledger") 1 "note" ["self", "deed"] (S_Ledger_note (He.ga K "Ledger") (He.ga K "Program"))) (m_touch : CalM P w K mg base (He.ga K "Ledger") 4 "touch" ["self", "steps", "elder", "newer"] (S_Ledger_touch (He.ga K "Ledger") (He.ga K "Program"))) (m_need : CalM P w K mg base (He.ga K "Ledger") 1 "need" ["self", "thing"] (S_Ledger_need (He.ga K "Ledger") (He.ga K "Program"))) (TL : TxL K) : FnOk P w K mg base CX0 5 f fd ["self", "thing", "kind", "number"] (spOf K (S_Ledger_alter (He.ga K "Ledger") (He.ga K "Program"))) := by
  have sc := sc_Ledger_alter
  refine ok_fn (k := 4) F sc (fun ds M Q h => ?_) (fun cdv A outer s H E hr => ?_)
  · obtain ⟨x, p, dl, pa, pr, s, n, t, k, m, rfl, hL, hv, hW, ht, hk, hn, hmd, hQ⟩ := h; rfl
  · have hu6 : A.units + 64 < cLine := by have := hr.un; show A.units + 64 < cLine; simp only [Around.deeper] at this; omega
    have hu := hu_of hr
    refine ⟨_, (pss_cons (ps_expr (pe_metD m_need (hr.mono (by first | decide | exact Nat.le_refl _)) (pv 0) (pa_cons (pv 1) pa_nil))) (pss_cons (ps_expr (pe_metD m_note (hr.mono (by first | decide | exact Nat.le_refl _)) (pv 0) (pa_cons (pe_tup (pa_cons pe_str (pa_cons (pv 1) (pa_cons (pv 2) (pa_cons (pv 3) pa_nil))))) pa_nil))) (pss_cons (ps_set (i := 4) sc.nd rfl (Or.inl rfl) (pe_dget hu (pe_fld (pv 0) rfl) (pv 1) (fun _ _ => rfl))) (pss_cons (ps_dput hu (pe_fld (pv 0) rfl) (pv 1) (pe_tup (pa_cons (pv 2) (pa_cons (pv 3) pa_nil))) rfl) (pss_one (ps_expr (pe_metD m_touch (hr.mono (by first | decide | exact Nat.le_refl _)) (pv 0) (pa_cons (pe_fld (pe_fld (pv 0) rfl) rfl) (pa_cons (pv 4) (pa_cons (pe_tup (pa_cons (pv 2) (pa_cons (pv 3) pa_nil))) pa_nil)))))))))), fun ds M Q h => ?_⟩
    obtain ⟨x, p, dl, pa, pr, s, n, t, k, m, rfl, hL, hv, hW, ht, hk, hn, hmd, hQ⟩ := h
    try dsimp only [cxOf, Cx.nox]
    have hx := hL.hx
    have ⟨xp, xd, xa, pd, pa', da⟩ := hL.nes
    have hlen := hW.len
    walk_at "evs"
    refine ⟨x, p, dl, pa, pr, s, n, t, rfl, hL, ht, ?_⟩
    walk_at "evs"
    refine ⟨x, p, dl, pa, pr, s, n, _, rfl, hL, by omega, ?_⟩
    intro M1 h1 k1
    have hx1 := h1.hx
    refine stp_seq (stp_set ?_)
    walk_at "evs"
    refine ⟨p, _, .inl (t : Int), _, rfl, h1.hp, rfl, tbD_el ht, ?_⟩
    refine stp_seq (stp_dput ?_)
    walk_at "evs"
    refine ⟨p, _, .inl (t : Int), rfl, h1.hp, rfl, by rw [tbD_len]; omega, ?_⟩
    have eput := tbD_put s.tb t (k, m) ht
    have eput : putD (tbD s.tb) (.inl (t : Int)) (.tup [iD k, iD m]) = tbD (putT s.tb t (k, m)) := eput
    rw [eput]
    generalize hM3 : updM M1 p _ = M3
    have k3 : Keeps [p] M1 M3 := by rw [← hM3]; exact (Keeps.refl _ _).upd List.mem_cons_self
    have h3 : LedC (He.ga K "Ledger") (He.ga K "Program") M3 x p dl pa pr ⟨putT s.tb t (k, m), s.made, s.kept⟩ (n + 1) := by
      refine ⟨k3 _ _ (by simp [xp]) hx1, by rw [← hM3]; exact updM_same, h1.hd.imp fun es z => ⟨k3 _ _ (by simp [pd.symm]) z.1, z.2⟩, h1.ha.imp fun es z => ⟨k3 _ _ (by simp [pa'.symm]) z.1, z.2⟩, da⟩
    have hx3 := h3.hx
    walk_at "evs"
    have hW' := lgW_do hv hW (d := .change t k m) ⟨ht, hk⟩
    refine ⟨x, p, dl, pa, pr, _, n + 1, pr.change, some (s.el t), some (k, m), .change, rfl, h3, ⟨hv.k3, fun _ => ⟨_, rfl⟩, fun _ => ⟨_, rfl⟩⟩, hW.ty, hv.st .change, hW'.nd, by show (putT s.tb t (k, m)).length ≤ _; unfold putT; rw [List.length_map]; omega, ?_⟩
    intro M4 h4 k4
    walk_at "evs"
    refine hQ M4 h4 ?_
    have sub : ∀ (S : List Addr), (∀ a ∈ S, a ∈ [x, p, dl, pa]) → ∀ {A B : MH}, Keeps S A B → Keeps [x, p, dl, pa] A B := fun S h A B k => k.mono h
    exact ((sub _ (by simp) k1).trans (sub _ (by simp) k3)).trans (sub _ (by simp) k4)


theorem sc_Ledger_release : FnScope ["self", "thing", "elder", "one"] ["self", "thing"] (defScope (inClass (top 41) 6)) := ⟨rfl, rfl, rfl, by decide +kernel, rfl, by decide +kernel, by decide +kernel⟩
theorem fn_Ledger_release {P : Program} {w : World} {K : PySem.W.Frag} {mg : Str → Option Value} {base : Heap} {f : Addr} {fd : FuncData} (F : FnP K "release" "Ledger.release" (inClass (top 41) 6) f fd) (T : Tx w K mg) (m_note : CalM P w K mg base (He.ga K "Ledger") 1 "note" ["self", "deed"] (S_Ledger_note (He.ga K "Ledger") (He.ga K "Program"))) (m_touch : CalM P w K mg base (He.ga K "Ledger") 4 "touch" ["self", "steps", "elder", "newer"] (S_Ledger_touch (He.ga K "Ledger") (He.ga K "Program"))) (m_need : CalM P w K mg base (He.ga K "Ledger") 1 "need" ["self", "thing"] (S_Ledger_need (He.ga K "Ledger") (He.ga K "Program"))) (TL : TxL K) : FnOk P w K mg base CX0 5 f fd ["self", "thing"] (spOf K (S_Ledger_release (He.ga K "Ledger") (He.ga K "Program"))) := by
  have sc := sc_Ledger_release
  refine ok_fn (k := 4) F sc (fun ds M Q h => ?_) (fun cdv A outer s H E hr => ?_)
  · obtain ⟨x, p, dl, pa, pr, s, n, t, rfl, hL, hv, hW, ht, hn, hmd, hQ⟩ := h; rfl
  · have hu6 : A.units + 64 < cLine := by have := hr.un; show A.units + 64 < cLine; simp only [Around.deeper] at this; omega
    have hu := hu_of hr
    refine ⟨_, (pss_cons (ps_expr (pe_metD m_need (hr.mono (by first | decide | exact Nat.le_refl _)) (pv 0) (pa_cons (pv 1) pa_nil))) (pss_cons (ps_expr (pe_metD m_note (hr.mono (by first | decide | exact Nat.le_refl _)) (pv 0) (pa_cons (pe_tup (pa_cons pe_str (pa_cons (pv 1) pa_nil))) pa_nil))) (pss_cons (ps_set (i := 2) sc.nd rfl (Or.inl rfl) (pe_dget hu (pe_fld (pv 0) rfl) (pv 1) (fun _ _ => rfl))) (pss_cons (ps_fld (pv 0) (pe_lock (pe_dc (own := [("one", 3)]) (by rfl) sc.nd (pi_keys (pe_fld (pv 0) rfl)) (blkOk_by (own := [("one", 3)]) (N := ["self", "thing", "elder", "one"]) (sc := defScope (inClass (top 41) 6)) (by decide +kernel)) (fun _ _ _ _ _ => (pg_name (i := 3) sc.nd rfl (Or.inl rfl))) (fun _ _ _ _ _ => (pts_one (pt_cmpR op_ne (pv 3) (pv 1) (nomark _)))) (fun _ _ _ _ _ => (pv 3)) (fun _ _ _ _ _ => (pe_dget hu (k_pe_fld (K := K) (pv 0) rfl) (pv 3) (fun _ _ => rfl))))) rfl) (pss_one (ps_expr (pe_metD m_touch (hr.mono (by first | decide | exact Nat.le_refl _)) (pv 0) (pa_cons (pe_fld (pe_fld (pv 0) rfl) rfl) (pa_cons (pv 2) (pa_cons pe_non pa_nil)))))))))), fun ds M Q h => ?_⟩
    obtain ⟨x, p, dl, pa, pr, s, n, t, rfl, hL, hv, hW, ht, hn, hmd, hQ⟩ := h
    try dsimp only [cxOf, Cx.nox]
    have hx := hL.hx
    have ⟨xp, xd, xa, pd, pa', da⟩ := hL.nes
    have hlen := hW.len
    walk_at "evs"
    refine ⟨x, p, dl, pa, pr, s, n, t, rfl, hL, ht, ?_⟩
    walk_at "evs"
    refine ⟨x, p, dl, pa, pr, s, n, _, rfl, hL, by omega, ?_⟩
    intro M1 h1 k1
    have hx1 := h1.hx
    refine stp_seq (stp_set ?_)
    walk_at "evs"
    refine ⟨p, _, .inl (t : Int), _, rfl, h1.hp, rfl, tbD_el ht, ?_⟩
    refine stp_seq ?_
    refine stp_fldS (C := He.ga K "Ledger") TL.c_Ledger (TL.n_Ledger "table" (by decide +kernel)) ?_
    have hx' : delM M1 p x = some (.ins (He.ga K "Ledger") ledN [progD (He.ga K "Program") pr, .sc (.ref p), iD s.made, .lst (s.kept.map Da.sc), .sc (.ref dl), .sc (.ref pa)]) := by rw [delM_ne xp]; exact hx1
    refine ev_dropped p (tbD s.tb) (.inl (t : Int)) (by decide) h1.hp (tbD_nodup hW.nd) (tbD_get hW.nd) (by rw [tbD_len]; omega) (by exact Nat.le_of_ble_eq_true rfl) ?_ (fun k => ?_) (fun k hk => ?_) ?_
    · walk_at "evs"
      exact ⟨rfl, rfl⟩
    · walk_at "evs"
      exact ⟨rfl, rfl⟩
    · rw [tbD_keys] at hk
      obtain ⟨q, hq, rfl⟩ := List.mem_map.mp hk
      walk_at "evs"
      refine rop_ne (x := .int (q.1 : Int)) (y := .int (t : Int)) rfl ⟨_, rfl, ?_, rfl⟩
      rw [decInt]
      by_cases h : (q.1 : Int) = (t : Int)
      · simp [h]
      · have h2 : ¬ ((Sum.inl (q.1 : Int) : Key) = .inl (t : Int)) := fun z => h (by injection z)
        simp [h, h2]
    intro r hr
    have rp : p ≠ r := ne_N h1.hp hr
    have xr : x ≠ r := ne_N hx1 hr
    refine ev_var rfl ⟨x, _, _, 1, rfl, by rw [updM_ne xr]; exact hx1, rfl, by decide +kernel, by decide, ?_⟩
    rw [tbD_drop]
    generalize hM3 : updM (updM M1 r _) x _ = M3
    have k3 : Keeps [x] M1 M3 := by rw [← hM3]; exact ((Keeps.refl _ _).new hr).upd List.mem_cons_self
    have h3 : LedC (He.ga K "Ledger") (He.ga K "Program") M3 x r dl pa pr ⟨dropT s.tb t, s.made, s.kept⟩ (n + 1) := by
      refine ⟨by rw [← hM3]; exact updM_same, by rw [← hM3, updM_ne xr.symm]; exact updM_same, h1.hd.imp fun es z => ⟨k3 _ _ (by simp [xd.symm]) z.1, z.2⟩, h1.ha.imp fun es z => ⟨k3 _ _ (by simp [xa.symm]) z.1, z.2⟩, da⟩
    have hx3 := h3.hx
    walk_at "evs"
    have hW' := lgW_do hv hW (d := .drop t) ht
    refine ⟨x, r, dl, pa, pr, _, n + 1, pr.drop, some (s.el t), none, .drop, rfl, h3, ⟨hv.k3, fun _ => ⟨_, rfl⟩, fun h => absurd rfl h⟩, hW.ty, hv.st .drop, hW'.nd, Nat.le_trans (List.length_filter_le _ _) (by omega), ?_⟩
    intro M4 h4 k4
    walk_at "evs"
    have hrM : M r = none := by
      cases e : M r with
      | none => rfl
      | some o =>
        by_cases h1 : r = dl
        · obtain ⟨es, hd, _⟩ := (show LedC _ _ _ _ _ _ _ _ _ _ from ‹LedC _ _ M1 x p dl pa pr s (n + 1)›).hd
          rw [h1, hd] at hr; cases hr
        · by_cases h2 : r = pa
          · obtain ⟨es, hd, _⟩ := (show LedC _ _ _ _ _ _ _ _ _ _ from ‹LedC _ _ M1 x p dl pa pr s (n + 1)›).ha
            rw [h2, hd] at hr; cases hr
          · rw [k1 r o (by simp [h1, h2]) e] at hr; cases hr
    refine hQ r M4 h4 ?_ hrM
    have sub : ∀ (S : List Addr), (∀ a ∈ S, a ∈ [x, p, dl, pa]) → ∀ {A B : MH}, Keeps S A B → Keeps [x, p, dl, pa] A B := fun S h A B k => k.mono h
    exact ((sub _ (by simp) k1).trans (sub _ (by simp) k3)).trans (sub _ (by simp) k4)

end Kc
set_option maxHeartbeats 0
namespace Kc
open PySem PySem.Spec PyProof.Rows L2 Dl
theorem rpA_sc_list {K : PySem.W.Frag} {F : Hp} (vs : List V) : RpA K F (vs.map Da.sc) vs := rpA_sc.mpr rfl
theorem rp_tupC {K : PySem.W.Frag} {F : Hp} {a : Addr} {vs : List V} (h : SqT K F a vs) : Rp K F (.tup (vs.map Da.sc)) (.ref a) := rp_tup.mpr ⟨a, vs, rfl, h, rpA_sc_list vs⟩
theorem hfacts {P : Program} {w : World} {K : PySem.W.Frag} {h : Heap} {mg : Str → Option Value} {f : Addr} (X : K.In h) (G : h.Ns mainGlobals mg) (hf : mg ("law" : Str) = some (.ref f)) (c : He.SaysX hfa hfn hts [] hex w h K) :
    ∃ fd : FuncData, (∀ (s : Shared) (v : Value), BindsTo s fd ⟨[v], []⟩ [("_law_script", v)]) ∧ ∀ base : Heap, K.In base → base.Ns mainGlobals mg → FnOk P w K mg base CX0 9 f fd ["_law_script"] (spOf K S_law) := by
  have cd := c.t.d
  have m := c.more
  unfold hex at m
  simp only [Bool.and_eq_true] at m
  obtain ⟨m1, m2, m3, m4, m5, m6, m7, m8, m9, m10⟩ := m
  have T : Tx w K mg := {
    b_len := He.free_ok X G (cd.fact 55 (f := .free "len") rfl)
    b_isinstance := He.free_ok X G (cd.fact 56 (f := .free "isinstance") rfl)
    b_int := He.free_ok X G (cd.fact 57 (f := .free "int") rfl)
    b_str := He.free_ok X G (cd.fact 58 (f := .free "str") rfl)
    b_bool := He.free_ok X G (cd.fact 59 (f := .free "bool") rfl)
    b_tuple := He.free_ok X G (cd.fact 60 (f := .free "tuple") rfl)
    b_range := He.free_ok X G (cd.fact 61 (f := .free "range") rfl)
    b_enumerate := He.free_ok X G (cd.fact 62 (f := .free "enumerate") rfl)
    b_max := He.free_ok X G (cd.fact 63 (f := .free "max") rfl)
    b_min := He.free_ok X G (cd.fact 64 (f := .free "min") rfl)
    b_sum := He.free_ok X G (cd.fact 65 (f := .free "sum") rfl)
    b_any := He.free_ok X G (cd.fact 66 (f := .free "any") rfl)
    b_list := He.free_ok X G (cd.fact 67 (f := .free "list") rfl)
    b_sorted := He.free_ok X G (cd.fact 68 (f := .free "sorted") rfl)
    b_dict := He.free_ok X G (cd.fact 69 (f := .free "dict") rfl)
    g_NAMES := He.glo_ok X G (cd.fact 44 (f := .glo "NAMES") rfl)
    g_WHATS := He.glo_ok X G (cd.fact 45 (f := .glo "WHATS") rfl)
    g_SOURCES := He.glo_ok X G (cd.fact 46 (f := .glo "SOURCES") rfl)
    g_NUMBERS := He.glo_ok X G (cd.fact 47 (f := .glo "NUMBERS") rfl)
    d_NAMES := fun F => rp_tupC (He.tupB_ok m1 F)
    d_WHATS := fun F => rp_tupC (He.tupB_ok m3 F)
    d_SOURCES := fun F => rp_tupC (He.tupB_ok m4 F)
    d_NUMBERS := fun F => rp_tupC (He.tupB_ok m2 F)
    g_MOST_KEEPS := He.int_ok X G (cd.fact 53 (f := .int "MOST_KEEPS" 3) rfl)
    g_MOST_STEPS := He.int_ok X G (cd.fact 54 (f := .int "MOST_STEPS" 6) rfl)
    g_FITTING := He.glo_ok X G (cd.fact 48 (f := .glo "FITTING") rfl)
    fit := c.t.tab 0 (t := (fun K => He.ga K "FITTING", ["add", "less", "lift", "mark", "empty", "again"])) rfl
    v_FITTING := fun t => by
      have hv : ∀ (z : Str) (v : He.Dv), (z, v) ∈ fitV → ∃ u, PySem.W.nsIn K (He.ga K "FITTING") z = some (some u) ∧ RelV (v.v K) u := fun z v hm => He.valsB_ok m6 (q := (z, v)) hm
      cases t with
      | add k s => obtain ⟨u, h1, h2⟩ := hv "add" (.adr fun K => fitA K "add") (List.mem_cons_self); exact ⟨u, _, h1, h2, fun F => rp_tupC (tupAt_ok m7 F)⟩
      | less k s => obtain ⟨u, h1, h2⟩ := hv "less" (.adr fun K => fitA K "less") (List.mem_cons_of_mem _ List.mem_cons_self); exact ⟨u, _, h1, h2, fun F => rp_tupC (tupAt_ok m8 F)⟩
      | lift k => obtain ⟨u, h1, h2⟩ := hv "lift" (.adr fun K => fitA K "lift") (List.mem_cons_of_mem _ (List.mem_cons_of_mem _ List.mem_cons_self)); exact ⟨u, _, h1, h2, fun F => rp_tupC (tupAt_ok m9 F)⟩
      | mark k => obtain ⟨u, h1, h2⟩ := hv "mark" (.adr fun K => fitA K "mark") (List.mem_cons_of_mem _ (List.mem_cons_of_mem _ (List.mem_cons_of_mem _ List.mem_cons_self))); exact ⟨u, _, h1, h2, fun F => rp_tupC (tupAt_ok m10 F)⟩
      | empty k => obtain ⟨u, h1, h2⟩ := hv "empty" (.glo "WHATS") (List.mem_cons_of_mem _ (List.mem_cons_of_mem _ (List.mem_cons_of_mem _ (List.mem_cons_of_mem _ List.mem_cons_self)))); exact ⟨u, _, h1, h2, fun F => rp_tupC (He.tupB_ok m3 F)⟩
      | again k => obtain ⟨u, h1, h2⟩ := hv "again" (.glo "WHATS") (List.mem_cons_of_mem _ (List.mem_cons_of_mem _ (List.mem_cons_of_mem _ (List.mem_cons_of_mem _ (List.mem_cons_of_mem _ List.mem_cons_self))))); exact ⟨u, _, h1, h2, fun F => rp_tupC (He.tupB_ok m3 F)⟩
    g_NOTHING := He.glo_ok X G (cd.fact 49 (f := .glo "NOTHING") rfl)
    noth := c.t.tab 1 (t := (fun K => He.ga K "NOTHING", ["count", "sum", "most", "any"])) rfl
    v_NOTHING := fun x => by
      have hv : ∀ q : Str × He.Dv, q ∈ ([("count", .int 0), ("sum", .int 0), ("most", .non), ("any", .bl false)] : List (Str × He.Dv)) → ∃ u, PySem.W.nsIn K (He.ga K "NOTHING") q.1 = some (some u) ∧ RelV (q.2.v K) u := fun q hm => He.valsB_ok m5 hm
      cases x with
      | count => exact hv ("count", .int 0) List.mem_cons_self
      | sum => exact hv ("sum", .int 0) (List.mem_cons_of_mem _ List.mem_cons_self)
      | most => exact hv ("most", .non) (List.mem_cons_of_mem _ (List.mem_cons_of_mem _ List.mem_cons_self))
      | any => exact hv ("any", .bl false) (List.mem_cons_of_mem _ (List.mem_cons_of_mem _ (List.mem_cons_of_mem _ List.mem_cons_self)))
    c_Program := He.cls_ok (cd.fact 70 (f := .cls "Program") rfl)
    c_Deed := He.cls_ok (cd.fact 76 (f := .cls "Deed") rfl)
    n_Program := fun z hz => by
      unfold progN at hz
      rcases List.mem_cons.mp hz with e | hz
      · rw [e]; exact He.noat_ok (cd.fact 72 (f := .noat "Program" "keeps") rfl)
      rcases List.mem_cons.mp hz with e | hz
      · rw [e]; exact He.noat_ok (cd.fact 73 (f := .noat "Program" "new") rfl)
      rcases List.mem_cons.mp hz with e | hz
      · rw [e]; exact He.noat_ok (cd.fact 74 (f := .noat "Program" "change") rfl)
      rcases List.mem_cons.mp hz with e | hz
      · rw [e]; exact He.noat_ok (cd.fact 75 (f := .noat "Program" "drop") rfl)
      cases hz
    n_Deed := fun z hz => by
      unfold deedN at hz
      rcases List.mem_cons.mp hz with e | hz
      · rw [e]; exact He.noat_ok (cd.fact 78 (f := .noat "Deed" "keeps") rfl)
      rcases List.mem_cons.mp hz with e | hz
      · rw [e]; exact He.noat_ok (cd.fact 79 (f := .noat "Deed" "amounts") rfl)
      rcases List.mem_cons.mp hz with e | hz
      · rw [e]; exact He.noat_ok (cd.fact 80 (f := .noat "Deed" "around") rfl)
      rcases List.mem_cons.mp hz with e | hz
      · rw [e]; exact He.noat_ok (cd.fact 81 (f := .noat "Deed" "elder") rfl)
      rcases List.mem_cons.mp hz with e | hz
      · rw [e]; exact He.noat_ok (cd.fact 82 (f := .noat "Deed" "newer") rfl)
      cases hz
  }
  have TL : TxL K := {
    c_Ledger := He.cls_ok (cd.fact 83 (f := .cls "Ledger") rfl)
    n_Ledger := fun z hz => by
      unfold ledN at hz
      rcases List.mem_cons.mp hz with e | hz
      · rw [e]; exact He.noat_ok (cd.fact 85 (f := .noat "Ledger" "program") rfl)
      rcases List.mem_cons.mp hz with e | hz
      · rw [e]; exact He.noat_ok (cd.fact 86 (f := .noat "Ledger" "table") rfl)
      rcases List.mem_cons.mp hz with e | hz
      · rw [e]; exact He.noat_ok (cd.fact 87 (f := .noat "Ledger" "made") rfl)
      rcases List.mem_cons.mp hz with e | hz
      · rw [e]; exact He.noat_ok (cd.fact 88 (f := .noat "Ledger" "amounts") rfl)
      rcases List.mem_cons.mp hz with e | hz
      · rw [e]; exact He.noat_ok (cd.fact 89 (f := .noat "Ledger" "deeds") rfl)
      rcases List.mem_cons.mp hz with e | hz
      · rw [e]; exact He.noat_ok (cd.fact 90 (f := .noat "Ledger" "past") rfl)
      cases hz
  }
  obtain ⟨fd38, F38⟩ := cd.def_ 38 (d := hd38) rfl
  obtain ⟨fd39, F39⟩ := cd.def_ 39 (d := hd39) rfl
  obtain ⟨fd40, F40⟩ := cd.def_ 40 (d := hd40) rfl
  obtain ⟨fd41, F41⟩ := cd.def_ 41 (d := hd41) rfl
  obtain ⟨fd42, F42⟩ := cd.def_ 42 (d := hd42) rfl
  obtain ⟨fd43, F43⟩ := cd.def_ 43 (d := hd43) rfl
  obtain ⟨fd44, F44⟩ := cd.def_ 44 (d := hd44) rfl
  obtain ⟨fd45, F45⟩ := cd.def_ 45 (d := hd45) rfl
  obtain ⟨fd46, F46⟩ := cd.def_ 46 (d := hd46) rfl
  obtain ⟨fd0, F0⟩ := cd.def_ 0 (d := hd0) rfl
  obtain ⟨fd1, F1⟩ := cd.def_ 1 (d := hd1) rfl
  obtain ⟨fd2, F2⟩ := cd.def_ 2 (d := hd2) rfl
  obtain ⟨fd5, F5⟩ := cd.def_ 5 (d := hd5) rfl
  obtain ⟨fd3, F3⟩ := cd.def_ 3 (d := hd3) rfl
  obtain ⟨fd4, F4⟩ := cd.def_ 4 (d := hd4) rfl
  obtain ⟨fd6, F6⟩ := cd.def_ 6 (d := hd6) rfl
  obtain ⟨fd7, F7⟩ := cd.def_ 7 (d := hd7) rfl
  obtain ⟨fd8, F8⟩ := cd.def_ 8 (d := hd8) rfl
  obtain ⟨fd47, F47⟩ := cd.def_ 47 (d := hd47) rfl
  obtain ⟨fd9, F9⟩ := cd.def_ 9 (d := hd9) rfl
  obtain ⟨fd19, F19⟩ := cd.def_ 19 (d := hd19) rfl
  obtain ⟨fd20, F20⟩ := cd.def_ 20 (d := hd20) rfl
  obtain ⟨fd21, F21⟩ := cd.def_ 21 (d := hd21) rfl
  obtain ⟨fd18, F18⟩ := cd.def_ 18 (d := hd18) rfl
  obtain ⟨fd10, F10⟩ := cd.def_ 10 (d := hd10) rfl
  obtain ⟨fd11, F11⟩ := cd.def_ 11 (d := hd11) rfl
  obtain ⟨fd15, F15⟩ := cd.def_ 15 (d := hd15) rfl
  obtain ⟨fd16, F16⟩ := cd.def_ 16 (d := hd16) rfl
  obtain ⟨fd14, F14⟩ := cd.def_ 14 (d := hd14) rfl
  obtain ⟨fd17, F17⟩ := cd.def_ 17 (d := hd17) rfl
  obtain ⟨fd13, F13⟩ := cd.def_ 13 (d := hd13) rfl
  obtain ⟨fd23, F23⟩ := cd.def_ 23 (d := hd23) rfl
  obtain ⟨fd22, F22⟩ := cd.def_ 22 (d := hd22) rfl
  obtain ⟨fd24, F24⟩ := cd.def_ 24 (d := hd24) rfl
  obtain ⟨fd25, F25⟩ := cd.def_ 25 (d := hd25) rfl
  obtain ⟨fd26, F26⟩ := cd.def_ 26 (d := hd26) rfl
  obtain ⟨fd27, F27⟩ := cd.def_ 27 (d := hd27) rfl
  obtain ⟨fd48, F48⟩ := cd.def_ 48 (d := hd48) rfl
  obtain ⟨fd49, F49⟩ := cd.def_ 49 (d := hd49) rfl
  obtain ⟨fd52, F52⟩ := cd.def_ 52 (d := hd52) rfl
  obtain ⟨fd51, F51⟩ := cd.def_ 51 (d := hd51) rfl
  obtain ⟨fd50, F50⟩ := cd.def_ 50 (d := hd50) rfl
  obtain ⟨fd53, F53⟩ := cd.def_ 53 (d := hd53) rfl
  obtain ⟨fd54, F54⟩ := cd.def_ 54 (d := hd54) rfl
  obtain ⟨fd55, F55⟩ := cd.def_ 55 (d := hd55) rfl
  obtain ⟨fd56, F56⟩ := cd.def_ 56 (d := hd56) rfl
  obtain ⟨fd57, F57⟩ := cd.def_ 57 (d := hd57) rfl
  obtain ⟨fd58, F58⟩ := cd.def_ 58 (d := hd58) rfl
  obtain ⟨fd29, F29⟩ := cd.def_ 29 (d := hd29) rfl
  obtain ⟨fd31, F31⟩ := cd.def_ 31 (d := hd31) rfl
  obtain ⟨fd32, F32⟩ := cd.def_ 32 (d := hd32) rfl
  obtain ⟨fd30, F30⟩ := cd.def_ 30 (d := hd30) rfl
  obtain ⟨fd33, F33⟩ := cd.def_ 33 (d := hd33) rfl
  obtain ⟨fd34, F34⟩ := cd.def_ 34 (d := hd34) rfl
  obtain ⟨fd59, F59⟩ := cd.def_ 59 (d := hd59) rfl
  obtain ⟨fd36, F36⟩ := cd.def_ 36 (d := hd36) rfl
  obtain ⟨fd37, F37⟩ := cd.def_ 37 (d := hd37) rfl
  obtain ⟨fd35, F35⟩ := cd.def_ 35 (d := hd35) rfl
  obtain ⟨fd12, F12⟩ := cd.def_ 12 (d := hd12) rfl
  obtain ⟨fd28, F28⟩ := cd.def_ 28 (d := hd28) rfl
  obtain ⟨fd60, F60⟩ := cd.def_ 60 (d := hd60) rfl
  have e := hf.symm.trans (He.glo_ok X G (cd.fact 43 (f := .glo "law") rfl))
  cases e
  refine ⟨fd60, fun s v => FunD.bindsA (ps := ["_law_script"]) F60 (fun _ _ _ _ _ _ us hl => match us, hl with | [_], _ => rfl) s [v] rfl, fun base hb1 hb2 => ?_⟩
  have c__law_begin := ok__law_begin (P := P) (base := base) F38 (He.glo_ok X G (cd.fact 21 (f := .glo "_law_begin") rfl)) T 
  have c__law_draw := ok__law_draw (P := P) (base := base) F39 (He.glo_ok X G (cd.fact 22 (f := .glo "_law_draw") rfl)) T 
  have c__law_keep := ok__law_keep (P := P) (base := base) F40 (He.glo_ok X G (cd.fact 23 (f := .glo "_law_keep") rfl)) T c__law_draw
  have c__law_under := ok__law_under (P := P) (base := base) F41 (He.glo_ok X G (cd.fact 24 (f := .glo "_law_under") rfl)) T 
  have c__law_right := ok__law_right (P := P) (base := base) F42 (He.glo_ok X G (cd.fact 25 (f := .glo "_law_right") rfl)) T c__law_draw c__law_keep c__law_under
  have c__law_touch := ok__law_touch (P := P) (base := base) F43 (He.glo_ok X G (cd.fact 26 (f := .glo "_law_touch") rfl)) T c__law_draw
  have c__law_step := ok__law_step (P := P) (base := base) F44 (He.glo_ok X G (cd.fact 27 (f := .glo "_law_step") rfl)) T c__law_touch c__law_draw
  have c__law_spoilt := ok__law_spoilt (P := P) (base := base) F45 (He.glo_ok X G (cd.fact 28 (f := .glo "_law_spoilt") rfl)) T c__law_draw c__law_step
  have c__law_any := ok__law_any (P := P) (base := base) F46 (He.glo_ok X G (cd.fact 29 (f := .glo "_law_any") rfl)) T c__law_right c__law_spoilt c__law_draw
  have c_is_index := ok_is_index (P := P) (base := base) F0 (He.glo_ok X G (cd.fact 0 (f := .glo "is_index") rfl)) T 
  have c_is_keep := ok_is_keep (P := P) (base := base) F1 (He.glo_ok X G (cd.fact 1 (f := .glo "is_keep") rfl)) T c_is_index
  have c_is_of := ok_is_of (P := P) (base := base) F2 (He.glo_ok X G (cd.fact 2 (f := .glo "is_of") rfl)) T c_is_index
  have c_is_test := ok_is_test (P := P) (base := base) F5 (He.glo_ok X G (cd.fact 5 (f := .glo "is_test") rfl)) T c_is_index c_is_of
  have c_is_source := ok_is_source (P := P) (base := base) F3 (He.glo_ok X G (cd.fact 3 (f := .glo "is_source") rfl)) T 
  have c_is_touch := ok_is_touch (P := P) (base := base) F4 (He.glo_ok X G (cd.fact 4 (f := .glo "is_touch") rfl)) T c_is_of c_is_source
  have c_is_step := ok_is_step (P := P) (base := base) F6 (He.glo_ok X G (cd.fact 6 (f := .glo "is_step") rfl)) T c_is_test c_is_touch
  have c_check_steps := ok_check_steps (P := P) (base := base) F7 (He.glo_ok X G (cd.fact 7 (f := .glo "check_steps") rfl)) T c_is_step
  have k_Program : CalC P w K mg base (He.ga K "Program") 6 "Program" ["self", "keeps", "new", "change", "drop"] (S_Program_init (He.ga K "Program")) := ⟨_, _, He.glo_ok X G (cd.fact 50 (f := .glo "Program") rfl), He.mkr_ok (cd.fact 71 (f := .mkr "Program") rfl), fn_Program___init__ F8 T c_is_keep c_check_steps, F8.bindsN (fun _ _ _ _ _ _ us hl => match us, hl with | [_, _, _, _, _], _ => rfl)⟩
  have c__law_made := ok__law_made (P := P) (base := base) F47 (He.glo_ok X G (cd.fact 30 (f := .glo "_law_made") rfl)) T k_Program
  have m_steps_of : CalM P w K mg base (He.ga K "Program") 1 "steps_of" ["self", "name"] (S_steps_of (He.ga K "Program")) := ⟨He.cls_ok (cd.fact 70 (f := .cls "Program") rfl), _, _, He.meth_ok (cd.fact 91 (f := .meth "Program" "steps_of") rfl), fn_Program_steps_of F9 T , F9.bindsN (fun _ _ _ _ _ _ us hl => match us, hl with | [_, _], _ => rfl)⟩
  have c_asks_none := ok_asks_none (P := P) (base := base) F19 (He.glo_ok X G (cd.fact 12 (f := .glo "asks_none") rfl)) T m_steps_of
  have c_most_others := ok_most_others (P := P) (base := base) F20 (He.glo_ok X G (cd.fact 13 (f := .glo "most_others") rfl)) T c_asks_none m_steps_of
  have c_crowds := ok_crowds (P := P) (base := base) F21 (He.glo_ok X G (cd.fact 14 (f := .glo "crowds") rfl)) T 
  have c_all_things := ok_all_things (P := P) (base := base) F18 (He.glo_ok X G (cd.fact 11 (f := .glo "all_things") rfl)) T 
  have c_true_value := ok_true_value (P := P) (base := base) F10 (He.glo_ok X G (cd.fact 8 (f := .glo "true_value") rfl)) T 
  have c_true_values := ok_true_values (P := P) (base := base) F11 (He.glo_ok X G (cd.fact 9 (f := .glo "true_values") rfl)) T c_true_value
  have m_amount : CalM P w K mg base (He.ga K "Deed") 1 "amount" ["self", "source"] (S_amount (He.ga K "Deed")) := ⟨He.cls_ok (cd.fact 76 (f := .cls "Deed") rfl), _, _, He.meth_ok (cd.fact 93 (f := .meth "Deed" "amount") rfl), fn_Deed_amount F15 T , F15.bindsN (fun _ _ _ _ _ _ us hl => match us, hl with | [_, _], _ => rfl)⟩
  have m_touch : CalM P w K mg base (He.ga K "Deed") 2 "touch" ["self", "step"] (S_touch (He.ga K "Deed")) := ⟨He.cls_ok (cd.fact 76 (f := .cls "Deed") rfl), _, _, He.meth_ok (cd.fact 94 (f := .meth "Deed" "touch") rfl), fn_Deed_touch F16 T c_true_value m_amount, F16.bindsN (fun _ _ _ _ _ _ us hl => match us, hl with | [_, _], _ => rfl)⟩
  have m_does_hold : CalM P w K mg base (He.ga K "Deed") 1 "does_hold" ["self", "test"] (S_does_hold (He.ga K "Deed")) := ⟨He.cls_ok (cd.fact 76 (f := .cls "Deed") rfl), _, _, He.meth_ok (cd.fact 92 (f := .meth "Deed" "does_hold") rfl), fn_Deed_does_hold F14 T , F14.bindsN (fun _ _ _ _ _ _ us hl => match us, hl with | [_, _], _ => rfl)⟩
  have m_steps : CalM P w K mg base (He.ga K "Deed") 3 "steps" ["self", "some"] (S_steps (He.ga K "Deed")) := ⟨He.cls_ok (cd.fact 76 (f := .cls "Deed") rfl), _, _, He.meth_ok (cd.fact 95 (f := .meth "Deed" "steps") rfl), fn_Deed_steps F17 T m_touch m_does_hold, F17.bindsN (fun _ _ _ _ _ _ us hl => match us, hl with | [_, _], _ => rfl)⟩
  have k_Deed : CalC P w K mg base (He.ga K "Deed") 1 "Deed" ["self", "keeps", "kept", "things", "elder", "newer"] (S_Deed_init (He.ga K "Deed")) := ⟨_, _, He.glo_ok X G (cd.fact 51 (f := .glo "Deed") rfl), He.mkr_ok (cd.fact 77 (f := .mkr "Deed") rfl), fn_Deed___init__ F13 T , F13.bindsN (fun _ _ _ _ _ _ us hl => match us, hl with | [_, _, _, _, _, _], _ => rfl)⟩
  have c_first_lie := ok_first_lie (P := P) (base := base) F23 (He.glo_ok X G (cd.fact 16 (f := .glo "first_lie") rfl)) T c_true_values m_steps k_Deed
  have c_news := ok_news (P := P) (base := base) F22 (He.glo_ok X G (cd.fact 15 (f := .glo "news") rfl)) T 
  have c_lie_of_new := ok_lie_of_new (P := P) (base := base) F24 (He.glo_ok X G (cd.fact 17 (f := .glo "lie_of_new") rfl)) T c_crowds c_all_things c_first_lie c_news
  have c_lie_of_old := ok_lie_of_old (P := P) (base := base) F25 (He.glo_ok X G (cd.fact 18 (f := .glo "lie_of_old") rfl)) T c_crowds c_all_things c_first_lie c_news
  have c_lie := ok_lie (P := P) (base := base) F26 (He.glo_ok X G (cd.fact 19 (f := .glo "lie") rfl)) T c_most_others c_lie_of_new c_lie_of_old
  have c_is_right := ok_is_right (P := P) (base := base) F27 (He.glo_ok X G (cd.fact 20 (f := .glo "is_right") rfl)) T c_lie
  have c__law_true := ok__law_true (P := P) (base := base) F48 (He.glo_ok X G (cd.fact 31 (f := .glo "_law_true") rfl)) T 
  have c__law_new := ok__law_new (P := P) (base := base) F49 (He.glo_ok X G (cd.fact 32 (f := .glo "_law_new") rfl)) T c__law_true
  have c__law_around := ok__law_around (P := P) (base := base) F52 (He.glo_ok X G (cd.fact 35 (f := .glo "_law_around") rfl)) T 
  have c__law_touched := ok__law_touched (P := P) (base := base) F51 (He.glo_ok X G (cd.fact 34 (f := .glo "_law_touched") rfl)) T c__law_true
  have c__law_holds := ok__law_holds (P := P) (base := base) F50 (He.glo_ok X G (cd.fact 33 (f := .glo "_law_holds") rfl)) T 
  have c__law_steps := ok__law_steps (P := P) (base := base) F53 (He.glo_ok X G (cd.fact 36 (f := .glo "_law_steps") rfl)) T c__law_around c__law_touched c__law_holds
  have c__law_do := ok__law_do (P := P) (base := base) F54 (He.glo_ok X G (cd.fact 37 (f := .glo "_law_do") rfl)) T c__law_steps
  have c__law_trues := ok__law_trues (P := P) (base := base) F55 (He.glo_ok X G (cd.fact 38 (f := .glo "_law_trues") rfl)) T c__law_true c__law_around
  have c__law_lies := ok__law_lies (P := P) (base := base) F56 (He.glo_ok X G (cd.fact 39 (f := .glo "_law_lies") rfl)) T c__law_trues
  have c__law_number := ok__law_number (P := P) (base := base) F57 (He.glo_ok X G (cd.fact 40 (f := .glo "_law_number") rfl)) T c__law_draw
  have c__law_deed := ok__law_deed (P := P) (base := base) F58 (He.glo_ok X G (cd.fact 41 (f := .glo "_law_deed") rfl)) T c__law_draw c__law_number
  have m_note : CalM P w K mg base (He.ga K "Ledger") 1 "note" ["self", "deed"] (S_Ledger_note (He.ga K "Ledger") (He.ga K "Program")) := ⟨He.cls_ok (cd.fact 83 (f := .cls "Ledger") rfl), _, _, He.meth_ok (cd.fact 96 (f := .meth "Ledger" "note") rfl), fn_Ledger_note F29 T TL, F29.bindsN (fun _ _ _ _ _ _ us hl => match us, hl with | [_, _], _ => rfl)⟩
  have m_touch : CalM P w K mg base (He.ga K "Ledger") 4 "touch" ["self", "steps", "elder", "newer"] (S_Ledger_touch (He.ga K "Ledger") (He.ga K "Program")) := ⟨He.cls_ok (cd.fact 83 (f := .cls "Ledger") rfl), _, _, He.meth_ok (cd.fact 98 (f := .meth "Ledger" "touch") rfl), fn_Ledger_touch F31 T m_steps k_Deed TL, F31.bindsN (fun _ _ _ _ _ _ us hl => match us, hl with | [_, _, _, _], _ => rfl)⟩
  have m_make : CalM P w K mg base (He.ga K "Ledger") 5 "make" ["self", "kind", "number"] (S_Ledger_make (He.ga K "Ledger") (He.ga K "Program")) := ⟨He.cls_ok (cd.fact 83 (f := .cls "Ledger") rfl), _, _, He.meth_ok (cd.fact 99 (f := .meth "Ledger" "make") rfl), fn_Ledger_make F32 T m_note m_touch TL, F32.bindsN (fun _ _ _ _ _ _ us hl => match us, hl with | [_, _, _], _ => rfl)⟩
  have m_need : CalM P w K mg base (He.ga K "Ledger") 1 "need" ["self", "thing"] (S_Ledger_need (He.ga K "Ledger") (He.ga K "Program")) := ⟨He.cls_ok (cd.fact 83 (f := .cls "Ledger") rfl), _, _, He.meth_ok (cd.fact 97 (f := .meth "Ledger" "need") rfl), fn_Ledger_need F30 T TL, F30.bindsN (fun _ _ _ _ _ _ us hl => match us, hl with | [_, _], _ => rfl)⟩
  have m_alter : CalM P w K mg base (He.ga K "Ledger") 5 "alter" ["self", "thing", "kind", "number"] (S_Ledger_alter (He.ga K "Ledger") (He.ga K "Program")) := ⟨He.cls_ok (cd.fact 83 (f := .cls "Ledger") rfl), _, _, He.meth_ok (cd.fact 100 (f := .meth "Ledger" "alter") rfl), fn_Ledger_alter F33 T m_note m_touch m_need TL, F33.bindsN (fun _ _ _ _ _ _ us hl => match us, hl with | [_, _, _, _], _ => rfl)⟩
  have m_release : CalM P w K mg base (He.ga K "Ledger") 5 "release" ["self", "thing"] (S_Ledger_release (He.ga K "Ledger") (He.ga K "Program")) := ⟨He.cls_ok (cd.fact 83 (f := .cls "Ledger") rfl), _, _, He.meth_ok (cd.fact 101 (f := .meth "Ledger" "release") rfl), fn_Ledger_release F34 T m_note m_touch m_need TL, F34.bindsN (fun _ _ _ _ _ _ us hl => match us, hl with | [_, _], _ => rfl)⟩
  have c__law_act := ok__law_act (P := P) (base := base) F59 (He.glo_ok X G (cd.fact 42 (f := .glo "_law_act") rfl)) T m_make m_alter m_release
  have m_anew : CalM P w K mg base (He.ga K "Ledger") 3 "anew" ["self"] (S_Ledger_anew (He.ga K "Ledger") (He.ga K "Program")) := ⟨He.cls_ok (cd.fact 83 (f := .cls "Ledger") rfl), _, _, He.meth_ok (cd.fact 103 (f := .meth "Ledger" "anew") rfl), fn_Ledger_anew F36 T c_true_values TL, F36.bindsN (fun _ _ _ _ _ _ us hl => match us, hl with | [_], _ => rfl)⟩
  have m_lies : CalM P w K mg base (He.ga K "Ledger") 4 "lies" ["self"] (S_Ledger_lies (He.ga K "Ledger") (He.ga K "Program")) := ⟨He.cls_ok (cd.fact 83 (f := .cls "Ledger") rfl), _, _, He.meth_ok (cd.fact 104 (f := .meth "Ledger" "lies") rfl), fn_Ledger_lies F37 T m_anew TL, F37.bindsN (fun _ _ _ _ _ _ us hl => match us, hl with | [_], _ => rfl)⟩
  have m_kept : CalM P w K mg base (He.ga K "Ledger") 1 "kept" ["self"] (S_Ledger_kept (He.ga K "Ledger") (He.ga K "Program")) := ⟨He.cls_ok (cd.fact 83 (f := .cls "Ledger") rfl), _, _, He.meth_ok (cd.fact 102 (f := .meth "Ledger" "kept") rfl), fn_Ledger_kept F35 T TL, F35.bindsN (fun _ _ _ _ _ _ us hl => match us, hl with | [_], _ => rfl)⟩
  have c_nothing_kept := ok_nothing_kept (P := P) (base := base) F12 (He.glo_ok X G (cd.fact 10 (f := .glo "nothing_kept") rfl)) T 
  have k_Ledger : CalC P w K mg base (He.ga K "Ledger") 2 "Ledger" ["self", "program"] (S_Ledger_init (He.ga K "Ledger") (He.ga K "Program")) := ⟨_, _, He.glo_ok X G (cd.fact 52 (f := .glo "Ledger") rfl), He.mkr_ok (cd.fact 84 (f := .mkr "Ledger") rfl), fn_Ledger___init__ F28 T c_nothing_kept TL, F28.bindsN (fun _ _ _ _ _ _ us hl => match us, hl with | [_, _], _ => rfl)⟩
  exact fn_law F60 T c__law_begin c__law_right c__law_any c__law_made c_is_right c_lie c__law_new c__law_do c__law_lies c__law_deed c__law_act c__law_trues m_lies m_kept k_Ledger
theorem hstart {K : PySem.W.Frag} {H : Hp} {a : Addr} {ns : List Int} (hS : SqL K H a (ns.map V.int)) : spOf K S_law [.ref a] H (fun v _ => v = .bl true) fun _ _ _ => False := by
  refine ⟨fun b => if b = a then H a else none, fun _ => none, fun _ => none, [.ro (ns.map iD)], fun d _ => d = .sc (.bl true), RpA.cons_ (rp_ro.mpr ⟨a, ns.map V.int, rfl, ?_, ?_⟩) RpA.nil_, ⟨?_, ?_, ?_, ?_⟩, ⟨ns, rfl, rfl⟩, ?_⟩
  · rcases hS with hS | hS
    · refine .inl ?_
      rcases hS with hS | ⟨o, hS⟩
      · exact .inl ((if_pos rfl).trans hS)
      · exact .inr ⟨o, (if_pos rfl).trans hS⟩
    · exact .inr hS
  · have e : ns.map iD = (ns.map V.int).map Da.sc := by rw [List.map_map]; rfl
    rw [e]
    exact rpA_sc.mpr rfl
  · intro b o e
    have e : (if b = a then H a else none) = some o := e
    by_cases hb : b = a
    · rw [if_pos hb] at e
      rw [hb]
      exact e
    · rw [if_neg hb] at e
      cases e
  · intro b u e
    cases e
  · intro b u e
    cases e
  · intro b u e
    cases e
  · intro v d F' M' H' _ _ r e
    subst e
    exact rp_sc.mp r
end Kc
open PySem PySem.W PySem.Calls PyProof.Rows
theorem PySem.Challenge.cw_keptcounts_k05_whole_right_programs_over_holds : PySem.Challenge.rw_keptcounts_k05_whole_right_programs_over.Holds := by
  w_on; o_law
  refine HandSHeadRun.head_any (r := OpenLaw.row PySem.Challenge.rw_keptcounts_k05_whole_right_programs_over) (q := view (OpenLaw.row PySem.Challenge.rw_keptcounts_k05_whole_right_programs_over).prog [66]) (H := Kc.hhk) (ob := Kc.hob) (M := 4000) (loose := Kc.hloose) (d := HandSHeadRun.topDef (OpenLaw.row PySem.Challenge.rw_keptcounts_k05_whole_right_programs_over).prog 66) (kwd := []) Kc.hob_eq
    (by kernel_rfl) (fun s => by kernel_rfl) Kc.hrun (by kernel_rfl) (by kernel_rfl) (by kernel_rfl) (by rfl) (by first | assumption | decide +kernel) (by decide +kernel) ⟨rfl, rfl, rfl, rfl, rfl, by decide +kernel⟩ ?hw ?hc
  case hw => w_witness2
  case hc =>
    refine L2.walk_ofE (l := PySem.Challenge.rw_keptcounts_k05_whole_right_programs_over) (n := 63) (k := 9) (x := "_law_script") (CX := L2.CX0) rfl (by decide) (by kernel_rfl) ⟨rfl, by decide, by decide⟩ ?F (fun _ _ _ _ z => z)
    intro w mg fa h Y G hmg0
    obtain ⟨K, KX, c⟩ := Y
    have hmg : mg ("law" : PySem.Str) = some (.ref fa) := by
      have e : (HandSHeadRun.topDef (OpenLaw.row PySem.Challenge.rw_keptcounts_k05_whole_right_programs_over).prog 66).name = ("law" : PySem.Str) := by kernel_rfl
      rw [← e]
      exact hmg0
    obtain ⟨fd, hb, hF⟩ := Kc.hfacts (P := (PySem.Challenge.rw_keptcounts_k05_whole_right_programs_over).prog) (w := w) KX G hmg c
    exact ⟨K, fd, Dl.spOf K Kc.S_law, KX, hb, fun H a ns hl _ hS => Kc.hstart hS, hF⟩
