import PyProof.Rows.All
import Wide.All
import OpenK.AllK
import Wide.FinOn
import KE.GoesEnum
import KE.GoesMore
import HandS.ForMost
import HandS.TupMul
import HandS.TupAny
import HandS.ForExc
import HandS.Defaults
import HandS.Steps
import HandS.IsInst
import HandS.Style
import HandS.DictComp
import HandS.Walk
import HandS.Conv
import HandS.HeadHook1
import HandS.HeadHook2
import HandS.HeadHook3
import HandS.HeadHook4
import HandS.TupSets
import HandS.SortInts
import HandS.SortRule
import HandS.Exc
import HandS.ExcOwn
import HandS.ExcInit
import HandS.TryOnly
import HandS.WordsExc
import HandS.Head0
import HandS.Head1
import HandS.Head2
import HandS.HeadEnd
import KE.KStateDown
import Lean
import PySem.Challenge.RW_keptcounts_k10_whole_least_mends
set_option Elab.async false
set_option linter.all false
set_option maxRecDepth 100000
set_option maxHeartbeats 4000000
namespace Kc
open PySem L2
def top (i : Nat) : Stmt := PySem.Challenge.pw_keptcounts_k10_whole_least_mends.main.body.getD i (.Pass ⟨0, 0, 0, 0⟩)
abbrev FnP (K : PySem.W.Frag) (x qual : Str) (st : Stmt) (f : Addr) (fd : FuncData) : Prop := FunD K x qual (defArgs st) (defBody st) (defScope st) [] [] f fd
end Kc
namespace Dl
open PySem PySem.Spec L2
def oexB (K : PySem.W.Frag) (C : Addr) : Bool := (match K.lookup C with
  | some ⟨.type "type", _, .cls cd, sl⟩ => (match cd.mro, sl.toList with
    | .ref C' :: bm, [_, _, _, _, some (.builtin n), _] => C' == C && (n == "ValueError.__new__" && (!cd.hasDel && (cd.hasDict && PySem.HandSPX.refsVE bm)))
    | _, _ => false)
  | _ => false) && (decide (PySem.W.findIn K (.ref C) "__setattr__" = some (some (.builtin "object.__setattr__"))) && (decide (PySem.W.subIn K (.ref C) (.type "BaseException") = some true) && (decide (PySem.W.typeIn K (.ref C) = some (.type "type")) && PySem.W.keepIn K (.ref C))))
end Dl
set_option maxHeartbeats 0
namespace Kc
open PySem PySem.Spec PyProof.Rows L2
def hd0 : He.DefD := ⟨("BadMend", some "__init__"), "__init__", "BadMend.__init__", defArgs (inClass (top 3) 0), defBody (inClass (top 3) 0), defScope (inClass (top 3) 0), [], []⟩
def hd1 : He.DefD := ⟨("is_index", none), "is_index", "is_index", defArgs (top 12), defBody (top 12), defScope (top 12), [], []⟩
def hd2 : He.DefD := ⟨("is_keep", none), "is_keep", "is_keep", defArgs (top 13), defBody (top 13), defScope (top 13), [], []⟩
def hd3 : He.DefD := ⟨("is_of", none), "is_of", "is_of", defArgs (top 14), defBody (top 14), defScope (top 14), [], []⟩
def hd4 : He.DefD := ⟨("is_source", none), "is_source", "is_source", defArgs (top 15), defBody (top 15), defScope (top 15), [], []⟩
def hd5 : He.DefD := ⟨("is_touch", none), "is_touch", "is_touch", defArgs (top 16), defBody (top 16), defScope (top 16), [], []⟩
def hd6 : He.DefD := ⟨("is_test", none), "is_test", "is_test", defArgs (top 17), defBody (top 17), defScope (top 17), [], []⟩
def hd7 : He.DefD := ⟨("is_step", none), "is_step", "is_step", defArgs (top 18), defBody (top 18), defScope (top 18), [], []⟩
def hd8 : He.DefD := ⟨("check_steps", none), "check_steps", "check_steps", defArgs (top 19), defBody (top 19), defScope (top 19), [], []⟩
def hd9 : He.DefD := ⟨("Program", some "__init__"), "__init__", "Program.__init__", defArgs (inClass (top 20) 0), defBody (inClass (top 20) 0), defScope (inClass (top 20) 0), [], []⟩
def hd10 : He.DefD := ⟨("Program", some "steps_of"), "steps_of", "Program.steps_of", defArgs (inClass (top 20) 3), defBody (inClass (top 20) 3), defScope (inClass (top 20) 3), [], []⟩
def hd11 : He.DefD := ⟨("Program", some "with_steps"), "with_steps", "Program.with_steps", defArgs (inClass (top 20) 4), defBody (inClass (top 20) 4), defScope (inClass (top 20) 4), [], []⟩
def hd12 : He.DefD := ⟨("true_value", none), "true_value", "true_value", defArgs (top 23), defBody (top 23), defScope (top 23), [], []⟩
def hd13 : He.DefD := ⟨("true_values", none), "true_values", "true_values", defArgs (top 24), defBody (top 24), defScope (top 24), [], []⟩
def hd14 : He.DefD := ⟨("Deed", some "__init__"), "__init__", "Deed.__init__", defArgs (inClass (top 25) 0), defBody (inClass (top 25) 0), defScope (inClass (top 25) 0), [], []⟩
def hd15 : He.DefD := ⟨("Deed", some "does_hold"), "does_hold", "Deed.does_hold", defArgs (inClass (top 25) 1), defBody (inClass (top 25) 1), defScope (inClass (top 25) 1), [], []⟩
def hd16 : He.DefD := ⟨("Deed", some "amount"), "amount", "Deed.amount", defArgs (inClass (top 25) 2), defBody (inClass (top 25) 2), defScope (inClass (top 25) 2), [], []⟩
def hd17 : He.DefD := ⟨("Deed", some "touch"), "touch", "Deed.touch", defArgs (inClass (top 25) 3), defBody (inClass (top 25) 3), defScope (inClass (top 25) 3), [], []⟩
def hd18 : He.DefD := ⟨("Deed", some "steps"), "steps", "Deed.steps", defArgs (inClass (top 25) 4), defBody (inClass (top 25) 4), defScope (inClass (top 25) 4), [], []⟩
def hd19 : He.DefD := ⟨("all_things", none), "all_things", "all_things", defArgs (top 28), defBody (top 28), defScope (top 28), [], []⟩
def hd20 : He.DefD := ⟨("asks_none", none), "asks_none", "asks_none", defArgs (top 29), defBody (top 29), defScope (top 29), [], []⟩
def hd21 : He.DefD := ⟨("most_others", none), "most_others", "most_others", defArgs (top 30), defBody (top 30), defScope (top 30), [], []⟩
def hd22 : He.DefD := ⟨("crowds", none), "crowds", "crowds", defArgs (top 31), defBody (top 31), defScope (top 31), [], []⟩
def hd23 : He.DefD := ⟨("news", none), "news", "news", defArgs (top 32), defBody (top 32), defScope (top 32), [], []⟩
def hd24 : He.DefD := ⟨("first_lie", none), "first_lie", "first_lie", defArgs (top 33), defBody (top 33), defScope (top 33), [], []⟩
def hd25 : He.DefD := ⟨("lie_of_new", none), "lie_of_new", "lie_of_new", defArgs (top 34), defBody (top 34), defScope (top 34), [], []⟩
def hd26 : He.DefD := ⟨("lie_of_old", none), "lie_of_old", "lie_of_old", defArgs (top 35), defBody (top 35), defScope (top 35), [], []⟩
def hd27 : He.DefD := ⟨("lie", none), "lie", "lie", defArgs (top 36), defBody (top 36), defScope (top 36), [], []⟩
def hd28 : He.DefD := ⟨("is_right", none), "is_right", "is_right", defArgs (top 37), defBody (top 37), defScope (top 37), [], []⟩
def hd29 : He.DefD := ⟨("behind", none), "behind", "behind", defArgs (top 40), defBody (top 40), defScope (top 40), [], []⟩
def hd30 : He.DefD := ⟨("mended", none), "mended", "mended", defArgs (top 41), defBody (top 41), defScope (top 41), [], []⟩
def hd31 : He.DefD := ⟨("mended_or_none", none), "mended_or_none", "mended_or_none", defArgs (top 42), defBody (top 42), defScope (top 42), [], []⟩
def hd32 : He.DefD := ⟨("choices", none), "choices", "choices", defArgs (top 43), defBody (top 43), defScope (top 43), [], []⟩
def hd33 : He.DefD := ⟨("mends", none), "mends", "mends", defArgs (top 44), defBody (top 44), defScope (top 44), [], []⟩
def hd34 : He.DefD := ⟨("_law_begin", none), "_law_begin", "_law_begin", defArgs (top 46), defBody (top 46), defScope (top 46), [], []⟩
def hd35 : He.DefD := ⟨("_law_draw", none), "_law_draw", "_law_draw", defArgs (top 47), defBody (top 47), defScope (top 47), [], []⟩
def hd36 : He.DefD := ⟨("_law_keep", none), "_law_keep", "_law_keep", defArgs (top 48), defBody (top 48), defScope (top 48), [], []⟩
def hd37 : He.DefD := ⟨("_law_under", none), "_law_under", "_law_under", defArgs (top 49), defBody (top 49), defScope (top 49), [], []⟩
def hd38 : He.DefD := ⟨("_law_right", none), "_law_right", "_law_right", defArgs (top 50), defBody (top 50), defScope (top 50), [], []⟩
def hd39 : He.DefD := ⟨("_law_touch", none), "_law_touch", "_law_touch", defArgs (top 51), defBody (top 51), defScope (top 51), [], []⟩
def hd40 : He.DefD := ⟨("_law_step", none), "_law_step", "_law_step", defArgs (top 52), defBody (top 52), defScope (top 52), [], []⟩
def hd41 : He.DefD := ⟨("_law_made", none), "_law_made", "_law_made", defArgs (top 55), defBody (top 55), defScope (top 55), [], []⟩
def hd42 : He.DefD := ⟨("_law_like", none), "_law_like", "_law_like", defArgs (top 56), defBody (top 56), defScope (top 56), [], []⟩
def hd43 : He.DefD := ⟨("_law_choices", none), "_law_choices", "_law_choices", defArgs (top 57), defBody (top 57), defScope (top 57), [], []⟩
def hd44 : He.DefD := ⟨("_law_helps", none), "_law_helps", "_law_helps", defArgs (top 58), defBody (top 58), defScope (top 58), [], []⟩
def hd45 : He.DefD := ⟨("law", none), "law", "law", defArgs (top 59), defBody (top 59), defScope (top 59), [], []⟩
def hfn : List He.DefD := ([hd0, hd1, hd2, hd3, hd4, hd5, hd6, hd7, hd8, hd9, hd10, hd11, hd12, hd13, hd14, hd15, hd16, hd17, hd18, hd19, hd20, hd21, hd22, hd23, hd24, hd25, hd26, hd27, hd28, hd29] : List He.DefD) ++ ([hd30, hd31, hd32, hd33, hd34, hd35, hd36, hd37, hd38, hd39, hd40, hd41, hd42, hd43, hd44, hd45] : List He.DefD)
def hfa : List He.Fa := ([.glo "is_index", .glo "is_keep", .glo "is_of", .glo "is_source", .glo "is_touch", .glo "is_test", .glo "is_step", .glo "check_steps", .glo "true_value", .glo "true_values", .glo "all_things", .glo "asks_none", .glo "most_others", .glo "crowds", .glo "news", .glo "first_lie", .glo "lie_of_new", .glo "lie_of_old", .glo "lie", .glo "is_right", .glo "behind", .glo "mended", .glo "mended_or_none", .glo "choices", .glo "mends", .glo "_law_begin", .glo "_law_draw", .glo "_law_keep", .glo "_law_under", .glo "_law_right"] : List He.Fa) ++ ([.glo "_law_touch", .glo "_law_step", .glo "_law_made", .glo "_law_like", .glo "_law_choices", .glo "_law_helps", .glo "law", .glo "NAMES", .glo "WHATS", .glo "SOURCES", .glo "NUMBERS", .glo "FITTING", .glo "NOTHING", .glo "Program", .glo "Deed", .int "MOST_KEEPS" 3, .int "MOST_STEPS" 6, .int "MOST" 2, .free "len", .free "isinstance", .free "int", .free "str", .free "bool", .free "tuple", .free "range", .free "enumerate", .free "max", .free "min", .free "sum", .free "any"] : List He.Fa) ++ ([.free "list", .free "sorted", .free "dict", .cls "Program", .mkr "Program", .noat "Program" "keeps", .noat "Program" "new", .noat "Program" "change", .noat "Program" "drop", .cls "Deed", .mkr "Deed", .noat "Deed" "keeps", .noat "Deed" "amounts", .noat "Deed" "around", .noat "Deed" "elder", .noat "Deed" "newer", .meth "Program" "steps_of", .meth "Program" "with_steps", .meth "Deed" "does_hold", .meth "Deed" "amount", .meth "Deed" "touch", .meth "Deed" "steps", .glo "BadMend", .meth "BadMend" "__init__", .noat "BadMend" "index", .exm "BadMend" "BadMend" true] : List He.Fa)
def fitA (K : PySem.W.Frag) (z : Str) : Addr := match PySem.W.nsIn K (He.ga K "FITTING") z with
  | some (some (.ref a)) => a
  | _ => 0
/-- a tuple of these, where it lies in the written part -/
def tupAt (K : PySem.W.Frag) (a : Addr) (vs : List V) : Bool := match K.lookup a with
  | none => false
  | some o => match o.cls, o.data with
    | .type c, .seq its _ => (decide (c = "tuple") && decide (its.size ≤ sizeLine)) && He.relAll vs its.toList
    | _, _ => false
theorem tupAt_ok {K : PySem.W.Frag} {a : Addr} {vs : List V} (h : tupAt K a vs = true) (H : Hp) : SqT K H a vs := by
  unfold tupAt at h
  cases hk : K.lookup a with
  | none => rw [hk] at h; cases h
  | some ob =>
    rw [hk] at h
    dsimp only at h
    split at h
    · rename_i c its n e1 e2
      simp only [Bool.and_eq_true] at h
      obtain ⟨⟨z1, z2⟩, z3⟩ := h
      refine .inr ⟨ob, its, n, hk, ?_, e2, of_decide_eq_true z2, He.relAll_ok z3⟩
      rw [e1, of_decide_eq_true z1]
    · cases h
def hts : List He.Tab := [(fun K => He.ga K "FITTING", ["add", "less", "lift", "mark", "empty", "again"]), (fun K => He.ga K "NOTHING", ["count", "sum", "most", "any"])]
def fitV : List (Str × He.Dv) := [("add", .adr fun K => fitA K "add"), ("less", .adr fun K => fitA K "less"), ("lift", .adr fun K => fitA K "lift"), ("mark", .adr fun K => fitA K "mark"), ("empty", .glo "WHATS"), ("again", .glo "WHATS")]
def hex (K : PySem.W.Frag) : Bool := He.tupB K "NAMES" [.str "new", .str "change", .str "drop"] && (He.tupB K "NUMBERS" [.int 2, .int 5, .int 11, .int 23] && (He.tupB K "WHATS" [.str "count", .str "sum", .str "most", .str "any"] && (He.tupB K "SOURCES" [.str "one", .str "elder", .str "newer"]
  && (He.valsB K (He.ga K "NOTHING") [("count", .int 0), ("sum", .int 0), ("most", .non), ("any", .bl false)] && (He.valsB K (He.ga K "FITTING") fitV
  && (tupAt K (fitA K "add") [.str "count", .str "sum"] && (tupAt K (fitA K "less") [.str "count", .str "sum"] && (tupAt K (fitA K "lift") [.str "most"] && (tupAt K (fitA K "mark") [.str "any"] && Dl.oexB K (He.ga K "BadMend"))))))))))
abbrev hR : PySem.W.OpenRow := PySem.W.OpenLaw.row PySem.Challenge.rw_keptcounts_k10_whole_least_mends
abbrev hhk : PySem.W.Hook := He.hookX 6 hfa hfn hts [] hex
def hob (s : PySem.W.SharedT) : He.AlX := He.obsX 6 hfa hfn hts [] hex (HandSHeadRun.getT s)
theorem hob_eq (s : PySem.W.SharedT) : hob s = hhk.obs s.abs := He.obsX_eq (HandSHeadRun.getT_eq s)
def hloose : List Str := (["CountError", "BadKeep", "BadMend", "BadStep", "NAMES", "WHATS", "SOURCES", "FITTING", "MOST_KEEPS", "MOST_STEPS", "is_index", "is_keep", "is_of", "is_source", "is_touch", "is_test", "is_step", "check_steps", "Program", "NOTHING", "true_value", "true_values", "Deed", "NUMBERS", "all_things", "asks_none", "most_others", "crowds", "news", "first_lie"] : List Str) ++ (["lie_of_new", "lie_of_old", "lie", "is_right", "MOST", "behind", "mended", "mended_or_none", "choices", "mends", "_law_begin", "_law_draw", "_law_keep", "_law_under", "_law_right", "_law_touch", "_law_step", "_law_spoilt", "_law_any", "_law_made", "_law_like", "_law_choices", "_law_helps"] : List Str)
theorem hrun_f (w : World) : HandSHeadRun.RunEq hR (PySem.W.view hR.prog [59]) hhk hob 4000 hloose (w.withFollow "special-get-raises" false) := by
  intro os
  kernel_rfl
theorem hrun_t (w : World) : HandSHeadRun.RunEq hR (PySem.W.view hR.prog [59]) hhk hob 4000 hloose (w.withFollow "special-get-raises" true) := by
  intro os
  kernel_rfl
theorem hrun (w : World) : HandSHeadRun.RunEq hR (PySem.W.view hR.prog [59]) hhk hob 4000 hloose w :=
  PySem.W.byRow2 "special-get-raises" (P := fun w => HandSHeadRun.RunEq hR (PySem.W.view hR.prog [59]) hhk hob 4000 hloose w) hrun_f hrun_t w
end Kc
set_option maxHeartbeats 4000000
/-! Two rules of the hand layer that it lacks: enumerate over a tuple; a tuple times one. -/
namespace Dl
open PySem PySem.Spec PyProof.Rows L2
open AutoSeq1 (wpAny_loadPart')
theorem meets_enumerate_newT (l : Addr) (items : Array Value) (n : Nat) (dct : Option Addr) (sl : Array (Option Value)) :
    Meets (Builtin.«enumerate.__new__» ⟨[.type "enumerate", .ref l], []⟩) (fun _ R s => s.heap.get? l = some { cls := .type "tuple", dict := dct, data := .seq items n, slots := sl } ∧
      R (.ok (.ret (.ref (s.heap.push { cls := .type "tuple_iterator", data := .fields #[.ref l, .int 0 0] }).objs.size)))
        { s with heap := (s.heap.push { cls := .type "tuple_iterator", data := .fields #[.ref l, .int 0 0] }).push { cls := .type "enumerate", data := .fields #[.none, .bool false, .ref s.heap.objs.size, rawInt 0, .none, .none] } }) :=
  .of_wp fun prog w A R s h => by
    obtain ⟨hp, g, d, tk, os⟩ := s; obtain ⟨hl, h⟩ := h
    have hsub := sub_enumerate
    have hL : Heap.IsTuple (Shared.heap ⟨hp, g, d, tk, os⟩) l items := ⟨_, hl, rfl, n, rfl⟩
    wp_walk using wpAny_loadPart' hl
    refine wpAny_stack_any fun st => wpAny_pure ?_
    split
    · rename_i c _ _ _ _ _
      cases (c == Value.type "enumerate")
      · wp_walk using wpAny_loadPart' hl, wpAny_pyIter_tuple hL
        exact ⟨_, rfl, h⟩
      · wp_walk using wpAny_loadPart' hl, wpAny_pyIter_tuple hL
        exact ⟨_, rfl, h⟩
    · wp_walk using wpAny_loadPart' hl, wpAny_pyIter_tuple hL
      exact ⟨_, rfl, h⟩
theorem call_enumerate_tuple {prog : Program} {w : World} {A : Around} {E : Value → Shared → Prop} {s : Shared} {l : Addr} {items : Array Value} {Q : Value → Shared → Prop} (hL : s.heap.IsTuple l items)
    (h : ∀ h', IsEnum h' (s.heap.objs.size + 1) s.heap.objs.size 0 .none → h'.IsTupleIter s.heap.objs.size l 0 → h'.objs.size = s.heap.objs.size + 2 →
      (∀ b o, s.heap.get? b = some o → h'.get? b = some o) → Q (.ref (s.heap.objs.size + 1)) { s with heap := h' }) :
    wpAny (model prog w) A (PySem.call (.type "enumerate") [.ref l]) Q E s := by
  obtain ⟨⟨c, dct, dt, sl⟩, hl, hc, n, hd⟩ := hL
  replace hc : c = .type "tuple" := hc
  replace hd : dt = .seq items n := hd
  subst hc hd
  refine callType_new F.called_enumerate (by decide) (F.typeCall_enumerate_1 _) (F.newCall_enumerate_1 _) (fun obj => F.args_object_init_2 obj _) F.entry_enumerate_new
    (meets_enumerate_newT l items n dct sl) ⟨hl, ?_⟩
  have hz : (s.heap.push { cls := .type "tuple_iterator", data := .fields #[.ref l, .int 0 0] }).objs.size = s.heap.objs.size + 1 := Heap.size_push ..
  show _ ∧ _
  rw [hz]
  have he : IsEnum ((s.heap.push { cls := .type "tuple_iterator", data := .fields #[.ref l, .int 0 0] }).push { cls := .type "enumerate", data := .fields #[.none, .bool false, .ref s.heap.objs.size, rawInt 0, .none, .none] }) (s.heap.objs.size + 1) s.heap.objs.size 0 .none := by
    have := Heap.get?_push_size (s.heap.push { cls := .type "tuple_iterator", data := .fields #[.ref l, .int 0 0] }) (o := { cls := .type "enumerate", data := .fields #[.none, .bool false, .ref s.heap.objs.size, rawInt 0, .none, .none] }) rfl
    rw [hz] at this; exact this
  refine ⟨⟨_, he, rfl⟩, h _ he ⟨_, Heap.get?_push_of_some _ (Heap.get?_push_size _ rfl), rfl, rfl⟩ (by rw [Heap.size_push, hz]) fun b o x => Heap.get?_push_of_some _ (Heap.get?_push_of_some _ x)⟩
/-- a tuple's iterator at its end -/
theorem draws_end {prog : Program} {w : World} {A : Around} (hh : A.handled = none) (it t : Addr) (items : Array Value) (i0 : Nat) (h0 : items.size ≤ i0) :
    Draws prog w A it [it, t] i0 (fun _ _ => False) (fun j h => j = i0 ∧ h.IsTupleIter it t i0 ∧ h.IsTuple t items) where
  live := fun _ _ st => let ⟨o, ho, _⟩ := st.2.1; ⟨o, ho⟩
  frame := fun _ _ _ st hk => ⟨st.1, st.2.1.at fun o e => hk it (by simp) o e, st.2.2.at fun o e => hk t (by simp) o e⟩
  item := fun i s Q E hi st hQ => absurd st.1 (Nat.ne_of_lt hi)
  done := fun s Q E st hE => wpAny_nextOf_tuple_end hh st.2.1 st.2.2 (by simp; exact h0) hE
def IteT (K : PySem.W.Frag) (a : Addr) : It :=
  ⟨fun i H => ∃ (xs : List V) (x : V), SqT K H a xs ∧ xs[i]? = some x, fun i H v H' => ∃ T x, v = .ref T ∧ H T = none ∧ H' = upd H T (.tup [.int (i : Nat), x]) ∧ ∀ xs, SqT K H a xs → xs[i]? = some x, fun i H => ∃ xs : List V, SqT K H a xs ∧ xs.length ≤ i⟩
theorem turn_enumT {P : Program} {w : World} {K : PySem.W.Frag} {elts : List Expr} {kk : Nat} {tpos : Pos} (a e it : Addr) (hat : a ≠ it) (hae : a ≠ e) :
    Turn P w K (.Tuple elts kk tpos) (IteT K a) [e, it] e (fun i h => (∃ old, IsEnum h e it ((i : Nat) : Int) old) ∧ h.IsTupleIter it a i ∧ e ≠ it) where
  mem := by simp
  obj := fun i h st b hb => by
    obtain ⟨⟨old, he⟩, ⟨o, ho, hc, hd⟩, _⟩ := st
    have e' : b = e ∨ b = it := by simpa using hb
    rcases e' with z | z
    · rw [z]; exact ⟨_, he, fun v q => nomatch q⟩
    · rw [z]; exact ⟨o, ho, fun v q => by rw [hd] at q; cases q⟩
  keep := fun i h h' st k => let ⟨⟨old, he⟩, hi, hne⟩ := st; ⟨⟨old, k e (by simp) _ he⟩, hi.at fun o q => k it (by simp) o q, hne⟩
  item := by
    intro X hP hw hK hc i pins s σ H E I hf st hg
    subst hP hw hK
    obtain ⟨⟨old, he⟩, hit, hne⟩ := st
    obtain ⟨xs, x, hq, hx⟩ := hg
    obtain ⟨its, rv, p, hz⟩ := I.tuple hq
    have hix : i < its.toArray.size := by
      rw [List.size_toArray, ← rv.length]
      exact (List.getElem?_eq_some_iff.mp hx).1
    have hel : e < s.heap.objs.size := Heap.lt_size he
    have hil : it < s.heap.objs.size := by obtain ⟨_, q, _⟩ := hit; exact Heap.lt_size q
    refine wpAny_pyNext_enum_itemD (Draws.tuple (A := X.A.in1) (I.ok.hd hc) it a hat its.toArray) he ⟨hit, p⟩ hix hne (by simp [hne, Ne.symm hae]) fun u h' tk hu ho hit' hT hsz hk => ?_
    obtain ⟨u', hu', ru⟩ := rv.get hx
    have eu : u' = u := by
      have hu2 : its.toArray[i]? = some u := hu
      rw [List.getElem?_toArray, hu'] at hu2
      exact Option.some.inj hu2
    subst eu
    refine ⟨_, rfl, wpAny_letOwnedTupleGo_enum (s := { s with heap := h', toks := tk + 1 }) ho fun h'' he' sb => ?_⟩
    have hT2 : h''.get? s.heap.objs.size = some { cls := .type "tuple", data := .seq #[.int i tk, u'] } := (sb.2 _ (Nat.ne_of_gt hel)).trans hT
    have new : ObjOk X.prog X.w (upd H s.heap.objs.size (.tup [.int (i : Nat), x])) h'' s.heap.objs.size (.tup [.int (i : Nat), x]) :=
      ⟨by show 2 ≤ sizeLine; decide, [.int i tk, u'], .cons ⟨_, rfl⟩ (.cons ru .nil), ⟨_, hT2, rfl, _, rfl⟩⟩
    have I1 : Inv X pins σ (upd H s.heap.objs.size (.tup [.int (i : Nat), x])) { s with heap := h'', toks := tk + 1 } :=
      I.turnedNew (ch := [e, it]) (fun b ob hb q => (sb.2 b (fun z => hb (by simp [z]))).trans (hk b ob (fun z => hb (by simp [z])) (fun z => hb (by simp [z])) q)) hf (Nat.le_refl _) new
    refine ⟨.ref s.heap.objs.size, _, I1, rfl, ⟨_, x, rfl, I.hok.fresh (Nat.le_refl _), rfl, fun ys hy => by rw [I.tuple_inj hy hq]; exact hx⟩, ⟨⟨u', ?_⟩, hit'.1.at fun o q => (sb.2 it (Ne.symm hne)).trans q, hne⟩, fun b hb => ?_⟩
    · have e1 : ((i + 1 : Nat) : Int) = (i : Int) + 1 := by omega
      rw [e1]; exact he'
    · have hb' : b < s.heap.objs.size := by
        have e' : b = e ∨ b = it := by simpa using hb
        rcases e' with z | z
        · rw [z]; exact hel
        · rw [z]; exact hil
      rw [upd_ne (Nat.ne_of_lt hb')]
      exact (hf b hb).1
  done := by
    intro X hP hw hK hc i pins s σ H E I hf st hg
    subst hP hw hK
    obtain ⟨⟨old, he⟩, hit, hne⟩ := st
    obtain ⟨xs, hq, hx⟩ := hg
    obtain ⟨its, rv, p, hz⟩ := I.tuple hq
    obtain ⟨f0, f1, f2, f3, f4, f5⟩ := hf it (by simp)
    have hl := rv.length
    have hs0 : its.toArray.size ≤ i := by rw [List.size_toArray, ← hl]; exact hx
    exact wpAny_pyNext_enum_endD (draws_end (A := X.A.in1) (I.ok.hd hc) it a its.toArray i hs0) he ⟨rfl, hit, p⟩ fun h' eb => ⟨rfl, I.turned (t' := s.toks) (fun b o hb q => eb b o hb q) f0 f1 f3 f4 f5⟩
  self := fun A i s Q E st h => let ⟨⟨_, he⟩, _⟩ := st; wpAny_pyIter_enum he h
def iEnumT (K : PySem.W.Frag) (ta : TA) : TI := fun σ H R => ta σ H fun vs H1 => ∃ a xs, vs = [.ref a] ∧ SqT K H1 a xs ∧ R (IteT K a) H1
theorem pi_enumT {X : Cx} {e : Expr} {ta : TA} {p pos tpos : Pos} {elts : List Expr} {kk : Nat} (hg : Gl X "enumerate") (hm : X.mg "enumerate" = none) (ha : PA X [e] ta) (hs : starEach [e] X.env = [(false, eval e X.env)] := by rfl) :
    PI X (.Tuple elts kk tpos) (.Call (.Name "enumerate" p) [e] [] pos) (iEnumT X.K ta) := by
  refine ⟨fun pins s σ H R I h => ?_⟩
  refine Call_ (ld_blt I hg hm boot_enumerate (PyProof.Rows.callWith_type1 (thn (ha.run pos pins s σ H _ I h) fun us s1 ⟨vs, H1, I1, r1, q1⟩ => ?_) hs rfl))
  obtain ⟨a, xs, ex, hq, q⟩ := q1
  subst ex
  cases r1 with
  | cons r rr =>
    cases rr
    cases r
    obtain ⟨its, rv, p', hz⟩ := I1.tuple hq
    have hla : a < s1.heap.objs.size := by obtain ⟨o, e, _⟩ := p'; exact Heap.lt_size e
    refine call_enumerate_tuple p' fun h' he hit hsz hk => wpAny_pyIter_enum he ?_
    have I2 : Inv X pins σ H1 { s1 with heap := h' } := I1.kept (t' := s1.toks) hk
    refine ⟨s1.heap.objs.size + 1, [s1.heap.objs.size + 1, s1.heap.objs.size], _, _, H1, rfl, I2, turn_enumT a (s1.heap.objs.size + 1) s1.heap.objs.size (Nat.ne_of_lt hla) (Nat.ne_of_lt (Nat.lt_succ_of_lt hla)), ⟨⟨.none, he⟩, hit, Nat.succ_ne_self _⟩, fun b hb => ?_, q⟩
    have e' : b = s1.heap.objs.size + 1 ∨ b = s1.heap.objs.size := by simpa using hb
    have hle : s1.heap.objs.size ≤ b := by
      rcases e' with z | z
      · rw [z]; exact Nat.le_add_right _ _
      · rw [z]; exact Nat.le_refl _
    exact I1.fpOk hle (I1.hok.fresh hle)
/-- enumerate of a list or a tuple -/
def iEnumA (K : PySem.W.Frag) (ta : TA) : TI := fun σ H R => ta σ H fun vs H1 => ∃ a xs, vs = [.ref a] ∧ ((SqL K H1 a xs ∧ R (Ite K a) H1) ∨ (SqT K H1 a xs ∧ R (IteT K a) H1))
/-- a test of which way a walked thing is taken, put off until its value is known -/
theorem pi_enumA {X : Cx} {e : Expr} {ta : TA} {p pos tpos : Pos} {elts : List Expr} {kk : Nat} (hg : Gl X "enumerate") (hm : X.mg "enumerate" = none) (ha : PA X [e] ta) (hs : starEach [e] X.env = [(false, eval e X.env)] := by rfl) :
    PI X (.Tuple elts kk tpos) (.Call (.Name "enumerate" p) [e] [] pos) (iEnumA X.K ta) := by
  refine ⟨fun pins s σ H R I h => ?_⟩
  refine Call_ (ld_blt I hg hm boot_enumerate (PyProof.Rows.callWith_type1 (thn (ha.run pos pins s σ H _ I h) fun us s1 ⟨vs, H1, I1, r1, q1⟩ => ?_) hs rfl))
  obtain ⟨a, xs, ex, hq⟩ := q1
  subst ex
  cases r1 with
  | cons r rr =>
    cases rr
    cases r
    rcases hq with ⟨hq, q⟩ | ⟨hq, q⟩
    · obtain ⟨its, rv, p', hz⟩ := I1.list hq
      refine call_enumerate_list p'.isList fun h' he hit hsz hk => wpAny_pyIter_enum he ?_
      have I2 : Inv X pins σ H1 { s1 with heap := h' } := I1.kept (t' := s1.toks) hk
      refine ⟨s1.heap.objs.size + 1, [s1.heap.objs.size + 1, s1.heap.objs.size], _, _, H1, rfl, I2, turn_enum a (s1.heap.objs.size + 1) s1.heap.objs.size, ⟨⟨.none, he⟩, hit, Nat.succ_ne_self _⟩, fun b hb => ?_, q⟩
      have e' : b = s1.heap.objs.size + 1 ∨ b = s1.heap.objs.size := by simpa using hb
      have hle : s1.heap.objs.size ≤ b := by
        rcases e' with z | z
        · rw [z]; exact Nat.le_add_right _ _
        · rw [z]; exact Nat.le_refl _
      exact I1.fpOk hle (I1.hok.fresh hle)
    · obtain ⟨its, rv, p', hz⟩ := I1.tuple hq
      have hla : a < s1.heap.objs.size := by obtain ⟨o, e, _⟩ := p'; exact Heap.lt_size e
      refine call_enumerate_tuple p' fun h' he hit hsz hk => wpAny_pyIter_enum he ?_
      have I2 : Inv X pins σ H1 { s1 with heap := h' } := I1.kept (t' := s1.toks) hk
      refine ⟨s1.heap.objs.size + 1, [s1.heap.objs.size + 1, s1.heap.objs.size], _, _, H1, rfl, I2, turn_enumT a (s1.heap.objs.size + 1) s1.heap.objs.size (Nat.ne_of_lt hla) (Nat.ne_of_lt (Nat.lt_succ_of_lt hla)), ⟨⟨.none, he⟩, hit, Nat.succ_ne_self _⟩, fun b hb => ?_, q⟩
      have e' : b = s1.heap.objs.size + 1 ∨ b = s1.heap.objs.size := by simpa using hb
      have hle : s1.heap.objs.size ≤ b := by
        rcases e' with z | z
        · rw [z]; exact Nat.le_add_right _ _
        · rw [z]; exact Nat.le_refl _
      exact I1.fpOk hle (I1.hok.fresh hle)
/-- a list or a tuple walked -/
def iSeq (K : PySem.W.Frag) (tl : TE) : TI := fun σ H R => tl σ H fun x H1 => ∃ a xs, x = .ref a ∧ ((SqL K H1 a xs ∧ R (Itl K a) H1) ∨ (SqT K H1 a xs ∧ R (Itt K a) H1))
theorem pi_seq {X : Cx} {tg l : Expr} {tl : TE} (hl : PE X l tl) : PI X tg l (iSeq X.K tl) := by
  refine ⟨fun pins s σ H R I h => ?_⟩
  refine thn (hl.run pins s σ H _ I h) fun v s1 ⟨x, H1, I1, r1, q1⟩ => ?_
  obtain ⟨a, xs, e, hq⟩ := q1
  subst e
  cases r1
  rcases hq with ⟨hq, q⟩ | ⟨hq, q⟩
  · obtain ⟨its, rv, p, hz⟩ := I1.list hq
    refine wpAny_pyIter_list p.isList ?_
    refine ⟨s1.heap.objs.size, [s1.heap.objs.size], _, _, H1, rfl, I1.kept (t' := s1.toks) fun b o e => Heap.get?_push_of_some _ e, turn_list a _, ⟨_, Heap.get?_push_size _ rfl, rfl, rfl⟩, fun b hb => ?_, q⟩
    have e : b = s1.heap.objs.size := by simpa using hb
    subst e
    exact I1.fpOk (Nat.le_refl _) (I1.hok.fresh (Nat.le_refl _))
  · obtain ⟨its, rv, p, hz⟩ := I1.tuple hq
    refine wpAny_pyIter_tuple (show s1.heap.IsTuple a its.toArray from p) ?_
    refine ⟨s1.heap.objs.size, [s1.heap.objs.size], _, _, H1, rfl, I1.kept (t' := s1.toks) fun b o e => Heap.get?_push_of_some _ e, turn_tuple a _, ⟨_, Heap.get?_push_size _ rfl, rfl, rfl⟩, fun b hb => ?_, q⟩
    have e : b = s1.heap.objs.size := by simpa using hb
    subst e
    exact I1.fpOk (Nat.le_refl _) (I1.hok.fresh (Nat.le_refl _))
/-- a tuple times one is the tuple -/
theorem tuple_mul1 (l : Addr) (items : Array Value) (n : Nat) (dd : Option Addr) (sl : Array (Option Value)) (u : Tok) :
    Meets (Builtin.«tuple.__mul__» ⟨[.ref l, .int 1 u], []⟩) (fun _ R s => s.heap.get? l = some { cls := .type "tuple", dict := dd, data := .seq items n, slots := sl } ∧ R (.ok (.ret (Value.ref l))) s) :=
  .of_wp fun prog w A R s h => by
    obtain ⟨hp, g, d, tk, os⟩ := s
    obtain ⟨hl, h⟩ := h
    have f1 := AutoSeq1.idx_int
    have c0 : (decide ((1 : Int) < -(2 ^ 63)) || decide ((1 : Int) ≥ 2 ^ 63)) = false := by decide
    have c1 : (items.isEmpty || (1 : Int) == 1) = true := by simp
    have hT : (⟨hp, g, d, tk, os⟩ : Shared).TypeIs (.ref l) "tuple" := ⟨_, hl, rfl⟩
    wp_walk using wpAny_loadPart' hl
    repeat (first
      | (refine wpAny_ite_false (decide_eq_false (by rw [c0]; exact Bool.false_ne_true)) ?_; wp_walk using wpAny_loadPart' hl)
      | (refine wpAny_ite_true (decide_eq_true c1) ?_; wp_walk using wpAny_loadPart' hl)
      | (refine wpAny_bind (wpAny_typeOf hT ?_); wp_walk using wpAny_loadPart' hl))
    exact ⟨_, rfl, h⟩
def rOneT (K : PySem.W.Frag) : R2 := fun x y H Q => ∃ l xs, x = .ref l ∧ y = .int 1 ∧ SqT K H l xs ∧ Q (.ref l) H
theorem op_oneT {X : Cx} : OpR X (binaryOp .Mult) (rOneT X.K) := by
  intro pins s σ H x y v u Q I rx ry h
  obtain ⟨l, xs, rfl, rfl, hT, q⟩ := h
  cases rx
  obtain ⟨t, rfl⟩ := ry
  obtain ⟨its, r, ⟨⟨cls, dd, data, sl⟩, ho, hc, n, hd⟩, hs⟩ := I.tuple hT
  simp only at hc hd
  subst hc hd
  exact wpAny_binaryOp_repeat_ref (T := "tuple") (U := "int") (by decide) ⟨_, ho, rfl⟩ (fun s' => typeIs_int s' 1 t) noFill_tuple_mul F.fills_int_mul F.slot_int_rmul repeat_tuple F.slot_int_index.lookup
    (call_meets F.slot_int_rmul (typeIs_int s 1 t) F.entry_int_rmul (F.args_int_rmul_2 _ _) (int_rmul_tuple 1 t l its.toArray n dd sl)
      ⟨ho, rfl, ⟨_, ho, rfl⟩, call_meets F.slot_tuple_mul ⟨_, ho, rfl⟩ F.entry_tuple_mul (F.args_tuple_mul_2 _ _) (tuple_mul1 l its.toArray n dd sl t) ⟨ho, ⟨.ref l, H, I, rfl, q⟩⟩⟩)
/-! ### the ways of an operator, whatever the values are -/
abbrev rOr (r r' : R2) : R2 := fun x y H Q => r x y H Q ∨ r' x y H Q
abbrev rAddA (K : PySem.W.Frag) : R2 := rOr (rI0 fun i j => .int (i + j)) (rOr (rCatA K) rCat)
theorem op_addA {X : Cx} : OpR X (binaryOp .Add) (rAddA X.K) := op_add.or (op_catA.or op_cat)
abbrev rMulA (K : PySem.W.Frag) : R2 := rOr (rI CMul fun i j => .int (i * j)) (rOr rRep (rOr (rRepT K) (rOneT K)))
theorem op_mulA {X : Cx} : OpR X (binaryOp .Mult) (rMulA X.K) := op_mul.or (op_rep.or (op_repT.or op_oneT))
abbrev rSlB (K : PySem.W.Frag) : V → Option Int → Option Int → Hp → VK → Prop := fun x lo hi H Q => rSlL K x lo hi H Q ∨ rSlA K x lo hi H Q
theorem sl_both {X : Cx} : SlR X (rSlB X.K) := sl_list.or sl_tupA
end Dl

/-! A layer of data trees over the hand layer: values as data, cells that change apart, what else stands kept. -/
namespace Dl
open PySem PySem.Spec L2

/-! ### data -/
inductive Da where
  | sc (v : V)
  | tup (ds : List Da)
  | lst (ds : List Da)
  | obj (C : Addr) (ns : List Str) (ds : List Da)
  | ro (ds : List Da)

section
variable (K : PySem.W.Frag) (F : Hp)
mutual
def Rp : Da → V → Prop
  | .sc x, v => v = x
  | .tup ds, v => ∃ a xs, v = .ref a ∧ SqT K F a xs ∧ RpA ds xs
  | .lst ds, v => ∃ a xs, v = .ref a ∧ F a = some (.lst xs) ∧ RpA ds xs
  | .obj C ns ds, v => ∃ a dx xs, v = .ref a ∧ F a = some (.ins C dx (ns.zip xs)) ∧ RpA ds xs
  | .ro ds, v => ∃ a xs, v = .ref a ∧ SqL K F a xs ∧ RpA ds xs
def RpA : List Da → List V → Prop
  | [], xs => xs = []
  | d :: ds, xs => ∃ y ys, xs = y :: ys ∧ Rp d y ∧ RpA ds ys
end
end

/-- a cell that may change -/
inductive MO where
  | lst (ds : List Da)
  | ins (C : Addr) (ns : List Str) (ds : List Da)
  | dK (kvs : List (Key × Da))
abbrev MH := Addr → Option MO
def updM (M : MH) (a : Addr) (o : MO) : MH := fun b => if b = a then some o else M b
def delM (M : MH) (a : Addr) : MH := fun b => if b = a then none else M b
theorem updM_same {M : MH} {a : Addr} {o : MO} : updM M a o a = some o := by unfold updM; rw [if_pos rfl]
theorem updM_ne {M : MH} {a b : Addr} {o : MO} (h : b ≠ a) : updM M a o b = M b := by unfold updM; rw [if_neg h]
theorem updM_updM {M : MH} {a : Addr} {o u : MO} : updM (updM M a o) a u = updM M a u := by
  funext b; unfold updM; split <;> rfl
theorem updM_comm {M : MH} {a b : Addr} {o u : MO} (h : a ≠ b) : updM (updM M a o) b u = updM (updM M b u) a o := by
  funext c; unfold updM
  by_cases h1 : c = a
  · by_cases h2 : c = b
    · exact absurd (h1.symm.trans h2) h
    · rw [if_neg h2, if_pos h1, if_pos h1]
  · by_cases h2 : c = b
    · rw [if_pos h2, if_neg h1, if_pos h2]
    · rw [if_neg h2, if_neg h1, if_neg h1, if_neg h2]
theorem updM_id {M : MH} {a : Addr} {o : MO} (h : M a = some o) : updM M a o = M := by
  funext b; unfold updM
  by_cases h1 : b = a
  · rw [if_pos h1, h1, h]
  · rw [if_neg h1]
theorem delM_upd {M : MH} {a : Addr} {o : MO} (h : M a = none) : delM (updM M a o) a = M := by
  funext b; unfold delM updM
  by_cases h1 : b = a
  · rw [if_pos h1, h1, h]
  · rw [if_neg h1, if_neg h1]
theorem delM_ne {M : MH} {a b : Addr} (h : b ≠ a) : delM M a b = M b := by unfold delM; rw [if_neg h]
theorem delM_comm {M : MH} {a b : Addr} {u : MO} (h : b ≠ a) : delM (updM M b u) a = updM (delM M a) b u := by
  funext c; unfold updM delM
  by_cases h1 : c = a
  · by_cases h2 : c = b
    · exact absurd (h2.symm.trans h1) h
    · rw [if_pos h1, if_neg h2, if_pos h1]
  · by_cases h2 : c = b
    · rw [if_neg h1]
      show (if c = b then some u else M c) = (if c = b then some u else _)
      rw [if_pos h2, if_pos h2]
    · rw [if_neg h1]
      show (if c = b then some u else M c) = (if c = b then some u else (if c = a then none else M c))
      rw [if_neg h2, if_neg h2, if_neg h1]
/-- M is part of M' -/
def SubM (M M' : MH) : Prop := ∀ a o, M a = some o → M' a = some o
theorem SubM.refl (M : MH) : SubM M M := fun _ _ h => h
theorem SubM.upd {M : MH} {a : Addr} {o : MO} (h : M a = none) : SubM M (updM M a o) := fun b u e => by
  rw [updM_ne]
  · exact e
  · rintro rfl
    rw [h] at e
    cases e
theorem SubM.trans {M M1 M2 : MH} (a : SubM M M1) (b : SubM M1 M2) : SubM M M2 := fun x o h => b x o (a x o h)

abbrev RpK (K : PySem.W.Frag) (F : Hp) : List (Key × Da) → List (Key × V) → Prop := Paired fun p q => p.1 = q.1 ∧ Rp K F p.2 q.2
def RpM (K : PySem.W.Frag) (F H : Hp) (a : Addr) : MO → Prop
  | .lst ds => ∃ xs, H a = some (.lst xs) ∧ RpA K F ds xs
  | .ins C ns ds => ∃ dx xs, H a = some (.ins C dx (ns.zip xs)) ∧ ns.length = xs.length ∧ RpA K F ds xs
  | .dK kvs => ∃ ys, H a = some (.dK ys) ∧ RpK K F kvs ys

structure OkH (K : PySem.W.Frag) (F : Hp) (M : MH) (G H : Hp) : Prop where
  ex : Same F H
  mu : ∀ a o, M a = some o → F a = none ∧ RpM K F H a o
  gx : Same G H
  gd : ∀ a o, G a = some o → F a = none ∧ M a = none

abbrev Env' := List (Option Da)
structure EnvD (K : PySem.W.Frag) (F : Hp) (ρ : Env') (σ : St) : Prop where
  len : ρ.length = σ.length
  at_ : ∀ (i : Nat) (d : Da), ρ[i]? = some (some d) → ∃ v, σ[i]? = some (some v) ∧ Rp K F d v

/-! ### monotony -/
section
variable {K : PySem.W.Frag} {F F' G G' H H' : Hp} {M M' : MH}
theorem sqT_mono (e : Same F F') {a : Addr} {xs : List V} (h : SqT K F a xs) : SqT K F' a xs := by
  rcases h with (h | ⟨o, h⟩) | h
  · exact .inl (.inl (e _ _ h))
  · exact .inl (.inr ⟨o, e _ _ h⟩)
  · exact .inr h
theorem sqL_mono (e : Same F F') {a : Addr} {xs : List V} (h : SqL K F a xs) : SqL K F' a xs := by
  rcases h with (h | ⟨o, h⟩) | h
  · exact .inl (.inl (e _ _ h))
  · exact .inl (.inr ⟨o, e _ _ h⟩)
  · exact .inr h
mutual
theorem Rp.mono (e : Same F F') : ∀ (d : Da) (v : V), Rp K F d v → Rp K F' d v
  | .sc x, v, h => by
    unfold Rp at h ⊢
    exact h
  | .tup ds, v, h => by
    unfold Rp at h ⊢
    obtain ⟨a, xs, e1, h1, h2⟩ := h
    exact ⟨a, xs, e1, sqT_mono e h1, RpA.mono e ds xs h2⟩
  | .lst ds, v, h => by
    unfold Rp at h ⊢
    obtain ⟨a, xs, e1, h1, h2⟩ := h
    exact ⟨a, xs, e1, e _ _ h1, RpA.mono e ds xs h2⟩
  | .obj C ns ds, v, h => by
    unfold Rp at h ⊢
    obtain ⟨a, dx, xs, e1, h1, h2⟩ := h
    exact ⟨a, dx, xs, e1, e _ _ h1, RpA.mono e ds xs h2⟩
  | .ro ds, v, h => by
    unfold Rp at h ⊢
    obtain ⟨a, xs, e1, h1, h2⟩ := h
    exact ⟨a, xs, e1, sqL_mono e h1, RpA.mono e ds xs h2⟩
theorem RpA.mono (e : Same F F') : ∀ (ds : List Da) (xs : List V), RpA K F ds xs → RpA K F' ds xs
  | [], xs, h => by
    unfold RpA at h ⊢
    exact h
  | d :: ds, xs, h => by
    unfold RpA at h ⊢
    obtain ⟨y, ys, e1, h1, h2⟩ := h
    exact ⟨y, ys, e1, Rp.mono e d y h1, RpA.mono e ds ys h2⟩
end
theorem rpA_nil {xs : List V} : RpA K F [] xs ↔ xs = [] := by unfold RpA; exact Iff.rfl
theorem rpA_cons {d : Da} {ds : List Da} {xs : List V} : RpA K F (d :: ds) xs ↔ ∃ y ys, xs = y :: ys ∧ Rp K F d y ∧ RpA K F ds ys := by
  constructor
  · intro h; unfold RpA at h; exact h
  · intro h; unfold RpA; exact h
theorem RpA.cons_ {d : Da} {ds : List Da} {x : V} {xs : List V} (h : Rp K F d x) (t : RpA K F ds xs) : RpA K F (d :: ds) (x :: xs) := rpA_cons.mpr ⟨x, xs, rfl, h, t⟩
theorem RpA.nil_ : RpA K F [] [] := rpA_nil.mpr rfl
theorem rp_sc {x v : V} : Rp K F (.sc x) v ↔ v = x := by unfold Rp; exact Iff.rfl
theorem rp_tup {ds : List Da} {v : V} : Rp K F (.tup ds) v ↔ ∃ a xs, v = .ref a ∧ SqT K F a xs ∧ RpA K F ds xs := by
  constructor
  · intro h; unfold Rp at h; exact h
  · intro h; unfold Rp; exact h
theorem rp_lst {ds : List Da} {v : V} : Rp K F (.lst ds) v ↔ ∃ a xs, v = .ref a ∧ F a = some (.lst xs) ∧ RpA K F ds xs := by
  constructor
  · intro h; unfold Rp at h; exact h
  · intro h; unfold Rp; exact h
theorem rp_obj {C : Addr} {ns : List Str} {ds : List Da} {v : V} : Rp K F (.obj C ns ds) v ↔ ∃ a dx xs, v = .ref a ∧ F a = some (.ins C dx (ns.zip xs)) ∧ RpA K F ds xs := by
  constructor
  · intro h; unfold Rp at h; exact h
  · intro h; unfold Rp; exact h
theorem rp_ro {ds : List Da} {v : V} : Rp K F (.ro ds) v ↔ ∃ a xs, v = .ref a ∧ SqL K F a xs ∧ RpA K F ds xs := by
  constructor
  · intro h; unfold Rp at h; exact h
  · intro h; unfold Rp; exact h
theorem RpA.length : ∀ {ds : List Da} {xs : List V}, RpA K F ds xs → ds.length = xs.length
  | [], xs, h => by rw [rpA_nil.mp h] <;> rfl
  | d :: ds, xs, h => by
    obtain ⟨y, ys, e1, h1, h2⟩ := rpA_cons.mp h
    rw [e1, List.length_cons, List.length_cons, RpA.length h2]
theorem RpA.get : ∀ {ds : List Da} {xs : List V} {i : Nat} {d : Da}, RpA K F ds xs → ds[i]? = some d → ∃ x, xs[i]? = some x ∧ Rp K F d x
  | [], _, i, d, _, e => by simp at e
  | d0 :: ds, xs, 0, d, h, e => by
    obtain ⟨y, ys, e1, h1, h2⟩ := rpA_cons.mp h
    simp at e
    subst e
    exact ⟨y, by rw [e1]; rfl, h1⟩
  | d0 :: ds, xs, i + 1, d, h, e => by
    obtain ⟨y, ys, e1, h1, h2⟩ := rpA_cons.mp h
    obtain ⟨x, hx, rx⟩ := RpA.get (i := i) (d := d) h2 (by simpa using e)
    exact ⟨x, by rw [e1]; simpa using hx, rx⟩
theorem RpA.get' {ds : List Da} {xs : List V} {i : Nat} {x : V} (h : RpA K F ds xs) (e : xs[i]? = some x) : ∃ d, ds[i]? = some d ∧ Rp K F d x := by
  have hi : i < ds.length := by rw [h.length]; exact (List.getElem?_eq_some_iff.mp e).1
  obtain ⟨x', e', r⟩ := h.get (i := i) (d := ds[i]) (List.getElem?_eq_getElem hi)
  rw [e] at e'
  cases e'
  exact ⟨_, List.getElem?_eq_getElem hi, r⟩
theorem RpA.append : ∀ {ds es : List Da} {xs ys : List V}, RpA K F ds xs → RpA K F es ys → RpA K F (ds ++ es) (xs ++ ys)
  | [], es, xs, ys, h, t => by
    rw [rpA_nil.mp h]
    exact t
  | d :: ds, es, xs, ys, h, t => by
    obtain ⟨y, zs, e1, h1, h2⟩ := rpA_cons.mp h
    rw [e1]
    exact RpA.cons_ h1 (RpA.append h2 t)
theorem RpA.take : ∀ {ds : List Da} {xs : List V} (n : Nat), RpA K F ds xs → RpA K F (ds.take n) (xs.take n)
  | _, _, 0, _ => by simpa using RpA.nil_
  | [], xs, n + 1, h => by
    rw [rpA_nil.mp h]
    simpa using RpA.nil_
  | d :: ds, xs, n + 1, h => by
    obtain ⟨y, ys, e1, h1, h2⟩ := rpA_cons.mp h
    rw [e1]
    exact RpA.cons_ h1 (RpA.take n h2)
theorem RpA.drop : ∀ {ds : List Da} {xs : List V} (n : Nat), RpA K F ds xs → RpA K F (ds.drop n) (xs.drop n)
  | _, _, 0, h => by simpa using h
  | [], xs, n + 1, h => by
    rw [rpA_nil.mp h]
    simpa using RpA.nil_
  | d :: ds, xs, n + 1, h => by
    obtain ⟨y, ys, e1, h1, h2⟩ := rpA_cons.mp h
    rw [e1]
    exact RpA.drop n h2
theorem RpA.set : ∀ {ds : List Da} {xs : List V} (i : Nat) {d : Da} {x : V}, RpA K F ds xs → Rp K F d x → RpA K F (ds.set i d) (xs.set i x)
  | [], xs, i, d, x, h, r => by
    rw [rpA_nil.mp h]
    simpa using RpA.nil_
  | d0 :: ds, xs, 0, d, x, h, r => by
    obtain ⟨y, ys, e1, h1, h2⟩ := rpA_cons.mp h
    rw [e1]
    exact RpA.cons_ r h2
  | d0 :: ds, xs, i + 1, d, x, h, r => by
    obtain ⟨y, ys, e1, h1, h2⟩ := rpA_cons.mp h
    rw [e1]
    exact RpA.cons_ h1 (RpA.set i h2 r)
theorem RpA.reverse : ∀ {ds : List Da} {xs : List V}, RpA K F ds xs → RpA K F ds.reverse xs.reverse
  | [], xs, h => by
    rw [rpA_nil.mp h]
    simpa using RpA.nil_
  | d :: ds, xs, h => by
    obtain ⟨y, ys, e1, h1, h2⟩ := rpA_cons.mp h
    rw [e1, List.reverse_cons, List.reverse_cons]
    exact RpA.append (RpA.reverse h2) (RpA.cons_ h1 RpA.nil_)
theorem RpA.flatRep {ds : List Da} {xs : List V} (h : RpA K F ds xs) : ∀ n : Nat, RpA K F (List.replicate n ds).flatten (List.replicate n xs).flatten
  | 0 => by simpa using RpA.nil_
  | n + 1 => by
    rw [List.replicate_succ, List.replicate_succ, List.flatten_cons, List.flatten_cons]
    exact h.append (RpA.flatRep h n)
theorem RpA.eraseIdx : ∀ {ds : List Da} {xs : List V} (i : Nat), RpA K F ds xs → RpA K F (ds.eraseIdx i) (xs.eraseIdx i)
  | [], xs, i, h => by
    rw [rpA_nil.mp h]
    simpa using RpA.nil_
  | d :: ds, xs, 0, h => by
    obtain ⟨y, ys, e1, h1, h2⟩ := rpA_cons.mp h
    rw [e1]
    exact h2
  | d :: ds, xs, i + 1, h => by
    obtain ⟨y, ys, e1, h1, h2⟩ := rpA_cons.mp h
    rw [e1]
    exact RpA.cons_ h1 (RpA.eraseIdx i h2)
/-- a list of flat values -/
theorem rpA_sc : ∀ {vs xs : List V}, RpA K F (vs.map Da.sc) xs ↔ xs = vs
  | [], xs => by rw [List.map_nil]; exact rpA_nil
  | v :: vs, xs => by
    rw [List.map_cons]
    constructor
    · intro h
      obtain ⟨y, ys, e1, h1, h2⟩ := rpA_cons.mp h
      rw [e1, rp_sc.mp h1, rpA_sc.mp h2]
    · rintro rfl
      exact RpA.cons_ (rp_sc.mpr rfl) (rpA_sc.mpr rfl)
theorem EnvD.mono {ρ : Env'} {σ : St} (h : EnvD K F ρ σ) (e : Same F F') : EnvD K F' ρ σ := ⟨h.len, fun i d q => by
  obtain ⟨v, e1, r⟩ := h.at_ i d q
  exact ⟨v, e1, Rp.mono e d v r⟩⟩
theorem EnvD.set {ρ : Env'} {σ : St} {d : Da} {v : V} (h : EnvD K F ρ σ) (i : Nat) (r : Rp K F d v) : EnvD K F (ρ.set i (some d)) (σ.set i (some v)) := ⟨by rw [List.length_set, List.length_set]; exact h.len, fun j e q => by
  by_cases hj : i = j
  · subst hj
    by_cases hi : i < ρ.length
    · rw [List.getElem?_set_self hi] at q
      cases q
      exact ⟨v, by rw [List.getElem?_set_self (by rw [← h.len]; exact hi)], r⟩
    · rw [List.getElem?_eq_none (by rw [List.length_set]; omega)] at q
      cases q
  · rw [List.getElem?_set_ne hj] at q
    rw [List.getElem?_set_ne hj]
    exact h.at_ j e q⟩
theorem EnvD.forget {ρ : Env'} {σ : St} (h : EnvD K F ρ σ) (i : Nat) (v : Option V) : EnvD K F (ρ.set i none) (σ.set i v) := ⟨by rw [List.length_set, List.length_set]; exact h.len, fun j e q => by
  by_cases hj : i = j
  · subst hj
    by_cases hi : i < ρ.length
    · rw [List.getElem?_set_self hi] at q
      cases q
    · rw [List.getElem?_eq_none (by rw [List.length_set]; omega)] at q
      cases q
  · rw [List.getElem?_set_ne hj] at q
    rw [List.getElem?_set_ne hj]
    exact h.at_ j e q⟩
theorem RpM.mono {a : Addr} (e : Same F F') (hH : H' a = H a) : ∀ {o : MO}, RpM K F H a o → RpM K F' H' a o
  | .lst ds, ⟨xs, h1, h2⟩ => ⟨xs, hH.trans h1, RpA.mono e _ _ h2⟩
  | .ins C ns ds, ⟨dx, xs, h1, hl, h2⟩ => ⟨dx, xs, hH.trans h1, hl, RpA.mono e _ _ h2⟩
  | .dK kvs, ⟨xs, h1, h2⟩ => ⟨xs, hH.trans h1, Paired.mapP h2 fun p q z => ⟨z.1, Rp.mono e _ _ z.2⟩⟩
theorem RpM.here {a : Addr} : ∀ {o : MO}, RpM K F H a o → ∃ u, H a = some u
  | .lst ds, ⟨xs, h1, h2⟩ => ⟨_, h1⟩
  | .ins C ns ds, ⟨dx, xs, h1, hl, h2⟩ => ⟨_, h1⟩
  | .dK kvs, ⟨xs, h1, h2⟩ => ⟨_, h1⟩
theorem OkH.noM (h : OkH K F M G H) {p : Addr} (hp : H p = none) : M p = none := by
  cases q : M p with
  | none => rfl
  | some o =>
    obtain ⟨u, e⟩ := (h.mu p o q).2.here
    rw [hp] at e
    cases e
theorem OkH.noF (h : OkH K F M G H) {p : Addr} (hp : H p = none) : F p = none := h.ex.free hp
theorem OkH.noG (h : OkH K F M G H) {p : Addr} (hp : H p = none) : G p = none := h.gx.free hp
theorem sm_new {p : Addr} {o : HO} (hp : H p = none) : Same H (upd H p o) := fun b u e => by
  rw [upd_ne (ne_of_none e hp)]
  exact e
theorem sm_both {p : Addr} {o : HO} (h : Same F H) : Same (upd F p o) (upd H p o) := fun b u e => by
  by_cases hb : b = p
  · subst hb
    rw [upd_same] at e ⊢
    exact e
  · rw [upd_ne hb] at e ⊢
    exact h _ _ e
theorem sm_right {p : Addr} {o : HO} (h : Same F H) (hp : F p = none) : Same F (upd H p o) := fun b u e => by
  rw [upd_ne (ne_of_none e hp)]
  exact h _ _ e
/-- a new object, never to change -/
theorem OkH.new (h : OkH K F M G H) {p : Addr} {o : HO} (hp : H p = none) : OkH K (upd F p o) M G (upd H p o) where
  ex := sm_both h.ex
  mu := fun a u e => by
    obtain ⟨h1, h2⟩ := h.mu a u e
    obtain ⟨z, hz⟩ := h2.here
    have ne : a ≠ p := ne_of_none hz hp
    refine ⟨by rw [upd_ne ne]; exact h1, h2.mono (sm_new (h.noF hp)) (upd_ne ne)⟩
  gx := sm_right h.gx (h.noG hp)
  gd := fun a u e => by
    obtain ⟨h1, h2⟩ := h.gd a u e
    have ne : a ≠ p := ne_of_none (h.gx a u e) hp
    exact ⟨by rw [upd_ne ne]; exact h1, h2⟩
/-- a new cell -/
theorem OkH.newM (h : OkH K F M G H) {p : Addr} {o : HO} {u : MO} (hp : H p = none) (r : RpM K F (upd H p o) p u) : OkH K F (updM M p u) G (upd H p o) where
  ex := sm_right h.ex (h.noF hp)
  mu := fun a z e => by
    by_cases ha : a = p
    · subst ha
      rw [updM_same] at e
      cases e
      exact ⟨h.noF hp, r⟩
    · rw [updM_ne ha] at e
      obtain ⟨h1, h2⟩ := h.mu a z e
      exact ⟨h1, h2.mono (Same.refl F) (upd_ne ha)⟩
  gx := sm_right h.gx (h.noG hp)
  gd := fun a z e => by
    obtain ⟨h1, h2⟩ := h.gd a z e
    have ne : a ≠ p := ne_of_none (h.gx a z e) hp
    exact ⟨h1, by rw [updM_ne ne]; exact h2⟩
/-- a cell is changed -/
theorem OkH.put (h : OkH K F M G H) {p : Addr} {o : HO} {u u' : MO} (hp : M p = some u) (r : RpM K F (upd H p o) p u') : OkH K F (updM M p u') G (upd H p o) where
  ex := sm_right h.ex (h.mu p u hp).1
  mu := fun a z e => by
    by_cases ha : a = p
    · subst ha
      rw [updM_same] at e
      cases e
      exact ⟨(h.mu a u hp).1, r⟩
    · rw [updM_ne ha] at e
      obtain ⟨h1, h2⟩ := h.mu a z e
      exact ⟨h1, h2.mono (Same.refl F) (upd_ne ha)⟩
  gx := sm_right h.gx (by
    cases q : G p with
    | none => rfl
    | some z =>
      rw [(h.gd p z q).2] at hp
      cases hp)
  gd := fun a z e => by
    obtain ⟨h1, h2⟩ := h.gd a z e
    have ne : a ≠ p := by
      rintro rfl
      rw [h2] at hp
      cases hp
    exact ⟨h1, by rw [updM_ne ne]; exact h2⟩
/-- fewer cells are told -/
theorem OkH.sub (h : OkH K F M G H) (s : SubM M' M) : OkH K F M' G H where
  ex := h.ex
  mu := fun a o e => h.mu a o (s a o e)
  gx := h.gx
  gd := fun a o e => by
    obtain ⟨h1, h2⟩ := h.gd a o e
    refine ⟨h1, ?_⟩
    cases q : M' a with
    | none => rfl
    | some u =>
      rw [s a u q] at h2
      cases h2
/-- a cell that changes no more -/
theorem OkH.freeze (h : OkH K F M G H) {p : Addr} {u : MO} {o : HO} (hp : M p = some u) (ho : H p = some o) : OkH K (upd F p o) (delM M p) G H where
  ex := fun b z e => by
    by_cases hb : b = p
    · subst hb
      rw [upd_same] at e
      cases e
      exact ho
    · rw [upd_ne hb] at e
      exact h.ex b z e
  mu := fun a z e => by
    have ne : a ≠ p := by
      rintro rfl
      unfold delM at e
      rw [if_pos rfl] at e
      cases e
    rw [delM_ne ne] at e
    obtain ⟨h1, h2⟩ := h.mu a z e
    exact ⟨by rw [upd_ne ne]; exact h1, h2.mono (sm_new (h.mu p u hp).1) rfl⟩
  gx := h.gx
  gd := fun a z e => by
    obtain ⟨h1, h2⟩ := h.gd a z e
    have ne : a ≠ p := by
      rintro rfl
      rw [h2] at hp
      cases hp
    exact ⟨by rw [upd_ne ne]; exact h1, by rw [delM_ne ne]; exact h2⟩
theorem sm_freeze (h : OkH K F M G H) {p : Addr} {u : MO} {o : HO} (hp : M p = some u) : Same F (upd F p o) := sm_new (h.mu p u hp).1
end
end Dl

namespace Dl
open PySem PySem.Spec L2

/-! ### what an expression, a test, arguments, a target, a statement does, by data -/
section
variable (K : PySem.W.Frag)
def EvP (te : TE) (ρ : Env') (M : MH) (P : Da → MH → Prop) : Prop :=
  ∀ (σ : St) (F G H : Hp) (Q : VK), EnvD K F ρ σ → OkH K F M G H → (∀ v d F' M' H', Same F F' → OkH K F' M' G H' → Rp K F' d v → P d M' → Q v H') → te σ H Q
def TvP (tt : TT) (ρ : Env') (M : MH) (P : Bool → MH → Prop) : Prop :=
  ∀ (σ : St) (F G H : Hp) (Q : Bool → Hp → Prop), EnvD K F ρ σ → OkH K F M G H → (∀ b F' M' H', Same F F' → OkH K F' M' G H' → P b M' → Q b H') → tt σ H Q
def AvP (ta : TA) (ρ : Env') (M : MH) (P : List Da → MH → Prop) : Prop :=
  ∀ (σ : St) (F G H : Hp) (Q : List V → Hp → Prop), EnvD K F ρ σ → OkH K F M G H → (∀ vs ds F' M' H', Same F F' → OkH K F' M' G H' → RpA K F' ds vs → P ds M' → Q vs H') → ta σ H Q
def GvP (g : TG) (d : Da) (ρ : Env') (M : MH) (P : Env' → MH → Prop) : Prop :=
  ∀ (v : V) (σ : St) (F G H : Hp) (Q : St → Hp → Prop), Rp K F d v → EnvD K F ρ σ → OkH K F M G H → (∀ σ' ρ' F' M' H', Same F F' → EnvD K F' ρ' σ' → OkH K F' M' G H' → P ρ' M' → Q σ' H') → g v σ H Q
def GsP (g : TGs) (ds : List Da) (ρ : Env') (M : MH) (P : Env' → MH → Prop) : Prop :=
  ∀ (vs : List V) (σ : St) (F G H : Hp) (Q : St → Hp → Prop), RpA K F ds vs → EnvD K F ρ σ → OkH K F M G H → (∀ σ' ρ' F' M' H', Same F F' → EnvD K F' ρ' σ' → OkH K F' M' G H' → P ρ' M' → Q σ' H') → g vs σ H Q
structure DE where
  nx : Env' → MH → Prop
  rt : Da → MH → Prop
  bk : Env' → MH → Prop := fun _ _ => False
  ct : Env' → MH → Prop := fun _ _ => False
structure Match (F G : Hp) (D : DE) (D0 : Ends) : Prop where
  nx : ∀ σ ρ F' M' H', Same F F' → EnvD K F' ρ σ → OkH K F' M' G H' → D.nx ρ M' → D0.nx σ H'
  rt : ∀ v d F' M' H', Same F F' → OkH K F' M' G H' → Rp K F' d v → D.rt d M' → D0.rt v H'
  bk : ∀ σ ρ F' M' H', Same F F' → EnvD K F' ρ σ → OkH K F' M' G H' → D.bk ρ M' → D0.bk σ H'
  ct : ∀ σ ρ F' M' H', Same F F' → EnvD K F' ρ σ → OkH K F' M' G H' → D.ct ρ M' → D0.ct σ H'
def StP (ts : TS) (ρ : Env') (M : MH) (D : DE) : Prop :=
  ∀ (σ : St) (F G H : Hp) (D0 : Ends), EnvD K F ρ σ → OkH K F M G H → Match K F G D D0 → ts D0 σ H
/-- a two-place operation on values; a one-place one; a call; a method -/
def ROp (r : R2) (d e : Da) (M : MH) (P : Da → MH → Prop) : Prop :=
  ∀ (x y : V) (F G H : Hp) (Q : VK), Rp K F d x → Rp K F e y → OkH K F M G H → (∀ v d F' M' H', Same F F' → OkH K F' M' G H' → Rp K F' d v → P d M' → Q v H') → r x y H Q
def RCl (r : List V → Hp → VK → Prop) (ds : List Da) (M : MH) (P : Da → MH → Prop) : Prop :=
  ∀ (xs : List V) (F G H : Hp) (Q : VK), RpA K F ds xs → OkH K F M G H → (∀ v d F' M' H', Same F F' → OkH K F' M' G H' → Rp K F' d v → P d M' → Q v H') → r xs H Q
def RMt (r : V → List V → Hp → VK → Prop) (d : Da) (ds : List Da) (M : MH) (P : Da → MH → Prop) : Prop :=
  ∀ (x : V) (xs : List V) (F G H : Hp) (Q : VK), Rp K F d x → RpA K F ds xs → OkH K F M G H → (∀ v d F' M' H', Same F F' → OkH K F' M' G H' → Rp K F' d v → P d M' → Q v H') → r x xs H Q
def RSet (r : V → V → V → Hp → (Hp → Prop) → Prop) (d e z : Da) (M : MH) (P : MH → Prop) : Prop :=
  ∀ (x y u : V) (F G H : Hp) (Q : Hp → Prop), Rp K F d x → Rp K F e y → Rp K F z u → OkH K F M G H → (∀ F' M' H', Same F F' → OkH K F' M' G H' → P M' → Q H') → r x y u H Q
/-- what is known of truth -/
def Tru (d : Da) (M : MH) (b : Bool) : Prop := match d with
  | .sc .non => b = false
  | .sc (.bl c) => b = c
  | .sc (.int i) => b = (i != 0)
  | .sc (.ref a) => match M a with
    | some (.lst ds) => b = !ds.isEmpty
    | _ => False
  | .tup ds => b = !ds.isEmpty
  | .lst ds => b = !ds.isEmpty
  | _ => False
end

section
variable {K : PySem.W.Frag} {ρ : Env'} {M M1 : MH} {ta tb tc te : TE} {t u : TT} {P : Da → MH → Prop} {PB : Bool → MH → Prop} {d e : Da} {i : Nat}

theorem EvP.mono {P' : Da → MH → Prop} (h : EvP K te ρ M P) (k : ∀ d M', P d M' → P' d M') : EvP K te ρ M P' := fun σ F G H Q hE hO q =>
  h σ F G H Q hE hO fun v d F' M' H' s o r p => q v d F' M' H' s o r (k d M' p)
theorem TvP.mono {P' : Bool → MH → Prop} (h : TvP K t ρ M PB) (k : ∀ d M', PB d M' → P' d M') : TvP K t ρ M P' := fun σ F G H Q hE hO q =>
  h σ F G H Q hE hO fun b F' M' H' s o p => q b F' M' H' s o (k b M' p)
/-- the value is a cell that changes no more -/
theorem ev_frzL (h : EvP K te ρ M fun d M' => ∃ a ds, d = .sc (.ref a) ∧ M' a = some (.lst ds) ∧ P (.lst ds) (delM M' a)) : EvP K te ρ M P := fun σ F G H Q hE hO q =>
  h σ F G H Q hE hO fun v d F' M' H' s o r ⟨a, ds, e, hm, p⟩ => by
    subst e
    have hv := rp_sc.mp r
    subst hv
    obtain ⟨xs, hx, rx⟩ := (o.mu a _ hm).2
    exact q _ _ (upd F' a (.lst xs)) _ H' (s.trans (sm_freeze o hm)) (o.freeze hm hx) (rp_lst.mpr ⟨a, xs, rfl, upd_same, RpA.mono (sm_freeze o hm) _ _ rx⟩) p
theorem ev_frzO (h : EvP K te ρ M fun d M' => ∃ a C ns ds, d = .sc (.ref a) ∧ M' a = some (.ins C ns ds) ∧ P (.obj C ns ds) (delM M' a)) : EvP K te ρ M P := fun σ F G H Q hE hO q =>
  h σ F G H Q hE hO fun v d F' M' H' s o r ⟨a, C, ns, ds, e, hm, p⟩ => by
    subst e
    have hv := rp_sc.mp r
    subst hv
    obtain ⟨dx, xs, hx, _, rx⟩ := (o.mu a _ hm).2
    exact q _ _ (upd F' a (.ins C dx (ns.zip xs))) _ H' (s.trans (sm_freeze o hm)) (o.freeze hm hx) (rp_obj.mpr ⟨a, dx, xs, rfl, upd_same, RpA.mono (sm_freeze o hm) _ _ rx⟩) p
theorem ev_sub (h : EvP K te ρ M fun d M' => ∃ M'', SubM M'' M' ∧ P d M'') : EvP K te ρ M P := fun σ F G H Q hE hO q =>
  h σ F G H Q hE hO fun v d F' M' H' s o r ⟨M'', z, p⟩ => q v d F' M'' H' s (o.sub z) r p

/-! ### names, constants -/
theorem ev_var (h : ρ[i]? = some (some d)) (q : P d M) : EvP K (tVar i) ρ M P := fun σ F G H Q hE hO k => by
  obtain ⟨v, e, r⟩ := hE.at_ i d h
  exact ⟨v, e, k v d F M H (Same.refl F) hO r q⟩
theorem ev_c {v : V} (q : P (.sc v) M) : EvP K (tC v) ρ M P := fun σ F G H Q hE hO k => k v (.sc v) F M H (Same.refl F) hO (rp_sc.mpr rfl) q
/-- a constant of the module that is data of the written part -/
theorem ev_k {v : V} (hd : ∀ F, Rp K F d v) (q : P d M) : EvP K (tC v) ρ M P := fun σ F G H Q hE hO k => k v d F M H (Same.refl F) hO (hd F) q

/-! ### two-place operations -/
theorem ev_op {r : R2} (h : EvP K ta ρ M fun d M1 => EvP K tb ρ M1 fun e M2 => ROp K r d e M2 P) : EvP K (tOp r ta tb) ρ M P := fun σ F G H Q hE hO k =>
  h σ F G H _ hE hO fun x d F1 M1 H1 s1 o1 r1 h1 => h1 σ F1 G H1 _ (hE.mono s1) o1 fun y e F2 M2 H2 s2 o2 r2 h2 =>
    h2 x y F2 G H2 Q (Rp.mono s2 _ _ r1) r2 o2 fun v d' F' M' H' s3 o3 r3 p => k v d' F' M' H' ((s1.trans s2).trans s3) o3 r3 p
theorem rop_I0 {g : Int → Int → V} {a b : Int} (q : P (.sc (g a b)) M) : ROp K (rI0 g) (.sc (.int a)) (.sc (.int b)) M P := fun x y F G H Q rx ry hO k => by
  have ex := rp_sc.mp rx
  have ey := rp_sc.mp ry
  subst ex ey
  exact ⟨a, b, rfl, rfl, k _ _ F M H (Same.refl F) hO (rp_sc.mpr rfl) q⟩
theorem rop_I {C : Int → Int → Prop} {g : Int → Int → V} {a b : Int} (hc : C a b) (q : P (.sc (g a b)) M) : ROp K (rI C g) (.sc (.int a)) (.sc (.int b)) M P := fun x y F G H Q rx ry hO k => by
  have ex := rp_sc.mp rx
  have ey := rp_sc.mp ry
  subst ex ey
  exact ⟨a, b, rfl, rfl, hc, k _ _ F M H (Same.refl F) hO (rp_sc.mpr rfl) q⟩
theorem rop_or1 {r r' : R2} (h : ROp K r d e M P) : ROp K (fun x y H Q => r x y H Q ∨ r' x y H Q) d e M P := fun x y F G H Q rx ry hO k => .inl (h x y F G H Q rx ry hO k)
theorem rop_or2 {r r' : R2} (h : ROp K r' d e M P) : ROp K (fun x y H Q => r x y H Q ∨ r' x y H Q) d e M P := fun x y F G H Q rx ry hO k => .inr (h x y F G H Q rx ry hO k)
theorem rop_eq {x y : V} (hs : scal x y = true) (q : P (.sc (.bl (decide (x = y)))) M) : ROp K rEq (.sc x) (.sc y) M P := fun a b F G H Q rx ry hO k => by
  have ex := rp_sc.mp rx
  have ey := rp_sc.mp ry
  subst ex ey
  exact ⟨hs, k _ _ F M H (Same.refl F) hO (rp_sc.mpr rfl) q⟩
theorem rop_ne {x y : V} (hs : scal x y = true) (q : P (.sc (.bl (!decide (x = y)))) M) : ROp K rNe (.sc x) (.sc y) M P := fun a b F G H Q rx ry hO k => by
  have ex := rp_sc.mp rx
  have ey := rp_sc.mp ry
  subst ex ey
  exact ⟨hs, k _ _ F M H (Same.refl F) hO (rp_sc.mpr rfl) q⟩
/-- is None, of a scalar; of a made thing -/
theorem rop_isN {x : V} (q : P (.sc (.bl (decide (x = .non)))) M) : ROp K rIsN (.sc x) (.sc .non) M P := fun a b F G H Q rx ry hO k => by
  have ex := rp_sc.mp rx
  have ey := rp_sc.mp ry
  subst ex ey
  exact ⟨rfl, k _ _ F M H (Same.refl F) hO (rp_sc.mpr rfl) q⟩
theorem rop_notN {x : V} (q : P (.sc (.bl (!decide (x = .non)))) M) : ROp K rNotN (.sc x) (.sc .non) M P := fun a b F G H Q rx ry hO k => by
  have ex := rp_sc.mp rx
  have ey := rp_sc.mp ry
  subst ex ey
  exact ⟨rfl, k _ _ F M H (Same.refl F) hO (rp_sc.mpr rfl) q⟩
theorem Rp.refOf {F : Hp} {v : V} (hd : ∀ x, d ≠ .sc x) (r : Rp K F d v) : ∃ a, v = .ref a := by
  cases d with
  | sc x => exact absurd rfl (hd x)
  | tup ds => obtain ⟨a, _, e, _⟩ := rp_tup.mp r; exact ⟨a, e⟩
  | lst ds => obtain ⟨a, _, e, _⟩ := rp_lst.mp r; exact ⟨a, e⟩
  | obj C ns ds => obtain ⟨a, _, _, e, _⟩ := rp_obj.mp r; exact ⟨a, e⟩
  | ro ds => obtain ⟨a, _, e, _⟩ := rp_ro.mp r; exact ⟨a, e⟩
theorem rop_isN0 (hd : ∀ x, d ≠ .sc x) (q : P (.sc (.bl false)) M) : ROp K rIsN d (.sc .non) M P := fun a b F G H Q rx ry hO k => by
  have ey := rp_sc.mp ry
  subst ey
  obtain ⟨c, rfl⟩ := Rp.refOf hd rx
  refine ⟨rfl, ?_⟩
  rw [show decide (V.ref c = V.non) = false from decide_eq_false fun z => nomatch z]
  exact k _ _ F M H (Same.refl F) hO (rp_sc.mpr rfl) q
theorem rop_notN0 (hd : ∀ x, d ≠ .sc x) (q : P (.sc (.bl true)) M) : ROp K rNotN d (.sc .non) M P := fun a b F G H Q rx ry hO k => by
  have ey := rp_sc.mp ry
  subst ey
  obtain ⟨c, rfl⟩ := Rp.refOf hd rx
  refine ⟨rfl, ?_⟩
  rw [show decide (V.ref c = V.non) = false from decide_eq_false fun z => nomatch z]
  exact k _ _ F M H (Same.refl F) hO (rp_sc.mpr rfl) q
/-- items -/
theorem atI_rp {F : Hp} {ds : List Da} {xs : List V} {z : Int} (h : RpA K F ds xs) (a : atI ds z = some d) : ∃ v, atI xs z = some v ∧ Rp K F d v := by
  unfold atI at a ⊢
  rw [← h.length]
  cases q : ixN ds.length z with
  | none =>
    rw [q] at a
    cases a
  | some j =>
    rw [q] at a
    exact h.get (show ds[j]? = some d from a)
theorem rop_ixL {ds : List Da} {z : Int} (a : atI ds z = some d) (q : P d M) : ROp K (rIxL K) (.lst ds) (.sc (.int z)) M P := fun x y F G H Q rx ry hO k => by
  obtain ⟨p, xs, rfl, hs, hr⟩ := rp_lst.mp rx
  have ey := rp_sc.mp ry
  subst ey
  obtain ⟨v, av, rv⟩ := atI_rp hr a
  exact ⟨p, xs, z, v, rfl, rfl, .inl (.inl (hO.ex _ _ hs)), av, k v d F M H (Same.refl F) hO rv q⟩
theorem rop_ixM {ds : List Da} {p : Addr} {z : Int} (hm : M p = some (.lst ds)) (a : atI ds z = some d) (q : P d M) : ROp K (rIxL K) (.sc (.ref p)) (.sc (.int z)) M P := fun x y F G H Q rx ry hO k => by
  have ex := rp_sc.mp rx
  have ey := rp_sc.mp ry
  subst ex ey
  obtain ⟨xs, hx, hr⟩ := (hO.mu p _ hm).2
  obtain ⟨v, av, rv⟩ := atI_rp hr a
  exact ⟨p, xs, z, v, rfl, rfl, .inl (.inl hx), av, k v d F M H (Same.refl F) hO rv q⟩
theorem rop_ixT {ds : List Da} {z : Int} (a : atI ds z = some d) (q : P d M) : ROp K (rIxT K) (.tup ds) (.sc (.int z)) M P := fun x y F G H Q rx ry hO k => by
  obtain ⟨p, xs, rfl, hs, hr⟩ := rp_tup.mp rx
  have ey := rp_sc.mp ry
  subst ey
  obtain ⟨v, av, rv⟩ := atI_rp hr a
  exact ⟨p, xs, z, v, rfl, rfl, sqT_mono hO.ex hs, av, k v d F M H (Same.refl F) hO rv q⟩
/-- any of the three -/
theorem rop_ix_L {ds : List Da} {z : Int} (a : atI ds z = some d) (q : P d M) : ROp K (rIx K) (.lst ds) (.sc (.int z)) M P := rop_or1 (rop_ixL a q)
theorem rop_ix_M {ds : List Da} {p : Addr} {z : Int} (hm : M p = some (.lst ds)) (a : atI ds z = some d) (q : P d M) : ROp K (rIx K) (.sc (.ref p)) (.sc (.int z)) M P := rop_or1 (rop_ixM hm a q)
theorem rop_ix_T {ds : List Da} {z : Int} (a : atI ds z = some d) (q : P d M) : ROp K (rIx K) (.tup ds) (.sc (.int z)) M P := rop_or2 (rop_or1 (rop_ixT a q))
/-- in, not in, among flat things -/
theorem rop_inT {neg : Bool} {x : V} {vs : List V} (hx : flatV x = true) (hf : vs.all flatV = true) (q : P (.sc (.bl (if neg then !inV x vs else inV x vs))) M) : ROp K (rIn K neg) (.sc x) (.tup (vs.map Da.sc)) M P := fun a b F G H Q rx ry hO k => by
  have ex := rp_sc.mp rx
  subst ex
  obtain ⟨p, xs, rfl, hs, hr⟩ := rp_tup.mp ry
  have ev := rpA_sc.mp hr
  subst ev
  exact ⟨p, _, rfl, .inr (sqT_mono hO.ex hs), hx, hf, k _ _ F M H (Same.refl F) hO (rp_sc.mpr rfl) q⟩
theorem rop_inL {neg : Bool} {x : V} {vs : List V} (hx : flatV x = true) (hf : vs.all flatV = true) (q : P (.sc (.bl (if neg then !inV x vs else inV x vs))) M) : ROp K (rIn K neg) (.sc x) (.lst (vs.map Da.sc)) M P := fun a b F G H Q rx ry hO k => by
  have ex := rp_sc.mp rx
  subst ex
  obtain ⟨p, xs, rfl, hs, hr⟩ := rp_lst.mp ry
  have ev := rpA_sc.mp hr
  subst ev
  exact ⟨p, _, rfl, .inl (.inl (.inl (hO.ex _ _ hs))), hx, hf, k _ _ F M H (Same.refl F) hO (rp_sc.mpr rfl) q⟩
/-- tuple + tuple -/
theorem rop_catA {ds es : List Da} (hz : ds.length + es.length ≤ 100000) (q : P (.tup (ds ++ es)) M) : ROp K (rCatA K) (.tup ds) (.tup es) M P := fun x y F G H Q rx ry hO k => by
  obtain ⟨a, xs, rfl, ha, ra⟩ := rp_tup.mp rx
  obtain ⟨b, ys, rfl, hb, rb⟩ := rp_tup.mp ry
  have l1 := ra.length
  have l2 := rb.length
  have hl : xs.length + ys.length ≤ sizeLine := Nat.le_trans (by omega) (show 100000 ≤ sizeLine by decide)
  refine ⟨a, b, xs, ys, rfl, rfl, sqT_mono hO.ex ha, sqT_mono hO.ex hb, hl, ?_⟩
  have rab := ra.append rb
  refine ⟨fun e => ?_, fun e1 e2 => ?_, fun e1 e2 p hp => ?_⟩
  · have ed : ds = [] := List.eq_nil_of_length_eq_zero (by rw [l1, e] <;> rfl)
    subst ed
    exact k _ _ F M H (Same.refl F) hO (rp_tup.mpr ⟨b, ys, rfl, hb, rb⟩) q
  · have ee : es = [] := List.eq_nil_of_length_eq_zero (by rw [l2, e2] <;> rfl)
    subst ee
    rw [List.append_nil] at q
    exact k _ _ F M H (Same.refl F) hO (rp_tup.mpr ⟨a, xs, rfl, ha, ra⟩) q
  · exact k _ _ (upd F p (.tup (xs ++ ys))) M _ (sm_new (hO.noF hp)) (hO.new hp) (rp_tup.mpr ⟨p, _, rfl, .inl (.inl upd_same), RpA.mono (sm_new (hO.noF hp)) _ _ rab⟩) q
end
end Dl

namespace Dl
open PySem PySem.Spec L2
theorem sz_of {n : Nat} (h : n ≤ 100000) : n ≤ sizeLine := Nat.le_trans h (by decide)
theorem sz_lt {n : Nat} (h : n < 100000) : n < sizeLine := Nat.lt_of_lt_of_le h (by decide)
section
variable {K : PySem.W.Frag} {ρ : Env'} {M M1 : MH} {ta tb tc te : TE} {t u : TT} {P : Da → MH → Prop} {PB : Bool → MH → Prop} {d e : Da} {i : Nat}

/-! ### lists: +, *, slices -/
/-- the list at d's value: its items, as they stand -/
def LstAt (d : Da) (M : MH) (ds : List Da) : Prop := match d with
  | .lst es => es = ds
  | .sc (.ref p) => M p = some (.lst ds)
  | _ => False
theorem lstAt {F G H : Hp} {x : V} {ds : List Da} (h : LstAt d M ds) (r : Rp K F d x) (hO : OkH K F M G H) : ∃ a xs, x = .ref a ∧ H a = some (.lst xs) ∧ RpA K F ds xs := by
  cases d with
  | lst es =>
    obtain ⟨a, xs, e1, h1, h2⟩ := rp_lst.mp r
    have e : es = ds := h
    subst e
    exact ⟨a, xs, e1, hO.ex _ _ h1, h2⟩
  | sc v =>
    have e := rp_sc.mp r
    subst e
    cases x with
    | ref p =>
      have hm : M p = some (.lst ds) := h
      obtain ⟨xs, hx, rx⟩ := (hO.mu p _ hm).2
      exact ⟨p, xs, rfl, hx, rx⟩
    | _ => exact h.elim
  | tup es => exact h.elim
  | obj C ns es => exact h.elim
  | ro es => exact h.elim
theorem fin_lst {F G H : Hp} {Q : VK} {ds : List Da} {xs : List V} {p : Addr} (hO : OkH K F M G H) (hp : H p = none) (r : RpA K F ds xs) (q : P (.lst ds) M)
    (k : ∀ v d F' M' H', Same F F' → OkH K F' M' G H' → Rp K F' d v → P d M' → Q v H') : Q (.ref p) (upd H p (.lst xs)) :=
  k _ _ (upd F p (.lst xs)) M _ (sm_new (hO.noF hp)) (hO.new hp) (rp_lst.mpr ⟨p, _, rfl, upd_same, RpA.mono (sm_new (hO.noF hp)) _ _ r⟩) q
theorem fin_tup {F G H : Hp} {Q : VK} {ds : List Da} {xs : List V} {p : Addr} (hO : OkH K F M G H) (hp : H p = none) (r : RpA K F ds xs) (q : P (.tup ds) M)
    (k : ∀ v d F' M' H', Same F F' → OkH K F' M' G H' → Rp K F' d v → P d M' → Q v H') : Q (.ref p) (upd H p (.tup xs)) :=
  k _ _ (upd F p (.tup xs)) M _ (sm_new (hO.noF hp)) (hO.new hp) (rp_tup.mpr ⟨p, _, rfl, .inl (.inl upd_same), RpA.mono (sm_new (hO.noF hp)) _ _ r⟩) q
/-- a new list that is to change -/
theorem fin_cell {F G H : Hp} {Q : VK} {ds : List Da} {xs : List V} {p : Addr} (hO : OkH K F M G H) (hp : H p = none) (r : RpA K F ds xs) (q : ∀ p, M p = none → P (.sc (.ref p)) (updM M p (.lst ds)))
    (k : ∀ v d F' M' H', Same F F' → OkH K F' M' G H' → Rp K F' d v → P d M' → Q v H') : Q (.ref p) (upd H p (.lst xs)) :=
  k _ _ F (updM M p (.lst ds)) _ (Same.refl F) (hO.newM hp ⟨xs, upd_same, r⟩) (rp_sc.mpr rfl) (q p (hO.noM hp))
theorem fin_v {F G H : Hp} {Q : VK} {v : V} (hO : OkH K F M G H) (q : P (.sc v) M) (k : ∀ v d F' M' H', Same F F' → OkH K F' M' G H' → Rp K F' d v → P d M' → Q v H') : Q v H :=
  k _ _ F M _ (Same.refl F) hO (rp_sc.mpr rfl) q
theorem rop_cat {ds es : List Da} (hd : LstAt d M ds) (he : LstAt e M es) (hz : ds.length + es.length ≤ 100000) (q : P (.lst (ds ++ es)) M) : ROp K rCat d e M P := fun x y F G H Q rx ry hO k => by
  obtain ⟨a, xs, rfl, ha, ra⟩ := lstAt hd rx hO
  obtain ⟨b, ys, rfl, hb, rb⟩ := lstAt he ry hO
  have l1 := ra.length
  have l2 := rb.length
  exact ⟨a, b, xs, ys, rfl, rfl, ha, hb, sz_of (by omega), fun p hp => fin_lst hO hp (ra.append rb) q k⟩
theorem rop_rep {ds : List Da} {n : Int} (hd : LstAt d M ds) (h0 : 0 ≤ n) (h1 : n ≤ 1000) (hz : ds.length ≤ 100) (q : P (.lst (List.replicate n.toNat ds).flatten) M) : ROp K rRep d (.sc (.int n)) M P := fun x y F G H Q rx ry hO k => by
  obtain ⟨a, xs, rfl, ha, ra⟩ := lstAt hd rx hO
  have ey := rp_sc.mp ry
  subst ey
  have l1 := ra.length
  have hm : xs.length * n.toNat ≤ 100 * 1000 := Nat.mul_le_mul (by omega) (by omega)
  exact ⟨a, n, xs, rfl, rfl, ha, by omega, by omega, sz_of (by omega), fun p hp => fin_lst hO hp (ra.flatRep _) q k⟩
theorem rop_repT {ds : List Da} {n : Int} (hn : ds ≠ []) (h0 : 2 ≤ n) (h1 : n ≤ 1000) (hz : ds.length ≤ 100) (q : P (.tup (List.replicate n.toNat ds).flatten) M) : ROp K (rRepT K) (.tup ds) (.sc (.int n)) M P := fun x y F G H Q rx ry hO k => by
  obtain ⟨a, xs, rfl, ha, ra⟩ := rp_tup.mp rx
  have ey := rp_sc.mp ry
  subst ey
  have l1 := ra.length
  refine ⟨a, n, xs, rfl, rfl, sqT_mono hO.ex ha, ?_, h0, h1, by omega, fun p hp => fin_tup hO hp (ra.flatRep _) q k⟩
  rintro rfl
  exact hn (List.eq_nil_of_length_eq_zero l1)
/-- a tuple once -/
theorem rop_oneT {ds : List Da} (q : P (.tup ds) M) : ROp K (rOneT K) (.tup ds) (.sc (.int 1)) M P := fun x y F G H Q rx ry hO k => by
  obtain ⟨a, xs, rfl, ha, ra⟩ := rp_tup.mp rx
  have ey := rp_sc.mp ry
  subst ey
  exact ⟨a, xs, rfl, rfl, sqT_mono hO.ex ha, k _ _ F M H (Same.refl F) hO (rp_tup.mpr ⟨a, xs, rfl, ha, ra⟩) q⟩

/-! ### if-expressions, and, or, not -/
theorem ev_if (h : TvP K t ρ M fun b M1 => if b = true then EvP K ta ρ M1 P else EvP K tb ρ M1 P) : EvP K (tIf t ta tb) ρ M P := fun σ F G H Q hE hO k =>
  h σ F G H _ hE hO fun b F1 M1 H1 s1 o1 h1 => by
    cases b with
    | true =>
      show ta σ H1 Q
      exact (show EvP K ta ρ M1 P from h1) σ F1 G H1 Q (hE.mono s1) o1 fun v d F' M' H' s o r p => k v d F' M' H' (s1.trans s) o r p
    | false =>
      show tb σ H1 Q
      exact (show EvP K tb ρ M1 P from h1) σ F1 G H1 Q (hE.mono s1) o1 fun v d F' M' H' s o r p => k v d F' M' H' (s1.trans s) o r p
theorem ev_andV (h : EvP K ta ρ M fun d M1 => ∃ c, d = .sc (.bl c) ∧ if c = true then EvP K tb ρ M1 P else P (.sc (.bl false)) M1) : EvP K (tAndV ta tb) ρ M P := fun σ F G H Q hE hO k =>
  h σ F G H _ hE hO fun v d F1 M1 H1 s1 o1 r1 ⟨c, e, h1⟩ => by
    subst e
    refine ⟨c, rp_sc.mp r1, ?_⟩
    cases c with
    | true =>
      show tb σ H1 Q
      exact (show EvP K tb ρ M1 P from h1) σ F1 G H1 Q (hE.mono s1) o1 fun v d F' M' H' s o r p => k v d F' M' H' (s1.trans s) o r p
    | false =>
      show Q (.bl false) H1
      exact k _ _ F1 M1 H1 s1 o1 (rp_sc.mpr rfl) h1
theorem ev_orV (h : EvP K ta ρ M fun d M1 => ∃ c, d = .sc (.bl c) ∧ if c = true then P (.sc (.bl true)) M1 else EvP K tb ρ M1 P) : EvP K (tOrV ta tb) ρ M P := fun σ F G H Q hE hO k =>
  h σ F G H _ hE hO fun v d F1 M1 H1 s1 o1 r1 ⟨c, e, h1⟩ => by
    subst e
    refine ⟨c, rp_sc.mp r1, ?_⟩
    cases c with
    | true =>
      show Q (.bl true) H1
      exact k _ _ F1 M1 H1 s1 o1 (rp_sc.mpr rfl) h1
    | false =>
      show tb σ H1 Q
      exact (show EvP K tb ρ M1 P from h1) σ F1 G H1 Q (hE.mono s1) o1 fun v d F' M' H' s o r p => k v d F' M' H' (s1.trans s) o r p
theorem ev_notV (h : EvP K ta ρ M fun d M1 => ∃ c, d = .sc (.bl c) ∧ P (.sc (.bl (!c))) M1) : EvP K (tNotV ta) ρ M P := fun σ F G H Q hE hO k =>
  h σ F G H _ hE hO fun v d F1 M1 H1 s1 o1 r1 ⟨c, e, h1⟩ => by
    subst e
    exact ⟨c, rp_sc.mp r1, k _ _ F1 M1 H1 s1 o1 (rp_sc.mpr rfl) h1⟩
/-- a < b < c -/
theorem ev_chain {r r' : R2} (h : EvP K ta ρ M fun d M1 => EvP K tb ρ M1 fun e M2 => ROp K r d e M2 fun z M3 => ∃ c, z = .sc (.bl c) ∧ if c = true then EvP K tc ρ M3 fun f M4 => ROp K r' e f M4 P else P (.sc (.bl false)) M3) : EvP K (tChain r r' ta tb tc) ρ M P := fun σ F G H Q hE hO k =>
  h σ F G H _ hE hO fun x d F1 M1 H1 s1 o1 r1 h1 => h1 σ F1 G H1 _ (hE.mono s1) o1 fun y e F2 M2 H2 s2 o2 r2 h2 =>
    h2 x y F2 G H2 _ (Rp.mono s2 _ _ r1) r2 o2 fun v d' F3 M3 H3 s3 o3 r3 ⟨c, e1, h3⟩ => by
      subst e1
      refine ⟨c, rp_sc.mp r3, ?_⟩
      cases c with
      | true =>
        rw [if_pos rfl]
        exact (show EvP K tc ρ M3 _ from h3) σ F3 G H3 _ (hE.mono ((s1.trans s2).trans s3)) o3 fun z f F4 M4 H4 s4 o4 r4 h4 =>
          h4 y z F4 G H4 Q (Rp.mono (s3.trans s4) _ _ r2) r4 o4 fun v d F' M' H' s o r p => k v d F' M' H' ((((s1.trans s2).trans s3).trans s4).trans s) o r p
      | false =>
        rw [if_neg Bool.false_ne_true]
        exact k _ _ F3 M3 H3 ((s1.trans s2).trans s3) o3 (rp_sc.mpr rfl) h3

/-! ### tests -/
theorem tv_test (h : EvP K ta ρ M fun d M1 => ∃ c, d = .sc (.bl c) ∧ PB c M1) : TvP K (tTest ta) ρ M PB := fun σ F G H Q hE hO k =>
  h σ F G H _ hE hO fun v d F1 M1 H1 s1 o1 r1 ⟨c, e, h1⟩ => by
    subst e
    exact ⟨c, rp_sc.mp r1, k c F1 M1 H1 s1 o1 h1⟩
theorem tv_B (h : EvP K ta ρ M fun d M1 => ∃ c, d = .sc (.bl c) ∧ PB c M1) : TvP K (tB ta) ρ M PB := tv_test h
theorem tv_and (h : TvP K t ρ M fun b M1 => if b = true then TvP K u ρ M1 PB else PB false M1) : TvP K (tAnd t u) ρ M PB := fun σ F G H Q hE hO k =>
  h σ F G H _ hE hO fun b F1 M1 H1 s1 o1 h1 => by
    cases b with
    | true =>
      show u σ H1 Q
      exact (show TvP K u ρ M1 PB from h1) σ F1 G H1 Q (hE.mono s1) o1 fun b F' M' H' s o p => k b F' M' H' (s1.trans s) o p
    | false =>
      show Q false H1
      exact k _ F1 M1 H1 s1 o1 h1
theorem tv_or (h : TvP K t ρ M fun b M1 => if b = true then PB true M1 else TvP K u ρ M1 PB) : TvP K (tOr t u) ρ M PB := fun σ F G H Q hE hO k =>
  h σ F G H _ hE hO fun b F1 M1 H1 s1 o1 h1 => by
    cases b with
    | true =>
      show Q true H1
      exact k _ F1 M1 H1 s1 o1 h1
    | false =>
      show u σ H1 Q
      exact (show TvP K u ρ M1 PB from h1) σ F1 G H1 Q (hE.mono s1) o1 fun b F' M' H' s o p => k b F' M' H' (s1.trans s) o p
theorem tv_not (h : TvP K t ρ M fun b M1 => PB (!b) M1) : TvP K (tNot t) ρ M PB := fun σ F G H Q hE hO k =>
  h σ F G H _ hE hO fun b F1 M1 H1 s1 o1 h1 => k (!b) F1 M1 H1 s1 o1 h1
theorem tv_yes (h : PB true M) : TvP K tYes ρ M PB := fun σ F G H Q hE hO k => k true F M H (Same.refl F) hO h
/-- by truth -/
theorem truV {F G H : Hp} {x : V} {b : Bool} (h : Tru d M b) (r : Rp K F d x) (hO : OkH K F M G H) : TruV K x H b := by
  cases d with
  | sc v =>
    have e := rp_sc.mp r
    subst e
    cases x with
    | non => exact h
    | bl c => exact h
    | int i => exact h
    | ref a =>
      have h' : (match M a with | some (.lst ds) => b = !ds.isEmpty | _ => False) := h
      cases hm : M a with
      | none =>
        rw [hm] at h'
        exact h'.elim
      | some o =>
        rw [hm] at h'
        cases o with
        | lst ds =>
          obtain ⟨xs, hx, rx⟩ := (hO.mu a _ hm).2
          refine .inl ⟨xs, .inl (.inl hx), ?_⟩
          have e : b = !ds.isEmpty := h'
          have l := rx.length
          rw [e]
          cases ds <;> cases xs <;> simp_all
        | _ => exact h'.elim
    | _ => exact h.elim
  | tup ds =>
    obtain ⟨a, xs, rfl, hs, rx⟩ := rp_tup.mp r
    refine .inr (.inl ⟨xs, sqT_mono hO.ex hs, ?_⟩)
    have e : b = !ds.isEmpty := h
    have l := rx.length
    rw [e]
    cases ds <;> cases xs <;> simp_all
  | lst ds =>
    obtain ⟨a, xs, rfl, hs, rx⟩ := rp_lst.mp r
    refine .inl ⟨xs, .inl (.inl (hO.ex _ _ hs)), ?_⟩
    have e : b = !ds.isEmpty := h
    have l := rx.length
    rw [e]
    cases ds <;> cases xs <;> simp_all
  | obj C ns ds => exact h.elim
  | ro ds => exact h.elim
theorem tv_tru (h : EvP K ta ρ M fun d M1 => ∃ b, Tru d M1 b ∧ PB b M1) : TvP K (fun σ H Q => ta σ H fun x H' => ∃ k, TruV K x H' k ∧ Q k H') ρ M PB := fun σ F G H Q hE hO k =>
  h σ F G H _ hE hO fun v d F1 M1 H1 s1 o1 r1 ⟨b, hb, h1⟩ => ⟨b, truV hb r1 o1, k b F1 M1 H1 s1 o1 h1⟩

/-! ### arguments, displays -/
theorem av_nil {PA : List Da → MH → Prop} (q : PA [] M) : AvP K tNil ρ M PA := fun σ F G H Q hE hO k => k [] [] F M H (Same.refl F) hO RpA.nil_ q
theorem av_cons {ta : TE} {tr : TA} {PA : List Da → MH → Prop} (h : EvP K ta ρ M fun d M1 => AvP K tr ρ M1 fun ds M2 => PA (d :: ds) M2) : AvP K (tCons ta tr) ρ M PA := fun σ F G H Q hE hO k =>
  h σ F G H _ hE hO fun v d F1 M1 H1 s1 o1 r1 h1 => h1 σ F1 G H1 _ (hE.mono s1) o1 fun vs ds F2 M2 H2 s2 o2 r2 h2 =>
    k (v :: vs) (d :: ds) F2 M2 H2 (s1.trans s2) o2 (RpA.cons_ (Rp.mono s2 _ _ r1) r2) h2
theorem ev_tup {ta : TA} (h : AvP K ta ρ M fun ds M1 => ds.length ≤ 100000 ∧ P (.tup ds) M1) : EvP K (tTup ta) ρ M P := fun σ F G H Q hE hO k =>
  h σ F G H _ hE hO fun vs ds F1 M1 H1 s1 o1 r1 ⟨hl, p⟩ => ⟨sz_of (by rw [← r1.length]; exact hl), fun a ha => fin_tup (P := P) o1 ha r1 p fun v d F' M' H' s o r p' => k v d F' M' H' (s1.trans s) o r p'⟩
theorem ev_lst {ta : TA} (h : AvP K ta ρ M fun ds M1 => ds.length ≤ 100000 ∧ P (.lst ds) M1) : EvP K (tLst ta) ρ M P := fun σ F G H Q hE hO k =>
  h σ F G H _ hE hO fun vs ds F1 M1 H1 s1 o1 r1 ⟨hl, p⟩ => ⟨sz_of (by rw [← r1.length]; exact hl), fun a ha => fin_lst (P := P) o1 ha r1 p fun v d F' M' H' s o r p' => k v d F' M' H' (s1.trans s) o r p'⟩
theorem ev_lstM {ta : TA} (h : AvP K ta ρ M fun ds M1 => ds.length ≤ 100000 ∧ ∀ p, M1 p = none → P (.sc (.ref p)) (updM M1 p (.lst ds))) : EvP K (tLst ta) ρ M P := fun σ F G H Q hE hO k =>
  h σ F G H _ hE hO fun vs ds F1 M1 H1 s1 o1 r1 ⟨hl, p⟩ => ⟨sz_of (by rw [← r1.length]; exact hl), fun a ha => fin_cell (P := P) o1 ha r1 p fun v d F' M' H' s o r p' => k v d F' M' H' (s1.trans s) o r p'⟩

/-! ### fields -/
/-- the thing's class, names, fields -/
def InsAt (d : Da) (M : MH) (C : Addr) (ns : List Str) (ds : List Da) : Prop := match d with
  | .obj C' ns' ds' => C' = C ∧ ns' = ns ∧ ds' = ds
  | .sc (.ref p) => M p = some (.ins C ns ds)
  | _ => False
theorem insAt {F G H : Hp} {x : V} {C : Addr} {ns : List Str} {ds : List Da} (h : InsAt d M C ns ds) (r : Rp K F d x) (hO : OkH K F M G H) : ∃ a dx xs, x = .ref a ∧ H a = some (.ins C dx (ns.zip xs)) ∧ RpA K F ds xs := by
  cases d with
  | obj C' ns' ds' =>
    obtain ⟨a, dx, xs, e1, h1, h2⟩ := rp_obj.mp r
    obtain ⟨rfl, rfl, rfl⟩ := h
    exact ⟨a, dx, xs, e1, hO.ex _ _ h1, h2⟩
  | sc v =>
    have e := rp_sc.mp r
    subst e
    cases x with
    | ref p =>
      have hm : M p = some (.ins C ns ds) := h
      obtain ⟨dx, xs, hx, _, rx⟩ := (hO.mu p _ hm).2
      exact ⟨p, dx, xs, rfl, hx, rx⟩
    | _ => exact h.elim
  | ro es => exact h.elim
  | tup es => exact h.elim
  | lst es => exact h.elim
def fldD (f : Str) : List Str → List Da → Option Da
  | n :: ns, d :: ds => if f = n then some d else fldD f ns ds
  | _, _ => none
theorem fld_lookup {F : Hp} {f : Str} : ∀ {ns : List Str} {ds : List Da} {xs : List V}, RpA K F ds xs → fldD f ns ds = some d → ∃ v, (ns.zip xs).lookup f = some v ∧ Rp K F d v
  | [], ds, xs, _, h => by cases h
  | n :: ns, [], xs, _, h => by cases h
  | n :: ns, d0 :: ds, xs, r, h => by
    obtain ⟨y, ys, e1, h1, h2⟩ := rpA_cons.mp r
    subst e1
    unfold fldD at h
    rw [List.zip_cons_cons, List.lookup_cons]
    by_cases hf : f = n
    · rw [if_pos hf] at h
      cases h
      exact ⟨y, by rw [show (f == n) = true from beq_iff_eq.mpr hf], h1⟩
    · rw [if_neg hf] at h
      obtain ⟨v, e, rv⟩ := fld_lookup h2 h
      exact ⟨v, by rw [show (f == n) = false from beq_eq_false_iff_ne.mpr hf]; exact e, rv⟩
theorem ev_fld {f : Str} {C : Addr} {ns : List Str} (c : Cls K C) (n : NoAttr K C f) (h : EvP K ta ρ M fun d M1 => ∃ ds z, InsAt d M1 C ns ds ∧ fldD f ns ds = some z ∧ P z M1) : EvP K (tFld K ta f) ρ M P := fun σ F G H Q hE hO k =>
  h σ F G H _ hE hO fun v d F1 M1 H1 s1 o1 r1 ⟨ds, z, hi, hf, p⟩ => by
    obtain ⟨a, dx, xs, rfl, hx, rx⟩ := insAt hi r1 o1
    obtain ⟨w, hw, rw'⟩ := fld_lookup rx hf
    exact ⟨a, C, dx, _, w, rfl, hx, c, n, hw, k w z F1 M1 H1 s1 o1 rw' p⟩

/-! ### calls -/
abbrev Spd := List Da → MH → (Da → MH → Prop) → Prop
/-- a promise by data -/
def spOf (K : PySem.W.Frag) (S : Spd) : Sp := fun vs H Q _ => ∃ F G M ds P, RpA K F ds vs ∧ OkH K F M G H ∧ S ds M P ∧ ∀ v d F' M' H', Same F F' → OkH K F' M' G H' → Rp K F' d v → P d M' → Q v H'
theorem ev_call {S : Spd} {E : XK} {ta : TA} (h : AvP K ta ρ M fun ds M1 => S ds M1 P) : EvP K (tCall (spOf K S) [] E ta) ρ M P := fun σ F G H Q hE hO k =>
  h σ F G H _ hE hO fun vs ds F1 M1 H1 s1 o1 r1 p => ⟨F1, G, M1, ds, P, by rw [List.append_nil]; exact r1, o1, p, fun v d F' M' H' s o r p' => k v d F' M' H' (s1.trans s) o r p'⟩
theorem lookup_none {m : Str} : ∀ {ns : List Str} {xs : List V}, m ∉ ns → (ns.zip xs).lookup m = none
  | [], _, _ => rfl
  | n :: ns, [], _ => rfl
  | n :: ns, x :: xs, h => by
    rw [List.zip_cons_cons, List.lookup_cons]
    have h1 : m ≠ n := fun e => h (by rw [e]; exact List.mem_cons_self)
    rw [show (m == n) = false from beq_eq_false_iff_ne.mpr h1]
    exact lookup_none fun z => h (List.mem_cons_of_mem _ z)
theorem ev_meth {S : Spd} {E : XK} {ta : TE} {tr : TA} {C : Addr} {m : Str} (h : EvP K ta ρ M fun d M1 => ∃ ns es, InsAt d M1 C ns es ∧ m ∉ ns ∧ AvP K tr ρ M1 fun ds M2 => S (d :: ds) M2 P) : EvP K (tMeth C m (spOf K S) [] E ta tr) ρ M P := fun σ F G H Q hE hO k =>
  h σ F G H _ hE hO fun v d F1 M1 H1 s1 o1 r1 ⟨ns, es, hi, hm, h1⟩ => by
    obtain ⟨a, dx, xs, rfl, hx, rx⟩ := insAt hi r1 o1
    refine ⟨a, dx, _, rfl, hx, lookup_none hm, ?_⟩
    exact h1 σ F1 G H1 _ (hE.mono s1) o1 fun vs ds F2 M2 H2 s2 o2 r2 p => ⟨F2, G, M2, d :: ds, P, by rw [List.append_nil]; exact RpA.cons_ (Rp.mono s2 _ _ r1) r2, o2, p, fun v d F' M' H' s o r p' => k v d F' M' H' ((s1.trans s2).trans s) o r p'⟩
theorem ev_make {S : Spd} {E : XK} {ta : TA} {C : Addr} (h : AvP K ta ρ M fun ds M1 => ∀ x, M1 x = none → S (.sc (.ref x) :: ds) (updM M1 x (.ins C [] [])) fun d M2 => d = .sc .non ∧ P (.sc (.ref x)) M2) : EvP K (tMake C (spOf K S) [] E ta) ρ M P := fun σ F G H Q hE hO k =>
  h σ F G H _ hE hO fun vs ds F1 M1 H1 s1 o1 r1 p => fun x dx nx ndx ne => by
    have o2 : OkH K F1 M1 G (upd H1 dx (.own x)) := ⟨sm_right o1.ex (o1.noF ndx), fun a o e => by
      obtain ⟨h1, h2⟩ := o1.mu a o e
      obtain ⟨z, hz⟩ := h2.here
      exact ⟨h1, h2.mono (Same.refl F1) (upd_ne (ne_of_none hz ndx))⟩, sm_right o1.gx (o1.noG ndx), o1.gd⟩
    have nx2 : upd H1 dx (.own x) x = none := by rw [upd_ne (Ne.symm ne)]; exact nx
    have o3 : OkH K F1 (updM M1 x (.ins C [] [])) G (upd (upd H1 dx (.own x)) x (.ins C dx [])) := o2.newM nx2 ⟨dx, [], upd_same, rfl, RpA.nil_⟩
    refine ⟨F1, G, _, .sc (.ref x) :: ds, fun d M2 => d = .sc .non ∧ P (.sc (.ref x)) M2, by rw [List.append_nil]; exact RpA.cons_ (rp_sc.mpr rfl) r1, o3, p x (o1.noM nx), fun v d F' M' H' s o r p' => ?_⟩
    obtain ⟨e, p'⟩ := p'
    subst e
    exact ⟨rp_sc.mp r, k (.ref x) (.sc (.ref x)) F' M' H' (s1.trans s) o (rp_sc.mpr rfl) p'⟩

/-! ### built-in functions -/
theorem ev_cb {r : List V → Hp → VK → Prop} {ta : TA} (h : AvP K ta ρ M fun ds M1 => RCl K r ds M1 P) : EvP K (tCB r ta) ρ M P := fun σ F G H Q hE hO k =>
  h σ F G H _ hE hO fun vs ds F1 M1 H1 s1 o1 r1 p => p vs F1 G H1 Q r1 o1 fun v d F' M' H' s o r p' => k v d F' M' H' (s1.trans s) o r p'
theorem rpA_one {F : Hp} {xs : List V} (h : RpA K F [d] xs) : ∃ x, xs = [x] ∧ Rp K F d x := by
  obtain ⟨y, ys, e1, h1, h2⟩ := rpA_cons.mp h
  rw [rpA_nil.mp h2] at e1
  exact ⟨y, e1, h1⟩
theorem rpA_two {F : Hp} {xs : List V} (h : RpA K F [d, e] xs) : ∃ x y, xs = [x, y] ∧ Rp K F d x ∧ Rp K F e y := by
  obtain ⟨y, ys, e1, h1, h2⟩ := rpA_cons.mp h
  obtain ⟨x, e2, h3⟩ := rpA_one h2
  rw [e2] at e1
  exact ⟨y, x, e1, h1, h3⟩
/-- how long -/
def LenAt (d : Da) (M : MH) (n : Nat) : Prop := match d with
  | .tup ds => n = ds.length
  | .lst ds => n = ds.length
  | .sc (.ref p) => ∃ ds, M p = some (.lst ds) ∧ n = ds.length
  | _ => False
abbrev rLen (K : PySem.W.Frag) : List V → Hp → VK → Prop := fun xs H Q => ∃ x n, xs = [x] ∧ LenV K x H n ∧ Q (.int n) H
theorem rcl_len {n : Nat} (h : LenAt d M n) (q : P (.sc (.int n)) M) : RCl K (rLen K) [d] M P := fun xs F G H Q rx hO k => by
  obtain ⟨x, rfl, r⟩ := rpA_one rx
  refine ⟨x, n, rfl, ?_, fin_v hO q k⟩
  cases d with
  | tup ds =>
    obtain ⟨a, xs, rfl, hs, rx⟩ := rp_tup.mp r
    exact .inr ⟨xs, sqT_mono hO.ex hs, (show n = ds.length from h).trans rx.length⟩
  | lst ds =>
    obtain ⟨a, xs, rfl, hs, rx⟩ := rp_lst.mp r
    exact .inl ⟨xs, .inl (.inl (hO.ex _ _ hs)), (show n = ds.length from h).trans rx.length⟩
  | obj C ns ds => exact h.elim
  | ro ds => exact h.elim
  | sc v =>
    have e := rp_sc.mp r
    subst e
    cases x with
    | ref p =>
      obtain ⟨ds, hm, hn⟩ := (show ∃ ds, M p = some (.lst ds) ∧ n = ds.length from h)
      obtain ⟨xs, hx, rx⟩ := (hO.mu p _ hm).2
      exact .inl ⟨xs, .inl (.inl hx), hn.trans rx.length⟩
    | _ => exact h.elim
abbrev rInt : List V → Hp → VK → Prop := fun xs H Q => (∃ i, xs = [.int i] ∧ Q (.int i) H) ∨ ∃ k, xs = [.bl k] ∧ Q (.int (if k then 1 else 0)) H
theorem rcl_int {z : Int} (q : P (.sc (.int z)) M) : RCl K rInt [.sc (.int z)] M P := fun xs F G H Q rx hO k => by
  obtain ⟨x, rfl, r⟩ := rpA_one rx
  have e := rp_sc.mp r
  subst e
  exact .inl ⟨z, rfl, fin_v hO q k⟩
theorem rcl_intB {b : Bool} (q : P (.sc (.int (if b then 1 else 0))) M) : RCl K rInt [.sc (.bl b)] M P := fun xs F G H Q rx hO k => by
  obtain ⟨x, rfl, r⟩ := rpA_one rx
  have e := rp_sc.mp r
  subst e
  exact .inr ⟨b, rfl, fin_v hO q k⟩
/-- sum, max of ints; max, min of two -/
theorem ints_of {F G H : Hp} {x : V} {ns : List Int} (h : LstAt d M (ns.map fun n => Da.sc (.int n))) (r : Rp K F d x) (hO : OkH K F M G H) : ∃ a, x = .ref a ∧ SqL K H a (ns.map V.int) := by
  obtain ⟨a, xs, e, hx, rx⟩ := lstAt h r hO
  have : (ns.map fun n => Da.sc (.int n)) = (ns.map V.int).map Da.sc := by rw [List.map_map] <;> rfl
  rw [this] at rx
  have e2 := rpA_sc.mp rx
  subst e2
  exact ⟨a, e, .inl (.inl hx)⟩
theorem rcl_sum {ns : List Int} (h : LstAt d M (ns.map fun n => Da.sc (.int n))) (q : P (.sc (.int ns.sum)) M) : RCl K (rSum K) [d] M P := fun xs F G H Q rx hO k => by
  obtain ⟨x, rfl, r⟩ := rpA_one rx
  obtain ⟨a, rfl, hs⟩ := ints_of h r hO
  exact ⟨a, ns, rfl, hs, fin_v hO q k⟩
theorem rcl_max {ns : List Int} (h : LstAt d M (ns.map fun n => Da.sc (.int n))) (h0 : 0 < ns.length) (q : ∀ m, m ∈ ns → (∀ y, y ∈ ns → y ≤ m) → P (.sc (.int m)) M) : RCl K (rMax K) [d] M P := fun xs F G H Q rx hO k => by
  obtain ⟨x, rfl, r⟩ := rpA_one rx
  obtain ⟨a, rfl, hs⟩ := ints_of h r hO
  exact ⟨a, ns, rfl, hs, h0, fun m hm hle => fin_v hO (q m hm hle) k⟩
abbrev rMx2 : List V → Hp → VK → Prop := fun xs H Q => ∃ i j, xs = [.int i, .int j] ∧ Q (.int (if j > i then j else i)) H
abbrev rMn2 : List V → Hp → VK → Prop := fun xs H Q => ∃ i j, xs = [.int i, .int j] ∧ Q (.int (if j < i then j else i)) H
theorem rcl_max2 {a b : Int} (q : P (.sc (.int (max a b))) M) : RCl K rMx2 [.sc (.int a), .sc (.int b)] M P := fun xs F G H Q rx hO k => by
  obtain ⟨x, y, rfl, r1, r2⟩ := rpA_two rx
  have e1 := rp_sc.mp r1
  have e2 := rp_sc.mp r2
  subst e1 e2
  refine ⟨a, b, rfl, ?_⟩
  have e : (if b > a then b else a) = max a b := by split <;> omega
  rw [e]
  exact fin_v hO q k
theorem rcl_min2 {a b : Int} (q : P (.sc (.int (min a b))) M) : RCl K rMn2 [.sc (.int a), .sc (.int b)] M P := fun xs F G H Q rx hO k => by
  obtain ⟨x, y, rfl, r1, r2⟩ := rpA_two rx
  have e1 := rp_sc.mp r1
  have e2 := rp_sc.mp r2
  subst e1 e2
  refine ⟨a, b, rfl, ?_⟩
  have e : (if b < a then b else a) = min a b := by split <;> omega
  rw [e]
  exact fin_v hO q k
theorem rcl_any {bs : List Bool} (h : LstAt d M (bs.map fun n => Da.sc (.bl n))) (q : P (.sc (.bl (bs.any id))) M) : RCl K (rAny K) [d] M P := fun xs F G H Q rx hO k => by
  obtain ⟨x, rfl, r⟩ := rpA_one rx
  obtain ⟨a, xs, rfl, hx, rx⟩ := lstAt h r hO
  have : (bs.map fun n => Da.sc (.bl n)) = (bs.map V.bl).map Da.sc := by rw [List.map_map] <;> rfl
  rw [this] at rx
  have e2 := rpA_sc.mp rx
  subst e2
  exact ⟨a, bs, rfl, .inl (.inl hx), fin_v hO q k⟩
/-- a sequence's items -/
def SeqAt (d : Da) (M : MH) (ds : List Da) : Prop := match d with
  | .tup es => es = ds
  | .ro es => es = ds
  | _ => LstAt d M ds
theorem seqAt {F G H : Hp} {x : V} {ds : List Da} (h : SeqAt d M ds) (r : Rp K F d x) (hO : OkH K F M G H) : ∃ a xs, x = .ref a ∧ (SqL K H a xs ∨ SqT K H a xs) ∧ RpA K F ds xs := by
  cases d with
  | tup es =>
    obtain ⟨a, xs, e1, h1, h2⟩ := rp_tup.mp r
    have e : es = ds := h
    subst e
    exact ⟨a, xs, e1, .inr (sqT_mono hO.ex h1), h2⟩
  | lst es =>
    obtain ⟨a, xs, e1, h1, h2⟩ := lstAt (d := .lst es) h r hO
    exact ⟨a, xs, e1, .inl (.inl (.inl h1)), h2⟩
  | sc v =>
    obtain ⟨a, xs, e1, h1, h2⟩ := lstAt (d := .sc v) h r hO
    exact ⟨a, xs, e1, .inl (.inl (.inl h1)), h2⟩
  | obj C ns es => exact h.elim
  | ro es =>
    obtain ⟨a, xs, e1, h1, h2⟩ := rp_ro.mp r
    have e : es = ds := h
    subst e
    exact ⟨a, xs, e1, .inl (sqL_mono hO.ex h1), h2⟩
abbrev rList (K : PySem.W.Frag) : List V → Hp → VK → Prop := fun xs H Q => ∃ p ys, xs = [.ref p] ∧ (SqL K H p ys ∨ SqT K H p ys) ∧ ∀ l, H l = none → Q (.ref l) (upd H l (.lst ys))
abbrev rTuple (K : PySem.W.Frag) : List V → Hp → VK → Prop := fun xs H Q => ∃ p ys, xs = [.ref p] ∧ ((SqL K H p ys ∧ ∀ l, H l = none → Q (.ref l) (upd H l (.tup ys))) ∨ (SqT K H p ys ∧ Q (.ref p) H))
theorem rcl_list {ds : List Da} (h : SeqAt d M ds) (q : P (.lst ds) M) : RCl K (rList K) [d] M P := fun xs F G H Q rx hO k => by
  obtain ⟨x, rfl, r⟩ := rpA_one rx
  obtain ⟨a, ys, rfl, hs, ry⟩ := seqAt h r hO
  exact ⟨a, ys, rfl, hs, fun l hl => fin_lst hO hl ry q k⟩
theorem rcl_listM {ds : List Da} (h : SeqAt d M ds) (q : ∀ p, M p = none → P (.sc (.ref p)) (updM M p (.lst ds))) : RCl K (rList K) [d] M P := fun xs F G H Q rx hO k => by
  obtain ⟨x, rfl, r⟩ := rpA_one rx
  obtain ⟨a, ys, rfl, hs, ry⟩ := seqAt h r hO
  exact ⟨a, ys, rfl, hs, fun l hl => fin_cell hO hl ry q k⟩
theorem rcl_tuple {ds : List Da} (h : SeqAt d M ds) (q : P (.tup ds) M) : RCl K (rTuple K) [d] M P := fun xs F G H Q rx hO k => by
  obtain ⟨x, rfl, r⟩ := rpA_one rx
  cases d with
  | tup es =>
    obtain ⟨a, xs, rfl, h1, h2⟩ := rp_tup.mp r
    have e : es = ds := h
    subst e
    exact ⟨a, xs, rfl, .inr ⟨sqT_mono hO.ex h1, k _ _ F M H (Same.refl F) hO (rp_tup.mpr ⟨a, xs, rfl, h1, h2⟩) q⟩⟩
  | lst es =>
    obtain ⟨a, xs, rfl, h1, h2⟩ := lstAt (d := .lst es) h r hO
    exact ⟨a, xs, rfl, .inl ⟨.inl (.inl h1), fun l hl => fin_tup hO hl h2 q k⟩⟩
  | sc v =>
    obtain ⟨a, xs, rfl, h1, h2⟩ := lstAt (d := .sc v) h r hO
    exact ⟨a, xs, rfl, .inl ⟨.inl (.inl h1), fun l hl => fin_tup hO hl h2 q k⟩⟩
  | obj C ns es => exact h.elim
  | ro es =>
    obtain ⟨a, xs, rfl, h1, h2⟩ := rp_ro.mp r
    have e : es = ds := h
    subst e
    exact ⟨a, xs, rfl, .inl ⟨sqL_mono hO.ex h1, fun l hl => fin_tup hO hl h2 q k⟩⟩
/-- isinstance with a built-in class -/
def tyD : Da → Option String
  | .sc .non => some "NoneType"
  | .sc (.bl _) => some "bool"
  | .sc (.int _) => some "int"
  | .sc (.str _) => some "str"
  | .tup _ => some "tuple"
  | .lst _ => some "list"
  | _ => none
theorem tyX {F G H : Hp} {x : V} {T : String} (h : tyD d = some T) (r : Rp K F d x) (hO : OkH K F M G H) : TyX K H x (.type T) := by
  cases d with
  | sc v =>
    have e := rp_sc.mp r
    subst e
    cases x with
    | non => cases h; exact .base .non
    | bl b => cases h; exact .base (.bl b)
    | int b => cases h; exact .base (.int b)
    | str b => cases h; exact .base (.str b)
    | _ => cases h
  | tup ds =>
    cases h
    obtain ⟨a, xs, rfl, h1, h2⟩ := rp_tup.mp r
    rcases h1 with (h1 | ⟨o, h1⟩) | ⟨o, its, n, h1, h3, _⟩
    · exact .base (.tup (hO.ex _ _ h1))
    · exact .fTuple (hO.ex _ _ h1)
    · exact .kTuple h1 h3
  | lst ds =>
    cases h
    obtain ⟨a, xs, rfl, h1, h2⟩ := rp_lst.mp r
    exact .base (.lst (hO.ex _ _ h1))
  | obj C ns ds => cases h
  | ro ds => cases h
theorem rcl_isi {T U : String} {b : Bool} (h : tyD d = some T) (hk : kitB T U = some b) (q : P (.sc (.bl b)) M) : RCl K (rIsi K) [d, .sc (.ty U)] M P := fun xs F G H Q rx hO k => by
  obtain ⟨x, y, rfl, r1, r2⟩ := rpA_two rx
  have e2 := rp_sc.mp r2
  subst e2
  exact ⟨x, .ty U, .type T, .type U, b, rfl, .ty U, tyX h r1 hO, kit_ty hk, fin_v hO q k⟩
end
end Dl

namespace Dl
open PySem PySem.Spec L2
section
variable {K : PySem.W.Frag} {ρ : Env'} {M M1 : MH} {ta tb tc te : TE} {t u : TT} {ts us : TS} {P : Da → MH → Prop} {PB : Bool → MH → Prop} {D : DE} {d e : Da} {i : Nat}

theorem putL {F G H : Hp} {p : Addr} {u : MO} {ds : List Da} {xs : List V} (hO : OkH K F M G H) (hm : M p = some u) (r : RpA K F ds xs) : OkH K F (updM M p (.lst ds)) G (upd H p (.lst xs)) := hO.put (u' := .lst ds) hm ⟨xs, upd_same, r⟩
theorem putI {F G H : Hp} {p C dx : Addr} {u : MO} {ns : List Str} {ds : List Da} {xs : List V} (hO : OkH K F M G H) (hm : M p = some u) (hl : ns.length = xs.length) (r : RpA K F ds xs) : OkH K F (updM M p (.ins C ns ds)) G (upd H p (.ins C dx (ns.zip xs))) := hO.put (u' := .ins C ns ds) hm ⟨dx, xs, upd_same, hl, r⟩
theorem putDK {F G H : Hp} {p : Addr} {u : MO} {kvs : List (Key × Da)} {ys : List (Key × V)} (hO : OkH K F M G H) (hm : M p = some u) (r : RpK K F kvs ys) : OkH K F (updM M p (.dK kvs)) G (upd H p (.dK ys)) := hO.put (u' := .dK kvs) hm ⟨ys, upd_same, r⟩
/-! ### statements -/
theorem Match.mono {F F' G : Hp} {D0 : Ends} (m : Match K F G D D0) (s : Same F F') : Match K F' G D D0 :=
  ⟨fun σ ρ F2 M2 H2 s2 => m.nx σ ρ F2 M2 H2 (s.trans s2), fun v d F2 M2 H2 s2 => m.rt v d F2 M2 H2 (s.trans s2), fun σ ρ F2 M2 H2 s2 => m.bk σ ρ F2 M2 H2 (s.trans s2), fun σ ρ F2 M2 H2 s2 => m.ct σ ρ F2 M2 H2 (s.trans s2)⟩
theorem stp_mono {D' : DE} (h : StP K ts ρ M D) (h1 : ∀ ρ' M', D.nx ρ' M' → D'.nx ρ' M') (h2 : ∀ d M', D.rt d M' → D'.rt d M') (h3 : ∀ ρ' M', D.bk ρ' M' → D'.bk ρ' M') (h4 : ∀ ρ' M', D.ct ρ' M' → D'.ct ρ' M') : StP K ts ρ M D' :=
  fun σ F G H D0 hE hO m => h σ F G H D0 hE hO ⟨fun σ ρ F2 M2 H2 s e o p => m.nx σ ρ F2 M2 H2 s e o (h1 _ _ p), fun v d F2 M2 H2 s o r p => m.rt v d F2 M2 H2 s o r (h2 _ _ p), fun σ ρ F2 M2 H2 s e o p => m.bk σ ρ F2 M2 H2 s e o (h3 _ _ p), fun σ ρ F2 M2 H2 s e o p => m.ct σ ρ F2 M2 H2 s e o (h4 _ _ p)⟩
/-- fewer cells are told at the ends -/
theorem stp_sub {N : MH → MH → Prop} (hN : ∀ M M', N M M' → SubM M' M) (h : StP K ts ρ M ⟨fun ρ' M' => ∃ M'', N M' M'' ∧ D.nx ρ' M'', fun d M' => ∃ M'', N M' M'' ∧ D.rt d M'', fun ρ' M' => ∃ M'', N M' M'' ∧ D.bk ρ' M'', fun ρ' M' => ∃ M'', N M' M'' ∧ D.ct ρ' M''⟩) : StP K ts ρ M D :=
  fun σ F G H D0 hE hO m => h σ F G H D0 hE hO ⟨fun σ ρ F2 M2 H2 s e o ⟨M'', n, p⟩ => m.nx σ ρ F2 M'' H2 s e (o.sub (hN _ _ n)) p, fun v d F2 M2 H2 s o r ⟨M'', n, p⟩ => m.rt v d F2 M'' H2 s (o.sub (hN _ _ n)) r p,
    fun σ ρ F2 M2 H2 s e o ⟨M'', n, p⟩ => m.bk σ ρ F2 M'' H2 s e (o.sub (hN _ _ n)) p, fun σ ρ F2 M2 H2 s e o ⟨M'', n, p⟩ => m.ct σ ρ F2 M'' H2 s e (o.sub (hN _ _ n)) p⟩
theorem stp_forget (h : StP K ts (ρ.set i none) M D) : StP K ts ρ M D := fun σ F G H D0 hE hO m => by
  have := hE.forget i (σ.getD i none)
  have e : σ.set i (σ.getD i none) = σ := by
    apply List.ext_getElem?
    intro j
    by_cases hj : i = j
    · subst hj
      by_cases hi : i < σ.length
      · rw [List.getElem?_set_self hi, List.getD_eq_getElem?_getD, List.getElem?_eq_getElem hi] <;> rfl
      · rw [List.getElem?_eq_none (by rw [List.length_set]; omega), List.getElem?_eq_none (by omega)]
    · rw [List.getElem?_set_ne hj]
  rw [e] at this
  exact h σ F G H D0 this hO m
/-- the list at the cell p, that the slot i holds, changes no more -/
theorem stp_frzL {p : Addr} {ds : List Da} (hi : ρ[i]? = some (some (.sc (.ref p)))) (hm : M p = some (.lst ds)) (h : StP K ts (ρ.set i (some (.lst ds))) (delM M p) D) : StP K ts ρ M D := fun σ F G H D0 hE hO m => by
  obtain ⟨v, ev, r⟩ := hE.at_ i _ hi
  have e := rp_sc.mp r
  subst e
  obtain ⟨xs, hx, rx⟩ := (hO.mu p _ hm).2
  have s := sm_freeze (o := .lst xs) hO hm
  have hE2 := (hE.mono s).set i (rp_lst.mpr ⟨p, xs, rfl, upd_same, RpA.mono s _ _ rx⟩)
  have e : σ.set i (some (.ref p)) = σ := by
    apply List.ext_getElem?
    intro j
    by_cases hj : i = j
    · subst hj
      rw [List.getElem?_set_self (List.getElem?_eq_some_iff.mp ev).1, ev]
    · rw [List.getElem?_set_ne hj]
  rw [e] at hE2
  exact h σ _ G H D0 hE2 (hO.freeze hm hx) (m.mono s)
theorem stp_seq (h : StP K ts ρ M { D with nx := fun ρ' M' => StP K us ρ' M' D }) : StP K (tSeq ts us) ρ M D := fun σ F G H D0 hE hO m =>
  h σ F G H { D0 with nx := us D0 } hE hO ⟨fun σ' ρ' F' M' H' s e o p => p σ' F' G H' D0 e o (m.mono s), m.rt, m.bk, m.ct⟩
theorem stp_next (h : D.nx ρ M) : StP K tNext ρ M D := fun σ F G H D0 hE hO m => m.nx σ ρ F M H (Same.refl F) hE hO h
theorem stp_brk (h : D.bk ρ M) : StP K tBreak ρ M D := fun σ F G H D0 hE hO m => m.bk σ ρ F M H (Same.refl F) hE hO h
theorem stp_cont (h : D.ct ρ M) : StP K tCont ρ M D := fun σ F G H D0 hE hO m => m.ct σ ρ F M H (Same.refl F) hE hO h
theorem stp_drop (h : EvP K te ρ M fun _ M1 => D.nx ρ M1) : StP K (tDrop te) ρ M D := fun σ F G H D0 hE hO m =>
  h σ F G H _ hE hO fun v d F1 M1 H1 s1 o1 r1 p => m.nx σ ρ F1 M1 H1 s1 (hE.mono s1) o1 p
theorem stp_ret (h : EvP K te ρ M D.rt) : StP K (tRet te) ρ M D := fun σ F G H D0 hE hO m => h σ F G H _ hE hO fun v d F1 M1 H1 s1 o1 r1 p => m.rt v d F1 M1 H1 s1 o1 r1 p
theorem stp_retN (h : D.rt (.sc .non) M) : StP K tRetN ρ M D := fun σ F G H D0 hE hO m => m.rt .non (.sc .non) F M H (Same.refl F) hO (rp_sc.mpr rfl) h
theorem stp_if (h : TvP K t ρ M fun b M1 => if b = true then StP K ts ρ M1 D else StP K us ρ M1 D) : StP K (tIfS t ts us) ρ M D := fun σ F G H D0 hE hO m =>
  h σ F G H _ hE hO fun b F1 M1 H1 s1 o1 p => by
    cases b with
    | true =>
      show ts D0 σ H1
      exact (show StP K ts ρ M1 D from p) σ F1 G H1 D0 (hE.mono s1) o1 (m.mono s1)
    | false =>
      show us D0 σ H1
      exact (show StP K us ρ M1 D from p) σ F1 G H1 D0 (hE.mono s1) o1 (m.mono s1)
theorem stp_asg {g : TG} (h : EvP K te ρ M fun d M1 => GvP K g d ρ M1 D.nx) : StP K (tAsg te g) ρ M D := fun σ F G H D0 hE hO m =>
  h σ F G H _ hE hO fun v d F1 M1 H1 s1 o1 r1 p => p v σ F1 G H1 _ r1 (hE.mono s1) o1 fun σ' ρ' F' M' H' s e o q => m.nx σ' ρ' F' M' H' (s1.trans s) e o q
theorem gv_name {PE : Env' → MH → Prop} (h : PE (ρ.set i (some d)) M) : GvP K (gName i) d ρ M PE := fun v σ F G H Q r hE hO k => k _ _ F M H (Same.refl F) (hE.set i r) hO h
theorem stp_set (h : EvP K te ρ M fun d M1 => D.nx (ρ.set i (some d)) M1) : StP K (tAsg te (gName i)) ρ M D := stp_asg (h.mono fun d M' p => gv_name p)
/-- a = b for a tuple of two names -/
theorem gv_sub {to ti : TE} {r : TSet} {PE : Env' → MH → Prop} (h : EvP K to ρ M fun o M1 => EvP K ti ρ M1 fun z M2 => RSet K r o z d M2 fun M3 => PE ρ M3) : GvP K (gSub to ti r) d ρ M PE := fun v σ F G H Q rv hE hO k =>
  h σ F G H _ hE hO fun x o F1 M1 H1 s1 o1 r1 h1 => h1 σ F1 G H1 _ (hE.mono s1) o1 fun y z F2 M2 H2 s2 o2 r2 h2 =>
    h2 x y v F2 G H2 _ (Rp.mono s2 _ _ r1) r2 (Rp.mono (s1.trans s2) _ _ rv) o2 fun F3 M3 H3 s3 o3 p => k σ ρ F3 M3 H3 ((s1.trans s2).trans s3) (hE.mono ((s1.trans s2).trans s3)) o3 p
theorem rset_L {p : Addr} {ds : List Da} {z : Int} {j : Nat} {PM : MH → Prop} (hm : M p = some (.lst ds)) (hj : ixN ds.length z = some j) (q : PM (updM M p (.lst (ds.set j d)))) : RSet K rSetL (.sc (.ref p)) (.sc (.int z)) d M PM := fun x y u F G H Q r1 r2 r3 hO k => by
  have e1 := rp_sc.mp r1
  have e2 := rp_sc.mp r2
  subst e1 e2
  obtain ⟨xs, hx, rx⟩ := (hO.mu p _ hm).2
  exact ⟨p, xs, z, j, rfl, rfl, hx, by rw [← rx.length]; exact hj, k F _ _ (Same.refl F) (putL hO hm (rx.set j r3)) q⟩
theorem stp_never (h : False) : StP K tNever ρ M D := h.elim
/-- o.f = v -/
theorem fld_put {F : Hp} {f : Str} {d : Da} {v : V} : ∀ {ns : List Str} {ds : List Da} {xs : List V}, ns.length = xs.length → RpA K F ds xs → Rp K F d v →
    ∃ (ns' : List Str) (ds' : List Da) (xs' : List V), putF f v (ns.zip xs) = ns'.zip xs' ∧ ns'.length = xs'.length ∧ RpA K F ds' xs' ∧ (f ∈ ns → ns' = ns) ∧ (f ∉ ns → ns' = ns ++ [f] ∧ ds' = ds ++ [d]) ∧ ∀ j, ns[j]? = some f → f ∉ ns.take j → ds' = ds.set j d
  | [], ds, xs, hl, r, rv => by
    have ex : xs = [] := List.eq_nil_of_length_eq_zero hl.symm
    subst ex
    have ed : ds = [] := List.eq_nil_of_length_eq_zero r.length
    subst ed
    exact ⟨[f], [d], [v], rfl, rfl, RpA.cons_ rv RpA.nil_, fun h => by simp at h, fun _ => ⟨rfl, rfl⟩, fun j hj => by simp at hj⟩
  | n :: ns, ds, [], hl, r, rv => by simp at hl
  | n :: ns, [], x :: xs, hl, r, rv => by
    have := r.length
    simp at this
  | n :: ns, d0 :: ds, x :: xs, hl, r, rv => by
    obtain ⟨y, ys, e1, h1, h2⟩ := rpA_cons.mp r
    injection e1 with e1 e2
    subst e1 e2
    rw [List.zip_cons_cons]
    have ep : putF f v ((n, x) :: ns.zip xs) = (if n = f then (n, v) :: ns.zip xs else (n, x) :: putF f v (ns.zip xs)) := rfl
    rw [ep]
    by_cases hn : n = f
    · rw [if_pos hn]
      subst hn
      refine ⟨n :: ns, d :: ds, v :: xs, rfl, by simpa using hl, RpA.cons_ rv h2, fun _ => rfl, fun h => absurd List.mem_cons_self h, fun j hj hj2 => ?_⟩
      cases j with
      | zero => rfl
      | succ j =>
        rw [List.take_succ_cons] at hj2
        exact absurd List.mem_cons_self hj2
    · rw [if_neg hn]
      obtain ⟨ns', ds', xs', e1, e2, e3, e4, e5, e6⟩ := fld_put (f := f) (d := d) (v := v) (ns := ns) (ds := ds) (xs := xs) (by simpa using hl) h2 rv
      refine ⟨n :: ns', d0 :: ds', x :: xs', by rw [e1] <;> rfl, by simpa using e2, RpA.cons_ h1 e3, fun h => ?_, fun h => ?_, fun j hj hj2 => ?_⟩
      · rcases List.mem_cons.mp h with h | h
        · exact absurd h.symm hn
        · rw [e4 h]
      · obtain ⟨z1, z2⟩ := e5 fun z => h (List.mem_cons_of_mem _ z)
        rw [z1, z2] <;> exact ⟨rfl, rfl⟩
      · cases j with
        | zero =>
          simp at hj
          exact absurd hj hn
        | succ j =>
          rw [List.take_succ_cons] at hj2
          rw [e6 j (by simpa using hj) fun z => hj2 (List.mem_cons_of_mem _ z)] <;> rfl
/-- a field that is new -/
theorem stp_fldN {tv : TE} {f : Str} {C : Addr} (c : Cls K C) (n : NoAttr K C f)
    (h : EvP K tv ρ M fun z M1 => EvP K ta ρ M1 fun o M2 => ∃ p ns ds, o = .sc (.ref p) ∧ M2 p = some (.ins C ns ds) ∧ f ∉ ns ∧ ns.length < 1000 ∧ D.nx ρ (updM M2 p (.ins C (ns ++ [f]) (ds ++ [z])))) : StP K (sFld K ta tv f) ρ M D := fun σ F G H D0 hE hO m =>
  h σ F G H _ hE hO fun v z F1 M1 H1 s1 o1 r1 h1 => h1 σ F1 G H1 _ (hE.mono s1) o1 fun x o F2 M2 H2 s2 o2 r2 ⟨p, ns, ds, e, hm, hf, hl, q⟩ => by
    subst e
    have ex := rp_sc.mp r2
    subst ex
    obtain ⟨dx, xs, hx, hlen, rx⟩ := (o2.mu p _ hm).2
    obtain ⟨ns', ds', xs', e1, e2, e3, _, e5, _⟩ := fld_put (f := f) hlen rx (Rp.mono s2 _ _ r1)
    obtain ⟨z1, z2⟩ := e5 hf
    subst z1 z2
    refine ⟨p, C, dx, _, rfl, hx, c, n, by rw [List.length_zip]; omega, ?_⟩
    rw [e1]
    exact m.nx σ ρ F2 _ _ (s1.trans s2) (hE.mono (s1.trans s2)) (putI o2 hm e2 e3) q
/-- a field that is there, at the j-th place -/
theorem stp_fldS {tv : TE} {f : Str} {C : Addr} (c : Cls K C) (n : NoAttr K C f)
    (h : EvP K tv ρ M fun z M1 => EvP K ta ρ M1 fun o M2 => ∃ p ns ds j, o = .sc (.ref p) ∧ M2 p = some (.ins C ns ds) ∧ ns[j]? = some f ∧ f ∉ ns.take j ∧ ns.length < 1000 ∧ D.nx ρ (updM M2 p (.ins C ns (ds.set j z)))) : StP K (sFld K ta tv f) ρ M D := fun σ F G H D0 hE hO m =>
  h σ F G H _ hE hO fun v z F1 M1 H1 s1 o1 r1 h1 => h1 σ F1 G H1 _ (hE.mono s1) o1 fun x o F2 M2 H2 s2 o2 r2 ⟨p, ns, ds, j, e, hm, hj, hj2, hl, q⟩ => by
    subst e
    have ex := rp_sc.mp r2
    subst ex
    obtain ⟨dx, xs, hx, hlen, rx⟩ := (o2.mu p _ hm).2
    obtain ⟨ns', ds', xs', e1, e2, e3, e4, _, e6⟩ := fld_put (f := f) hlen rx (Rp.mono s2 _ _ r1)
    have z1 := e4 (List.mem_of_getElem? hj)
    have z2 := e6 j hj hj2
    subst z1 z2
    refine ⟨p, C, dx, _, rfl, hx, c, n, by rw [List.length_zip]; omega, ?_⟩
    rw [e1]
    exact m.nx σ ρ F2 _ _ (s1.trans s2) (hE.mono (s1.trans s2)) (putI o2 hm e2 e3) q

/-! ### methods of lists -/
theorem ev_bm {T : String} {r : V → List V → Hp → VK → Prop} {to : TE} {tr : TA} (h : EvP K to ρ M fun o M1 => ∃ p ds, o = .sc (.ref p) ∧ M1 p = some (.lst ds) ∧ T = "list" ∧ AvP K tr ρ M1 fun es M2 => RMt K r o es M2 P) : EvP K (tBM K T r to tr) ρ M P := fun σ F G H Q hE hO k =>
  h σ F G H _ hE hO fun v o F1 M1 H1 s1 o1 r1 ⟨p, ds, e, hm, hT, h1⟩ => by
    subst e
    have ex := rp_sc.mp r1
    subst ex
    obtain ⟨xs, hx, rx⟩ := (o1.mu p _ hm).2
    refine ⟨.inl ⟨hT, xs, .inl (.inl hx)⟩, ?_⟩
    exact h1 σ F1 G H1 _ (hE.mono s1) o1 fun vs es F2 M2 H2 s2 o2 r2 h2 => h2 _ vs F2 G H2 Q (rp_sc.mpr rfl) r2 o2 fun v d F' M' H' s o r p => k v d F' M' H' ((s1.trans s2).trans s) o r p
theorem rmt_append {p : Addr} {ds : List Da} (hm : M p = some (.lst ds)) (hl : ds.length < 100000) (q : P (.sc .non) (updM M p (.lst (ds ++ [d])))) : RMt K rAppend (.sc (.ref p)) [d] M P := fun x vs F G H Q r1 r2 hO k => by
  have ex := rp_sc.mp r1
  subst ex
  obtain ⟨y, rfl, ry⟩ := rpA_one r2
  obtain ⟨xs, hx, rx⟩ := (hO.mu p _ hm).2
  exact ⟨p, xs, y, rfl, rfl, hx, sz_lt (by rw [← rx.length]; exact hl), k _ _ F _ _ (Same.refl F) (putL hO hm (rx.append (RpA.cons_ ry RpA.nil_))) (rp_sc.mpr rfl) q⟩
theorem rmt_popAt {p : Addr} {ds : List Da} {j : Nat} {e : Da} (hm : M p = some (.lst ds)) (hj : ds[j]? = some e) (hl : ds.length ≤ 1000) (q : P e (updM M p (.lst (ds.eraseIdx j)))) : RMt K rPopAt (.sc (.ref p)) [.sc (.int j)] M P := fun x vs F G H Q r1 r2 hO k => by
  have ex := rp_sc.mp r1
  subst ex
  obtain ⟨y, rfl, ry⟩ := rpA_one r2
  have ey := rp_sc.mp ry
  subst ey
  obtain ⟨xs, hx, rx⟩ := (hO.mu p _ hm).2
  obtain ⟨z, hz, rz⟩ := rx.get hj
  have hjl : j < ds.length := (List.getElem?_eq_some_iff.mp hj).1
  have l := rx.length
  refine ⟨p, xs, j, j, z, rfl, rfl, hx, by omega, by omega, ?_, hz, k _ _ F _ _ (Same.refl F) (putL hO hm (rx.eraseIdx j)) rz q⟩
  unfold seqIndex?
  split
  · omega
  · first
    | rfl
    | (rw [if_pos (by omega)]; simp)
    | simp <;> omega
end
end Dl

namespace Dl
open PySem PySem.Spec L2

/-! ### targets of names -/
def setAll : St → List Nat → List V → St
  | σ, j :: js, y :: ys => setAll (σ.set j (some y)) js ys
  | σ, _, _ => σ
def setAllD : Env' → List Nat → List Da → Env'
  | ρ, j :: js, d :: ds => setAllD (ρ.set j (some d)) js ds
  | ρ, _, _ => ρ
def wipeD (ρ : Env') : List Nat → Env'
  | [] => ρ
  | v :: vs => (wipeD ρ vs).set v none
theorem wipe_get (σ : St) (i : Nat) : ∀ vs : List Nat, (wipe σ vs)[i]? = if i ∈ vs then (σ[i]?).map fun _ => none else σ[i]?
  | [] => by simp [wipe]
  | v :: vs => by
    unfold wipe
    by_cases h : v = i
    · subst h
      rw [if_pos List.mem_cons_self]
      by_cases hl : v < σ.length
      · rw [List.getElem?_set_self (by rw [wipe_length]; exact hl), List.getElem?_eq_getElem hl] <;> rfl
      · rw [List.getElem?_eq_none (by rw [List.length_set, wipe_length]; omega), List.getElem?_eq_none (by omega)] <;> rfl
    · rw [List.getElem?_set_ne h, wipe_get σ i vs]
      by_cases hi : i ∈ vs
      · rw [if_pos hi, if_pos (List.mem_cons_of_mem _ hi)]
      · rw [if_neg hi, if_neg fun z => (List.mem_cons.mp z).elim (fun z => h z.symm) hi]
theorem wipe_set {σ : St} {j : Nat} {x : Option V} {vs : List Nat} (h : j ∈ vs) : wipe (σ.set j x) vs = wipe σ vs := by
  apply List.ext_getElem?
  intro i
  rw [wipe_get, wipe_get]
  by_cases hi : i ∈ vs
  · rw [if_pos hi, if_pos hi]
    by_cases e : j = i
    · subst e
      by_cases hl : j < σ.length
      · rw [List.getElem?_set_self hl, List.getElem?_eq_getElem hl] <;> rfl
      · rw [List.getElem?_eq_none (by rw [List.length_set]; omega), List.getElem?_eq_none (by omega)]
    · rw [List.getElem?_set_ne e]
  · rw [if_neg hi, if_neg hi]
    rw [List.getElem?_set_ne]
    rintro rfl
    exact hi h
theorem wipe_wipe {σ : St} {vs : List Nat} : wipe (wipe σ vs) vs = wipe σ vs := by
  apply List.ext_getElem?
  intro i
  rw [wipe_get, wipe_get]
  by_cases hi : i ∈ vs
  · rw [if_pos hi, if_pos hi, Option.map_map] <;> rfl
  · rw [if_neg hi, if_neg hi]
theorem wipe_setAll {vs : List Nat} : ∀ {js : List Nat} {ys : List V} {σ : St}, (∀ j ∈ js, j ∈ vs) → wipe (setAll σ js ys) vs = wipe σ vs
  | [], _, σ, _ => by unfold setAll; rfl
  | j :: js, [], σ, _ => by unfold setAll; rfl
  | j :: js, y :: ys, σ, h => by
    unfold setAll
    rw [wipe_setAll fun i hi => h i (List.mem_cons_of_mem _ hi), wipe_set (h j List.mem_cons_self)]
section
variable {K : PySem.W.Frag} {ρ : Env'} {M M1 : MH} {ta tb tc te : TE} {t u tt : TT} {ts us tb' : TS} {P : Da → MH → Prop} {PB : Bool → MH → Prop} {D : DE} {d e : Da} {i : Nat}
theorem EnvD.wipe {F : Hp} {σ : St} (h : EnvD K F ρ σ) : ∀ vs : List Nat, EnvD K F (wipeD ρ vs) (L2.wipe σ vs)
  | [] => h
  | v :: vs => (EnvD.wipe h vs).forget v none
theorem EnvD.setAll {F : Hp} : ∀ {js : List Nat} {ds : List Da} {ys : List V} {ρ : Env'} {σ : St}, EnvD K F ρ σ → RpA K F ds ys → EnvD K F (setAllD ρ js ds) (Dl.setAll σ js ys)
  | [], ds, ys, ρ, σ, h, r => by unfold setAllD Dl.setAll; exact h
  | j :: js, [], ys, ρ, σ, h, r => by
    rw [rpA_nil.mp r]
    unfold setAllD Dl.setAll
    exact h
  | j :: js, d :: ds, ys, ρ, σ, h, r => by
    obtain ⟨y, zs, e1, h1, h2⟩ := rpA_cons.mp r
    subst e1
    unfold setAllD Dl.setAll
    exact EnvD.setAll (h.set j h1) h2
/-- a target that stores xs at the slots js, given d -/
def TgOk (K : PySem.W.Frag) (g : TG) (js : List Nat) (d : Da) (xs : List Da) : Prop :=
  ∀ (v : V) (F H : Hp) (σ : St) (Q : St → Hp → Prop), Rp K F d v → Same F H → (∀ ys, RpA K F xs ys → Q (setAll σ js ys) H) → g v σ H Q
theorem tg_name : TgOk K (gName i) [i] d [d] := fun v F H σ Q r s k => k [v] (RpA.cons_ r RpA.nil_)
/-- names one behind another -/
def gNames : List Nat → TGs
  | [] => gNil
  | j :: js => gCons (gName j) (gNames js)
theorem gNames_run : ∀ {js : List Nat} {ys : List V} {σ : St} {H : Hp} {Q : St → Hp → Prop}, ys.length = js.length → Q (setAll σ js ys) H → gNames js ys σ H Q
  | [], [], σ, H, Q, _, q => ⟨rfl, q⟩
  | [], _ :: _, σ, H, Q, h, q => by simp at h
  | _ :: _, [], σ, H, Q, h, q => by simp at h
  | j :: js, y :: ys, σ, H, Q, h, q => ⟨y, ys, rfl, gNames_run (by simpa using h) q⟩
theorem tg_tup {js : List Nat} {n : Nat} {xs : List Da} (hn : js.length = n) (hl : xs.length = n) : TgOk K (gTup K n (gNames js)) js (.tup xs) xs := fun v F H σ Q r s k => by
  obtain ⟨a, ys, e1, h1, h2⟩ := rp_tup.mp r
  exact ⟨a, ys, e1, sqT_mono s h1, by rw [← h2.length]; exact hl, gNames_run (by rw [← h2.length, hl, hn]) (k ys h2)⟩
theorem gv_tg {g : TG} {js : List Nat} {xs : List Da} {PE : Env' → MH → Prop} (h : TgOk K g js d xs) (q : PE (setAllD ρ js xs) M) : GvP K g d ρ M PE := fun v σ F G H Q r hE hO k =>
  h v F H σ Q r hO.ex fun ys ry => k _ _ F M H (Same.refl F) (hE.setAll ry) hO q

/-! ### what a for walks -/
structure SW (K : PySem.W.Frag) (J : It) (ds : List Da) (F : Hp) : Prop where
  go : ∀ i H, i < ds.length → Same F H → J.go i H
  stop : ∀ H, Same F H → J.stop ds.length H
  yld : ∀ i F1 M G H x H', i < ds.length → Same F F1 → OkH K F1 M G H → J.yld i H x H' → ∃ F2 d, Same F1 F2 ∧ OkH K F2 M G H' ∧ ds[i]? = some d ∧ Rp K F2 d x
def SrP (K : PySem.W.Frag) (wi : TI) (ρ : Env') (M : MH) (P : List Da → MH → Prop) : Prop :=
  ∀ (σ : St) (F G H : Hp) (R : It → Hp → Prop), EnvD K F ρ σ → OkH K F M G H → (∀ J ds F' M' H', Same F F' → OkH K F' M' G H' → SW K J ds F' → P ds M' → R J H') → wi σ H R
theorem sw_list {F : Hp} {a : Addr} {ds : List Da} {xs : List V} (h : F a = some (.lst xs)) (r : RpA K F ds xs) : SW K (Itl K a) ds F where
  go := fun i H hi s => by
    obtain ⟨x, hx, _⟩ := r.get (List.getElem?_eq_getElem hi)
    exact ⟨xs, x, .inl (.inl (s _ _ h)), hx⟩
  stop := fun H s => ⟨xs, .inl (.inl (s _ _ h)), by rw [r.length]; exact Nat.le_refl _⟩
  yld := fun i F1 M G H x H' hi s o y => by
    obtain ⟨e, y⟩ := y
    subst e
    have hx := y xs (.inl (.inl (o.ex _ _ (s _ _ h))))
    obtain ⟨d, hd, rd⟩ := r.get' hx
    exact ⟨F1, d, Same.refl F1, o, hd, Rp.mono s _ _ rd⟩
theorem sw_tup {F : Hp} {a : Addr} {ds : List Da} {xs : List V} (h : SqT K F a xs) (r : RpA K F ds xs) : SW K (Itt K a) ds F where
  go := fun i H hi s => by
    obtain ⟨x, hx, _⟩ := r.get (List.getElem?_eq_getElem hi)
    exact ⟨xs, x, sqT_mono s h, hx⟩
  stop := fun H s => ⟨xs, sqT_mono s h, by rw [r.length]; exact Nat.le_refl _⟩
  yld := fun i F1 M G H x H' hi s o y => by
    obtain ⟨e, y⟩ := y
    subst e
    have hx := y xs (sqT_mono o.ex (sqT_mono s h))
    obtain ⟨d, hd, rd⟩ := r.get' hx
    exact ⟨F1, d, Same.refl F1, o, hd, Rp.mono s _ _ rd⟩
def rngD (lo : Int) (n : Nat) : List Da := (List.range n).map fun i => .sc (.int (lo + (i : Nat)))
theorem rngD_length {lo : Int} {n : Nat} : (rngD lo n).length = n := by unfold rngD; rw [List.length_map, List.length_range]
theorem rngD_get {lo : Int} {n i : Nat} {d : Da} (h : (rngD lo n)[i]? = some d) : i < n ∧ d = .sc (.int (lo + (i : Nat))) := by
  unfold rngD at h
  rw [List.getElem?_map] at h
  by_cases hi : i < n
  · rw [List.getElem?_range hi] at h
    cases h
    exact ⟨hi, rfl⟩
  · rw [List.getElem?_eq_none (by rw [List.length_range]; omega)] at h
    cases h
theorem sw_range {F : Hp} {lo : Int} {n : Nat} : SW K (Itr lo n) (rngD lo n) F where
  go := fun i H hi s => by
    rw [rngD_length] at hi
    exact hi
  stop := fun H s => by
    rw [rngD_length]
    exact Nat.le_refl n
  yld := fun i F1 M G H x H' hi s o y => by
    obtain ⟨e, y⟩ := y
    subst e y
    rw [rngD_length] at hi
    exact ⟨F1, .sc (.int (lo + (i : Nat))), Same.refl F1, o, by unfold rngD; rw [List.getElem?_map, List.getElem?_range hi] <;> rfl, rp_sc.mpr rfl⟩
def enumD (ds : List Da) : List Da := (List.range ds.length).map fun i => .tup [.sc (.int (i : Nat)), ds.getD i (.sc .non)]
theorem enumD_length {ds : List Da} : (enumD ds).length = ds.length := by unfold enumD; rw [List.length_map, List.length_range]
theorem enumD_get {ds : List Da} {i : Nat} {d : Da} (h : (enumD ds)[i]? = some d) : ∃ e, ds[i]? = some e ∧ d = .tup [.sc (.int (i : Nat)), e] := by
  unfold enumD at h
  rw [List.getElem?_map] at h
  by_cases hi : i < ds.length
  · rw [List.getElem?_range hi] at h
    cases h
    exact ⟨ds[i], List.getElem?_eq_getElem hi, by simp only [List.getD_eq_getElem?_getD, List.getElem?_eq_getElem hi, Option.getD_some]⟩
  · rw [List.getElem?_eq_none (by rw [List.length_range]; omega)] at h
    cases h
theorem enumD_at {ds : List Da} {i : Nat} {e : Da} (h : ds[i]? = some e) : (enumD ds)[i]? = some (.tup [.sc (.int (i : Nat)), e]) := by
  have hi := (List.getElem?_eq_some_iff.mp h).1
  unfold enumD
  rw [List.getElem?_map, List.getElem?_range hi]
  simp only [Option.map_some, List.getD_eq_getElem?_getD, h, Option.getD_some]
theorem sw_enum {F : Hp} {a : Addr} {ds : List Da} {xs : List V} (h : F a = some (.lst xs)) (r : RpA K F ds xs) : SW K (Ite K a) (enumD ds) F where
  go := fun i H hi s => by
    rw [enumD_length] at hi
    obtain ⟨x, hx, _⟩ := r.get (List.getElem?_eq_getElem hi)
    exact ⟨xs, x, .inl (.inl (s _ _ h)), hx⟩
  stop := fun H s => ⟨xs, .inl (.inl (s _ _ h)), by rw [enumD_length, r.length]; exact Nat.le_refl _⟩
  yld := fun i F1 M G H x H' hi s o y => by
    obtain ⟨T, z, e, hT, e2, y⟩ := y
    subst e e2
    have hx := y xs (.inl (.inl (o.ex _ _ (s _ _ h))))
    obtain ⟨d, hd, rd⟩ := r.get' hx
    refine ⟨upd F1 T (.tup [.int (i : Nat), z]), _, sm_new (o.noF hT), o.new hT, enumD_at hd, rp_tup.mpr ⟨T, _, rfl, .inl (.inl upd_same), ?_⟩⟩
    exact RpA.cons_ (rp_sc.mpr rfl) (RpA.cons_ (Rp.mono (s.trans (sm_new (o.noF hT))) _ _ rd) RpA.nil_)
theorem sr_list {tl : TE} {P : List Da → MH → Prop} (h : EvP K tl ρ M fun d M1 => ∃ ds, d = .lst ds ∧ P ds M1) : SrP K (iList K tl) ρ M P := fun σ F G H R hE hO k =>
  h σ F G H _ hE hO fun v d F1 M1 H1 s1 o1 r1 ⟨ds, e, p⟩ => by
    subst e
    obtain ⟨a, xs, rfl, hx, rx⟩ := rp_lst.mp r1
    exact ⟨a, rfl, ⟨xs, .inl (.inl (o1.ex _ _ hx))⟩, k _ ds F1 M1 H1 s1 o1 (sw_list hx rx) p⟩
theorem sr_tup {tl : TE} {P : List Da → MH → Prop} (h : EvP K tl ρ M fun d M1 => ∃ ds, d = .tup ds ∧ P ds M1) : SrP K (iTup K tl) ρ M P := fun σ F G H R hE hO k =>
  h σ F G H _ hE hO fun v d F1 M1 H1 s1 o1 r1 ⟨ds, e, p⟩ => by
    subst e
    obtain ⟨a, xs, rfl, hx, rx⟩ := rp_tup.mp r1
    exact ⟨a, rfl, ⟨xs, sqT_mono o1.ex hx⟩, k _ ds F1 M1 H1 s1 o1 (sw_tup hx rx) p⟩
theorem sr_range1 {ta : TA} {P : List Da → MH → Prop} (h : AvP K ta ρ M fun ds M1 => ∃ n : Int, ds = [.sc (.int n)] ∧ -100000 ≤ n ∧ n ≤ 100000 ∧ P (rngD 0 n.toNat) M1) : SrP K (iRng1 ta) ρ M P := fun σ F G H R hE hO k =>
  h σ F G H _ hE hO fun vs ds F1 M1 H1 s1 o1 r1 ⟨n, e, h0, h1, p⟩ => by
    subst e
    obtain ⟨x, rfl, rx⟩ := rpA_one r1
    have ex := rp_sc.mp rx
    subst ex
    exact ⟨n, rfl, by omega, by omega, k _ _ F1 M1 H1 s1 o1 sw_range p⟩
theorem sr_range2 {ta : TA} {P : List Da → MH → Prop} (h : AvP K ta ρ M fun ds M1 => ∃ m n : Int, ds = [.sc (.int m), .sc (.int n)] ∧ (-100000 ≤ m ∧ m ≤ 100000 ∧ -100000 ≤ n ∧ n ≤ 100000) ∧ P (rngD m (n - m).toNat) M1) : SrP K (iRng2 ta) ρ M P := fun σ F G H R hE hO k =>
  h σ F G H _ hE hO fun vs ds F1 M1 H1 s1 o1 r1 ⟨m, n, e, h0, p⟩ => by
    subst e
    obtain ⟨x, y, rfl, rx, ry⟩ := rpA_two r1
    have ex := rp_sc.mp rx
    have ey := rp_sc.mp ry
    subst ex ey
    exact ⟨m, n, rfl, by omega, k _ _ F1 M1 H1 s1 o1 sw_range p⟩
theorem sr_enum {ta : TA} {P : List Da → MH → Prop} (h : AvP K ta ρ M fun es M1 => ∃ ds, es = [.lst ds] ∧ P (enumD ds) M1) : SrP K (iEnum K ta) ρ M P := fun σ F G H R hE hO k =>
  h σ F G H _ hE hO fun vs es F1 M1 H1 s1 o1 r1 ⟨ds, e, p⟩ => by
    subst e
    obtain ⟨x, rfl, rx⟩ := rpA_one r1
    obtain ⟨a, xs, rfl, hx, rx⟩ := rp_lst.mp rx
    exact ⟨a, xs, rfl, .inl (.inl (o1.ex _ _ hx)), k _ _ F1 M1 H1 s1 o1 (sw_enum hx rx) p⟩

/-! ### for -/
theorem stp_for {wi : TI} {g : TG} {js : List Nat} (h : SrP K wi ρ M fun ds M1 => ∃ I : Nat → Env' → MH → Prop, I 0 ρ M1 ∧
      (∀ i d ρ' M', ds[i]? = some d → I i ρ' M' → ∃ xs, TgOk K g js d xs ∧ StP K tb' (setAllD ρ' js xs) M' { D with nx := I (i + 1), ct := I (i + 1), bk := D.nx }) ∧ ∀ ρ' M', I ds.length ρ' M' → D.nx ρ' M') : StP K (tFor wi g tb') ρ M D := fun σ F G H D0 hE hO m =>
  h σ F G H _ hE hO fun J ds F1 M1 H1 s1 o1 w ⟨I, i0, hs, hd⟩ => by
    refine ⟨fun i m σ' H' => m = ds.length - i ∧ i ≤ ds.length ∧ ∃ ρ' F' M', Same F1 F' ∧ EnvD K F' ρ' σ' ∧ OkH K F' M' G H' ∧ I i ρ' M', ⟨ds.length, by simp, Nat.zero_le _, ρ, F1, M1, Same.refl F1, hE.mono s1, o1, i0⟩, ?_⟩
    rintro i n σ' H' ⟨rfl, hi, ρ', F', M', s2, e2, o2, p⟩
    by_cases hlt : i < ds.length
    · refine .inr ⟨w.go i H' hlt fun b o q => o2.ex _ _ (s2 _ _ q), fun σ3 H3 => ∃ ρ3 F3 M3, Same F1 F3 ∧ EnvD K F3 ρ3 σ3 ∧ OkH K F3 M3 G H3 ∧ I (i + 1) ρ3 M3, fun σ3 H3 q => ⟨ds.length - (i + 1), by omega, rfl, hlt, q⟩, fun x H2 y => ?_⟩
      obtain ⟨F2, d, s3, o3, hd3, r3⟩ := w.yld i F' M' G H' x H2 hlt s2 o2 y
      obtain ⟨xs, tg, st⟩ := hs i d ρ' M' hd3 p
      refine tg x F2 H2 σ' _ r3 o3.ex fun ys ry => ?_
      refine st (setAll σ' js ys) F2 G H2 _ ((e2.mono s3).setAll ry) o3 ⟨fun σ4 ρ4 F4 M4 H4 s4 e4 o4 q4 => ?_, fun v d F4 M4 H4 s4 o4 r4 q4 => ?_, fun σ4 ρ4 F4 M4 H4 s4 e4 o4 q4 => ?_, fun σ4 ρ4 F4 M4 H4 s4 e4 o4 q4 => ?_⟩
      · exact ⟨ρ4, F4, M4, (s2.trans s3).trans s4, e4, o4, q4⟩
      · exact m.rt v d F4 M4 H4 (((s1.trans s2).trans s3).trans s4) o4 r4 q4
      · exact m.nx σ4 ρ4 F4 M4 H4 (((s1.trans s2).trans s3).trans s4) e4 o4 q4
      · exact ⟨ρ4, F4, M4, (s2.trans s3).trans s4, e4, o4, q4⟩
    · have e : i = ds.length := by omega
      subst e
      exact .inl ⟨w.stop H' fun b o q => o2.ex _ _ (s2 _ _ q), m.nx σ' ρ' F' M' H' (s1.trans s2) e2 o2 (hd ρ' M' p)⟩

/-! ### comprehensions -/
theorem OkH.hide {F G H : Hp} {p : Addr} {o : HO} (h : OkH K F M G H) (hp : H p = none) : OkH K F M (upd G p o) (upd H p o) where
  ex := sm_right h.ex (h.noF hp)
  mu := fun a u e => by
    obtain ⟨h1, h2⟩ := h.mu a u e
    obtain ⟨z, hz⟩ := h2.here
    exact ⟨h1, h2.mono (Same.refl F) (upd_ne (ne_of_none hz hp))⟩
  gx := sm_both h.gx
  gd := fun a u e => by
    by_cases ha : a = p
    · subst ha
      exact ⟨h.noF hp, h.noM hp⟩
    · rw [upd_ne ha] at e
      exact h.gd a u e
theorem OkH.rehide {F G H : Hp} {p : Addr} {o o' : HO} (h : OkH K F M (upd G p o) H) : OkH K F M (upd G p o') (upd H p o') where
  ex := sm_right h.ex (h.gd p o upd_same).1
  mu := fun a u e => by
    obtain ⟨h1, h2⟩ := h.mu a u e
    have ne : a ≠ p := by
      rintro rfl
      rw [(h.gd a o upd_same).2] at e
      cases e
    exact ⟨h1, h2.mono (Same.refl F) (upd_ne ne)⟩
  gx := fun b u e => by
    by_cases hb : b = p
    · subst hb
      rw [upd_same] at e ⊢
      exact e
    · rw [upd_ne hb] at e ⊢
      exact h.gx b u (by rw [upd_ne hb]; exact e)
  gd := fun a u e => by
    by_cases ha : a = p
    · subst ha
      exact h.gd a o upd_same
    · rw [upd_ne ha] at e
      exact h.gd a u (by rw [upd_ne ha]; exact e)
theorem OkH.show_ {F G H : Hp} {p : Addr} {o : HO} (h : OkH K F M (upd G p o) H) (hG : G p = none) : OkH K (upd F p o) M G H ∧ Same F (upd F p o) := by
  have nF := (h.gd p o upd_same).1
  have nM := (h.gd p o upd_same).2
  have hp : H p = some o := h.gx p o upd_same
  refine ⟨⟨fun b u e => ?_, fun a u e => ?_, fun b u e => ?_, fun a u e => ?_⟩, sm_new nF⟩
  · by_cases hb : b = p
    · subst hb
      rw [upd_same] at e
      cases e
      exact hp
    · rw [upd_ne hb] at e
      exact h.ex b u e
  · obtain ⟨h1, h2⟩ := h.mu a u e
    have ne : a ≠ p := by
      rintro rfl
      rw [nM] at e
      cases e
    exact ⟨by rw [upd_ne ne]; exact h1, h2.mono (sm_new nF) rfl⟩
  · have ne : b ≠ p := by
      rintro rfl
      rw [hG] at e
      cases e
    exact h.gx b u (by rw [upd_ne ne]; exact e)
  · have ne : a ≠ p := by
      rintro rfl
      rw [hG] at e
      cases e
    obtain ⟨h1, h2⟩ := h.gd a u (by rw [upd_ne ne]; exact e)
    exact ⟨by rw [upd_ne ne]; exact h1, h2⟩
theorem ev_lc {wi : TI} {g : TG} {vs js : List Nat} (hj : ∀ j ∈ js, j ∈ vs) (h : SrP K wi ρ M fun ds M1 => ∃ I : Nat → List Da → MH → Prop, I 0 [] M1 ∧
      (∀ i d acc M', ds[i]? = some d → I i acc M' → ∃ xs, TgOk K g js d xs ∧ TvP K tt (setAllD (wipeD ρ vs) js xs) M' fun b M2 =>
        if b = true then acc.length < 100000 ∧ EvP K te (setAllD (wipeD ρ vs) js xs) M2 fun y M3 => I (i + 1) (acc ++ [y]) M3 else I (i + 1) acc M2) ∧ ∀ acc M', I ds.length acc M' → P (.lst acc) M') : EvP K (tLc wi g tt te vs) ρ M P := fun σ F G H Q hE hO k =>
  h σ F G H _ hE hO fun J ds F1 M1 H1 s1 o1 w ⟨I, i0, hs, hd⟩ => fun Dl hDl => by
    have hG : G Dl = none := o1.noG hDl
    refine ⟨fun i m H' => m = ds.length - i ∧ i ≤ ds.length ∧ ∃ F' M' acc ys, Same F1 F' ∧ OkH K F' M' (upd G Dl (.lst ys)) H' ∧ RpA K F' acc ys ∧ I i acc M', ⟨ds.length, by simp, Nat.zero_le _, F1, M1, [], [], Same.refl F1, o1.hide hDl, RpA.nil_, i0⟩, ?_⟩
    rintro i n H' ⟨rfl, hi, F', M', acc, ys, s2, o2, racc, p⟩
    by_cases hlt : i < ds.length
    · refine .inr ⟨w.go i H' hlt fun b o q => o2.ex _ _ (s2 _ _ q), fun H3 => ∃ F3 M3 acc ys, Same F1 F3 ∧ OkH K F3 M3 (upd G Dl (.lst ys)) H3 ∧ RpA K F3 acc ys ∧ I (i + 1) acc M3, fun H3 q => ⟨ds.length - (i + 1), by omega, rfl, hlt, q⟩, fun x H2 y => ?_⟩
      obtain ⟨F2, d, s3, o3, hd3, r3⟩ := w.yld i F' M' _ H' x H2 hlt s2 o2 y
      obtain ⟨xs, tg, tv⟩ := hs i d acc M' hd3 p
      refine tg x F2 H2 (wipe σ vs) _ r3 o3.ex fun zs rz => ⟨by rw [wipe_setAll hj, wipe_wipe], ?_⟩
      have e3 : EnvD K F2 (setAllD (wipeD ρ vs) js xs) (setAll (wipe σ vs) js zs) := (((hE.wipe vs).mono ((s1.trans s2).trans s3))).setAll rz
      refine tv _ F2 _ H2 _ e3 o3 fun b F4 M4 H4 s4 o4 q4 => ?_
      cases b with
      | true =>
        rw [if_pos rfl]
        obtain ⟨hl, ev⟩ := (show acc.length < 100000 ∧ EvP K te (setAllD (wipeD ρ vs) js xs) M4 fun y M3 => I (i + 1) (acc ++ [y]) M3 from q4)
        refine ev _ F4 _ H4 _ (e3.mono s4) o4 fun v z F5 M5 H5 s5 o5 r5 q5 => ?_
        refine ⟨ys, o5.gx _ _ upd_same, sz_lt (by rw [← racc.length]; exact hl), F5, M5, acc ++ [z], ys ++ [v], ((s2.trans s3).trans s4).trans s5, o5.rehide, ?_, q5⟩
        exact (RpA.mono ((s3.trans s4).trans s5) _ _ racc).append (RpA.cons_ r5 RpA.nil_)
      | false =>
        rw [if_neg Bool.false_ne_true]
        exact ⟨F4, M4, acc, ys, (s2.trans s3).trans s4, o4, RpA.mono (s3.trans s4) _ _ racc, q4⟩
    · have e : i = ds.length := by omega
      subst e
      obtain ⟨o6, s6⟩ := o2.show_ hG
      exact .inl ⟨w.stop H' fun b o q => o2.ex _ _ (s2 _ _ q), k _ _ _ M' H' ((s1.trans s2).trans s6) o6 (rp_lst.mpr ⟨Dl, ys, rfl, upd_same, RpA.mono s6 _ _ racc⟩) (hd acc M' p)⟩
/-- two fors: the inner one's source may speak of the outer one's names -/
theorem ev_lc2 {wi wi1 : TI} {g g1 : TG} {tt1 : TT} {vs vs1 js js1 : List Nat} (hj : ∀ j ∈ js, j ∈ vs) (hj1 : ∀ j ∈ js1, j ∈ vs1) (h : SrP K wi ρ M fun ds M1 => ∃ I : Nat → List Da → MH → Prop, I 0 [] M1 ∧
      (∀ i d acc M', ds[i]? = some d → I i acc M' → ∃ xs, TgOk K g js d xs ∧ TvP K tt (setAllD (wipeD ρ vs) js xs) M' fun b M2 =>
        if b = true then SrP K wi1 (setAllD (wipeD ρ vs) js xs) M2 fun es M3 => ∃ L : Nat → List Da → MH → Prop, L 0 acc M3 ∧
          (∀ l e acc1 M4, es[l]? = some e → L l acc1 M4 → ∃ zs, TgOk K g1 js1 e zs ∧ TvP K tt1 (setAllD (wipeD (setAllD (wipeD ρ vs) js xs) vs1) js1 zs) M4 fun b M5 =>
            if b = true then acc1.length < 100000 ∧ EvP K te (setAllD (wipeD (setAllD (wipeD ρ vs) js xs) vs1) js1 zs) M5 fun y M6 => L (l + 1) (acc1 ++ [y]) M6 else L (l + 1) acc1 M5) ∧
          ∀ acc1 M4, L es.length acc1 M4 → I (i + 1) acc1 M4
        else I (i + 1) acc M2) ∧ ∀ acc M', I ds.length acc M' → P (.lst acc) M') : EvP K (tLc2 wi g tt wi1 g1 tt1 te vs vs1) ρ M P := fun σ F G H Q hE hO k =>
  h σ F G H _ hE hO fun J ds F1 M1 H1 s1 o1 w ⟨I, i0, hs, hd⟩ => fun Dl hDl => by
    have hG : G Dl = none := o1.noG hDl
    refine ⟨fun i m H' => m = ds.length - i ∧ i ≤ ds.length ∧ ∃ F' M' acc ys, Same F1 F' ∧ OkH K F' M' (upd G Dl (.lst ys)) H' ∧ RpA K F' acc ys ∧ I i acc M', ⟨ds.length, by simp, Nat.zero_le _, F1, M1, [], [], Same.refl F1, o1.hide hDl, RpA.nil_, i0⟩, ?_⟩
    rintro i n H' ⟨rfl, hi, F', M', acc, ys, s2, o2, racc, p⟩
    by_cases hlt : i < ds.length
    · refine .inr ⟨w.go i H' hlt fun b o q => o2.ex _ _ (s2 _ _ q), fun H3 => ∃ F3 M3 acc ys, Same F1 F3 ∧ OkH K F3 M3 (upd G Dl (.lst ys)) H3 ∧ RpA K F3 acc ys ∧ I (i + 1) acc M3, fun H3 q => ⟨ds.length - (i + 1), by omega, rfl, hlt, q⟩, fun x H2 y => ?_⟩
      obtain ⟨F2, d, s3, o3, hd3, r3⟩ := w.yld i F' M' _ H' x H2 hlt s2 o2 y
      obtain ⟨xs, tg, tv⟩ := hs i d acc M' hd3 p
      refine tg x F2 H2 (wipe σ vs) _ r3 o3.ex fun zs rz => ⟨by rw [wipe_setAll hj, wipe_wipe], ?_⟩
      have e3 : EnvD K F2 (setAllD (wipeD ρ vs) js xs) (setAll (wipe σ vs) js zs) := (((hE.wipe vs).mono ((s1.trans s2).trans s3))).setAll rz
      refine tv _ F2 _ H2 _ e3 o3 fun b F4 M4 H4 s4 o4 q4 => ?_
      cases b with
      | false =>
        rw [if_neg Bool.false_ne_true]
        exact ⟨F4, M4, acc, ys, (s2.trans s3).trans s4, o4, RpA.mono (s3.trans s4) _ _ racc, q4⟩
      | true =>
        rw [if_pos rfl]
        have q4' := (show SrP K wi1 (setAllD (wipeD ρ vs) js xs) M4 _ from q4)
        refine q4' _ F4 _ H4 _ (e3.mono s4) o4 fun J1 es F5 M5 H5 s5 o5 w1 ⟨L, l0, ls, ld⟩ => ?_
        refine ⟨fun j m H' => m = es.length - j ∧ j ≤ es.length ∧ ∃ F' M' acc ys, Same F5 F' ∧ OkH K F' M' (upd G Dl (.lst ys)) H' ∧ RpA K F' acc ys ∧ L j acc M', ⟨es.length, by simp, Nat.zero_le _, F5, M5, acc, ys, Same.refl F5, o5, RpA.mono ((s3.trans s4).trans s5) _ _ racc, l0⟩, ?_⟩
        rintro j n6 H6 ⟨rfl, hj6, F6, M6, acc6, ys6, s6, o6, racc6, p6⟩
        by_cases hlt6 : j < es.length
        · refine .inr ⟨w1.go j H6 hlt6 fun b o q => o6.ex _ _ (s6 _ _ q), fun H3 => ∃ F3 M3 acc ys, Same F5 F3 ∧ OkH K F3 M3 (upd G Dl (.lst ys)) H3 ∧ RpA K F3 acc ys ∧ L (j + 1) acc M3, fun H3 q => ⟨es.length - (j + 1), by omega, rfl, hlt6, q⟩, fun x7 H7 y7 => ?_⟩
          obtain ⟨F7, e7, s7, o7, hd7, r7⟩ := w1.yld j F6 M6 _ H6 x7 H7 hlt6 s6 o6 y7
          obtain ⟨xs7, tg7, tv7⟩ := ls j e7 acc6 M6 hd7 p6
          refine tg7 x7 F7 H7 (wipe (setAll (wipe σ vs) js zs) vs1) _ r7 o7.ex fun ws rw' => ⟨by rw [wipe_setAll hj1, wipe_wipe], ?_⟩
          have e8 : EnvD K F7 (setAllD (wipeD (setAllD (wipeD ρ vs) js xs) vs1) js1 xs7) (setAll (wipe (setAll (wipe σ vs) js zs) vs1) js1 ws) := ((e3.mono (((s4.trans s5).trans s6).trans s7)).wipe vs1).setAll rw'
          refine tv7 _ F7 _ H7 _ e8 o7 fun b F9 M9 H9 s9 o9 q9 => ?_
          cases b with
          | true =>
            rw [if_pos rfl]
            obtain ⟨hl, ev⟩ := (show acc6.length < 100000 ∧ EvP K te _ M9 fun y M3 => L (j + 1) (acc6 ++ [y]) M3 from q9)
            refine ev _ F9 _ H9 _ (e8.mono s9) o9 fun v z F10 M10 H10 s10 o10 r10 q10 => ?_
            refine ⟨ys6, o10.gx _ _ upd_same, sz_lt (by rw [← racc6.length]; exact hl), F10, M10, acc6 ++ [z], ys6 ++ [v], ((s6.trans s7).trans s9).trans s10, o10.rehide, ?_, q10⟩
            exact (RpA.mono ((s7.trans s9).trans s10) _ _ racc6).append (RpA.cons_ r10 RpA.nil_)
          | false =>
            rw [if_neg Bool.false_ne_true]
            exact ⟨F9, M9, acc6, ys6, (s6.trans s7).trans s9, o9, RpA.mono (s7.trans s9) _ _ racc6, q9⟩
        · have e : j = es.length := by omega
          subst e
          exact .inl ⟨w1.stop H6 fun b o q => o6.ex _ _ (s6 _ _ q), F6, M6, acc6, ys6, (((s2.trans s3).trans s4).trans s5).trans s6, o6, racc6, ld acc6 M6 p6⟩
    · have e : i = ds.length := by omega
      subst e
      obtain ⟨o6, s6⟩ := o2.show_ hG
      exact .inl ⟨w.stop H' fun b o q => o2.ex _ _ (s2 _ _ q), k _ _ _ M' H' ((s1.trans s2).trans s6) o6 (rp_lst.mpr ⟨Dl, ys, rfl, upd_same, RpA.mono s6 _ _ racc⟩) (hd acc M' p)⟩
end
end Dl

namespace Dl
open PySem PySem.Spec L2
section
variable {K : PySem.W.Frag} {ρ : Env'} {M M1 : MH} {ta tb tc te : TE} {t u tt : TT} {ts us : TS} {P : Da → MH → Prop} {PB : Bool → MH → Prop} {D : DE} {d e : Da} {i : Nat}

/-! ### slices -/
def OvP (K : PySem.W.Frag) (to : TO) (ρ : Env') (M : MH) (P : Option Int → MH → Prop) : Prop :=
  ∀ (σ : St) (F G H : Hp) (Q : Option Int → Hp → Prop), EnvD K F ρ σ → OkH K F M G H → (∀ o F' M' H', Same F F' → OkH K F' M' G H' → P o M' → Q o H') → to σ H Q
theorem ov_none {PO : Option Int → MH → Prop} (q : PO none M) : OvP K tNoPart ρ M PO := fun σ F G H Q hE hO k => k none F M H (Same.refl F) hO q
theorem ov_some {PO : Option Int → MH → Prop} (h : EvP K te ρ M fun d M1 => ∃ z, d = .sc (.int z) ∧ PO (some z) M1) : OvP K (tPart te) ρ M PO := fun σ F G H Q hE hO k =>
  h σ F G H _ hE hO fun v d F1 M1 H1 s1 o1 r1 ⟨z, e, p⟩ => by
    subst e
    exact ⟨z, rp_sc.mp r1, k _ F1 M1 H1 s1 o1 p⟩
def RSl (K : PySem.W.Frag) (r : V → Option Int → Option Int → Hp → VK → Prop) (d : Da) (lo hi : Option Int) (M : MH) (P : Da → MH → Prop) : Prop :=
  ∀ (x : V) (F G H : Hp) (Q : VK), Rp K F d x → OkH K F M G H → (∀ v d F' M' H', Same F F' → OkH K F' M' G H' → Rp K F' d v → P d M' → Q v H') → r x lo hi H Q
theorem ev_sl {r : V → Option Int → Option Int → Hp → VK → Prop} {tl th : TO} (h : EvP K te ρ M fun d M1 => OvP K tl ρ M1 fun lo M2 => OvP K th ρ M2 fun hi M3 => RSl K r d lo hi M3 P) : EvP K (tSl r te tl th) ρ M P := fun σ F G H Q hE hO k =>
  h σ F G H _ hE hO fun x d F1 M1 H1 s1 o1 r1 h1 => h1 σ F1 G H1 _ (hE.mono s1) o1 fun lo F2 M2 H2 s2 o2 h2 => h2 σ F2 G H2 _ (hE.mono (s1.trans s2)) o2 fun hi F3 M3 H3 s3 o3 h3 =>
    h3 x F3 G H3 Q (Rp.mono (s2.trans s3) _ _ r1) o3 fun v d F' M' H' s o r p => k v d F' M' H' (((s1.trans s2).trans s3).trans s) o r p
def cutD (xs : List Da) (lo hi : Option Int) : List Da := (xs.drop (HT.sIx xs.length 0 lo)).take (HT.sIx xs.length xs.length hi - HT.sIx xs.length 0 lo)
theorem rpA_cut {F : Hp} {ds : List Da} {xs : List V} {lo hi : Option Int} (h : RpA K F ds xs) : RpA K F (cutD ds lo hi) (cutV xs lo hi) := by
  unfold cutD cutV
  rw [h.length]
  exact (h.drop _).take _
theorem rsl_L {ds : List Da} {lo hi : Option Int} (hd : LstAt d M ds) (q : P (.lst (cutD ds lo hi)) M) : RSl K (rSlB K) d lo hi M P := fun x F G H Q rx hO k => by
  obtain ⟨a, xs, rfl, ha, ra⟩ := lstAt hd rx hO
  exact .inl ⟨a, xs, rfl, .inl (.inl ha), fun p hp => fin_lst hO hp (rpA_cut ra) q k⟩
theorem cutV_whole {xs : List V} {lo hi : Option Int} (h : HT.sIx xs.length 0 lo = 0 ∧ HT.sIx xs.length xs.length hi = xs.length) : cutV xs lo hi = xs := by
  unfold cutV
  rw [h.1, h.2]
  simp
theorem rsl_T {ds : List Da} {lo hi : Option Int} (q : P (.tup (cutD ds lo hi)) M) : RSl K (rSlB K) (.tup ds) lo hi M P := fun x F G H Q rx hO k => by
  obtain ⟨a, xs, rfl, ha, ra⟩ := rp_tup.mp rx
  refine .inr ⟨a, xs, rfl, sqT_mono hO.ex ha, fun hw => ?_, fun _ p hp => fin_tup hO hp (rpA_cut ra) q k⟩
  have rc := rpA_cut (lo := lo) (hi := hi) ra
  rw [cutV_whole hw] at rc
  exact k _ _ F M H (Same.refl F) hO (rp_tup.mpr ⟨a, xs, rfl, ha, rc⟩) q
/-- xs[::-1] -/
theorem ev_rev (h : EvP K te ρ M fun d M1 => ∃ ds, LstAt d M1 ds ∧ P (.lst ds.reverse) M1) : EvP K (tRevL K te) ρ M P := fun σ F G H Q hE hO k =>
  h σ F G H _ hE hO fun x d F1 M1 H1 s1 o1 r1 ⟨ds, hd, p⟩ => by
    obtain ⟨a, xs, rfl, ha, ra⟩ := lstAt hd r1 o1
    exact ⟨a, xs, rfl, .inl (.inl ha), fun q hq => fin_lst (P := P) o1 hq ra.reverse p fun v d F' M' H' s o r p' => k v d F' M' H' (s1.trans s) o r p'⟩

/-! ### more methods of lists -/
abbrev rInsert : V → List V → Hp → VK → Prop := fun x vs H Q => ∃ (l : Addr) (xs : List V) (i : Int) (y : V), x = .ref l ∧ vs = [.int i, y] ∧ H l = some (.lst xs) ∧ xs.length < sizeLine ∧ 0 ≤ i ∧ i < 2 ^ 63 ∧ Q .non (upd H l (.lst (xs.take i.toNat ++ [y] ++ xs.drop i.toNat)))
theorem rmt_insert {p : Addr} {ds : List Da} {z : Int} (hm : M p = some (.lst ds)) (hl : ds.length < 1000) (h0 : 0 ≤ z) (h1 : z ≤ 1000) (q : P (.sc .non) (updM M p (.lst (ds.take z.toNat ++ [d] ++ ds.drop z.toNat)))) : RMt K rInsert (.sc (.ref p)) [.sc (.int z), d] M P := fun x vs F G H Q r1 r2 hO k => by
  have ex := rp_sc.mp r1
  subst ex
  obtain ⟨y, w, rfl, ry, rw'⟩ := rpA_two r2
  have ey := rp_sc.mp ry
  subst ey
  obtain ⟨xs, hx, rx⟩ := (hO.mu p _ hm).2
  have l := rx.length
  exact ⟨p, xs, z, w, rfl, rfl, hx, sz_lt (by omega), h0, by omega, k _ _ F _ _ (Same.refl F) (putL hO hm (((rx.take _).append (RpA.cons_ rw' RpA.nil_)).append (rx.drop _))) (rp_sc.mpr rfl) q⟩

/-! ### sources of either kind -/
theorem sr_seq {tl : TE} {P : List Da → MH → Prop} (h : EvP K tl ρ M fun d M1 => ∃ ds, (d = .lst ds ∨ d = .tup ds) ∧ P ds M1) : SrP K (iSeq K tl) ρ M P := fun σ F G H R hE hO k =>
  h σ F G H _ hE hO fun v d F1 M1 H1 s1 o1 r1 ⟨ds, e, p⟩ => by
    rcases e with e | e
    · subst e
      obtain ⟨a, xs, rfl, hx, rx⟩ := rp_lst.mp r1
      exact ⟨a, xs, rfl, .inl ⟨.inl (.inl (o1.ex _ _ hx)), k _ ds F1 M1 H1 s1 o1 (sw_list hx rx) p⟩⟩
    · subst e
      obtain ⟨a, xs, rfl, hx, rx⟩ := rp_tup.mp r1
      exact ⟨a, xs, rfl, .inr ⟨sqT_mono o1.ex hx, k _ ds F1 M1 H1 s1 o1 (sw_tup hx rx) p⟩⟩
theorem sw_enumT {F : Hp} {a : Addr} {ds : List Da} {xs : List V} (h : SqT K F a xs) (r : RpA K F ds xs) : SW K (IteT K a) (enumD ds) F where
  go := fun i H hi s => by
    rw [enumD_length] at hi
    obtain ⟨x, hx, _⟩ := r.get (List.getElem?_eq_getElem hi)
    exact ⟨xs, x, sqT_mono s h, hx⟩
  stop := fun H s => ⟨xs, sqT_mono s h, by rw [enumD_length, r.length]; exact Nat.le_refl _⟩
  yld := fun i F1 M G H x H' hi s o y => by
    obtain ⟨T, z, e, hT, e2, y⟩ := y
    subst e e2
    have hx := y xs (sqT_mono o.ex (sqT_mono s h))
    obtain ⟨d, hd, rd⟩ := r.get' hx
    refine ⟨upd F1 T (.tup [.int (i : Nat), z]), _, sm_new (o.noF hT), o.new hT, enumD_at hd, rp_tup.mpr ⟨T, _, rfl, .inl (.inl upd_same), ?_⟩⟩
    exact RpA.cons_ (rp_sc.mpr rfl) (RpA.cons_ (Rp.mono (s.trans (sm_new (o.noF hT))) _ _ rd) RpA.nil_)
theorem sr_enumA {ta : TA} {P : List Da → MH → Prop} (h : AvP K ta ρ M fun es M1 => ∃ ds, (es = [.lst ds] ∨ es = [.tup ds]) ∧ P (enumD ds) M1) : SrP K (iEnumA K ta) ρ M P := fun σ F G H R hE hO k =>
  h σ F G H _ hE hO fun vs es F1 M1 H1 s1 o1 r1 ⟨ds, e, p⟩ => by
    rcases e with e | e
    · subst e
      obtain ⟨x, rfl, rx⟩ := rpA_one r1
      obtain ⟨a, xs, rfl, hx, rx⟩ := rp_lst.mp rx
      exact ⟨a, xs, rfl, .inl ⟨.inl (.inl (o1.ex _ _ hx)), k _ _ F1 M1 H1 s1 o1 (sw_enum hx rx) p⟩⟩
    · subst e
      obtain ⟨x, rfl, rx⟩ := rpA_one r1
      obtain ⟨a, xs, rfl, hx, rx⟩ := rp_tup.mp rx
      exact ⟨a, xs, rfl, .inr ⟨sqT_mono o1.ex hx, k _ _ F1 M1 H1 s1 o1 (sw_enumT hx rx) p⟩⟩

/-! ### dicts that change -/
def valD (kvs : List (Key × Da)) (k : Key) : Option Da := (kvs.find? fun kv => decide (kv.1 = k)).map (·.2)
def putD (kvs : List (Key × Da)) (k : Key) (v : Da) : List (Key × Da) :=
  if (kvs.any fun kv => decide (kv.1 = k)) = true then kvs.map (fun kv => if kv.1 = k then (kv.1, v) else kv) else kvs ++ [(k, v)]
def dropD (kvs : List (Key × Da)) (k : Key) : List (Key × Da) := kvs.filter fun kv => decide (kv.1 ≠ k)
theorem rpK_val {F : Hp} {k : Key} : ∀ {kvs : List (Key × Da)} {ys : List (Key × V)}, RpK K F kvs ys → valD kvs k = some d → ∃ v, valV ys k = some v ∧ Rp K F d v
  | _, _, .nil, h => by cases h
  | (k1, d1) :: r, (k2, v2) :: r2, .cons ⟨e1, e2⟩ t, h => by
    have e1' : k1 = k2 := e1
    subst e1'
    by_cases hk : k1 = k
    · have : valD ((k1, d1) :: r) k = some d1 := by simp [valD, List.find?_cons, hk]
      rw [this] at h
      cases h
      exact ⟨v2, valV_pos hk, e2⟩
    · have : valD ((k1, d1) :: r) k = valD r k := by simp [valD, List.find?_cons, hk]
      rw [this] at h
      obtain ⟨v, hv, rv⟩ := rpK_val t h
      exact ⟨v, by rw [valV_neg hk]; exact hv, rv⟩
theorem rpK_none {F : Hp} {k : Key} : ∀ {kvs : List (Key × Da)} {ys : List (Key × V)}, RpK K F kvs ys → valD kvs k = none → valV ys k = none
  | _, _, .nil, h => rfl
  | (k1, d1) :: r, (k2, v2) :: r2, .cons ⟨e1, e2⟩ t, h => by
    have e1' : k1 = k2 := e1
    subst e1'
    by_cases hk : k1 = k
    · have : valD ((k1, d1) :: r) k = some d1 := by simp [valD, List.find?_cons, hk]
      rw [this] at h
      cases h
    · have : valD ((k1, d1) :: r) k = valD r k := by simp [valD, List.find?_cons, hk]
      rw [this] at h
      rw [valV_neg hk]
      exact rpK_none t h
theorem rpK_any {F : Hp} {k : Key} : ∀ {kvs : List (Key × Da)} {ys : List (Key × V)}, RpK K F kvs ys → (kvs.any fun kv => decide (kv.1 = k)) = ys.any fun kv => decide (kv.1 = k)
  | _, _, .nil => rfl
  | (k1, d1) :: r, (k2, v2) :: r2, .cons ⟨e1, e2⟩ t => by
    have e1' : k1 = k2 := e1
    subst e1'
    rw [List.any_cons, List.any_cons, rpK_any t]
theorem rpK_map {F : Hp} {k : Key} {v : V} (rv : Rp K F d v) : ∀ {kvs : List (Key × Da)} {ys : List (Key × V)}, RpK K F kvs ys → RpK K F (kvs.map fun kv => if kv.1 = k then (kv.1, d) else kv) (ys.map fun kv => if kv.1 = k then (kv.1, v) else kv)
  | _, _, .nil => .nil
  | (k1, d1) :: r, (k2, v2) :: r2, .cons ⟨e1, e2⟩ t => by
    have e1' : k1 = k2 := e1
    subst e1'
    rw [List.map_cons, List.map_cons]
    refine .cons ?_ (rpK_map rv t)
    by_cases hk : k1 = k
    · rw [if_pos hk, if_pos hk]
      exact ⟨rfl, rv⟩
    · rw [if_neg hk, if_neg hk]
      exact ⟨rfl, e2⟩
theorem rpK_snoc {F : Hp} {k : Key} {v : V} (rv : Rp K F d v) : ∀ {kvs : List (Key × Da)} {ys : List (Key × V)}, RpK K F kvs ys → RpK K F (kvs ++ [(k, d)]) (ys ++ [(k, v)])
  | _, _, .nil => .cons ⟨rfl, rv⟩ .nil
  | _, _, .cons h t => .cons h (rpK_snoc rv t)
theorem rpK_put {F : Hp} {k : Key} {v : V} {kvs : List (Key × Da)} {ys : List (Key × V)} (h : RpK K F kvs ys) (rv : Rp K F d v) : RpK K F (putD kvs k d) (putK ys k v) := by
  unfold putD putK
  rw [rpK_any h]
  split
  · exact rpK_map rv h
  · exact rpK_snoc rv h
theorem rpK_drop {F : Hp} {k : Key} : ∀ {kvs : List (Key × Da)} {ys : List (Key × V)}, RpK K F kvs ys → RpK K F (dropD kvs k) (dropK ys k)
  | _, _, .nil => .nil
  | (k1, d1) :: r, (k2, v2) :: r2, .cons ⟨e1, e2⟩ t => by
    have e1' : k1 = k2 := e1
    subst e1'
    unfold dropD dropK
    rw [List.filter_cons, List.filter_cons]
    by_cases hk : k1 = k
    · rw [if_neg (by simp [hk]), if_neg (by simp [hk])]
      exact rpK_drop t
    · rw [if_pos (by simp [hk]), if_pos (by simp [hk])]
      exact .cons ⟨rfl, e2⟩ (rpK_drop t)
theorem rpK_len {F : Hp} : ∀ {kvs : List (Key × Da)} {ys : List (Key × V)}, RpK K F kvs ys → kvs.length = ys.length
  | _, _, .nil => rfl
  | _, _, .cons h t => congrArg Nat.succ (rpK_len t)
def keyD : Da → Option Key
  | .sc (.int i) => some (.inl i)
  | .sc (.str x) => some (.inr x)
  | _ => none
theorem keyD_v {F : Hp} {y : V} {k : Key} (h : keyD d = some k) (r : Rp K F d y) : y = kV k := by
  cases d with
  | sc v =>
    have e := rp_sc.mp r
    subst e
    cases y <;> cases h <;> rfl
  | _ => cases h
theorem ev_dget {td ty : TE} (h : EvP K td ρ M fun o M1 => EvP K ty ρ M1 fun y M2 => ∃ p kvs k z, o = .sc (.ref p) ∧ M2 p = some (.dK kvs) ∧ keyD y = some k ∧ valD kvs k = some z ∧ P z M2) : EvP K (tDGet td ty) ρ M P := fun σ F G H Q hE hO k =>
  h σ F G H _ hE hO fun x o F1 M1 H1 s1 o1 r1 h1 => h1 σ F1 G H1 _ (hE.mono s1) o1 fun y z F2 M2 H2 s2 o2 r2 ⟨p, kvs, ky, w, e, hm, hk, hv, q⟩ => by
    subst e
    have ex := rp_sc.mp r1
    subst ex
    have ey := keyD_v hk r2
    subst ey
    obtain ⟨ys, hy, ry⟩ := (o2.mu p _ hm).2
    obtain ⟨v, ev, rv⟩ := rpK_val ry hv
    exact ⟨p, v, rfl, by rw [← ev]; exact DGet.k hy, k v w F2 M2 H2 (s1.trans s2) o2 rv q⟩
theorem stp_dput {td ty tv : TE} (h : EvP K tv ρ M fun v M1 => EvP K td ρ M1 fun o M2 => EvP K ty ρ M2 fun y M3 => ∃ p kvs k, o = .sc (.ref p) ∧ M3 p = some (.dK kvs) ∧ keyD y = some k ∧ kvs.length < 100000 ∧ D.nx ρ (updM M3 p (.dK (putD kvs k v)))) : StP K (sDPut td ty tv) ρ M D := fun σ F G H D0 hE hO m =>
  h σ F G H _ hE hO fun v z F1 M1 H1 s1 o1 r1 h1 => h1 σ F1 G H1 _ (hE.mono s1) o1 fun x o F2 M2 H2 s2 o2 r2 h2 => h2 σ F2 G H2 _ (hE.mono (s1.trans s2)) o2 fun y w F3 M3 H3 s3 o3 r3 ⟨p, kvs, k, e, hm, hk, hl, q⟩ => by
    subst e
    have ex := rp_sc.mp r2
    subst ex
    have ey := keyD_v hk r3
    subst ey
    obtain ⟨ys, hy, ry⟩ := (o3.mu p _ hm).2
    refine ⟨p, _, rfl, DPut.k hy (sz_lt (by rw [← rpK_len ry]; exact hl)), ?_⟩
    exact m.nx σ ρ F3 _ _ ((s1.trans s2).trans s3) (hE.mono ((s1.trans s2).trans s3)) (putDK o3 hm (rpK_put ry (Rp.mono (s2.trans s3) _ _ r1))) q
/-- a display -/
def PvP (K : PySem.W.Frag) : List (TE × TE) → Env' → MH → (List (Da × Da) → MH → Prop) → Prop
  | [], _, M, P => P [] M
  | (tk, tv) :: r, ρ, M, P => EvP K tk ρ M fun k M1 => EvP K tv ρ M1 fun v M2 => PvP K r ρ M2 fun ps M3 => P ((k, v) :: ps) M3
def PairsR (K : PySem.W.Frag) (F : Hp) : List (Da × Da) → List (V × V) → Prop := Paired fun p q => Rp K F p.1 q.1 ∧ Rp K F p.2 q.2
theorem pairs_run {σ : St} {G : Hp} : ∀ {trs : List (TE × TE)} {M : MH} {PP : List (Da × Da) → MH → Prop} {F H : Hp} {Q : List (V × V) → Hp → Prop}, PvP K trs ρ M PP → EnvD K F ρ σ → OkH K F M G H →
    (∀ vs ps F' M' H', Same F F' → OkH K F' M' G H' → PairsR K F' ps vs → PP ps M' → Q vs H') → tPairs trs σ H Q
  | [], M, PP, F, H, Q, h, hE, hO, k => k [] [] F M H (Same.refl F) hO .nil h
  | (tk, tv) :: r, M, PP, F, H, Q, h, hE, hO, k =>
    (show EvP K tk ρ M _ from h) σ F G H _ hE hO fun x d F1 M1 H1 s1 o1 r1 h1 => h1 σ F1 G H1 _ (hE.mono s1) o1 fun y e F2 M2 H2 s2 o2 r2 h2 =>
      pairs_run h2 (hE.mono (s1.trans s2)) o2 fun vs ps F3 M3 H3 s3 o3 r3 p => k _ _ F3 M3 H3 ((s1.trans s2).trans s3) o3 (.cons ⟨Rp.mono (s2.trans s3) _ _ r1, Rp.mono s3 _ _ r2⟩ r3) p
def mergeD (kvs more : List (Key × Da)) : List (Key × Da) := more.foldl (fun acc kv => putD acc kv.1 kv.2) kvs
theorem rpK_merge {F : Hp} : ∀ {more : List (Key × Da)} {ms : List (Key × V)} {kvs : List (Key × Da)} {ys : List (Key × V)}, RpK K F more ms → RpK K F kvs ys → RpK K F (mergeD kvs more) (mergeK ys ms)
  | _, _, kvs, ys, .nil, h => h
  | (k1, d1) :: r, (k2, v2) :: r2, kvs, ys, .cons ⟨e1, e2⟩ t, h => by
    have e1' : k1 = k2 := e1
    subst e1'
    exact rpK_merge (more := r) (ms := r2) t (rpK_put h e2)
def keysD : List (Da × Da) → Option (List (Key × Da))
  | [] => some []
  | (k, v) :: r => match keyD k, keysD r with
    | some k, some r => some ((k, v) :: r)
    | _, _ => none
theorem keysD_run {F : Hp} : ∀ {ps : List (Da × Da)} {vs : List (V × V)} {kvs : List (Key × Da)}, PairsR K F ps vs → keysD ps = some kvs → ∃ ys : List (Key × V), vs = ys.map (fun kv => (kV kv.1, kv.2)) ∧ RpK K F kvs ys
  | _, _, kvs, .nil, h => by
    have e : kvs = [] := (Option.some.inj h).symm
    subst e
    exact ⟨[], rfl, .nil⟩
  | (k1, d1) :: r, (k2, v2) :: r2, kvs, .cons ⟨e1, e2⟩ t, h => by
    unfold keysD at h
    cases hk : keyD k1 with
    | none =>
      rw [hk] at h
      cases h
    | some k =>
      cases hr : keysD r with
      | none =>
        rw [hk, hr] at h
        cases h
      | some r' =>
        rw [hk, hr] at h
        have e : (k, d1) :: r' = kvs := Option.some.inj h
        subst e
        obtain ⟨ys, ey, ry⟩ := keysD_run t hr
        have e3 := keyD_v hk e1
        exact ⟨(k, v2) :: ys, by rw [List.map_cons, ← ey, ← e3], .cons ⟨rfl, e2⟩ ry⟩
theorem ev_disp {trs : List (TE × TE)} (h : PvP K trs ρ M fun ps M1 => ∃ kvs, keysD ps = some kvs ∧ kvs.length ≤ 15 ∧ ∀ p, M1 p = none → P (.sc (.ref p)) (updM M1 p (.dK (mergeD [] kvs)))) : EvP K (tDisp trs) ρ M P := fun σ F G H Q hE hO k => fun p hp => by
  have oh := hO.hide (o := .dK []) hp
  refine pairs_run h hE oh fun vs ps F1 M1 H1 s1 o1 r1 ⟨kvs, hk, hl, q⟩ => ?_
  obtain ⟨ys, ey, ry⟩ := keysD_run r1 hk
  have hp1 : H1 p = some (.dK []) := o1.gx _ _ upd_same
  refine ⟨hp1, ys, ey, by rw [← rpK_len ry]; exact hl, ?_⟩
  have nM := (o1.gd p _ upd_same).2
  have nF := (o1.gd p _ upd_same).1
  have hG : G p = none := hO.noG hp
  have rm := rpK_merge ry (kvs := []) (ys := []) .nil
  have o2 : OkH K F1 (updM M1 p (.dK (mergeD [] kvs))) G (upd H1 p (.dK (mergeK [] ys))) := by
    have o3 := o1.rehide (o' := .dK (mergeK [] ys))
    refine ⟨o3.ex, fun a u e => ?_, fun b u e => ?_, fun a u e => ?_⟩
    · by_cases ha : a = p
      · subst ha
        rw [updM_same] at e
        cases e
        exact ⟨nF, _, upd_same, rm⟩
      · rw [updM_ne ha] at e
        exact o3.mu a u e
    · have ne : b ≠ p := by
        rintro rfl
        rw [hG] at e
        cases e
      exact o3.gx b u (by rw [upd_ne ne]; exact e)
    · have ne : a ≠ p := by
        rintro rfl
        rw [hG] at e
        cases e
      obtain ⟨h1, h2⟩ := o3.gd a u (by rw [upd_ne ne]; exact e)
      exact ⟨h1, by rw [updM_ne ne]; exact h2⟩
  exact k _ _ F1 _ _ s1 o2 (rp_sc.mpr rfl) (q p nM)
/-- a dict comprehension -/
theorem ev_dc {wi : TI} {g : TG} {tk tv : TE} {vs js : List Nat} (hj : ∀ j ∈ js, j ∈ vs) (h : SrP K wi ρ M fun ds M1 => ∃ I : Nat → List (Key × Da) → MH → Prop, I 0 [] M1 ∧
      (∀ i d acc M', ds[i]? = some d → I i acc M' → ∃ xs, TgOk K g js d xs ∧ TvP K tt (setAllD (wipeD ρ vs) js xs) M' fun b M2 =>
        if b = true then acc.length < 100000 ∧ EvP K tk (setAllD (wipeD ρ vs) js xs) M2 fun y M3 => EvP K tv (setAllD (wipeD ρ vs) js xs) M3 fun z M4 => ∃ k, keyD y = some k ∧ I (i + 1) (putD acc k z) M4 else I (i + 1) acc M2) ∧
      ∀ acc M', I ds.length acc M' → ∀ p, M' p = none → P (.sc (.ref p)) (updM M' p (.dK acc))) : EvP K (tDc wi g tt tk tv vs) ρ M P := fun σ F G H Q hE hO k =>
  h σ F G H _ hE hO fun J ds F1 M1 H1 s1 o1 w ⟨I, i0, hs, hd⟩ => fun Dl hDl => by
    have hG : G Dl = none := o1.noG hDl
    refine ⟨fun i m H' => m = ds.length - i ∧ i ≤ ds.length ∧ ∃ F' M' acc ys, Same F1 F' ∧ OkH K F' M' (upd G Dl (.dK ys)) H' ∧ RpK K F' acc ys ∧ I i acc M', ⟨ds.length, by simp, Nat.zero_le _, F1, M1, [], [], Same.refl F1, o1.hide hDl, .nil, i0⟩, ?_⟩
    rintro i n H' ⟨rfl, hi, F', M', acc, ys, s2, o2, racc, p⟩
    by_cases hlt : i < ds.length
    · refine .inr ⟨w.go i H' hlt fun b o q => o2.ex _ _ (s2 _ _ q), fun H3 => ∃ F3 M3 acc ys, Same F1 F3 ∧ OkH K F3 M3 (upd G Dl (.dK ys)) H3 ∧ RpK K F3 acc ys ∧ I (i + 1) acc M3, fun H3 q => ⟨ds.length - (i + 1), by omega, rfl, hlt, q⟩, fun x H2 y => ?_⟩
      obtain ⟨F2, d, s3, o3, hd3, r3⟩ := w.yld i F' M' _ H' x H2 hlt s2 o2 y
      obtain ⟨xs, tg, tv'⟩ := hs i d acc M' hd3 p
      refine tg x F2 H2 (wipe σ vs) _ r3 o3.ex fun zs rz => ⟨by rw [wipe_setAll hj, wipe_wipe], ?_⟩
      have e3 : EnvD K F2 (setAllD (wipeD ρ vs) js xs) (setAll (wipe σ vs) js zs) := (((hE.wipe vs).mono ((s1.trans s2).trans s3))).setAll rz
      refine tv' _ F2 _ H2 _ e3 o3 fun b F4 M4 H4 s4 o4 q4 => ?_
      cases b with
      | true =>
        rw [if_pos rfl]
        obtain ⟨hl, ev⟩ := (show acc.length < 100000 ∧ EvP K tk (setAllD (wipeD ρ vs) js xs) M4 _ from q4)
        refine ev _ F4 _ H4 _ (e3.mono s4) o4 fun v z F5 M5 H5 s5 o5 r5 q5 => ?_
        refine q5 _ F5 _ H5 _ (e3.mono (s4.trans s5)) o5 fun v2 z2 F6 M6 H6 s6 o6 r6 ⟨ky, hk, q6⟩ => ?_
        have rk : RpK K F6 acc ys := Paired.mapP racc fun p q z => ⟨z.1, Rp.mono (((s3.trans s4).trans s5).trans s6) _ _ z.2⟩
        refine ⟨ys, ky, keyD_v hk r5, o6.gx _ _ upd_same, sz_lt (by rw [← rpK_len racc]; exact hl), F6, M6, putD acc ky z2, putK ys ky v2, (((s2.trans s3).trans s4).trans s5).trans s6, o6.rehide, rpK_put rk r6, q6⟩
      | false =>
        rw [if_neg Bool.false_ne_true]
        exact ⟨F4, M4, acc, ys, (s2.trans s3).trans s4, o4, Paired.mapP racc fun p q z => ⟨z.1, Rp.mono (s3.trans s4) _ _ z.2⟩, q4⟩
    · have e : i = ds.length := by omega
      subst e
      refine .inl ⟨w.stop H' fun b o q => o2.ex _ _ (s2 _ _ q), ?_⟩
      have nM := (o2.gd Dl _ upd_same).2
      have nF := (o2.gd Dl _ upd_same).1
      have hx : H' Dl = some (.dK ys) := o2.gx _ _ upd_same
      have o3 : OkH K F' (updM M' Dl (.dK acc)) G H' := by
        refine ⟨o2.ex, fun a u e => ?_, fun b u e => ?_, fun a u e => ?_⟩
        · by_cases ha : a = Dl
          · subst ha
            rw [updM_same] at e
            cases e
            exact ⟨nF, _, hx, racc⟩
          · rw [updM_ne ha] at e
            exact o2.mu a u e
        · have ne : b ≠ Dl := by
            rintro rfl
            rw [hG] at e
            cases e
          exact o2.gx b u (by rw [upd_ne ne]; exact e)
        · have ne : a ≠ Dl := by
            rintro rfl
            rw [hG] at e
            cases e
          obtain ⟨h1, h2⟩ := o2.gd a u (by rw [upd_ne ne]; exact e)
          exact ⟨h1, by rw [updM_ne ne]; exact h2⟩
      exact k _ _ F' _ H' (s1.trans s2) o3 (rp_sc.mpr rfl) (hd acc M' p Dl nM)

/-! ### tables of the written part -/
abbrev rInKD (K : PySem.W.Frag) (a : Addr) : R2 := fun x y H Q => ∃ (z : Str) (r : Option Value), x = .str z ∧ y = .ref a ∧ PySem.W.nsIn K a z = some r ∧ Q (.bl r.isSome) H
abbrev rNotInKD (K : PySem.W.Frag) (a : Addr) : R2 := fun x y H Q => ∃ (z : Str) (r : Option Value), x = .str z ∧ y = .ref a ∧ PySem.W.nsIn K a z = some r ∧ Q (.bl (!r.isSome)) H
abbrev rItemKD (K : PySem.W.Frag) (a : Addr) : R2 := fun x y H Q => ∃ (z : Str) (u0 : Value) (v0 : V), x = .ref a ∧ y = .str z ∧ PySem.W.nsIn K a z = some (some u0) ∧ RelV v0 u0 ∧ Q v0 H
theorem rop_notInKD {a : Addr} {z : Str} {r : Option Value} (h : PySem.W.nsIn K a z = some r) (q : P (.sc (.bl (!r.isSome))) M) : ROp K (rNotInKD K a) (.sc (.str z)) (.sc (.ref a)) M P := fun x y F G H Q rx ry hO k => by
  have ex := rp_sc.mp rx
  have ey := rp_sc.mp ry
  subst ex ey
  exact ⟨z, r, rfl, rfl, h, fin_v hO q k⟩
theorem rop_itemKD {a : Addr} {z : Str} {u0 : Value} {v0 : V} (h : PySem.W.nsIn K a z = some (some u0)) (rv : RelV v0 u0) (hd : ∀ F, Rp K F d v0) (q : P d M) : ROp K (rItemKD K a) (.sc (.ref a)) (.sc (.str z)) M P := fun x y F G H Q rx ry hO k => by
  have ex := rp_sc.mp rx
  have ey := rp_sc.mp ry
  subst ex ey
  exact ⟨z, u0, v0, rfl, rfl, h, rv, k _ _ F M H (Same.refl F) hO (hd F) q⟩
end

/-! ### a def keeps its promise -/
theorem start_env {K : PySem.W.Frag} {F : Hp} {N : List Str} {ds : List Da} {vs : List V} (r : RpA K F ds vs) : EnvD K F (ds.map some ++ List.replicate (N.length - ds.length) none) (L2.start N vs) := by
  unfold L2.start
  refine ⟨by rw [List.length_append, List.length_append, List.length_map, List.length_map, List.length_replicate, List.length_replicate, r.length], fun i d h => ?_⟩
  by_cases hi : i < ds.length
  · rw [List.getElem?_append_left (by rw [List.length_map]; exact hi), List.getElem?_map, List.getElem?_eq_getElem hi] at h
    have e : ds[i] = d := Option.some.inj (Option.some.inj h)
    obtain ⟨x, hx, rx⟩ := r.get (show ds[i]? = some d by rw [List.getElem?_eq_getElem hi, e])
    exact ⟨x, by rw [List.getElem?_append_left (by rw [List.length_map, ← r.length]; exact hi), List.getElem?_map, hx] <;> rfl, rx⟩
  · rw [List.getElem?_append_right (by rw [List.length_map]; omega), List.getElem?_replicate] at h
    split at h <;> cases h
theorem ok_fn {P : Program} {w : World} {K : PySem.W.Frag} {mg : Str → Option Value} {base : Heap} {x qual : Str} {params : Arguments} {body : List Stmt} {scope : Scope} {f : Addr} {fd : FuncData} {N ps : List Str} {k : Nat} {S : Spd}
    (F : FunD K x qual params body scope [] [] f fd) (Sc : FnScope N ps scope) (hl : ∀ ds M Q, S ds M Q → ds.length = ps.length)
    (h : ∀ (cdv : Value) (A : Around) (outer : List Env) (s : Shared) (H : Hp) (E : XK), Room k (A.deeper (PyProof.Rows.envOfC qual scope s.heap.objs.size f cdv)) →
      ∃ t, PSs (cxOf CX0 P w K mg base N qual scope f cdv A outer s H E).nox body t ∧ ∀ ds M Q, S ds M Q → StP K t (ds.map some ++ List.replicate (N.length - ds.length) none) M ⟨fun _ M' => Q (.sc .non) M', Q, fun _ _ => False, fun _ _ => False⟩) :
    FnOk P w K mg base CX0 (k + 1) f fd ps (spOf K S) := by
  refine F.ok Sc (fun vs H Q E ⟨F0, G, M, ds, Q', r, o, hS, kk⟩ => by rw [← r.length]; exact hl ds M Q' hS) fun cdv A outer s H vs Q E hr ⟨F0, G, M, ds, Q', r, o, hS, kk⟩ => ?_
  obtain ⟨t, ht, hd⟩ := h cdv A outer s H E hr
  refine ⟨t, PSs.nox ht, hd ds M Q' hS (L2.start N vs) F0 G H _ (start_env r) o ⟨fun σ ρ F' M' H' s e o p => kk _ _ F' M' H' s o (rp_sc.mpr rfl) p, kk, fun _ _ _ _ _ _ _ _ z => z.elim, fun _ _ _ _ _ _ _ _ z => z.elim⟩⟩
end Dl

namespace Dl
open PySem PySem.Spec L2
/-- xs[i], by values -/
theorem pget_list {X : Cx} : PGet X (rIxL X.K) := by
  intro pins s σ H x y v u Q I rx ry h
  obtain ⟨p, xs, i, z, rfl, rfl, hq, he, q⟩ := h
  cases rx
  obtain ⟨t, rfl⟩ := ry
  obtain ⟨its, r, pl, hz⟩ := I.list hq
  obtain ⟨j, h1, h2, h3, h4, h5⟩ := atI_get he
  obtain ⟨w, ew, rw'⟩ := r.get h2
  have hl := r.length
  have hn := line63
  have fin : EP X pins σ Q w s := ⟨z, H, I, rw', q⟩
  by_cases h0 : 0 ≤ i
  · have hj : i.toNat = j := by
      rw [seqIndex_of h0 h5] at h1
      exact Option.some.inj h1
    exact wpAny_getItem_list pl.isList h0 (by omega) (by rw [hj]; simpa using ew) fin
  · have hj : (i + (its.toArray.size : Int)).toNat = j := by
      rw [seqIndex_neg (by omega) h4] at h1
      rw [List.size_toArray, ← hl]
      exact Option.some.inj h1
    exact wpAny_getItem_list_neg pl.isList (by omega) (by rw [List.size_toArray] <;> omega) (by omega) (by rw [hj]; simpa using ew) fin

/-! ### what may be called -/
structure Cal (P : Program) (w : World) (K : PySem.W.Frag) (mg : Str → Option Value) (base : Heap) (k : Nat) (x : Str) (ps : List Str) (S : Spd) : Prop where
  ex : ∃ f fd, mg x = some (.ref f) ∧ FnOk P w K mg base CX0 k f fd ps (spOf K S) ∧ PySem.W.keepIn K (.ref f) = true ∧ Binds K fd ps []
structure CalM (P : Program) (w : World) (K : PySem.W.Frag) (mg : Str → Option Value) (base : Heap) (C : Addr) (k : Nat) (m : Str) (ps : List Str) (S : Spd) : Prop where
  cl : Cls K C
  ex : ∃ f fd, Meth K C m f ∧ FnOk P w K mg base CX0 k f fd ps (spOf K S) ∧ Binds K fd ps []
structure CalC (P : Program) (w : World) (K : PySem.W.Frag) (mg : Str → Option Value) (base : Heap) (C : Addr) (k : Nat) (x : Str) (ps : List Str) (S : Spd) : Prop where
  ex : ∃ f fd, mg x = some (.ref C) ∧ Mk K C f ∧ FnOk P w K mg base CX0 k f fd ps (spOf K S) ∧ Binds K fd ps []
section
variable {X : Cx} {k j : Nat} {C : Addr} {ps : List Str} {S : Spd} {x m : Str} {p pos apos : Pos} {e o : Expr} {es : List Expr} {ta : TE} {t : TA}
theorem pe_calD (c : Cal X.prog X.w X.K X.mg X.base k x ps S) (hr : Room k X.A) (hg : Gl X x) (ha : PA X (e :: es) t) (hdb : (x == ("__debug__" : Str)) = false := by decide)
    (he : starEach (e :: es) X.env = (false, eval e X.env) :: starEach es X.env := by rfl) (hpl : (backTo pos (starEach es X.env)).any (·.1) = false := by rfl) : PE X (.Call (.Name x p) (e :: es) [] pos) (tCall (spOf X.K S) [] E0 t) := by
  obtain ⟨f, fd, hm, F, hk, hb⟩ := c.ex
  exact pe_call F hr hg hm hk hb .nil pass0 ha hdb he hpl
theorem pe_metD {pl : Sem Bool} (c : CalM X.prog X.w X.K X.mg X.base C k m ps S) (hr : Room k X.A) (he : PE X o ta) (ha : PA X (e :: es) t)
    (hst : starEach (e :: es) X.env = (false, eval e X.env) :: starEach es X.env := by rfl) (hpl : (backTo pos (starEach es X.env)).any (·.1) = false := by rfl)
    (ht : eval (.Call (.Attribute o m apos) (e :: es) [] pos) X.env = (do
      let ov ← eval o X.env
      standAt apos.atName
      let (f, first) ← holding [ov] (getMethod ov m pl)
      callWith pos f first (backTo pos (starEach (e :: es) X.env)) (backToKw pos (keywordEach [] X.env))) := by rfl) : PE X (.Call (.Attribute o m apos) (e :: es) [] pos) (tMeth C m (spOf X.K S) [] E0 ta t) := by
  obtain ⟨f, fd, hm, F, hb⟩ := c.ex
  exact pe_meth he c.cl hm F hr hb .nil pass0 ha hst hpl ht
theorem pe_met0D {pl : Sem Bool} (c : CalM X.prog X.w X.K X.mg X.base C k m ps S) (hr : Room k X.A) (he : PE X o ta)
    (ht : eval (.Call (.Attribute o m apos) [] [] pos) X.env = (do
      let ov ← eval o X.env
      standAt apos.atName
      let (f, first) ← holding [ov] (getMethod ov m pl)
      callWith pos f first (backTo pos (starEach [] X.env)) (backToKw pos (keywordEach [] X.env))) := by rfl) : PE X (.Call (.Attribute o m apos) [] [] pos) (tMeth C m (spOf X.K S) [] E0 ta tNil) := by
  obtain ⟨f, fd, hm, F, hb⟩ := c.ex
  exact pe_meth0 he c.cl hm F hr hb .nil pass0 ht
theorem pe_makD (c : CalC X.prog X.w X.K X.mg X.base C k x ps S) (hr : Room (k + 1) X.A) (hg : Gl X x) (ha : PA X (e :: es) t) (hdb : (x == ("__debug__" : Str)) = false := by decide)
    (he : starEach (e :: es) X.env = (false, eval e X.env) :: starEach es X.env := by rfl) (hpl : (backTo pos (starEach es X.env)).any (·.1) = false := by rfl) : PE X (.Call (.Name x p) (e :: es) [] pos) (tMake C (spOf X.K S) [] E0 t) := by
  obtain ⟨f, fd, hm, M, F, hb⟩ := c.ex
  exact pe_make M F hr hg hm hb .nil pass0 ha hdb he hpl
/-- d[k] of a written table -/
theorem pe_ixTab {a b : Expr} {tb : TE} {d : Addr} {es : Array DictEntry} {n : Nat} (D : KDict X.K X.w d es n) (ha : PE X a ta) (hb : PE X b tb) (hs : NoSl b) : PE X (.Subscript a b pos) (tOp (rItemKD X.K d) ta tb) := by
  refine ⟨fun pins s σ H Q I h => ?_⟩
  refine subD_of PySem.F.slot_dict_getitem.lookup hs (thn (ha.run pins s σ H _ I h) fun u s1 ⟨x, H1, I1, rx, q1⟩ => thn (hb.run pins s1 σ H1 _ I1 q1) fun iv s2 ⟨y, H2, I2, ry, z, u0, v0, ex, ey, e, r, q2⟩ => ?_)
  subst ex ey
  obtain rfl : u = Value.ref d := rx
  exact ⟨kd_type D I2, op_item_kd D pins s2 σ H2 (.ref d) (.str z) _ _ Q I2 (show RelV (.ref d) (.ref d) from rfl) ry ⟨z, u0, v0, rfl, rfl, e, r, q2⟩⟩
end
section
variable {P : Program} {w : World} {K : PySem.W.Frag} {mg : Str → Option Value} {base : Heap} {x qual : Str} {params : Arguments} {body : List Stmt} {scope : Scope} {f C : Addr} {fd : FuncData} {ps : List Str} {k : Nat} {S : Spd}
theorem cal_mk (F : FunD K x qual params body scope [] [] f fd) (g : mg x = some (.ref f)) (ok : FnOk P w K mg base CX0 k f fd ps (spOf K S)) (b : Binds K fd ps []) : Cal P w K mg base k x ps S := ⟨f, fd, g, ok, F.kp, b⟩
end
section
variable {K : PySem.W.Frag} {ρ : Env'} {M M1 : MH} {ta tb tc te : TE} {t u tt : TT} {ts us : TS} {P : Da → MH → Prop} {PB : Bool → MH → Prop} {D : DE} {d e : Da} {i : Nat}
/-- a, b = e1, e2 -/
theorem stp_par {i j : Nat} {ta : TA} (h : AvP K ta ρ M fun ds M1 => ∃ d e, ds = [d, e] ∧ D.nx ((ρ.set i (some d)).set j (some e)) M1) : StP K (tPar i j ta) ρ M D := fun σ F G H D0 hE hO m =>
  h σ F G H _ hE hO fun vs ds F1 M1 H1 s1 o1 r1 ⟨d, e, ed, p⟩ => by
    subst ed
    obtain ⟨x, y, rfl, r2, r3⟩ := rpA_two r1
    exact ⟨x, y, rfl, m.nx _ _ F1 M1 H1 s1 (((hE.mono s1).set i r2).set j r3) o1 p⟩
/-- x += e -/
theorem stp_aug {i : Nat} {f : Int → Int → Int} {a : Int} (hx : ρ[i]? = some (some (.sc (.int a)))) (h : EvP K te ρ M fun d M1 => ∃ b, d = .sc (.int b) ∧ D.nx (ρ.set i (some (.sc (.int (f a b))))) M1) : StP K (tAug i te (ipI f)) ρ M D := fun σ F G H D0 hE hO m => by
  obtain ⟨v, ev, r⟩ := hE.at_ i _ hx
  have e := rp_sc.mp r
  subst e
  refine ⟨_, ev, h σ F G H _ hE hO fun y d F1 M1 H1 s1 o1 r1 ⟨b, ed, p⟩ => ?_⟩
  subst ed
  have ey := rp_sc.mp r1
  subst ey
  exact ⟨a, b, rfl, rfl, m.nx _ _ F1 M1 H1 s1 ((hE.mono s1).set i (rp_sc.mpr rfl)) o1 p⟩
/-- o[i] += e, o a list that changes -/
theorem stp_augL {to ti : TE} {f : Int → Int → Int} (h : EvP K to ρ M fun o M1 => EvP K ti ρ M1 fun z M2 => ∃ (p : Addr) (ds : List Da) (j : Nat) (a : Int), o = .sc (.ref p) ∧ z = .sc (.int j) ∧ M2 p = some (.lst ds) ∧ ds[j]? = some (.sc (.int a)) ∧
      EvP K te ρ M2 fun y M3 => ∃ b ds3, y = .sc (.int b) ∧ M3 p = some (.lst ds3) ∧ ds3.length = ds.length ∧ D.nx ρ (updM M3 p (.lst (ds3.set j (.sc (.int (f a b))))))) : StP K (tAugS to ti te (rIxL K) (ipI f) rSetL) ρ M D := fun σ F G H D0 hE hO m =>
  h σ F G H _ hE hO fun x o F1 M1 H1 s1 o1 r1 h1 => h1 σ F1 G H1 _ (hE.mono s1) o1 fun y z F2 M2 H2 s2 o2 r2 ⟨p, ds, j, a, eo, ez, hm, hj, h3⟩ => by
    subst eo ez
    have ex := rp_sc.mp r1
    have ey := rp_sc.mp r2
    subst ex ey
    obtain ⟨xs, hx, rx⟩ := (o2.mu p _ hm).2
    obtain ⟨v, hv, rv⟩ := rx.get hj
    have ev := rp_sc.mp rv
    subst ev
    have hjl : j < ds.length := (List.getElem?_eq_some_iff.mp hj).1
    have l := rx.length
    refine ⟨p, xs, j, _, rfl, rfl, .inl (.inl hx), atI_nat hv, ?_⟩
    refine h3 σ F2 G H2 _ (hE.mono (s1.trans s2)) o2 fun y3 d3 F3 M3 H3 s3 o3 r3 ⟨b, ds3, ed, hm3, hl3, q⟩ => ?_
    subst ed
    have e3 := rp_sc.mp r3
    subst e3
    obtain ⟨xs3, hx3, rx3⟩ := (o3.mu p _ hm3).2
    have l3 := rx3.length
    refine ⟨a, b, rfl, rfl, p, xs3, j, j, rfl, rfl, hx3, ?_, m.nx _ _ F3 _ _ ((s1.trans s2).trans s3) (hE.mono ((s1.trans s2).trans s3)) (putL o3 hm3 (rx3.set j (rp_sc.mpr rfl))) q⟩
    unfold ixN
    rw [if_pos (by omega), if_pos (by omega), Int.toNat_natCast]
/-- the ends -/
abbrev DR (Q : Da → MH → Prop) : DE := ⟨fun _ M' => Q (.sc .non) M', Q, fun _ _ => False, fun _ _ => False⟩
end
/-- at the ends only the cells of M0 are told -/
theorem stp_to {K : PySem.W.Frag} {ρ : Env'} {M : MH} {ts : TS} {D : DE} (M0 : MH) (h : StP K ts ρ M ⟨fun ρ' M' => SubM M0 M' ∧ D.nx ρ' M0, fun d M' => SubM M0 M' ∧ D.rt d M0, fun ρ' M' => SubM M0 M' ∧ D.bk ρ' M0, fun ρ' M' => SubM M0 M' ∧ D.ct ρ' M0⟩) : StP K ts ρ M D :=
  stp_sub (N := fun M' M'' => M'' = M0 ∧ SubM M0 M') (fun M1 M2 ⟨e, s⟩ => by subst e; exact s) (stp_mono h (fun ρ' M' ⟨s, p⟩ => ⟨M0, ⟨rfl, s⟩, p⟩) (fun ρ' M' ⟨s, p⟩ => ⟨M0, ⟨rfl, s⟩, p⟩) (fun ρ' M' ⟨s, p⟩ => ⟨M0, ⟨rfl, s⟩, p⟩) (fun ρ' M' ⟨s, p⟩ => ⟨M0, ⟨rfl, s⟩, p⟩))
theorem pv_nil {K : PySem.W.Frag} {ρ : Env'} {M : MH} {P : List (Da × Da) → MH → Prop} (h : P [] M) : PvP K [] ρ M P := h
theorem pv_cons {K : PySem.W.Frag} {ρ : Env'} {M : MH} {tk tv : TE} {r : List (TE × TE)} {P : List (Da × Da) → MH → Prop} (h : EvP K tk ρ M fun k M1 => EvP K tv ρ M1 fun v M2 => PvP K r ρ M2 fun ps M3 => P ((k, v) :: ps) M3) : PvP K ((tk, tv) :: r) ρ M P := h
/-- in, not in, among flat things that are written -/
def scAll : List Da → Option (List V)
  | [] => some []
  | .sc v :: r => match scAll r with
    | some vs => some (v :: vs)
    | none => none
  | _ :: _ => none
theorem scAll_eq : ∀ {ds : List Da} {vs : List V}, scAll ds = some vs → ds = vs.map Da.sc
  | [], vs, h => by
    cases h
    rfl
  | .sc v :: r, vs, h => by
    unfold scAll at h
    cases hr : scAll r with
    | none =>
      rw [hr] at h
      cases h
    | some ws =>
      rw [hr] at h
      cases h
      rw [List.map_cons, scAll_eq hr]
  | .tup _ :: _, vs, h => by cases h
  | .lst _ :: _, vs, h => by cases h
  | .obj _ _ _ :: _, vs, h => by cases h
theorem rop_inS {K : PySem.W.Frag} {M : MH} {P : Da → MH → Prop} {neg : Bool} {x : V} {ds : List Da} {vs : List V} (hs : scAll ds = some vs) (hx : flatV x = true) (hf : vs.all flatV = true) (q : P (.sc (.bl (if neg then !inV x vs else inV x vs))) M) : ROp K (rIn K neg) (.sc x) (.tup ds) M P := by
  rw [scAll_eq hs]
  exact rop_inT hx hf q
/-- a branch whose test is known -/
theorem ifT {b : Bool} {A B : Prop} (h : b = true) (q : A) : if b = true then A else B := by rw [if_pos h]; exact q
theorem ifF {b : Bool} {A B : Prop} (h : b = false) (q : B) : if b = true then A else B := by rw [h, if_neg Bool.false_ne_true]; exact q
theorem ifB {b : Bool} {A B : Prop} (h1 : b = true → A) (h2 : b = false → B) : if b = true then A else B := by
  cases b with
  | true => exact h1 rfl
  | false => exact h2 rfl
end Dl

/-! Comprehensions that only map. -/
namespace Dl
open PySem PySem.Spec L2
section
variable {K : PySem.W.Frag} {ρ : Env'} {M : MH} {te : TE} {P : Da → MH → Prop}
theorem take_succ_some {α : Type} {l : List α} {i : Nat} {e : α} (h : l[i]? = some e) : l.take (i + 1) = l.take i ++ [e] := by
  rw [List.take_add_one, h]
  rfl
theorem get_lt {α β : Type} {l : List α} {k : List β} {i : Nat} {d : α} (hl : k.length = l.length) (h : l[i]? = some d) : ∃ e, k[i]? = some e :=
  ⟨_, List.getElem?_eq_getElem (by rw [hl]; exact (List.getElem?_eq_some_iff.mp h).1)⟩
theorem ev_lcMap {wi : TI} {g : TG} {vs : List Nat} (js : List Nat) (hj : ∀ j ∈ js, j ∈ vs) (h : SrP K wi ρ M fun ds M1 => ∃ es : List Da, es.length = ds.length ∧ es.length < 100000 ∧
      (∀ (i : Nat) (d e : Da), ds[i]? = some d → es[i]? = some e → ∃ xs, TgOk K g js d xs ∧ EvP K te (setAllD (wipeD ρ vs) js xs) M1 fun y M3 => y = e ∧ M1 = M3) ∧ P (.lst es) M1) : EvP K (tLc wi g tYes te vs) ρ M P :=
  ev_lc hj (fun σ F G H Q hE hO k => h σ F G H Q hE hO fun J ds F1 M1 H1 s1 o1 w ⟨es, hl, hz, hs, q⟩ => k J ds F1 M1 H1 s1 o1 w ⟨fun i acc M' => acc = es.take i ∧ M1 = M', ⟨rfl, rfl⟩, fun i d acc M' hd ⟨ea, em⟩ => by
    subst ea em
    obtain ⟨e, he⟩ := get_lt hl hd
    obtain ⟨xs, tg, ev⟩ := hs i d e hd he
    refine ⟨xs, tg, tv_yes ?_⟩
    rw [if_pos rfl]
    refine ⟨by rw [List.length_take]; omega, ev.mono fun y M3 ⟨e1, e2⟩ => ?_⟩
    subst e1 e2
    exact ⟨(take_succ_some he).symm, rfl⟩, fun acc M' ⟨ea, em⟩ => by
    subst ea em
    rw [← hl, List.take_length]
    exact q⟩)
theorem flat_split {α : Type} {ess : List (List α)} {i : Nat} {es : List α} (h : ess[i]? = some es) : ess.flatten = (ess.take i).flatten ++ (es ++ (ess.drop (i + 1)).flatten) := by
  obtain ⟨hi, e⟩ := List.getElem?_eq_some_iff.mp h
  rw [← List.flatten_cons, ← List.flatten_append, ← e, List.getElem_cons_drop, List.take_append_drop]
theorem ev_lc2Map {wi wi1 : TI} {g g1 : TG} {vs vs1 : List Nat} (js js1 : List Nat) (hj : ∀ j ∈ js, j ∈ vs) (hj1 : ∀ j ∈ js1, j ∈ vs1) (h : SrP K wi ρ M fun ds M1 => ∃ ess : List (List Da), ess.length = ds.length ∧ ess.flatten.length < 100000 ∧
      (∀ (i : Nat) (d : Da) (es : List Da), ds[i]? = some d → ess[i]? = some es → ∃ xs, TgOk K g js d xs ∧ SrP K wi1 (setAllD (wipeD ρ vs) js xs) M1 fun fs M3 => M1 = M3 ∧ es.length = fs.length ∧
        ∀ (l : Nat) (f e : Da), fs[l]? = some f → es[l]? = some e → ∃ zs, TgOk K g1 js1 f zs ∧ EvP K te (setAllD (wipeD (setAllD (wipeD ρ vs) js xs) vs1) js1 zs) M1 fun y M3 => y = e ∧ M1 = M3) ∧ P (.lst ess.flatten) M1) : EvP K (tLc2 wi g tYes wi1 g1 tYes te vs vs1) ρ M P :=
  ev_lc2 hj hj1 (fun σ F G H Q hE hO k => h σ F G H Q hE hO fun J ds F1 M1 H1 s1 o1 w ⟨ess, hl, hz, hs, q⟩ => k J ds F1 M1 H1 s1 o1 w ⟨fun i acc M' => acc = (ess.take i).flatten ∧ M1 = M', ⟨rfl, rfl⟩, fun i d acc M' hd ⟨ea, em⟩ => by
    subst ea em
    obtain ⟨es, he⟩ := get_lt hl hd
    obtain ⟨xs, tg, sr⟩ := hs i d es hd he
    have hfl := flat_split he
    refine ⟨xs, tg, tv_yes ?_⟩
    rw [if_pos rfl]
    refine fun σ F G H Q hE hO k => sr σ F G H Q hE hO fun J fs F1 M1' H1 s1 o1 w ⟨em, hfs, hs1⟩ => ?_
    subst em
    refine k J fs F1 _ H1 s1 o1 w ⟨fun l acc1 M' => acc1 = (ess.take i).flatten ++ es.take l ∧ M1 = M', ⟨by simp, rfl⟩, fun l f acc1 M4 hf ⟨ea, em⟩ => ?_, fun acc1 M4 ⟨ea, em⟩ => ?_⟩
    · subst ea em
      obtain ⟨e, hee⟩ := get_lt hfs hf
      obtain ⟨zs, tg1, ev⟩ := hs1 l f e hf hee
      refine ⟨zs, tg1, tv_yes ?_⟩
      rw [if_pos rfl]
      refine ⟨?_, ev.mono fun y M3 ⟨e1, e2⟩ => ?_⟩
      · rw [hfl] at hz
        simp only [List.length_append, List.length_take] at hz ⊢
        omega
      · subst e1 e2
        exact ⟨by rw [take_succ_some hee, List.append_assoc], rfl⟩
    · subst ea em
      refine ⟨?_, rfl⟩
      rw [← hfs, List.take_length, take_succ_some he, List.flatten_append]
      simp, fun acc M' ⟨ea, em⟩ => by
    subst ea em
    rw [← hl, List.take_length]
    exact q⟩)
end
end Dl

namespace Dl
open PySem PySem.Spec PyProof.Rows L2
section
variable {X : Cx}
/-- name = {..} on one line, the name a local -/
theorem ps_setDc {i : Nat} {y : Str} {py : Pos} {kx vx tg iter : Expr} {ifs : List Expr} {scope : Scope} {own : List (Str × Nat)} {pos spos : Pos} {wi : TI} {g : TG} {tt : TT} {tk tv : TE} (hc : X.calm = true) (hN : X.N.Nodup) (hy : X.N[i]? = some y) (hyl : X.env.scope.names.lookup y = some .local)
    (hsw : swapsWith (.DictComp kx vx [⟨tg, iter, ifs, 0⟩] scope pos) (some (.Name y py)) spos.line X.env = pure true) (hi : PI X tg iter wi) (ok : BlkOk X.N X.env.scope scope own)
    (hg : ∀ (s : Shared) (H : Hp) (C : Addr) (cl : List (Str × Addr)) (fp : List Addr), PG (X.blk s H scope (compEnvC scope cl C X.env) fp) tg g) (ht : ∀ (s : Shared) (H : Hp) (C : Addr) (cl : List (Str × Addr)) (fp : List Addr), PTs (X.blk s H scope (compEnvC scope cl C X.env) fp) ifs tt)
    (hk : ∀ (s : Shared) (H : Hp) (C : Addr) (cl : List (Str × Addr)) (fp : List Addr), PE (X.blk s H scope (compEnvC scope cl C X.env) fp) kx tk)
    (he : ∀ (s : Shared) (H : Hp) (C : Addr) (cl : List (Str × Addr)) (fp : List Addr), PE (X.blk s H scope (compEnvC scope cl C X.env) fp) vx tv) (hs : ∀ x, foldedSetIterable iter X.env x = pure x := by intro _; rfl) :
    PS X (.Assign [.Name y py] (.DictComp kx vx [⟨tg, iter, ifs, 0⟩] scope pos) spos) (tAsg (tDc wi g tt tk tv (own.map (·.2))) (gName i)) := by
  refine ⟨fun pins s σ H D I h => ?_⟩
  rw [exec_Assign_Name_used _ _ _ _ hsw]
  refine wpAny_bind (wpAny_standAt (wpAny_bind ?_))
  show wpAny _ X.A (do let _ ← comprehension (.DictComp kx vx [⟨tg, iter, ifs, 0⟩] scope pos) scope X.env (firstIterPos [⟨tg, iter, ifs, 0⟩] pos) newDict false (eval iter X.env) (some (assign (.Name y py) X.env))) _ _ s
  have h : tDc wi g tt tk tv (own.map (·.2)) σ H (fun x H1 => gName i x σ H1 D.nx) := h
  refine wpAny_bind (thn (dc_core (Qf := fun _ s' => SP X pins D .next s') hc hN I hi ok hg ht hk he hs h fun L C s' m H' I' q hn f => ?_) fun _ s' hq => wpAny_pure (wpAny_pure hq))
  show wpAny _ _ (assign (.Name y py) X.env (.ref L)) _ _ _
  refine wpAny_assign_Name (store_ok2 (v := V.ref L) I' hN hy (.inl hyl) rfl (fun s2 I2 ⟨a, sb, ha⟩ => ?_) (.inr hyl))
  obtain ⟨f0, f1, f2, f3, f4, f5⟩ := f
  have haC : C ≠ a := by
    rcases ha with z | z
    · rw [z]; exact f1
    · exact fun e => f4 y a z e.symm
  refine ⟨m, hn.sameBut sb haC, fun h3 sb3 => ?_⟩
  exact ⟨_, H', I2.turned (t' := s2.toks) (fun b o hb e => (sb3.2 b hb).trans e) f0 f1 f3 f4 f5, q⟩
theorem sw_trueD {kx vx : Expr} {gs : List Comprehension} {scope : Scope} {pos py : Pos} {y : Str} {l : Nat} {env : Env} (hk : env.scope.kind = .function) (hy : env.scope.names.lookup y = some .local) (hl : (py.line == pos.line) = true)
    (ha : (scope.names.any fun (n, k) => n == y && (k == .local || k == .cell)) = false) : swapsWith (.DictComp kx vx gs scope pos) (some (.Name y py)) l env = pure true := by
  have ky : env.kindOf y = some .local := hy
  have hb : env.blockKind = .function := by unfold Env.blockKind; rw [hk]; rfl
  unfold swapsWith
  simp only [hb, ky, ha, Expr.pos, hl]
  rfl
end
end Dl

/-! The rules with K said, for blocks of comprehensions. -/
namespace Dl
open PySem PySem.Spec PyProof.Rows L2
section
variable {X : Cx} {K : PySem.W.Frag} {k : Nat} {C : Addr} {ps : List Str} {S : Spd} {x m : Str} {p pos apos : Pos} {e o : Expr} {es : List Expr} {ta : TE} {t : TA}
theorem k_pi_seq {tg l : Expr} {tl : TE} (hl : PE X l tl) (hK : X.K = K := by rfl) : PI X tg l (iSeq K tl) := hK ▸ pi_seq hl
theorem k_pi_enumA {e : Expr} {ta : TA} {p pos tpos : Pos} {elts : List Expr} {kk : Nat} (hg : Gl X "enumerate") (hm : X.mg "enumerate" = none) (ha : PA X [e] ta) (hs : starEach [e] X.env = [(false, eval e X.env)] := by rfl) (hK : X.K = K := by rfl) :
    PI X (.Tuple elts kk tpos) (.Call (.Name "enumerate" p) [e] [] pos) (iEnumA K ta) := hK ▸ pi_enumA hg hm ha hs
theorem k_pg_tup {es : List Expr} {k : Nat} {t : TGs} {n : Nat} (hc : X.calm = true) (h : PGs X es t)
    (hn : (assignEach es X.env).length = n := by rfl) (hst : (assignEach es X.env).findIdx? (·.1) = none := by rfl) (hK : X.K = K := by rfl) : PG X (.Tuple es k pos) (gTup K n t) := hK ▸ pg_tup hc h hn hst
theorem k_pe_fld {f : Str} (he : PE X e ta) (hb : attributeBase e f X.env (eval e X.env) = eval e X.env) (hK : X.K = K := by rfl) : PE X (.Attribute e f pos) (tFld K ta f) := hK ▸ pe_fld he hb
theorem k_ix_seq (hK : X.K = K := by rfl) : IxR X (rIx K) := hK ▸ ix_seq
theorem k_op_in_seq (hK : X.K = K := by rfl) : OpR X (compareOp .In) (rIn K false) := hK ▸ op_in_seq
theorem k_op_notIn_seq (hK : X.K = K := by rfl) : OpR X (compareOp .NotIn) (rIn K true) := hK ▸ op_notIn_seq
theorem k_op_addA (hK : X.K = K := by rfl) : OpR X (binaryOp .Add) (rAddA K) := hK ▸ op_addA
theorem k_op_mulA (hK : X.K = K := by rfl) : OpR X (binaryOp .Mult) (rMulA K) := hK ▸ op_mulA
theorem k_sl_both (hK : X.K = K := by rfl) : SlR X (rSlB K) := hK ▸ sl_both
theorem k_call_len (hK : X.K = K := by rfl) : CallR X (.builtin "len") (rLen K) := hK ▸ call_len
theorem k_call_isi (hK : X.K = K := by rfl) : CallR X (.builtin "isinstance") (rIsi K) := hK ▸ call_isi
theorem k_cr_sum (hc : X.calm = true) (hK : X.K = K := by rfl) : CallR X (.builtin "sum") (rSum K) := hK ▸ cr_sum hc
theorem k_cr_max (hc : X.calm = true) (hK : X.K = K := by rfl) : CallR X (.builtin "max") (rMax K) := hK ▸ cr_max hc
theorem k_cr_any (hc : X.calm = true) (hK : X.K = K := by rfl) : CallR X (.builtin "any") (rAny K) := hK ▸ cr_any hc
theorem k_call_list_of (hK : X.K = K := by rfl) : CallR X (.type "list") (rList K) := hK ▸ call_list_of
theorem k_call_tuple_of (hK : X.K = K := by rfl) : CallR X (.type "tuple") (rTuple K) := hK ▸ call_tuple_of
theorem k_pt_truth {a : Expr} (ha : PE X a ta) (he : ∀ whole, isTrue a X.env whole = (do let v ← whole; standAt a.pos; holding [v] (truthy v))) (hK : X.K = K := by rfl) :
    PT X a (fun σ H Q => ta σ H fun x H' => ∃ k, TruV K x H' k ∧ Q k H') := hK ▸ pt_truth ha he
variable {P : Program} {w : World} {mg : Str → Option Value} {base : Heap}
theorem k_calD (c : Cal P w K mg base k x ps S) (hr : Room k X.A) (hg : Gl X x) (ha : PA X (e :: es) t) (hdb : (x == ("__debug__" : Str)) = false := by decide)
    (he : starEach (e :: es) X.env = (false, eval e X.env) :: starEach es X.env := by rfl) (hpl : (backTo pos (starEach es X.env)).any (·.1) = false := by rfl)
    (h1 : X.prog = P := by rfl) (h2 : X.w = w := by rfl) (h3 : X.K = K := by rfl) (h4 : X.mg = mg := by rfl) (h5 : X.base = base := by rfl) : PE X (.Call (.Name x p) (e :: es) [] pos) (tCall (spOf K S) [] E0 t) := by
  subst h1 h2 h3 h4 h5
  exact pe_calD c hr hg ha hdb he hpl
theorem k_metD {pl : Sem Bool} (c : CalM P w K mg base C k m ps S) (hr : Room k X.A) (he : PE X o ta) (ha : PA X (e :: es) t)
    (hst : starEach (e :: es) X.env = (false, eval e X.env) :: starEach es X.env := by rfl) (hpl : (backTo pos (starEach es X.env)).any (·.1) = false := by rfl)
    (ht : eval (.Call (.Attribute o m apos) (e :: es) [] pos) X.env = (do
      let ov ← eval o X.env
      standAt apos.atName
      let (f, first) ← holding [ov] (getMethod ov m pl)
      callWith pos f first (backTo pos (starEach (e :: es) X.env)) (backToKw pos (keywordEach [] X.env))) := by rfl)
    (h1 : X.prog = P := by rfl) (h2 : X.w = w := by rfl) (h3 : X.K = K := by rfl) (h4 : X.mg = mg := by rfl) (h5 : X.base = base := by rfl) : PE X (.Call (.Attribute o m apos) (e :: es) [] pos) (tMeth C m (spOf K S) [] E0 ta t) := by
  subst h1 h2 h3 h4 h5
  exact pe_metD c hr he ha hst hpl ht
theorem k_met0D {pl : Sem Bool} (c : CalM P w K mg base C k m ps S) (hr : Room k X.A) (he : PE X o ta)
    (ht : eval (.Call (.Attribute o m apos) [] [] pos) X.env = (do
      let ov ← eval o X.env
      standAt apos.atName
      let (f, first) ← holding [ov] (getMethod ov m pl)
      callWith pos f first (backTo pos (starEach [] X.env)) (backToKw pos (keywordEach [] X.env))) := by rfl)
    (h1 : X.prog = P := by rfl) (h2 : X.w = w := by rfl) (h3 : X.K = K := by rfl) (h4 : X.mg = mg := by rfl) (h5 : X.base = base := by rfl) : PE X (.Call (.Attribute o m apos) [] [] pos) (tMeth C m (spOf K S) [] E0 ta tNil) := by
  subst h1 h2 h3 h4 h5
  exact pe_met0D c hr he ht
theorem k_makD (c : CalC P w K mg base C k x ps S) (hr : Room (k + 1) X.A) (hg : Gl X x) (ha : PA X (e :: es) t) (hdb : (x == ("__debug__" : Str)) = false := by decide)
    (he : starEach (e :: es) X.env = (false, eval e X.env) :: starEach es X.env := by rfl) (hpl : (backTo pos (starEach es X.env)).any (·.1) = false := by rfl)
    (h1 : X.prog = P := by rfl) (h2 : X.w = w := by rfl) (h3 : X.K = K := by rfl) (h4 : X.mg = mg := by rfl) (h5 : X.base = base := by rfl) : PE X (.Call (.Name x p) (e :: es) [] pos) (tMake C (spOf K S) [] E0 t) := by
  subst h1 h2 h3 h4 h5
  exact pe_makD c hr hg ha hdb he hpl
end
section
variable {K : PySem.W.Frag} {ρ : Env'} {M : MH} {ts : TS} {D : DE}
/-- the new thing that is given back stands still from here on -/
theorem stp_frzO (h : StP K ts ρ M { D with rt := fun d M' => ∃ a C ns ds, d = .sc (.ref a) ∧ M' a = some (.ins C ns ds) ∧ D.rt (.obj C ns ds) (delM M' a) }) : StP K ts ρ M D := fun σ F G H D0 hE hO m =>
  h σ F G H D0 hE hO ⟨m.nx, fun v d F' M' H' s o r ⟨a, C, ns, ds, e, hm, p⟩ => by
    subst e
    have hv := rp_sc.mp r
    subst hv
    obtain ⟨dx, xs, hx, _, rx⟩ := (o.mu a _ hm).2
    exact m.rt _ _ (upd F' a (.ins C dx (ns.zip xs))) _ H' (s.trans (sm_freeze o hm)) (o.freeze hm hx) (rp_obj.mpr ⟨a, dx, xs, rfl, upd_same, RpA.mono (sm_freeze o hm) _ _ rx⟩) p, m.bk, m.ct⟩
theorem stp_frzR (h : StP K ts ρ M { D with rt := fun d M' => ∃ a ds, d = .sc (.ref a) ∧ M' a = some (.lst ds) ∧ D.rt (.lst ds) (delM M' a) }) : StP K ts ρ M D := fun σ F G H D0 hE hO m =>
  h σ F G H D0 hE hO ⟨m.nx, fun v d F' M' H' s o r ⟨a, ds, e, hm, p⟩ => by
    subst e
    have hv := rp_sc.mp r
    subst hv
    obtain ⟨xs, hx, rx⟩ := (o.mu a _ hm).2
    exact m.rt _ _ (upd F' a (.lst xs)) _ H' (s.trans (sm_freeze o hm)) (o.freeze hm hx) (rp_lst.mpr ⟨a, xs, rfl, upd_same, RpA.mono (sm_freeze o hm) _ _ rx⟩) p, m.bk, m.ct⟩
theorem ev_ifV {t : TT} {ta tb : TE} {P : Da → MH → Prop} (v : Da) (h : TvP K t ρ M fun b M1 => M = M1 ∧ if b = true then EvP K ta ρ M (fun d M2 => d = v ∧ M = M2) else EvP K tb ρ M (fun d M2 => d = v ∧ M = M2)) (q : P v M) : EvP K (tIf t ta tb) ρ M P :=
  ev_if (h.mono fun b M' ⟨e, p⟩ => by
    subst e
    cases b with
    | true => exact EvP.mono p fun d M2 ⟨ed, em⟩ => by subst ed em; exact q
    | false => exact EvP.mono p fun d M2 ⟨ed, em⟩ => by subst ed em; exact q)
theorem stp_cut {us : TS} (R : Env' → MH → Prop) (h1 : StP K ts ρ M { D with nx := R }) (h2 : ∀ ρ' M', R ρ' M' → StP K us ρ' M' D) : StP K (tSeq ts us) ρ M D :=
  stp_seq (stp_mono h1 h2 (fun _ _ p => p) (fun _ _ p => p) (fun _ _ p => p))
theorem SubM.del {M M' : MH} {a : Addr} (h : SubM M M') (ha : M a = none) : SubM M (delM M' a) := fun b o e => by
  rw [delM_ne (fun z => by rw [z, ha] at e; cases e)]
  exact h b o e
theorem SubM.upd' {M M' : MH} {a : Addr} {o : MO} (h : SubM M M') (ha : M a = none) : SubM M (updM M' a o) := fun b u e => by
  rw [updM_ne (fun z => by rw [z, ha] at e; cases e)]
  exact h b u e
end
end Dl

/-! The program as plain functions. -/
namespace Kc
open PySem L2 Dl

inductive What where
  | count | sum | most | any
  deriving DecidableEq
def What.s : What → Str
  | .count => "count"
  | .sum => "sum"
  | .most => "most"
  | .any => "any"
structure Keep where
  what : What
  kind : Option Int
  deriving DecidableEq
inductive Src where
  | one | elder | newer
  deriving DecidableEq
def Src.s : Src → Str
  | .one => "one"
  | .elder => "elder"
  | .newer => "newer"
inductive Touch where
  | add (k : Nat) (s : Src) | less (k : Nat) (s : Src) | lift (k : Nat) | mark (k : Nat) | empty (k : Nat) | again (k : Nat)
  deriving DecidableEq
inductive Test where
  | elder (c : Int) | newer (c : Int) | moved | none (k : Nat) | top (k : Nat)
  deriving DecidableEq
structure Step where
  test : Option Test
  touch : Touch
  deriving DecidableEq
inductive Pn where
  | new | change | drop
  deriving DecidableEq
def Pn.s : Pn → Str
  | .new => "new"
  | .change => "change"
  | .drop => "drop"
structure Prog where
  keeps : List Keep
  new : List Step
  change : List Step
  drop : List Step
  deriving DecidableEq
def Prog.steps (p : Prog) : Pn → List Step
  | .new => p.new
  | .change => p.change
  | .drop => p.drop
def Prog.with (p : Prog) (n : Pn) (l : List Step) : Prog := match n with
  | .new => { p with new := l }
  | .change => { p with change := l }
  | .drop => { p with drop := l }

/-! ### as data -/
abbrev sD (x : Str) : Da := .sc (.str x)
abbrev iD (i : Int) : Da := .sc (.int i)
def kindV : Option Int → V
  | none => .non
  | some k => .int k
abbrev kindD (k : Option Int) : Da := .sc (kindV k)
abbrev keepD (k : Keep) : Da := .tup [sD k.what.s, kindD k.kind]
abbrev touchD : Touch → Da
  | .add k s => .tup [sD "add", iD k, sD s.s]
  | .less k s => .tup [sD "less", iD k, sD s.s]
  | .lift k => .tup [sD "lift", iD k]
  | .mark k => .tup [sD "mark", iD k]
  | .empty k => .tup [sD "empty", iD k]
  | .again k => .tup [sD "again", iD k]
abbrev testD : Test → Da
  | .elder c => .tup [sD "elder", iD c]
  | .newer c => .tup [sD "newer", iD c]
  | .moved => .tup [sD "moved"]
  | .none k => .tup [sD "none", iD k]
  | .top k => .tup [sD "top", iD k]
abbrev stepD (s : Step) : Da := match s.test with
  | none => touchD s.touch
  | some t => .tup [sD "if", testD t, touchD s.touch]
abbrev progN : List Str := ["keeps", "new", "change", "drop"]
abbrev progD (C : Addr) (p : Prog) : Da := .obj C progN [.tup (p.keeps.map keepD), .tup (p.new.map stepD), .tup (p.change.map stepD), .tup (p.drop.map stepD)]
abbrev deedN : List Str := ["keeps", "amounts", "around", "elder", "newer"]
abbrev Thing := Int × Int
abbrev thingD (t : Thing) : Da := .tup [iD t.1, iD t.2]

abbrev optD : Option Thing → Da
  | none => .sc .non
  | some t => thingD t
/-! ### what is right in form -/
def KeepOk (k : Keep) : Prop := k.kind = none ∨ k.kind = some 0 ∨ k.kind = some 1
def SrcOk (n : Pn) (s : Src) : Prop := (s = .elder → n ≠ .new) ∧ (s = .newer → n ≠ .drop)
def AddOk (n : Pn) (ks : List Keep) (k : Nat) (s : Src) : Prop := SrcOk n s ∧ ∃ kp, ks[k]? = some kp ∧ (kp.what = .sum ∨ (kp.what = .count ∧ s = .one))
def TouchOk (n : Pn) (ks : List Keep) : Touch → Prop
  | .add k s => AddOk n ks k s
  | .less k s => AddOk n ks k s
  | .lift k => n ≠ .drop ∧ ∃ kp, ks[k]? = some kp ∧ kp.what = .most
  | .mark k => ∃ kp, ks[k]? = some kp ∧ kp.what = .any
  | .empty k => ∃ kp, ks[k]? = some kp
  | .again k => ∃ kp, ks[k]? = some kp
def TestOk (n : Pn) (ks : List Keep) : Test → Prop
  | .elder c => n ≠ .new ∧ (c = 0 ∨ c = 1)
  | .newer c => n ≠ .drop ∧ (c = 0 ∨ c = 1)
  | .moved => n = .change
  | .none k => ∃ kp, ks[k]? = some kp ∧ kp.what = .count
  | .top k => n ≠ .new ∧ ∃ kp, ks[k]? = some kp ∧ kp.what = .most
def StepOk (n : Pn) (ks : List Keep) (s : Step) : Prop := TouchOk n ks s.touch ∧ ∀ t, s.test = some t → TestOk n ks t
structure Valid (p : Prog) : Prop where
  k1 : 1 ≤ p.keeps.length
  k3 : p.keeps.length ≤ 3
  ok : ∀ k ∈ p.keeps, KeepOk k
  len : ∀ n, (p.steps n).length ≤ 6
  st : ∀ n, ∀ s ∈ p.steps n, StepOk n p.keeps s

/-! ### things and kept values -/
def numbersOf (k : Keep) (ts : List Thing) : List Int := (ts.filter fun t => match k.kind with
  | none => true
  | some c => decide (t.1 = c)).map (·.2)
def maxV : List Int → V
  | [] => .non
  | x :: xs => .int (xs.foldl max x)
def trueValue (k : Keep) (ts : List Thing) : V := match k.what with
  | .count => .int (numbersOf k ts).length
  | .sum => .int (numbersOf k ts).sum
  | .any => .bl (decide (0 < (numbersOf k ts).length))
  | .most => maxV (numbersOf k ts)
def trueValues (ks : List Keep) (ts : List Thing) : List V := ks.map fun k => trueValue k ts
structure DeedS where
  keeps : List Keep
  around : List Thing
  elder : Option Thing
  newer : Option Thing
def DeedS.el (d : DeedS) : Thing := d.elder.getD (0, 0)
def DeedS.nw (d : DeedS) : Thing := d.newer.getD (0, 0)
def DeedS.keep (d : DeedS) (k : Nat) : Keep := d.keeps.getD k ⟨.count, none⟩
def amt (d : DeedS) : Src → Int
  | .one => 1
  | .elder => d.el.2
  | .newer => d.nw.2
def addV : V → Int → V
  | .int a, n => .int (a + n)
  | v, _ => v
def subV : V → Int → V
  | .int a, n => .int (a - n)
  | v, _ => v
def liftV : V → Int → V
  | .int a, n => if a < n then .int n else .int a
  | _, n => .int n
def nothing : What → V
  | .count => .int 0
  | .sum => .int 0
  | .most => .non
  | .any => .bl false
def at_ (am : List V) (k : Nat) : V := am.getD k .non
def touch (d : DeedS) (am : List V) : Touch → List V
  | .add k s => am.set k (addV (at_ am k) (amt d s))
  | .less k s => am.set k (subV (at_ am k) (amt d s))
  | .lift k => am.set k (liftV (at_ am k) d.nw.2)
  | .mark k => am.set k (.bl true)
  | .empty k => am.set k (nothing (d.keep k).what)
  | .again k => am.set k (trueValue (d.keep k) d.around)
def holds (d : DeedS) (am : List V) : Test → Bool
  | .elder c => decide (d.el.1 = c)
  | .newer c => decide (d.nw.1 = c)
  | .moved => !decide (d.el.1 = d.nw.1)
  | .none k => decide (at_ am k = .int 0)
  | .top k => decide (at_ am k = .int d.el.2)
def runStep (d : DeedS) (am : List V) (s : Step) : List V := match s.test with
  | none => touch d am s.touch
  | some t => if holds d am t = true then touch d am s.touch else am
def run (d : DeedS) (ss : List Step) (am : List V) : List V := ss.foldl (runStep d) am

/-! ### what kept values are -/
def TyV : What → V → Prop
  | .count, v => ∃ i, v = .int i
  | .sum, v => ∃ i, v = .int i
  | .most, v => v = .non ∨ ∃ i, v = .int i
  | .any, v => ∃ b, v = .bl b
structure TyA (ks : List Keep) (am : List V) : Prop where
  len : am.length = ks.length
  ty : ∀ (i : Nat) k v, ks[i]? = some k → am[i]? = some v → TyV k.what v
structure DeedOk (n : Pn) (d : DeedS) : Prop where
  k3 : d.keeps.length ≤ 3
  el : n ≠ .new → ∃ t, d.elder = some t
  nw : n ≠ .drop → ∃ t, d.newer = some t
theorem at_some {am : List V} {i : Nat} {v : V} (h : am[i]? = some v) : at_ am i = v := by
  unfold at_
  rw [List.getD_eq_getElem?_getD, h] <;> rfl
theorem tyV_true (k : Keep) (ts : List Thing) : TyV k.what (trueValue k ts) := by
  unfold trueValue
  cases k.what with
  | count => exact ⟨_, rfl⟩
  | sum => exact ⟨_, rfl⟩
  | any => exact ⟨_, rfl⟩
  | most =>
    show _ ∨ _
    cases numbersOf k ts with
    | nil => exact .inl rfl
    | cons x xs => exact .inr ⟨_, rfl⟩
theorem tyA_true (ks : List Keep) (ts : List Thing) : TyA ks (trueValues ks ts) := by
  refine ⟨by unfold trueValues; rw [List.length_map], fun i k v hk hv => ?_⟩
  unfold trueValues at hv
  rw [List.getElem?_map, hk] at hv
  cases hv
  exact tyV_true k ts
theorem TyA.at_ {ks : List Keep} {am : List V} (h : TyA ks am) {i : Nat} {k : Keep} (hk : ks[i]? = some k) : ∃ v, am[i]? = some v ∧ TyV k.what v := by
  have hi : i < am.length := by rw [h.len]; exact (List.getElem?_eq_some_iff.mp hk).1
  exact ⟨am[i], List.getElem?_eq_getElem hi, h.ty i k _ hk (List.getElem?_eq_getElem hi)⟩
theorem TyA.set {ks : List Keep} {am : List V} (h : TyA ks am) {i : Nat} {k : Keep} {v : V} (hk : ks[i]? = some k) (hv : TyV k.what v) : TyA ks (am.set i v) := by
  refine ⟨by rw [List.length_set]; exact h.len, fun j k' v' hk' hv' => ?_⟩
  by_cases e : i = j
  · subst e
    rw [hk] at hk'
    cases hk'
    rw [List.getElem?_set_self (by rw [h.len]; exact (List.getElem?_eq_some_iff.mp hk).1)] at hv'
    cases hv'
    exact hv
  · rw [List.getElem?_set_ne e] at hv'
    exact h.ty j k' v' hk' hv'
theorem tyV_nothing (x : What) : TyV x (nothing x) := by
  cases x <;> first | exact ⟨_, rfl⟩ | exact .inl rfl
theorem tyA_touch {n : Pn} {d : DeedS} {am : List V} {t : Touch} (h : TyA d.keeps am) (ht : TouchOk n d.keeps t) : TyA d.keeps (touch d am t) := by
  have keep : ∀ {k : Nat} {kp : Keep}, d.keeps[k]? = some kp → d.keep k = kp := fun {k kp} e => by
    unfold DeedS.keep
    rw [List.getD_eq_getElem?_getD, e] <;> rfl
  cases t with
  | add k s =>
    obtain ⟨_, kp, hk, hw⟩ := ht
    obtain ⟨v, hv, tv⟩ := h.at_ hk
    refine h.set hk ?_
    rw [at_some hv]
    rcases hw with hw | ⟨hw, _⟩ <;> rw [hw] at tv ⊢ <;> obtain ⟨z, rfl⟩ := tv <;> exact ⟨_, rfl⟩
  | less k s =>
    obtain ⟨_, kp, hk, hw⟩ := ht
    obtain ⟨v, hv, tv⟩ := h.at_ hk
    refine h.set hk ?_
    rw [at_some hv]
    rcases hw with hw | ⟨hw, _⟩ <;> rw [hw] at tv ⊢ <;> obtain ⟨z, rfl⟩ := tv <;> exact ⟨_, rfl⟩
  | lift k =>
    obtain ⟨_, kp, hk, hw⟩ := ht
    obtain ⟨v, hv, tv⟩ := h.at_ hk
    refine h.set hk ?_
    rw [at_some hv]
    rw [hw] at tv ⊢
    rcases tv with rfl | ⟨z, rfl⟩
    · exact .inr ⟨_, rfl⟩
    · show TyV .most (if z < d.nw.2 then V.int d.nw.2 else V.int z)
      split <;> exact .inr ⟨_, rfl⟩
  | mark k =>
    obtain ⟨kp, hk, hw⟩ := ht
    refine h.set hk ?_
    rw [hw]
    exact ⟨_, rfl⟩
  | empty k =>
    obtain ⟨kp, hk⟩ := ht
    refine h.set hk ?_
    rw [keep hk]
    exact tyV_nothing _
  | again k =>
    obtain ⟨kp, hk⟩ := ht
    refine h.set hk ?_
    rw [keep hk]
    exact tyV_true _ _
theorem tyA_step {n : Pn} {d : DeedS} {am : List V} {s : Step} (h : TyA d.keeps am) (hs : StepOk n d.keeps s) : TyA d.keeps (runStep d am s) := by
  unfold runStep
  cases s.test with
  | none => exact tyA_touch h hs.1
  | some t =>
    show TyA d.keeps (if holds d am t = true then touch d am s.touch else am)
    split
    · exact tyA_touch h hs.1
    · exact h
theorem tyA_run {n : Pn} {d : DeedS} : ∀ {ss : List Step} {am : List V}, TyA d.keeps am → (∀ s ∈ ss, StepOk n d.keeps s) → TyA d.keeps (run d ss am)
  | [], am, h, _ => h
  | s :: ss, am, h, hs => tyA_run (ss := ss) (tyA_step h (hs s List.mem_cons_self)) fun x hx => hs x (List.mem_cons_of_mem _ hx)

/-! ### what holds for all histories -/
def numbers : List Int := [2, 5, 11, 23]
def allThings : List Thing := [(0, 2), (0, 5), (0, 11), (0, 23), (1, 2), (1, 5), (1, 11), (1, 23)]
def Step.asksNone (s : Step) : Bool := match s.test with
  | some (.none _) => true
  | _ => false
def asksNone (p : Prog) : Bool := (p.new ++ p.change ++ p.drop).any Step.asksNone
def mostOthers (p : Prog) : Nat := if asksNone p = true then max 2 (max p.new.length (max p.change.length p.drop.length)) else 2
def rowsOf (k : Int) (n : Nat) : List (List Thing) := if n = 0 then [[]] else numbers.map fun m => List.replicate n (k, m)
def crowdsAt (many first : Nat) : List (List Thing) := (rowsOf 0 first).flatMap fun r => (rowsOf 1 (many - first)).map fun o => r ++ o
def crowds (many most : Nat) : List (List Thing) := (List.range (min many most + 1 - (many - most))).flatMap fun i => crowdsAt many (many - most + i)
inductive Dd where
  | new (k n : Int) | change (t : Nat) (k n : Int) | drop (t : Nat)
  deriving DecidableEq
abbrev ddD : Dd → Da
  | .new k n => .tup [sD "new", iD k, iD n]
  | .change t k n => .tup [sD "change", iD t, iD k, iD n]
  | .drop t => .tup [sD "drop", iD t]
def news (ts : List Thing) : List Dd := ts.map fun t => .new t.1 t.2
def firstLie (p : Prog) (ss : List Step) (before after : List Thing) (elder newer : Option Thing) : Option Nat :=
  (List.range p.keeps.length).find? fun i => !decide (at_ (run ⟨p.keeps, after, elder, newer⟩ ss (trueValues p.keeps before)) i = at_ (trueValues p.keeps after) i)
abbrev Lie := List Dd × Nat
def lieOfNew (p : Prog) (many most : Nat) : Option Lie := (crowds many most).findSome? fun c => allThings.findSome? fun nw =>
  (firstLie p p.new c (c ++ [nw]) none (some nw)).map fun i => (news c ++ [.new nw.1 nw.2], i)
def lieOfOld (p : Prog) (many most : Nat) : Option Lie := (crowds many most).findSome? fun c => allThings.findSome? fun el =>
  match firstLie p p.drop (c ++ [el]) c (some el) none with
  | some i => some (news (c ++ [el]) ++ [.drop (c.length + 1)], i)
  | none => allThings.findSome? fun nw => (firstLie p p.change (c ++ [el]) (c ++ [nw]) (some el) (some nw)).map fun i => (news (c ++ [el]) ++ [.change (c.length + 1) nw.1 nw.2], i)
def lieAt (p : Prog) (most many : Nat) : Option Lie := match (if many ≤ 2 * most then lieOfNew p many most else none) with
  | some x => some x
  | none => if 0 < many then lieOfOld p (many - 1) most else none
def lie (p : Prog) : Option Lie := (List.range (2 * mostOthers p + 2)).findSome? (lieAt p (mostOthers p))
def isRight (p : Prog) : Bool := (lie p).isNone
abbrev lieD : Option Lie → Da
  | none => .sc .non
  | some (h, i) => .tup [.lst (h.map ddD), iD i]
abbrev idxD : Option Nat → Da
  | none => .sc .non
  | some i => iD i
end Kc

/-! The promises, by data; what the text's top leaves. -/
namespace Kc
open PySem L2 Dl
theorem pe_globI {X : Cx} {x : Str} {i : Int} {pos : Pos} (hg : Gl X x) (h : ∃ t, X.mg x = some (.int i t)) (hd : (x == ("__debug__" : Str)) = false := by decide) : PE X (.Name x pos) (tC (.int i)) := by
  obtain ⟨t, e⟩ := h
  exact pe_glob hg e ⟨t, rfl⟩ hd
abbrev namesD : Da := .tup [sD "new", sD "change", sD "drop"]
abbrev whatsD : Da := .tup ([V.str "count", V.str "sum", V.str "most", V.str "any"].map Da.sc)
abbrev sourcesD : Da := .tup ([V.str "one", V.str "elder", V.str "newer"].map Da.sc)
abbrev numbersD : Da := .tup (numbers.map iD)
def fitS : Touch → Str
  | .add .. => "add"
  | .less .. => "less"
  | .lift .. => "lift"
  | .mark .. => "mark"
  | .empty .. => "empty"
  | .again .. => "again"
def fitW : Touch → List V
  | .add .. => [V.str "count", V.str "sum"]
  | .less .. => [V.str "count", V.str "sum"]
  | .lift .. => [V.str "most"]
  | .mark .. => [V.str "any"]
  | .empty .. => [V.str "count", V.str "sum", V.str "most", V.str "any"]
  | .again .. => [V.str "count", V.str "sum", V.str "most", V.str "any"]
/-- what the text's top leaves -/
structure Tx (w : World) (K : PySem.W.Frag) (mg : Str → Option Value) : Prop where
  b_len : mg "len" = none
  b_isinstance : mg "isinstance" = none
  b_int : mg "int" = none
  b_str : mg "str" = none
  b_bool : mg "bool" = none
  b_tuple : mg "tuple" = none
  b_range : mg "range" = none
  b_enumerate : mg "enumerate" = none
  b_max : mg "max" = none
  b_min : mg "min" = none
  b_sum : mg "sum" = none
  b_any : mg "any" = none
  b_list : mg "list" = none
  b_sorted : mg "sorted" = none
  b_dict : mg "dict" = none
  g_NAMES : mg "NAMES" = some (.ref (He.ga K "NAMES"))
  d_NAMES : ∀ F, Rp K F namesD (.ref (He.ga K "NAMES"))
  g_WHATS : mg "WHATS" = some (.ref (He.ga K "WHATS"))
  d_WHATS : ∀ F, Rp K F whatsD (.ref (He.ga K "WHATS"))
  g_SOURCES : mg "SOURCES" = some (.ref (He.ga K "SOURCES"))
  d_SOURCES : ∀ F, Rp K F sourcesD (.ref (He.ga K "SOURCES"))
  g_NUMBERS : mg "NUMBERS" = some (.ref (He.ga K "NUMBERS"))
  d_NUMBERS : ∀ F, Rp K F numbersD (.ref (He.ga K "NUMBERS"))
  g_MOST_KEEPS : ∃ t, mg "MOST_KEEPS" = some (.int 3 t)
  g_MOST_STEPS : ∃ t, mg "MOST_STEPS" = some (.int 6 t)
  g_FITTING : mg "FITTING" = some (.ref (He.ga K "FITTING"))
  fit : ∃ es n, KDict K w (He.ga K "FITTING") es n
  v_FITTING : ∀ (t : Touch), ∃ u v, PySem.W.nsIn K (He.ga K "FITTING") (fitS t) = some (some u) ∧ RelV v u ∧ ∀ F, Rp K F (.tup ((fitW t).map Da.sc)) v
  g_NOTHING : mg "NOTHING" = some (.ref (He.ga K "NOTHING"))
  noth : ∃ es n, KDict K w (He.ga K "NOTHING") es n
  v_NOTHING : ∀ (x : What), ∃ u, PySem.W.nsIn K (He.ga K "NOTHING") x.s = some (some u) ∧ RelV (nothing x) u
  c_Program : Cls K (He.ga K "Program")
  c_Deed : Cls K (He.ga K "Deed")
  n_Program : ∀ f ∈ progN, NoAttr K (He.ga K "Program") f
  n_Deed : ∀ f ∈ deedN, NoAttr K (He.ga K "Deed") f
theorem kit_int_int : kitB "int" "int" = some true := by decide +kernel
theorem kit_int_bool : kitB "int" "bool" = some false := by decide +kernel
theorem kit_int_str : kitB "int" "str" = some false := by decide +kernel
theorem kit_int_tuple : kitB "int" "tuple" = some false := by decide +kernel
theorem kit_int_list : kitB "int" "list" = some false := by decide +kernel
theorem kit_bool_int : kitB "bool" "int" = some true := by decide +kernel
theorem kit_bool_bool : kitB "bool" "bool" = some true := by decide +kernel
theorem kit_bool_str : kitB "bool" "str" = some false := by decide +kernel
theorem kit_bool_tuple : kitB "bool" "tuple" = some false := by decide +kernel
theorem kit_bool_list : kitB "bool" "list" = some false := by decide +kernel
theorem kit_str_int : kitB "str" "int" = some false := by decide +kernel
theorem kit_str_bool : kitB "str" "bool" = some false := by decide +kernel
theorem kit_str_str : kitB "str" "str" = some true := by decide +kernel
theorem kit_str_tuple : kitB "str" "tuple" = some false := by decide +kernel
theorem kit_str_list : kitB "str" "list" = some false := by decide +kernel
theorem kit_tuple_int : kitB "tuple" "int" = some false := by decide +kernel
theorem kit_tuple_bool : kitB "tuple" "bool" = some false := by decide +kernel
theorem kit_tuple_str : kitB "tuple" "str" = some false := by decide +kernel
theorem kit_tuple_tuple : kitB "tuple" "tuple" = some true := by decide +kernel
theorem kit_tuple_list : kitB "tuple" "list" = some false := by decide +kernel
theorem kit_list_int : kitB "list" "int" = some false := by decide +kernel
theorem kit_list_bool : kitB "list" "bool" = some false := by decide +kernel
theorem kit_list_str : kitB "list" "str" = some false := by decide +kernel
theorem kit_list_tuple : kitB "list" "tuple" = some false := by decide +kernel
theorem kit_list_list : kitB "list" "list" = some true := by decide +kernel
theorem kit_NoneType_int : kitB "NoneType" "int" = some false := by decide +kernel
theorem kit_NoneType_bool : kitB "NoneType" "bool" = some false := by decide +kernel
theorem kit_NoneType_str : kitB "NoneType" "str" = some false := by decide +kernel
theorem kit_NoneType_tuple : kitB "NoneType" "tuple" = some false := by decide +kernel
theorem kit_NoneType_list : kitB "NoneType" "list" = some false := by decide +kernel
/-- a list or a tuple of these -/
def SeqOf (d : Da) (ds : List Da) : Prop := d = .lst ds ∨ d = .tup ds

/-! ### programs -/
def S_is_index : Spd := fun ds M P => ∃ a b : Int, ds = [iD a, iD b] ∧ P (.sc (.bl (decide (0 ≤ a) && decide (a < b)))) M
def S_is_keep : Spd := fun ds M P => ∃ k, ds = [keepD k] ∧ KeepOk k ∧ P (.sc (.bl true)) M
/-- is_of for an index that is one -/
def S_is_of : Spd := fun ds M P => ∃ (kd : Da) (ks : List Keep) (i : Nat) (vs : List V) (kp : Keep), ds = [kd, iD i, .tup (vs.map Da.sc)] ∧ SeqOf kd (ks.map keepD) ∧ ks[i]? = some kp ∧ vs.all flatV = true ∧ P (.sc (.bl (inV (.str kp.what.s) vs))) M
def S_is_source : Spd := fun ds M P => ∃ (s : Src) (n : Pn), ds = [sD s.s, sD n.s] ∧ SrcOk n s ∧ P (.sc (.bl true)) M
def S_is_touch : Spd := fun ds M P => ∃ (t : Touch) (n : Pn) (kd : Da) (ks : List Keep), ds = [touchD t, sD n.s, kd] ∧ SeqOf kd (ks.map keepD) ∧ ks.length ≤ 3 ∧ TouchOk n ks t ∧ P (.sc (.bl true)) M
def S_is_test : Spd := fun ds M P => ∃ (t : Test) (n : Pn) (kd : Da) (ks : List Keep), ds = [testD t, sD n.s, kd] ∧ SeqOf kd (ks.map keepD) ∧ ks.length ≤ 3 ∧ TestOk n ks t ∧ P (.sc (.bl true)) M
def S_is_step : Spd := fun ds M P => ∃ (s : Step) (n : Pn) (kd : Da) (ks : List Keep), ds = [stepD s, sD n.s, kd] ∧ SeqOf kd (ks.map keepD) ∧ ks.length ≤ 3 ∧ StepOk n ks s ∧ P (.sc (.bl true)) M
def S_check_steps : Spd := fun ds M P => ∃ (n : Pn) (sd : Da) (ss : List Step) (kd : Da) (ks : List Keep), ds = [sD n.s, sd, kd] ∧ SeqOf sd (ss.map stepD) ∧ SeqOf kd (ks.map keepD) ∧ ks.length ≤ 3 ∧ ss.length ≤ 6 ∧ (∀ s ∈ ss, StepOk n ks s) ∧ P (.sc .non) M
def S_Program_init (C : Addr) : Spd := fun ds M P => ∃ (x : Addr) (kd nd cd dd : Da) (p : Prog), ds = [.sc (.ref x), kd, nd, cd, dd] ∧ M x = some (.ins C [] []) ∧ SeqOf kd (p.keeps.map keepD) ∧ SeqOf nd (p.new.map stepD) ∧ SeqOf cd (p.change.map stepD) ∧ SeqOf dd (p.drop.map stepD) ∧ Valid p ∧
  P (.sc .non) (updM M x (.ins C progN [.tup (p.keeps.map keepD), .tup (p.new.map stepD), .tup (p.change.map stepD), .tup (p.drop.map stepD)]))
def S_steps_of (C : Addr) : Spd := fun ds M P => ∃ (p : Prog) (n : Pn), ds = [progD C p, sD n.s] ∧ P (.tup ((p.steps n).map stepD)) M
def S_with_steps (C : Addr) : Spd := fun ds M P => ∃ (p : Prog) (n : Pn) (sd : Da) (ss : List Step), ds = [progD C p, sD n.s, sd] ∧ SeqOf sd (ss.map stepD) ∧ Valid (p.with n ss) ∧ P (progD C (p.with n ss)) M
/-! ### things, kept values -/
def ThOk (d : Da) (ts : List Thing) : Prop := d = .lst (ts.map thingD)
def S_true_value : Spd := fun ds M P => ∃ (k : Keep) (ts : List Thing), ds = [keepD k, .lst (ts.map thingD)] ∧ ts.length ≤ 10000 ∧ P (.sc (trueValue k ts)) M
def S_true_values : Spd := fun ds M P => ∃ (kd : Da) (ks : List Keep) (ts : List Thing), ds = [kd, .lst (ts.map thingD)] ∧ SeqOf kd (ks.map keepD) ∧ ks.length ≤ 3 ∧ ts.length ≤ 10000 ∧ P (.lst ((trueValues ks ts).map Da.sc)) M
/-- a deed that is being done: at x, its kept values at l -/
def DeedAt (C : Addr) (M : MH) (x l : Addr) (d : DeedS) (am : List V) : Prop :=
  M x = some (.ins C deedN [.tup (d.keeps.map keepD), .sc (.ref l), .lst (d.around.map thingD), optD d.elder, optD d.newer]) ∧ M l = some (.lst (am.map Da.sc)) ∧ x ≠ l
def S_Deed_init (C : Addr) : Spd := fun ds M P => ∃ (x : Addr) (am : List V) (d : DeedS), ds = [.sc (.ref x), .tup (d.keeps.map keepD), .lst (am.map Da.sc), .lst (d.around.map thingD), optD d.elder, optD d.newer] ∧ M x = some (.ins C [] []) ∧
  ∀ l, M l = none → P (.sc .non) (updM (updM M x (.ins C deedN [.tup (d.keeps.map keepD), .sc (.ref l), .lst (d.around.map thingD), optD d.elder, optD d.newer])) l (.lst (am.map Da.sc)))
def S_does_hold (C : Addr) : Spd := fun ds M P => ∃ (x l : Addr) (d : DeedS) (am : List V) (n : Pn) (t : Test), ds = [.sc (.ref x), testD t] ∧ DeedAt C M x l d am ∧ DeedOk n d ∧ TyA d.keeps am ∧ TestOk n d.keeps t ∧ P (.sc (.bl (holds d am t))) M
def S_amount (C : Addr) : Spd := fun ds M P => ∃ (x l : Addr) (d : DeedS) (am : List V) (n : Pn) (s : Src), ds = [.sc (.ref x), sD s.s] ∧ DeedAt C M x l d am ∧ DeedOk n d ∧ SrcOk n s ∧ P (iD (amt d s)) M
def S_touch (C : Addr) : Spd := fun ds M P => ∃ (x l : Addr) (d : DeedS) (am : List V) (n : Pn) (t : Touch), ds = [.sc (.ref x), touchD t] ∧ DeedAt C M x l d am ∧ DeedOk n d ∧ TyA d.keeps am ∧ TouchOk n d.keeps t ∧ d.around.length ≤ 10000 ∧ P (.sc .non) (updM M l (.lst ((touch d am t).map Da.sc)))
def S_steps (C : Addr) : Spd := fun ds M P => ∃ (x l : Addr) (d : DeedS) (am : List V) (n : Pn) (sd : Da) (ss : List Step), ds = [.sc (.ref x), sd] ∧ SeqOf sd (ss.map stepD) ∧ DeedAt C M x l d am ∧ DeedOk n d ∧ TyA d.keeps am ∧ (∀ s ∈ ss, StepOk n d.keeps s) ∧ d.around.length ≤ 10000 ∧
  P (.sc (.ref l)) (updM M l (.lst ((run d ss am).map Da.sc)))
end Kc

/-! Promises of what decides. -/
namespace Kc
open PySem L2 Dl
theorem subU {M : MH} {a : Addr} {o : MO} {A : Prop} (h : M a = none) (q : A) : SubM M (updM M a o) ∧ A := ⟨SubM.upd h, q⟩
theorem decInt {a b : Int} : decide (V.int a = V.int b) = decide (a = b) := by
  by_cases h : a = b
  · rw [h, decide_eq_true rfl, decide_eq_true rfl]
  · rw [decide_eq_false h, decide_eq_false (fun z => h (by injection z))]
theorem set_same {α : Type} : ∀ {l : List α} {k : Nat} {v : α}, l[k]? = some v → l.set k v = l
  | [], _, _, h => by cases h
  | x :: l, 0, v, h => by cases h; rfl
  | x :: l, k + 1, v, h => by rw [List.set_cons_succ, set_same (l := l) h]
theorem keep_at {d : DeedS} {k : Nat} {kp : Keep} (e : d.keeps[k]? = some kp) : d.keep k = kp := by
  unfold DeedS.keep
  rw [List.getD_eq_getElem?_getD, e] <;> rfl
abbrev crowdD (c : List Thing) : Da := .tup (c.map thingD)
def S_all_things : Spd := fun ds M P => ds = [numbersD] ∧ P (.lst (allThings.map thingD)) M
def S_asks_none (C : Addr) : Spd := fun ds M P => ∃ p, ds = [progD C p] ∧ Valid p ∧ P (.sc (.bl (asksNone p))) M
def S_most_others (C : Addr) : Spd := fun ds M P => ∃ p, ds = [progD C p] ∧ Valid p ∧ P (iD (mostOthers p)) M
def S_crowds : Spd := fun ds M P => ∃ many most : Nat, ds = [iD many, iD most] ∧ most ≤ 8 ∧ many ≤ 40 ∧ P (.lst ((crowds many most).map crowdD)) M
def S_news : Spd := fun ds M P => ∃ (d : Da) (ts : List Thing), ds = [d] ∧ SeqOf d (ts.map thingD) ∧ ts.length ≤ 1000 ∧ P (.lst ((news ts).map ddD)) M
def S_first_lie (C : Addr) : Spd := fun ds M P => ∃ (p : Prog) (ss : List Step) (before after : List Thing) (elder newer : Option Thing) (n : Pn), ds = [progD C p, .tup (ss.map stepD), .lst (before.map thingD), .lst (after.map thingD), optD elder, optD newer] ∧
  p.keeps.length ≤ 3 ∧ DeedOk n ⟨p.keeps, after, elder, newer⟩ ∧ (∀ s ∈ ss, StepOk n p.keeps s) ∧ before.length ≤ 10000 ∧ after.length ≤ 10000 ∧ P (idxD (firstLie p ss before after elder newer)) M
def S_lie_of_new (C : Addr) : Spd := fun ds M P => ∃ (p : Prog) (many most : Nat), ds = [progD C p, iD many, iD most] ∧ Valid p ∧ most ≤ 8 ∧ many ≤ 40 ∧ P (lieD (lieOfNew p many most)) M
def S_lie_of_old (C : Addr) : Spd := fun ds M P => ∃ (p : Prog) (many most : Nat), ds = [progD C p, iD many, iD most] ∧ Valid p ∧ most ≤ 8 ∧ many ≤ 40 ∧ P (lieD (lieOfOld p many most)) M
def S_lie (C : Addr) : Spd := fun ds M P => ∃ p, ds = [progD C p] ∧ Valid p ∧ P (lieD (lie p)) M
def S_is_right (C : Addr) : Spd := fun ds M P => ∃ p, ds = [progD C p] ∧ Valid p ∧ P (.sc (.bl (isRight p))) M
theorem mostOthers_le {p : Prog} (h : Valid p) : mostOthers p ≤ 6 := by
  have h1 := h.len .new
  have h2 := h.len .change
  have h3 := h.len .drop
  have e1 : p.steps .new = p.new := rfl
  have e2 : p.steps .change = p.change := rfl
  have e3 : p.steps .drop = p.drop := rfl
  rw [e1] at h1
  rw [e2] at h2
  rw [e3] at h3
  unfold mostOthers
  split <;> omega
theorem mostOthers_ge (p : Prog) : 2 ≤ mostOthers p := by
  unfold mostOthers
  split <;> omega
def inKind (kk : Option Int) (t : Thing) : Bool := match kk with
  | none => true
  | some c => decide (t.1 = c)
theorem numbersOf_snoc (k : Keep) (ts : List Thing) (t : Thing) : numbersOf k (ts ++ [t]) = numbersOf k ts ++ numbersOf k [t] := by
  unfold numbersOf
  rw [List.filter_append, List.map_append]
theorem numbersOf_in {kw : What} {kk : Option Int} {t : Thing} (h : inKind kk t = true) : numbersOf ⟨kw, kk⟩ [t] = [t.2] := by
  unfold numbersOf
  rw [List.filter_cons_of_pos (by cases kk <;> exact h)]
  rfl
theorem numbersOf_out {kw : What} {kk : Option Int} {t : Thing} (h : inKind kk t = false) : numbersOf ⟨kw, kk⟩ [t] = [] := by
  unfold numbersOf
  rw [List.filter_cons_of_neg]
  · rfl
  · intro z
    cases kk with
    | none => cases h
    | some c => exact Bool.false_ne_true ((show decide (t.1 = c) = false from h).symm.trans z)
theorem numbersOf_le (k : Keep) (ts : List Thing) : (numbersOf k ts).length ≤ ts.length := by
  unfold numbersOf
  rw [List.length_map]
  exact List.length_filter_le _ _
theorem foldl_max_mem : ∀ (xs : List Int) (x : Int), xs.foldl max x ∈ x :: xs
  | [], x => List.mem_cons_self
  | y :: ys, x => by
    have h := foldl_max_mem ys (max x y)
    show ys.foldl max (max x y) ∈ _
    rcases List.mem_cons.mp h with e | e
    · rw [e]
      rcases Int.le_total x y with h1 | h1
      · rw [Int.max_eq_right h1]; exact List.mem_cons_of_mem _ List.mem_cons_self
      · rw [Int.max_eq_left h1]; exact List.mem_cons_self
    · exact List.mem_cons_of_mem _ (List.mem_cons_of_mem _ e)
theorem foldl_max_le : ∀ (xs : List Int) (x : Int), ∀ y ∈ x :: xs, y ≤ xs.foldl max x
  | [], x, y, h => by
    rcases List.mem_cons.mp h with e | e
    · rw [e]; exact Int.le_refl _
    · cases e
  | z :: zs, x, y, h => by
    have ih := foldl_max_le zs (max x z)
    show y ≤ zs.foldl max (max x z)
    rcases List.mem_cons.mp h with e | e
    · rw [e]; exact Int.le_trans (Int.le_max_left x z) (ih _ List.mem_cons_self)
    · rcases List.mem_cons.mp e with e | e
      · rw [e]; exact Int.le_trans (Int.le_max_right x z) (ih _ List.mem_cons_self)
      · exact ih y (List.mem_cons_of_mem _ e)
theorem maxV_eq {x m : Int} {xs : List Int} (h : m ∈ x :: xs) (h2 : ∀ y, y ∈ x :: xs → y ≤ m) : xs.foldl max x = m :=
  Int.le_antisymm (h2 _ (foldl_max_mem xs x)) (foldl_max_le xs x m h)
theorem scal_ty {x : What} {v u : V} (h : TyV x v) (h2 : TyV x u) : scal v u = true := by
  cases x with
  | count => obtain ⟨a, rfl⟩ := h; obtain ⟨b, rfl⟩ := h2; rfl
  | sum => obtain ⟨a, rfl⟩ := h; obtain ⟨b, rfl⟩ := h2; rfl
  | any => obtain ⟨a, rfl⟩ := h; obtain ⟨b, rfl⟩ := h2; rfl
  | most => rcases h with rfl | ⟨a, rfl⟩ <;> rcases h2 with rfl | ⟨b, rfl⟩ <;> rfl
theorem rowsOf_le (k : Int) (n : Nat) : (rowsOf k n).length ≤ 4 := by
  unfold rowsOf
  split
  · exact Nat.le_of_ble_eq_true rfl
  · rw [List.length_map]
    exact Nat.le_refl 4
theorem rowsOf_mem {k : Int} {n : Nat} {r : List Thing} (h : r ∈ rowsOf k n) : r.length = n := by
  unfold rowsOf at h
  split at h
  · rename_i e
    rw [List.mem_singleton.mp h, e] <;> rfl
  · obtain ⟨m, _, rfl⟩ := List.mem_map.mp h
    exact List.length_replicate
theorem flatMap_le {α β : Type} {f : α → List β} {c : Nat} (hf : ∀ x, (f x).length ≤ c) : ∀ l : List α, (l.flatMap f).length ≤ c * l.length
  | [] => Nat.zero_le _
  | x :: l => by
    rw [List.flatMap_cons, List.length_append, List.length_cons, Nat.mul_succ]
    have := hf x
    have := flatMap_le hf l
    omega
theorem crowdsAt_le (many first : Nat) : (crowdsAt many first).length ≤ 16 := by
  unfold crowdsAt
  have h := flatMap_le (f := fun r => (rowsOf 1 (many - first)).map fun o => r ++ o) (c := 4) (fun r => by rw [List.length_map]; exact rowsOf_le _ _) (rowsOf 0 first)
  have := rowsOf_le 0 first
  omega
theorem crowds_mem {many most : Nat} {c : List Thing} (h : c ∈ crowds many most) : c.length = many := by
  unfold crowds at h
  obtain ⟨i, hi, h⟩ := List.mem_flatMap.mp h
  unfold crowdsAt at h
  obtain ⟨r, hr, h⟩ := List.mem_flatMap.mp h
  obtain ⟨o, ho, rfl⟩ := List.mem_map.mp h
  rw [List.length_append, rowsOf_mem hr, rowsOf_mem ho]
  have := List.mem_range.mp hi
  omega
theorem crowds_le (many most : Nat) : (crowds many most).length ≤ 16 * (most + 1) := by
  unfold crowds
  have h := flatMap_le (f := fun i => crowdsAt many (many - most + i)) (c := 16) (fun i => crowdsAt_le _ _) (List.range (min many most + 1 - (many - most)))
  rw [List.length_range] at h
  omega
theorem replicate_flat {α : Type} (x : α) : ∀ n : Nat, (List.replicate n [x]).flatten = List.replicate n x
  | 0 => rfl
  | n + 1 => by rw [List.replicate_succ, List.flatten_cons, replicate_flat x n, List.replicate_succ]; rfl
theorem findSome_hit {α β : Type} {f : α → Option β} {l : List α} {i : Nat} {x : α} {y : β} (hx : l[i]? = some x) (h : (l.take i).findSome? f = none) (hf : f x = some y) : l.findSome? f = some y := by
  have e : l = l.take (i + 1) ++ l.drop (i + 1) := (List.take_append_drop _ _).symm
  rw [take_succ_some hx] at e
  rw [e, List.findSome?_append, List.findSome?_append, h]
  show ((List.findSome? f [x]).or _) = _
  rw [List.findSome?_cons, hf]
  rfl
theorem findSome_snoc {α β : Type} {f : α → Option β} {l : List α} {i : Nat} {x : α} (hx : l[i]? = some x) (h : (l.take i).findSome? f = none) (hf : f x = none) : (l.take (i + 1)).findSome? f = none := by
  rw [take_succ_some hx, List.findSome?_append, h]
  show List.findSome? f [x] = none
  rw [List.findSome?_cons, hf]
  rfl
end Kc

/-! Promises of the laws' own helpers: draws, programs right and spoilt. -/
namespace Kc
open PySem L2 Dl
structure DrSt where
  script : List Int
  pos : Int
  big : Int
  seed : Int
structure DrSt.Ok (s : DrSt) : Prop where
  pos : 0 ≤ s.pos
  big : 0 ≤ s.big
abbrev DrSt.l (s : DrSt) : List Da := [.lst (s.script.map iD), iD s.pos, iD s.big, iD s.seed]
/-- the draws' list at a -/
def DrAt (M : MH) (a : Addr) : Prop := ∃ s : DrSt, M a = some (.lst s.l) ∧ s.Ok
def S_law_begin : Spd := fun ds M P => ∃ script : List Int, ds = [.ro (script.map iD)] ∧ ∀ p, M p = none → P (.sc (.ref p)) (updM M p (.lst (DrSt.l ⟨script, 0, 0, 7⟩)))
def S_law_draw : Spd := fun ds M P => ∃ (a : Addr) (st : DrSt) (many : Nat), ds = [.sc (.ref a), iD many] ∧ M a = some (.lst st.l) ∧ st.Ok ∧ 1 ≤ many ∧ many ≤ 1000 ∧
  ∀ (r : Nat) (st' : DrSt), st'.Ok → r < many → P (iD r) (updM M a (.lst st'.l))
def S_law_keep : Spd := fun ds M P => ∃ (a : Addr) (st : DrSt), ds = [.sc (.ref a)] ∧ M a = some (.lst st.l) ∧ st.Ok ∧
  ∀ (k : Keep) (st' : DrSt), st'.Ok → KeepOk k → P (keepD k) (updM M a (.lst st'.l))
/-- the step, under a test where the keep has a kind -/
def under (kp : Keep) (t : Int → Test) (c : Touch) : Step := match kp.kind with
  | none => ⟨none, c⟩
  | some z => ⟨some (t z), c⟩
def S_law_under : Spd := fun ds M P => ∃ (kp : Keep) (w : Bool) (c : Touch), ds = [keepD kp, sD (if w then "newer" else "elder"), touchD c] ∧ P (stepD (under kp (if w then .newer else .elder) c)) M
def rNew (i : Nat) (kp : Keep) : List Step := match kp.what with
  | .count => [under kp .newer (.add i .one)]
  | .sum => [under kp .newer (.add i .newer)]
  | .most => [under kp .newer (.lift i)]
  | .any => [under kp .newer (.mark i)]
def rChange (i : Nat) (kp : Keep) : List Step := match kp.what with
  | .count => if kp.kind = none then [] else [under kp .elder (.less i .one), under kp .newer (.add i .one)]
  | .sum => [under kp .elder (.less i .elder), under kp .newer (.add i .newer)]
  | .most => [⟨none, .again i⟩]
  | .any => [⟨none, .again i⟩]
def rDrop (i : Nat) (kp : Keep) : List Step := match kp.what with
  | .count => [under kp .elder (.less i .one)]
  | .sum => [under kp .elder (.less i .elder)]
  | .most => [⟨some (.top i), .again i⟩]
  | .any => [⟨none, .again i⟩]
def kAt (ks : List Keep) (i : Nat) : Keep := ks.getD i ⟨.count, none⟩
def rightP (ks : List Keep) : Prog := ⟨ks, (List.range ks.length).flatMap fun i => rNew i (kAt ks i), (List.range ks.length).flatMap fun i => rChange i (kAt ks i), (List.range ks.length).flatMap fun i => rDrop i (kAt ks i)⟩
abbrev partsL (p : Prog) : List Da := [.lst (p.keeps.map keepD), .lst (p.new.map stepD), .lst (p.change.map stepD), .lst (p.drop.map stepD)]
def S_law_right : Spd := fun ds M P => ∃ (a : Addr) (st : DrSt) (most : Nat), ds = [.sc (.ref a), iD most] ∧ M a = some (.lst st.l) ∧ st.Ok ∧ 1 ≤ most ∧ most ≤ 3 ∧
  ∀ (ks : List Keep) (st' : DrSt) (p : Addr), st'.Ok → 1 ≤ ks.length → ks.length ≤ most → (∀ k ∈ ks, KeepOk k) → M p = none → P (.sc (.ref p)) (updM (updM M a (.lst st'.l)) p (.lst (partsL (rightP ks))))
def Pn.at_ : Pn → Nat
  | .new => 1
  | .change => 2
  | .drop => 3
def S_law_touch : Spd := fun ds M P => ∃ (a : Addr) (st : DrSt) (ks : List Keep) (n : Pn), ds = [.sc (.ref a), .lst (ks.map keepD), iD n.at_] ∧ M a = some (.lst st.l) ∧ st.Ok ∧ 1 ≤ ks.length ∧ ks.length ≤ 3 ∧
  ∀ (t : Touch) (st' : DrSt), st'.Ok → TouchOk n ks t → P (touchD t) (updM M a (.lst st'.l))
def S_law_step : Spd := fun ds M P => ∃ (a : Addr) (st : DrSt) (ks : List Keep) (n : Pn), ds = [.sc (.ref a), .lst (ks.map keepD), iD n.at_] ∧ M a = some (.lst st.l) ∧ st.Ok ∧ 1 ≤ ks.length ∧ ks.length ≤ 3 ∧ (∀ k ∈ ks, KeepOk k) ∧
  ∀ (s : Step) (st' : DrSt), st'.Ok → StepOk n ks s → P (stepD s) (updM M a (.lst st'.l))
/-- one spoiling of a procedure -/
inductive Sp (n : Pn) (ks : List Keep) (l : List Step) : List Step → Prop where
  | same : Sp n ks l l
  | move (i j : Nat) (s : Step) : l[i]? = some s → j ≤ (l.eraseIdx i).length → Sp n ks l ((l.eraseIdx i).take j ++ [s] ++ (l.eraseIdx i).drop j)
  | out (i : Nat) : Sp n ks l (l.eraseIdx i)
  | put (i : Nat) (s : Step) : l.length < 5 → StepOk n ks s → Sp n ks l (l.take i ++ [s] ++ l.drop i)
  | set (i : Nat) (s : Step) : i < l.length → StepOk n ks s → Sp n ks l (l.set i s)
inductive Gen : Nat → Prog → Prop where
  | right (ks : List Keep) : 1 ≤ ks.length → ks.length ≤ 3 → (∀ k ∈ ks, KeepOk k) → Gen 0 (rightP ks)
  | spoil (m : Nat) (p : Prog) (n : Pn) (l : List Step) : Gen m p → Sp n p.keeps (p.steps n) l → Gen (m + 1) (p.with n l)
def S_law_spoilt : Spd := fun ds M P => ∃ (a : Addr) (st : DrSt) (p : Prog), ds = [.sc (.ref a), .lst (partsL p)] ∧ M a = some (.lst st.l) ∧ st.Ok ∧ Valid p ∧
  ∀ (n : Pn) (l : List Step) (st' : DrSt) (q : Addr), st'.Ok → Sp n p.keeps (p.steps n) l → M q = none → P (.sc (.ref q)) (updM (updM M a (.lst st'.l)) q (.lst (partsL (p.with n l))))
def S_law_any : Spd := fun ds M P => ∃ (a : Addr) (st : DrSt) (most : Nat), ds = [.sc (.ref a), iD most] ∧ M a = some (.lst st.l) ∧ st.Ok ∧ 1 ≤ most ∧ most ≤ 3 ∧
  ∀ (m : Nat) (p : Prog) (st' : DrSt) (q : Addr), st'.Ok → m ≤ 2 → Gen m p → p.keeps.length ≤ most → M q = none → P (.sc (.ref q)) (updM (updM M a (.lst st'.l)) q (.lst (partsL p)))
def S_law_made (C : Addr) : Spd := fun ds M P => ∃ (d : Da) (p : Prog), ds = [d] ∧ LstAt d M (partsL p) ∧ Valid p ∧ P (progD C p) M
theorem pickL {α : Type} {f : α → Da} {ts : List α} {r : Nat} (h : r < ts.length) : atI (ts.map f) (r : Int) = some (f ts[r]) :=
  atI_nat (by rw [List.getElem?_map, List.getElem?_eq_getElem h] <;> rfl)
theorem kAt_get {ks : List Keep} {i : Nat} (h : i < ks.length) : ks[i]? = some (kAt ks i) := by
  unfold kAt
  rw [List.getD_eq_getElem?_getD, List.getElem?_eq_getElem h] <;> rfl
theorem range_succ_flat {α : Type} (f : Nat → List α) (i : Nat) : (List.range (i + 1)).flatMap f = (List.range i).flatMap f ++ f i := by
  rw [List.range_succ, List.flatMap_append, List.flatMap_singleton]
theorem rNew_le (i : Nat) (k : Keep) : (rNew i k).length ≤ 2 := by
  unfold rNew
  cases k.what <;> exact Nat.le_of_ble_eq_true rfl
theorem rChange_le (i : Nat) (k : Keep) : (rChange i k).length ≤ 2 := by
  unfold rChange
  cases k.what <;> first | exact Nat.le_of_ble_eq_true rfl | (show (if _ then _ else _ : List Step).length ≤ 2; split <;> exact Nat.le_of_ble_eq_true rfl)
theorem rDrop_le (i : Nat) (k : Keep) : (rDrop i k).length ≤ 2 := by
  unfold rDrop
  cases k.what <;> exact Nat.le_of_ble_eq_true rfl
/-- three lists that grow, beside the rest -/
def MM (N : MH) (p q r : Addr) (n c d : List Da) : MH := updM (updM (updM N p (.lst n)) q (.lst c)) r (.lst d)
section
variable {N : MH} {p q r : Addr} {n c d x : List Da} (h1 : p ≠ q) (h2 : p ≠ r) (h3 : q ≠ r)
include h1 h2 in
theorem MM1 : MM N p q r n c d p = some (.lst n) := by unfold MM; rw [updM_ne h2, updM_ne h1, updM_same]
include h3 in
theorem MM2 : MM N p q r n c d q = some (.lst c) := by unfold MM; rw [updM_ne h3, updM_same]
theorem MM3 : MM N p q r n c d r = some (.lst d) := by unfold MM; rw [updM_same]
include h1 h2 in
theorem MMu1 : updM (MM N p q r n c d) p (.lst x) = MM N p q r x c d := by
  unfold MM
  rw [updM_comm h2.symm, updM_comm h1.symm, updM_updM]
include h3 in
theorem MMu2 : updM (MM N p q r n c d) q (.lst x) = MM N p q r n x d := by
  unfold MM
  rw [updM_comm h3.symm, updM_updM]
theorem MMu3 : updM (MM N p q r n c d) r (.lst x) = MM N p q r n c x := by
  unfold MM
  rw [updM_updM]
include h1 h2 h3 in
theorem MMdel (hp : N p = none) (hq : N q = none) (hr : N r = none) : delM (delM (delM (MM N p q r n c d) p) q) r = N := by
  funext b
  unfold MM delM updM
  by_cases e1 : b = r
  · rw [if_pos e1, e1, hr]
  · by_cases e2 : b = q
    · rw [if_neg e1, if_pos e2, e2, hq]
    · by_cases e3 : b = p
      · rw [if_neg e1, if_neg e2, if_pos e3, e3, hp]
      · simp only [if_neg e1, if_neg e2, if_neg e3]
end
end Kc
namespace Kc
open PySem L2 Dl
theorem under_ok {n : Pn} {ks : List Keep} {kp : Keep} {t : Int → Test} {c : Touch} (hk : KeepOk kp) (hc : TouchOk n ks c) (ht : ∀ z, z = 0 ∨ z = 1 → TestOk n ks (t z)) : StepOk n ks (under kp t c) := by
  unfold under
  cases hkk : kp.kind with
  | none => exact ⟨hc, fun t h => by cases h⟩
  | some z =>
    refine ⟨hc, fun t' h => ?_⟩
    cases h
    refine ht z ?_
    rcases hk with h | h | h <;> rw [hkk] at h <;> cases h
    · exact .inl rfl
    · exact .inr rfl
theorem right_valid {ks : List Keep} (h1 : 1 ≤ ks.length) (h3 : ks.length ≤ 3) (ho : ∀ k ∈ ks, KeepOk k) : Valid (rightP ks) where
  k1 := h1
  k3 := h3
  ok := ho
  len := by
    intro n
    cases n with
    | new =>
      have := flatMap_le (f := fun i => rNew i (kAt ks i)) (fun i => rNew_le i (kAt ks i)) (List.range ks.length)
      rw [List.length_range] at this
      show ((List.range ks.length).flatMap fun i => rNew i (kAt ks i)).length ≤ 6
      omega
    | change =>
      have := flatMap_le (f := fun i => rChange i (kAt ks i)) (fun i => rChange_le i (kAt ks i)) (List.range ks.length)
      rw [List.length_range] at this
      show ((List.range ks.length).flatMap fun i => rChange i (kAt ks i)).length ≤ 6
      omega
    | drop =>
      have := flatMap_le (f := fun i => rDrop i (kAt ks i)) (fun i => rDrop_le i (kAt ks i)) (List.range ks.length)
      rw [List.length_range] at this
      show ((List.range ks.length).flatMap fun i => rDrop i (kAt ks i)).length ≤ 6
      omega
  st := by
    intro n s hs
    have get : ∀ i, i ∈ List.range ks.length → ks[i]? = some (kAt ks i) ∧ KeepOk (kAt ks i) := fun i hi => by
      have h := kAt_get (List.mem_range.mp hi)
      exact ⟨h, ho _ (List.mem_of_getElem? h)⟩
    cases n with
    | new =>
      obtain ⟨i, hi, hs⟩ := List.mem_flatMap.mp hs
      obtain ⟨hg, hk⟩ := get i hi
      show StepOk .new ks s
      generalize kAt ks i = kp at hg hk hs
      obtain ⟨kw, kk⟩ := kp
      have tn : ∀ z : Int, z = 0 ∨ z = 1 → TestOk .new ks (.newer z) := fun z hz => ⟨by decide, hz⟩
      cases kw with
      | count => rw [List.mem_singleton.mp hs]; exact under_ok hk ⟨⟨(by intro h; cases h), (by intro h; cases h)⟩, _, hg, .inr ⟨rfl, rfl⟩⟩ tn
      | sum => rw [List.mem_singleton.mp hs]; exact under_ok hk ⟨⟨(by intro h; cases h), (by intro _; decide)⟩, _, hg, .inl rfl⟩ tn
      | most => rw [List.mem_singleton.mp hs]; exact under_ok hk ⟨by decide, _, hg, rfl⟩ tn
      | any => rw [List.mem_singleton.mp hs]; exact under_ok hk ⟨_, hg, rfl⟩ tn
    | change =>
      obtain ⟨i, hi, hs⟩ := List.mem_flatMap.mp hs
      obtain ⟨hg, hk⟩ := get i hi
      show StepOk .change ks s
      generalize kAt ks i = kp at hg hk hs
      obtain ⟨kw, kk⟩ := kp
      have tn : ∀ z : Int, z = 0 ∨ z = 1 → TestOk .change ks (.newer z) := fun z hz => ⟨by decide, hz⟩
      have te : ∀ z : Int, z = 0 ∨ z = 1 → TestOk .change ks (.elder z) := fun z hz => ⟨by decide, hz⟩
      have two : ∀ (a b : Step), StepOk .change ks a → StepOk .change ks b → ∀ s ∈ [a, b], StepOk .change ks s := by
        intro a b ha hb s hs
        rcases List.mem_cons.mp hs with e | hs
        · rw [e]; exact ha
        · rw [List.mem_singleton.mp hs]; exact hb
      cases kw with
      | count =>
        have one : AddOk .change ks i .one := ⟨⟨(by intro h; cases h), (by intro h; cases h)⟩, _, hg, .inr ⟨rfl, rfl⟩⟩
        cases kk with
        | none => cases hs
        | some z => exact two _ _ (under_ok hk (c := .less i .one) one te) (under_ok hk (c := .add i .one) one tn) s hs
      | sum => exact two _ _ (under_ok hk (c := .less i .elder) ⟨⟨(by intro _; decide), (by intro _; decide)⟩, _, hg, .inl rfl⟩ te) (under_ok hk (c := .add i .newer) ⟨⟨(by intro _; decide), (by intro _; decide)⟩, _, hg, .inl rfl⟩ tn) s hs
      | most => rw [List.mem_singleton.mp hs]; exact ⟨⟨_, hg⟩, fun t h => by cases h⟩
      | any => rw [List.mem_singleton.mp hs]; exact ⟨⟨_, hg⟩, fun t h => by cases h⟩
    | drop =>
      obtain ⟨i, hi, hs⟩ := List.mem_flatMap.mp hs
      obtain ⟨hg, hk⟩ := get i hi
      show StepOk .drop ks s
      generalize kAt ks i = kp at hg hk hs
      obtain ⟨kw, kk⟩ := kp
      have te : ∀ z : Int, z = 0 ∨ z = 1 → TestOk .drop ks (.elder z) := fun z hz => ⟨by decide, hz⟩
      cases kw with
      | count => rw [List.mem_singleton.mp hs]; exact under_ok hk (c := .less i .one) ⟨⟨(by intro h; cases h), (by intro h; cases h)⟩, _, hg, .inr ⟨rfl, rfl⟩⟩ te
      | sum => rw [List.mem_singleton.mp hs]; exact under_ok hk (c := .less i .elder) ⟨⟨(by intro _; decide), (by intro h; cases h)⟩, _, hg, .inl rfl⟩ te
      | most => rw [List.mem_singleton.mp hs]; exact ⟨⟨_, hg⟩, fun t h => by cases h; exact ⟨by decide, _, hg, rfl⟩⟩
      | any => rw [List.mem_singleton.mp hs]; exact ⟨⟨_, hg⟩, fun t h => by cases h⟩
theorem sp_len {n : Pn} {ks : List Keep} {l l' : List Step} (h : Sp n ks l l') (hl : l.length ≤ 6) : l'.length ≤ 6 := by
  cases h with
  | same => exact hl
  | move i j s hs hj =>
    have hi : i < l.length := (List.getElem?_eq_some_iff.mp hs).1
    have he : (l.eraseIdx i).length = l.length - 1 := List.length_eraseIdx_of_lt hi
    simp only [List.length_append, List.length_take, List.length_drop, List.length_cons, List.length_nil]
    omega
  | out i => exact Nat.le_trans (List.length_eraseIdx_le ..) hl
  | put i s h5 _ =>
    simp only [List.length_append, List.length_take, List.length_drop, List.length_cons, List.length_nil]
    omega
  | set i s _ _ => rw [List.length_set]; exact hl
theorem sp_mem {n : Pn} {ks : List Keep} {l l' : List Step} (h : Sp n ks l l') (ho : ∀ s ∈ l, StepOk n ks s) : ∀ s ∈ l', StepOk n ks s := by
  intro x hx
  cases h with
  | same => exact ho x hx
  | move i j s hs hj =>
    rcases List.mem_append.mp hx with h | h
    · rcases List.mem_append.mp h with h | h
      · exact ho x (List.mem_of_mem_eraseIdx (List.mem_of_mem_take h))
      · rw [List.mem_singleton.mp h]; exact ho s (List.mem_of_getElem? hs)
    · exact ho x (List.mem_of_mem_eraseIdx (List.mem_of_mem_drop h))
  | out i => exact ho x (List.mem_of_mem_eraseIdx hx)
  | put i s h5 hs =>
    rcases List.mem_append.mp hx with h | h
    · rcases List.mem_append.mp h with h | h
      · exact ho x (List.mem_of_mem_take h)
      · rw [List.mem_singleton.mp h]; exact hs
    · exact ho x (List.mem_of_mem_drop h)
  | set i s _ hs =>
    rcases List.mem_or_eq_of_mem_set hx with h | h
    · exact ho x h
    · rw [h]; exact hs
theorem with_valid {p : Prog} {n : Pn} {l : List Step} (h : Valid p) (h6 : l.length ≤ 6) (ho : ∀ s ∈ l, StepOk n p.keeps s) : Valid (p.with n l) := by
  have hk : (p.with n l).keeps = p.keeps := by cases n <;> rfl
  have hst : ∀ m, (p.with n l).steps m = if m = n then l else p.steps m := by intro m; cases n <;> cases m <;> rfl
  refine ⟨by rw [hk]; exact h.k1, by rw [hk]; exact h.k3, by rw [hk]; exact h.ok, fun m => ?_, fun m s hs => ?_⟩
  · rw [hst]
    split
    · exact h6
    · exact h.len m
  · rw [hst] at hs
    rw [hk]
    by_cases e : m = n
    · subst e
      rw [if_pos rfl] at hs
      exact ho s hs
    · rw [if_neg e] at hs
      exact h.st m s hs
theorem gen_valid {m : Nat} {p : Prog} (h : Gen m p) : Valid p := by
  induction h with
  | right ks h1 h3 ho => exact right_valid h1 h3 ho
  | spoil m p n l _ hsp ih => exact with_valid ih (sp_len hsp (ih.len n)) (sp_mem hsp (ih.st n))
end Kc
namespace Kc
theorem eraseIdx_mapD {α β : Type} (f : α → β) : ∀ (l : List α) (i : Nat), (l.map f).eraseIdx i = (l.eraseIdx i).map f
  | [], _ => rfl
  | _ :: _, 0 => rfl
  | x :: l, i + 1 => by
    show f x :: (l.map f).eraseIdx i = f x :: (l.eraseIdx i).map f
    rw [eraseIdx_mapD f l i]
end Kc

/-! sorted() of a list of tuples of small numbers, all of one length. -/
namespace Dl
open PySem PySem.Spec L2
section
variable {X : Cx}
abbrev rSort1 (K : PySem.W.Frag) : List V → Hp → VK → Prop := fun vs H Q => ∃ (a : Addr) (xs : List V), vs = [V.ref a] ∧ SqL K H a xs ∧ xs.length < 2 ∧ (∀ x ∈ xs, ∃ t, x = V.ref t) ∧ ∀ p, H p = none → Q (.ref p) (upd H p (.lst xs))
abbrev rSortA (K : PySem.W.Frag) : List V → Hp → VK → Prop := fun vs H Q => rSort1 K vs H Q ∨ ∃ (d : Nat) (B : Int), 1 ≤ d ∧ rSortU K d B vs H Q
theorem swo_none {α : Type} : SrtO.Swo (fun (_ _ : α) => false) := ⟨fun _ _ h => (by cases h), fun _ _ _ _ _ => rfl⟩
theorem perm_short {α : Type} : ∀ {l m : List α}, l.Perm m → m.length < 2 → l = m
  | l, [], h, _ => h.eq_nil
  | l, [x], h, _ => List.perm_singleton.mp h
  | l, _ :: _ :: _, _, h => absurd h (by simp)
theorem cr_sort1 : CallR X (.builtin "sorted") (rSort1 X.K) := by
  intro pins s σ H vs us Q I r h
  obtain ⟨a, xs, rfl, hs, h1, hx, q⟩ := h
  obtain ⟨its, rv, hl, hz⟩ := I.list hs
  rw [Vals.ref1 r]
  obtain ⟨e1, e2⟩ := bkV_refs rv hx
  have hil : its.length < 2 := by rw [← rv.length]; exact h1
  refine SrtO.sorted_ord (ltv := fun _ _ => false) swo_none hl.isList (by rw [← rv.length]; exact hz) (fun h2 => absurd h2 (by omega)) fun out _ h2 => ?_
  obtain ⟨ep, he'⟩ := PyProof.Rows.sortedAll_at s.heap its out.toArray
  have eo : out = its := perm_short h2.perm hil
  subst eo
  have hlen : xs.length ≤ sizeLine := hz
  exact ⟨.ref _, upd H (s.heap.objs.size + 1) (.lst xs), I.laid (t' := s.toks) (fun _ _ => PyProof.Rows.sortedAll_old) (Nat.le_succ _) ⟨hlen, out, ep, rv, he'⟩, rfl, q _ (I.hok.fresh (Nat.le_succ _))⟩
theorem cr_sortA : CallR X (.builtin "sorted") (rSortA X.K) := fun pins s σ H vs us Q I r h => by
  rcases h with h | ⟨d, B, hd, h⟩
  · exact cr_sort1 pins s σ H vs us Q I r h
  · exact cr_sortT hd pins s σ H vs us Q I r h
end
section
variable {K : PySem.W.Frag} {F : Hp}
theorem rpA_perm {ys xs : List V} (h : ys.Perm xs) : ∀ {ds : List Da}, RpA K F ds xs → ∃ es : List Da, es.Perm ds ∧ RpA K F es ys := by
  induction h with
  | nil =>
    intro ds r
    cases ds with
    | nil => exact ⟨[], .nil, RpA.nil_⟩
    | cons d ds => obtain ⟨y, ys, e, _⟩ := rpA_cons.mp r; cases e
  | cons x _ ih =>
    intro ds r
    cases ds with
    | nil => cases rpA_nil.mp r
    | cons d ds =>
      obtain ⟨y, ys, e, h1, h2⟩ := rpA_cons.mp r
      cases e
      obtain ⟨es, p, q⟩ := ih h2
      exact ⟨d :: es, p.cons d, RpA.cons_ h1 q⟩
  | swap x y l =>
    intro ds r
    cases ds with
    | nil => cases rpA_nil.mp r
    | cons d ds =>
      obtain ⟨z, zs, e, h1, h2⟩ := rpA_cons.mp r
      cases e
      cases ds with
      | nil => cases rpA_nil.mp h2
      | cons d2 ds =>
        obtain ⟨z2, zs2, e2, h3, h4⟩ := rpA_cons.mp h2
        cases e2
        exact ⟨d2 :: d :: ds, .swap _ _ _, RpA.cons_ h3 (RpA.cons_ h1 h4)⟩
  | trans _ _ ih1 ih2 =>
    intro ds r
    obtain ⟨es, p, q⟩ := ih2 r
    obtain ⟨fs, p2, q2⟩ := ih1 q
    exact ⟨fs, p2.trans p, q2⟩
theorem perm_map {α β : Type} {f : α → β} {l : List α} {es : List β} (h : es.Perm (l.map f)) : ∃ l' : List α, l'.Perm l ∧ es = l'.map f := by
  generalize hm : l.map f = m at h
  induction h generalizing l with
  | nil =>
    exact ⟨[], by rw [List.map_eq_nil_iff.mp hm], rfl⟩
  | cons x _ ih =>
    cases l with
    | nil => cases hm
    | cons a l =>
      cases hm
      obtain ⟨l', p, e⟩ := ih rfl
      exact ⟨a :: l', p.cons a, by rw [e]; rfl⟩
  | swap x y _ =>
    cases l with
    | nil => cases hm
    | cons a l =>
      cases l with
      | nil => cases hm
      | cons b l =>
        cases hm
        exact ⟨b :: a :: l, .swap _ _ _, rfl⟩
  | trans _ _ ih1 ih2 =>
    obtain ⟨l1, p1, e1⟩ := ih2 hm
    obtain ⟨l2, p2, e2⟩ := ih1 e1.symm
    exact ⟨l2, p2.trans p1, e2⟩
end
end Dl
namespace Kc
open PySem PySem.Spec L2 Dl
abbrev ordD (o : List Nat) : Da := .tup (o.map fun i => iD (i : Nat))
def codeO (o : List Nat) : Int := TS.code 10 (o.map fun i : Nat => (i : Int))
theorem rpA_nums {K : PySem.W.Frag} {F : Hp} : ∀ {o : List Nat} {xs : List V}, RpA K F (o.map fun i => iD (i : Nat)) xs → xs = (o.map fun i : Nat => (i : Int)).map V.int
  | [], xs, r => rpA_nil.mp r
  | i :: o, xs, r => by
    obtain ⟨y, ys, e, h1, h2⟩ := rpA_cons.mp r
    subst e
    rw [rp_sc.mp h1, rpA_nums h2]
    rfl
theorem rpA_mem {K : PySem.W.Frag} {F : Hp} : ∀ {ds : List Da} {xs : List V} {x : V}, RpA K F ds xs → x ∈ xs → ∃ d ∈ ds, Rp K F d x
  | [], xs, x, r, hx => by rw [rpA_nil.mp r] at hx; cases hx
  | d :: ds, xs, x, r, hx => by
    obtain ⟨y, ys, e, h1, h2⟩ := rpA_cons.mp r
    subst e
    rcases List.mem_cons.mp hx with e | hx
    · exact ⟨d, List.mem_cons_self, e ▸ h1⟩
    · obtain ⟨d', h, h'⟩ := rpA_mem h2 hx
      exact ⟨d', List.mem_cons_of_mem _ h, h'⟩
theorem rp_ord {K : PySem.W.Frag} {F H : Hp} {o : List Nat} {x : V} (s : ∀ a o, F a = some o → H a = some o) (r : Rp K F (ordD o) x) : TupI K H x (o.map fun i : Nat => (i : Int)) := by
  obtain ⟨a, xs, e, hs, rx⟩ := rp_tup.mp r
  rw [rpA_nums rx] at hs
  exact ⟨a, e, sqT_mono s hs⟩
theorem rcl_sortO {K : PySem.W.Frag} {M : MH} {P : Da → MH → Prop} {d : Da} {os : List (List Nat)} {n : Nat} (hd : LstAt d M (os.map ordD)) (h64 : os.length < 64) (hn : ∀ o ∈ os, o.length = n) (hb : ∀ o ∈ os, ∀ m ∈ o, m < 10)
    (h0 : n = 0 → os.length < 2) (q : ∀ os' : List (List Nat), os'.Perm os → (1 ≤ n → os'.Pairwise fun x y => codeO x ≤ codeO y) → P (.lst (os'.map ordD)) M) : RCl K (rSortA K) [d] M P := fun xs F G H Q rx hO k => by
  obtain ⟨x, rfl, r1⟩ := rpA_one rx
  obtain ⟨a, xs, ex, ha, rv⟩ := lstAt hd r1 hO
  subst ex
  have l := rv.length
  rw [List.length_map] at l
  have hT : ∀ x ∈ xs, ∃ o ∈ os, TupI K H x (o.map fun i : Nat => (i : Int)) := by
    intro x hx
    obtain ⟨d', hd', r'⟩ := rpA_mem rv hx
    obtain ⟨o, ho, rfl⟩ := List.mem_map.mp hd'
    exact ⟨o, ho, rp_ord hO.ex r'⟩
  by_cases hn0 : n = 0
  · refine .inl ⟨a, xs, rfl, .inl (.inl ha), by have := h0 hn0; omega, fun x hx => ?_, fun p hp => ?_⟩
    · obtain ⟨o, _, t, e, _⟩ := hT x hx
      exact ⟨t, e⟩
    · exact fin_lst hO hp rv (q os (.refl _) (fun h => absurd h (by omega))) k
  · refine .inr ⟨n, 10, by omega, a, xs, rfl, .inl (.inl ha), by omega, fun x hx => ?_, fun ys p hp hw hnew => ?_⟩
    · obtain ⟨o, ho, ht⟩ := hT x hx
      refine ⟨_, ht, by rw [List.length_map]; exact hn o ho, fun m hm => ?_⟩
      obtain ⟨i, hi, rfl⟩ := List.mem_map.mp hm
      have := hb o ho i hi
      omega
    · obtain ⟨es, pe, re⟩ := rpA_perm hp rv
      obtain ⟨os', po, rfl⟩ := perm_map pe
      refine fin_lst hO hnew re (q os' po fun _ => ?_) k
      clear pe po
      have go : ∀ (os' : List (List Nat)) (ys : List V), RpA K F (os'.map ordD) ys → ys.Pairwise (fun x y => ∀ n m, TupI K H x n → TupI K H y m → TS.code 10 n ≤ TS.code 10 m) → os'.Pairwise fun x y => codeO x ≤ codeO y := by
        intro os'
        induction os' with
        | nil => intro ys _ _; exact .nil
        | cons o os' ih =>
          intro ys r hw
          obtain ⟨y, ys', e, h1, h2⟩ := rpA_cons.mp r
          subst e
          obtain ⟨w1, w2⟩ := List.pairwise_cons.mp hw
          refine List.pairwise_cons.mpr ⟨fun o2 ho2 => ?_, ih ys' h2 w2⟩
          obtain ⟨j, hj, ej⟩ := List.getElem_of_mem ho2
          have hg : (os'.map ordD)[j]? = some (ordD o2) := by rw [List.getElem?_map, List.getElem?_eq_getElem hj, ej] <;> rfl
          obtain ⟨v, hv, rv⟩ := h2.get hg
          exact w1 v (List.mem_of_getElem? hv) _ _ (rp_ord hO.ex h1) (rp_ord hO.ex rv)
      exact go os' ys re hw
end Kc

/-! Orders, steps that are not needed; the laws' like; defs that call themselves. -/
namespace Kc
open PySem L2 Dl
theorem cut_take {ds : List Da} {i : Nat} (h : i ≤ ds.length) : cutD ds none (some (i : Int)) = ds.take i := by
  unfold cutD
  rw [HT.sIx_none, HT.sIx_nat, Nat.min_eq_left h]
  rfl
theorem cut_drop {ds : List Da} {i : Nat} (h : i ≤ ds.length) : cutD ds (some (i : Int)) none = ds.drop i := by
  unfold cutD
  rw [HT.sIx_none, HT.sIx_nat, Nat.min_eq_left h]
  exact List.take_of_length_le (by rw [List.length_drop]; omega)
/-- never called -/
theorem cal_never {P : Program} {w : World} {K : PySem.W.Frag} {mg : Str → Option Value} {base : Heap} {x qual : Str} {st : Stmt} {f : Addr} {fd : FuncData} {ps : List Str} {S : Spd} (hS : ∀ ds M Q, ¬ S ds M Q)
    (F : FunD K x qual (defArgs st) (defBody st) (defScope st) [] [] f fd) (g : mg x = some (.ref f)) (b : Binds K fd ps []) (k : Nat) : Cal P w K mg base k x ps S :=
  cal_mk F g ⟨fun vs H Q E h => by obtain ⟨F, G, M, ds, P, _, _, h, _⟩ := h; exact (hS _ _ _ h).elim, fun A outer s H args us vs Q E hr he hb hv h => by obtain ⟨F, G, M, ds, P, _, _, h, _⟩ := h; exact (hS _ _ _ h).elim⟩ b

/-! ### orders -/
def notIn (o : List Nat) (i : Nat) : Bool := !inV (.int i) (o.map fun j : Nat => V.int j)
def ordStep (many : Nat) (f : List (List Nat)) : List (List Nat) := f.flatMap fun o => ((List.range many).filter (notIn o)).map fun i => o ++ [i]
def ordIter (many : Nat) : Nat → List (List Nat)
  | 0 => [[]]
  | i + 1 => ordStep many (ordIter many i)
def allOrders (many : Nat) : List (List Nat) := ordIter many many
def lawOrders : Nat → List (List Nat)
  | 0 => [[]]
  | n + 1 => (lawOrders n).flatMap fun o => (List.range (n + 1)).map fun p => o.take p ++ [n] ++ o.drop p
def pickS (l : List Step) (o : List Nat) : List Step := o.map fun i => l.getD i ⟨none, .again 0⟩
def ordersM (p : Prog) (n : Pn) : List (List Nat) := (allOrders (p.steps n).length).filter fun o => isRight (p.with n (pickS (p.steps n) o))
def needlessM (p : Prog) (n : Pn) : List Nat := (List.range (p.steps n).length).filter fun i => isRight (p.with n ((p.steps n).eraseIdx i))
theorem ordIter_len (many : Nat) : ∀ i, (ordIter many i).length ≤ many ^ i
  | 0 => Nat.le_refl _
  | i + 1 => by
    have h := flatMap_le (f := fun o => ((List.range many).filter (notIn o)).map fun i => o ++ [i]) (c := many) (fun o => by
      rw [List.length_map]
      exact Nat.le_trans (List.length_filter_le _ _) (by rw [List.length_range]; exact Nat.le_refl _)) (ordIter many i)
    have ih := ordIter_len many i
    rw [Nat.pow_succ, Nat.mul_comm]
    exact Nat.le_trans h (Nat.mul_le_mul_left _ ih)
theorem ordIter_mem (many : Nat) : ∀ i, ∀ o ∈ ordIter many i, o.length = i ∧ ∀ j ∈ o, j < many
  | 0, o, h => by
    rw [List.mem_singleton.mp h]
    exact ⟨rfl, fun j hj => by cases hj⟩
  | i + 1, o, h => by
    obtain ⟨o', ho', h⟩ := List.mem_flatMap.mp h
    obtain ⟨j, hj, rfl⟩ := List.mem_map.mp h
    obtain ⟨h1, h2⟩ := ordIter_mem many i o' ho'
    refine ⟨by rw [List.length_append, h1]; rfl, fun z hz => ?_⟩
    rcases List.mem_append.mp hz with h | h
    · exact h2 z h
    · rw [List.mem_singleton.mp h]
      exact List.mem_range.mp (List.mem_filter.mp hj).1
theorem lawOrders_mem : ∀ n, ∀ o ∈ lawOrders n, o.length = n ∧ ∀ j ∈ o, j < n
  | 0, o, h => by
    rw [List.mem_singleton.mp h]
    exact ⟨rfl, fun j hj => by cases hj⟩
  | n + 1, o, h => by
    obtain ⟨o', ho', h⟩ := List.mem_flatMap.mp h
    obtain ⟨p, hp, rfl⟩ := List.mem_map.mp h
    obtain ⟨h1, h2⟩ := lawOrders_mem n o' ho'
    have hp := List.mem_range.mp hp
    refine ⟨by simp only [List.length_append, List.length_take, List.length_drop, List.length_cons, List.length_nil]; omega, fun z hz => ?_⟩
    rcases List.mem_append.mp hz with h | h
    · rcases List.mem_append.mp h with h | h
      · have := h2 z (List.mem_of_mem_take h)
        omega
      · have := List.mem_singleton.mp h
        omega
    · have := h2 z (List.mem_of_mem_drop h)
      omega
theorem orders_same : ∀ n, n ≤ 3 → ∀ os : List (List Nat), os.Perm (lawOrders n) → (1 ≤ n → os.Pairwise fun x y => codeO x ≤ codeO y) → os = allOrders n := by
  intro n hn os hp hw
  by_cases h0 : n = 0
  · subst h0
    exact List.perm_singleton.mp hp
  have key : (allOrders n).Perm (lawOrders n) ∧ (allOrders n).Pairwise (fun x y => codeO x ≤ codeO y) ∧ ∀ a ∈ lawOrders n, ∀ b ∈ lawOrders n, codeO a ≤ codeO b → codeO b ≤ codeO a → a = b := by
    match n, hn, h0 with
    | 1, _, _ => exact ⟨by decide, by decide, by decide⟩
    | 2, _, _ => exact ⟨by decide, by decide, by decide⟩
    | 3, _, _ => exact ⟨by decide +kernel, by decide +kernel, by decide +kernel⟩
  obtain ⟨k1, k2, k3⟩ := key
  refine List.Perm.eq_of_pairwise (fun a b ha hb => k3 a (hp.mem_iff.mp ha) b (k1.mem_iff.mp hb)) (hw (by omega)) k2 (hp.trans k1.symm)
def S_all_orders : Spd := fun ds M P => ∃ many : Nat, ds = [iD many] ∧ many ≤ 3 ∧ P (.lst ((allOrders many).map ordD)) M
def S_law_orders (n : Nat) : Spd := fun ds M P => ∃ many : Nat, many < n ∧ ds = [iD many] ∧ many ≤ 3 ∧ P (.lst ((lawOrders many).map ordD)) M
def S_orders (C : Addr) : Spd := fun ds M P => ∃ (p : Prog) (n : Pn), ds = [progD C p, sD n.s] ∧ Valid p ∧ (p.steps n).length ≤ 3 ∧ P (.lst ((ordersM p n).map ordD)) M
def S_needless (C : Addr) : Spd := fun ds M P => ∃ (p : Prog) (n : Pn), ds = [progD C p, sD n.s] ∧ Valid p ∧ P (.lst ((needlessM p n).map fun i : Nat => iD i)) M
theorem pickS_mem {l : List Step} {o : List Nat} (h : ∀ j ∈ o, j < l.length) : ∀ s ∈ pickS l o, s ∈ l := by
  intro s hs
  obtain ⟨i, hi, rfl⟩ := List.mem_map.mp hs
  rw [List.getD_eq_getElem?_getD, List.getElem?_eq_getElem (h i hi)]
  exact List.getElem_mem _
/-! ### like -/
def Lk : Nat → Da → Prop
  | 0, _ => False
  | n + 1, d => match d with
    | .sc v => v = .non ∨ (∃ b, v = .bl b) ∨ (∃ i, v = .int i) ∨ ∃ s, v = .str s
    | .tup ds => ds.length ≤ 1000 ∧ ∀ d ∈ ds, Lk n d
    | .lst ds => ds.length ≤ 1000 ∧ ∀ d ∈ ds, Lk n d
    | _ => False
def S_law_like (n : Nat) : Spd := fun ds M P => ∃ d, ds = [d, d] ∧ Lk n d ∧ P (.sc (.bl true)) M
theorem cut_le {ds : List Da} {i : Nat} : cutD ds none (some (i : Int)) = ds.take i := by
  unfold cutD
  rw [HT.sIx_none, HT.sIx_nat]
  show List.take (min i ds.length - 0) (List.drop 0 ds) = _
  rw [List.drop_zero, Nat.sub_zero, List.take_eq_take_iff, Nat.min_assoc, Nat.min_self]
theorem with_steps_same (p : Prog) (n : Pn) (l : List Step) : (p.with n l).steps n = l := by cases n <;> rfl
theorem with_with (p : Prog) (n : Pn) (l l' : List Step) : (p.with n l).with n l' = p.with n l' := by cases n <;> rfl
theorem lk_int (n : Nat) (z : Int) : Lk (n + 1) (iD z) := .inr (.inr (.inl ⟨z, rfl⟩))
theorem lk_ords {os : List (List Nat)} (h : os.length ≤ 1000) (ho : ∀ o ∈ os, o.length ≤ 1000) : Lk 4 (.lst (os.map ordD)) := by
  refine ⟨by rw [List.length_map]; exact h, fun d hd => ?_⟩
  obtain ⟨o, hm, rfl⟩ := List.mem_map.mp hd
  refine ⟨by rw [List.length_map]; exact ho o hm, fun d hd => ?_⟩
  obtain ⟨i, _, rfl⟩ := List.mem_map.mp hd
  exact lk_int _ _
theorem lk_ints {os : List Nat} (h : os.length ≤ 1000) : Lk 4 (.lst (os.map fun i : Nat => iD i)) := by
  refine ⟨by rw [List.length_map]; exact h, fun d hd => ?_⟩
  obtain ⟨o, hm, rfl⟩ := List.mem_map.mp hd
  exact lk_int _ _
end Kc

/-! Exceptions over data: one class with a field; a def that may raise it; try around a call of it. -/
namespace Dl
open PySem PySem.Spec L2
/-- a promise by data of a def that may raise -/
abbrev SpdE := List Da → MH → (Da → MH → Prop) → (MH → Prop) → Prop
def spOfE (K : PySem.W.Frag) (CB : Addr) (S : SpdE) : Sp := fun vs H Q E => ∃ F G M ds P R, RpA K F ds vs ∧ OkH K F M G H ∧ S ds M P R ∧ (∀ v d F' M' H', Same F F' → OkH K F' M' G H' → Rp K F' d v → P d M' → Q v H') ∧
  ∀ dx F' M' H', Same F F' → OkH K F' M' G H' → R M' → E (.ref CB) dx H'
structure CalE (P : Program) (w : World) (K : PySem.W.Frag) (mg : Str → Option Value) (base : Heap) (CB : Addr) (k : Nat) (x : Str) (ps : List Str) (S : SpdE) : Prop where
  ex : ∃ f fd, mg x = some (.ref f) ∧ FnOk P w K mg base (L2.CX P w) k f fd ps (spOfE K CB S) ∧ PySem.W.keepIn K (.ref f) = true ∧ Binds K fd ps []
theorem OkH.junk {K : PySem.W.Frag} {F G H : Hp} {M : MH} {p : Addr} {o : HO} (h : OkH K F M G H) (hp : H p = none) : OkH K F M G (upd H p o) where
  ex := sm_right h.ex (h.noF hp)
  mu := fun a u e => by
    obtain ⟨h1, h2⟩ := h.mu a u e
    obtain ⟨z, hz⟩ := h2.here
    exact ⟨h1, h2.mono (Same.refl F) (upd_ne (ne_of_none hz hp))⟩
  gx := sm_right h.gx (h.noG hp)
  gd := h.gd
/-- what the class's __init__ does: self.f = v -/
def spBad (C : Addr) (f : Str) : Sp := fun vs H Q _ => ∃ a v, vs = [.ref a, v] ∧ H a = some (exo a C none) ∧ ∀ dx, H dx = none → dx ≠ a → Q .non (upd (upd H dx (exd dx [(f, v)])) a (exo a C (some dx)))
/-- C(e), by data -/
theorem mk_bad {K : PySem.W.Frag} {ρ : Env'} {M : MH} {te : TE} {R : MH → Prop} {C : Addr} {f : Str} {σ : St} {F G H : Hp} {Q : XK} (h : EvP K te ρ M fun _ M1 => R M1) (hE : EnvD K F ρ σ) (hO : OkH K F M G H)
    (k : ∀ dx F' M' H', Same F F' → OkH K F' M' G H' → R M' → Q (.ref C) dx H') : tMkO C (spBad C f) [] (tCons te tNil) σ H Q :=
  h σ F G H _ hE hO fun v d F1 M1 H1 s1 o1 r1 p => by
    refine ⟨by show 1 ≤ 1000; decide, fun a ha => ⟨a, v, rfl, upd_same, fun dx hdx hne => ⟨rfl, dx, [(f, v)], upd_same, by rw [upd_ne hne]; exact upd_same, ?_, ?_⟩⟩⟩
    · rw [upd_ne hne] at hdx
      exact hdx
    · have hn : H1 dx = none := by
        rw [upd_ne hne] at hdx
        exact hdx
      have e : upd (del (upd (upd (upd H1 a (exo a C none)) dx (exd dx [(f, v)])) a (exo a C (some dx))) a) dx (.xd [(f, v)]) = upd H1 dx (.xd [(f, v)]) := by
        funext b
        by_cases hb : b = dx
        · subst hb
          rw [upd_same, upd_same]
        · rw [upd_ne hb, upd_ne hb]
          by_cases hba : b = a
          · subst hba
            rw [del_same, ha]
          · rw [del_ne hba, upd_ne hba, upd_ne hb, upd_ne hba]
      rw [e]
      exact k _ F1 M1 _ s1 (o1.junk hn) p
/-! ### statements of a def that may raise -/
def StPE (K : PySem.W.Frag) (F0 G0 : Hp) (ts : TS) (ρ : Env') (M : MH) (D : DE) : Prop :=
  ∀ (σ : St) (F H : Hp) (D0 : Ends), Same F0 F → EnvD K F ρ σ → OkH K F M G0 H → Match K F G0 D D0 → ts D0 σ H
section
variable {K : PySem.W.Frag} {F0 G0 : Hp} {ρ : Env'} {M : MH} {ts us tb' : TS} {t : TT} {te : TE} {D : DE}
theorem stpe_of (h : StP K ts ρ M D) : StPE K F0 G0 ts ρ M D := fun σ F H D0 s hE hO m => h σ F G0 H D0 hE hO m
theorem stpe_seq (h : StPE K F0 G0 ts ρ M { D with nx := fun ρ' M' => StPE K F0 G0 us ρ' M' D }) : StPE K F0 G0 (tSeq ts us) ρ M D := fun σ F H D0 s hE hO m =>
  h σ F H { D0 with nx := us D0 } s hE hO ⟨fun σ' ρ' F' M' H' s' e o p => p σ' F' H' D0 (s.trans s') e o (m.mono s'), m.rt, m.bk, m.ct⟩
theorem stpe_if (h : TvP K t ρ M fun b M1 => if b = true then StPE K F0 G0 ts ρ M1 D else StPE K F0 G0 us ρ M1 D) : StPE K F0 G0 (tIfS t ts us) ρ M D := fun σ F H D0 s hE hO m =>
  h σ F G0 H _ hE hO fun b F1 M1 H1 s1 o1 p => by
    cases b with
    | true =>
      show ts D0 σ H1
      exact (show StPE K F0 G0 ts ρ M1 D from p) σ F1 H1 D0 (s.trans s1) (hE.mono s1) o1 (m.mono s1)
    | false =>
      show us D0 σ H1
      exact (show StPE K F0 G0 us ρ M1 D from p) σ F1 H1 D0 (s.trans s1) (hE.mono s1) o1 (m.mono s1)
theorem stpe_raise {R : MH → Prop} {C : Addr} {f : Str} {E : XK} (hE : ∀ dx F' M' H', Same F0 F' → OkH K F' M' G0 H' → R M' → E (.ref C) dx H') (h : EvP K te ρ M fun _ M1 => R M1) : StPE K F0 G0 (fun _ σ H => tMkO C (spBad C f) [] (tCons te tNil) σ H fun cls d H' => E cls d H') ρ M D := fun σ F H D0 s e o m =>
  mk_bad h e o fun dx F' M' H' s' o' r => hE dx F' M' H' (s.trans s') o' r
theorem stpe_for {wi : TI} {g : TG} {js : List Nat} (h : SrP K wi ρ M fun ds M1 => ∃ I : Nat → Env' → MH → Prop, I 0 ρ M1 ∧
      (∀ i d ρ' M', ds[i]? = some d → I i ρ' M' → ∃ xs, TgOk K g js d xs ∧ StPE K F0 G0 tb' (setAllD ρ' js xs) M' { D with nx := I (i + 1), ct := I (i + 1), bk := D.nx }) ∧ ∀ ρ' M', I ds.length ρ' M' → D.nx ρ' M') : StPE K F0 G0 (tFor wi g tb') ρ M D := fun σ F H D0 s0 hE hO m =>
  h σ F G0 H _ hE hO fun J ds F1 M1 H1 s1 o1 w ⟨I, i0, hs, hd⟩ => by
    refine ⟨fun i m σ' H' => m = ds.length - i ∧ i ≤ ds.length ∧ ∃ ρ' F' M', Same F1 F' ∧ EnvD K F' ρ' σ' ∧ OkH K F' M' G0 H' ∧ I i ρ' M', ⟨ds.length, by simp, Nat.zero_le _, ρ, F1, M1, Same.refl F1, hE.mono s1, o1, i0⟩, ?_⟩
    rintro i n σ' H' ⟨rfl, hi, ρ', F', M', s2, e2, o2, p⟩
    by_cases hlt : i < ds.length
    · refine .inr ⟨w.go i H' hlt fun b o q => o2.ex _ _ (s2 _ _ q), fun σ3 H3 => ∃ ρ3 F3 M3, Same F1 F3 ∧ EnvD K F3 ρ3 σ3 ∧ OkH K F3 M3 G0 H3 ∧ I (i + 1) ρ3 M3, fun σ3 H3 q => ⟨ds.length - (i + 1), by omega, rfl, hlt, q⟩, fun x H2 y => ?_⟩
      obtain ⟨F2, d, s3, o3, hd3, r3⟩ := w.yld i F' M' G0 H' x H2 hlt s2 o2 y
      obtain ⟨xs, tg, st⟩ := hs i d ρ' M' hd3 p
      refine tg x F2 H2 σ' _ r3 o3.ex fun ys ry => ?_
      refine st (setAll σ' js ys) F2 H2 _ (((s0.trans s1).trans s2).trans s3) ((e2.mono s3).setAll ry) o3 ⟨fun σ4 ρ4 F4 M4 H4 s4 e4 o4 q4 => ?_, fun v d F4 M4 H4 s4 o4 r4 q4 => ?_, fun σ4 ρ4 F4 M4 H4 s4 e4 o4 q4 => ?_, fun σ4 ρ4 F4 M4 H4 s4 e4 o4 q4 => ?_⟩
      · exact ⟨ρ4, F4, M4, (s2.trans s3).trans s4, e4, o4, q4⟩
      · exact m.rt v d F4 M4 H4 (((s1.trans s2).trans s3).trans s4) o4 r4 q4
      · exact m.nx σ4 ρ4 F4 M4 H4 (((s1.trans s2).trans s3).trans s4) e4 o4 q4
      · exact ⟨ρ4, F4, M4, (s2.trans s3).trans s4, e4, o4, q4⟩
    · have e : i = ds.length := by omega
      subst e
      exact .inl ⟨w.stop H' fun b o q => o2.ex _ _ (s2 _ _ q), m.nx σ' ρ' F' M' H' (s1.trans s2) e2 o2 (hd ρ' M' p)⟩
/-- try: x = f(..), except C: .. -/
theorem stp_tryCall {S : SpdE} {CB : Addr} {ta : TA} {i : Nat} (hx : PySem.W.exmOne K (.ref CB) (.ref CB) = some true)
    (h : AvP K ta ρ M fun ds M1 => S ds M1 (fun d M2 => D.nx (ρ.set i (some d)) M2) (fun M2 => StP K us ρ M2 D)) :
    StP K (fun D0 σ H => (tAsg (tCallS (spOfE K CB S) (WE (wOnly K (.ref CB) (fun _ _ _ => us) (fun _ _ _ _ => False) D0)) ta) (gName i)) D0 σ H) ρ M D := fun σ F G H D0 hE hO m =>
  h σ F G H _ hE hO fun vs ds F1 M1 H1 s1 o1 r1 p => ⟨F1, G, M1, ds, _, _, r1, o1, p, fun v d F' M' H' s o r p' => m.nx _ _ F' M' H' (s1.trans s) ((hE.mono (s1.trans s)).set i r) o p',
    fun dx F' M' H' s o p' => ⟨true, hx, fun _ a ha => (show StP K us ρ M' D from p') σ F' G H' D0 (hE.mono (s1.trans s)) o (m.mono (s1.trans s)), fun e => by cases e⟩⟩
end
section
variable {X : Cx} {k : Nat} {CB : Addr} {ps : List Str} {S : SpdE} {x : Str} {p pos : Pos} {e : Expr} {es : List Expr} {t : TA} {W : WX}
theorem pe_calE (c : CalE X.prog X.w X.K X.mg X.base CB k x ps S) (tk : Takes X W) (hr : Room k X.A) (hg : Gl X x) (ha : PA X (e :: es) t) (hdb : (x == ("__debug__" : Str)) = false := by decide)
    (he : starEach (e :: es) X.env = (false, eval e X.env) :: starEach es X.env := by rfl) (hpl : (backTo pos (starEach es X.env)).any (·.1) = false := by rfl) : PE X (.Call (.Name x p) (e :: es) [] pos) (tCallS (spOfE X.K CB S) (WE W) t) := by
  obtain ⟨f, fd, hm, F, hk, hb⟩ := c.ex
  exact pe_callS F hr hg hm hk hb (fun σ => passAt tk σ) ha hdb he hpl
end
theorem k_pe_calE {X : Cx} {P : Program} {w : World} {K : PySem.W.Frag} {mg : Str → Option Value} {base : Heap} {k : Nat} {CB : Addr} {ps : List Str} {S : SpdE} {x : Str} {p pos : Pos} {e : Expr} {es : List Expr} {t : TA} {W : WX} (c : CalE P w K mg base CB k x ps S) (tk : Takes X W) (hr : Room k X.A) (hg : Gl X x) (ha : PA X (e :: es) t) (hdb : (x == ("__debug__" : Str)) = false := by decide)
    (he : starEach (e :: es) X.env = (false, eval e X.env) :: starEach es X.env := by rfl) (hpl : (backTo pos (starEach es X.env)).any (·.1) = false := by rfl)
    (h1 : X.prog = P := by rfl) (h2 : X.w = w := by rfl) (h3 : X.K = K := by rfl) (h4 : X.mg = mg := by rfl) (h5 : X.base = base := by rfl) : PE X (.Call (.Name x p) (e :: es) [] pos) (tCallS (spOfE K CB S) (WE W) t) := by
  subst h1 h2 h3 h4 h5
  exact pe_calE c tk hr hg ha hdb he hpl
/-- a def that may raise keeps its promise -/
theorem ok_fnE {P : Program} {w : World} {K : PySem.W.Frag} {mg : Str → Option Value} {base : Heap} {x qual : Str} {params : Arguments} {body : List Stmt} {scope : Scope} {f : Addr} {fd : FuncData} {N ps : List Str} {k : Nat} {CB : Addr} {S : SpdE}
    (F : FunD K x qual params body scope [] [] f fd) (Sc : FnScope N ps scope) (hl : ∀ ds M Q R, S ds M Q R → ds.length = ps.length)
    (h : ∀ (cdv : Value) (A : Around) (outer : List Env) (s : Shared) (H : Hp) (E : XK), Room k (A.deeper (PyProof.Rows.envOfC qual scope s.heap.objs.size f cdv)) →
      ∃ t, PSs (cxOf (L2.CX P w) P w K mg base N qual scope f cdv A outer s H E) body t ∧ ∀ ds M Q R F0 G0, S ds M Q R → (∀ dx F' M' H', Same F0 F' → OkH K F' M' G0 H' → R M' → E (.ref CB) dx H') → StPE K F0 G0 t (ds.map some ++ List.replicate (N.length - ds.length) none) M ⟨fun _ M' => Q (.sc .non) M', Q, fun _ _ => False, fun _ _ => False⟩) :
    FnOk P w K mg base (L2.CX P w) (k + 1) f fd ps (spOfE K CB S) := by
  refine F.ok Sc (fun vs H Q E ⟨F0, G, M, ds, Q', R, r, o, hS, kk⟩ => by rw [← r.length]; exact hl ds M Q' R hS) fun cdv A outer s H vs Q E hr ⟨F0, G, M, ds, Q', R, r, o, hS, kk, kx⟩ => ?_
  obtain ⟨t, ht, hd⟩ := h cdv A outer s H E hr
  refine ⟨t, ht, hd ds M Q' R F0 G hS kx (L2.start N vs) F0 H _ (Same.refl F0) (start_env r) o ⟨fun σ ρ F' M' H' s e o p => kk _ _ F' M' H' s o (rp_sc.mpr rfl) p, kk, fun _ _ _ _ _ _ _ _ z => z.elim, fun _ _ _ _ _ _ _ _ z => z.elim⟩⟩
/-! ### what the written part says of the class -/
theorem oexB_ok {K : PySem.W.Frag} {C : Addr} (h : oexB K C = true) : OexC K C := by
  unfold oexB at h
  rw [Bool.and_eq_true, Bool.and_eq_true, Bool.and_eq_true, Bool.and_eq_true] at h
  obtain ⟨q, h1, h2, h3, h4⟩ := h
  refine ⟨?_, of_decide_eq_true h1, of_decide_eq_true h2, of_decide_eq_true h3, h4⟩
  split at q
  · rename_i dd cd sl ho
    split at q
    · rename_i C' bm k0 k1 k2 k3 n k5 hm hs
      simp only [Bool.and_eq_true, beq_iff_eq, Bool.not_eq_true'] at q
      obtain ⟨rfl, rfl, hdel, hdict, ht⟩ := q
      obtain ⟨nm, bs, mro, ns, qn, hd, sn, sub, ab, col, del⟩ := cd
      dsimp only at hm hdel hdict
      subst hm hdel hdict
      have hsl : sl = #[k0, k1, k2, k3, some (.builtin "ValueError.__new__"), k5] := by
        obtain ⟨l⟩ := sl
        simp only at hs
        rw [hs]
      subst hsl
      exact ⟨nm, qn, ns, bs, bm, sn, sub, ab, col, dd, k0, k1, k2, k3, k5, ho, ht⟩
    · cases q
  · cases q
end Dl

/-! Mends: plain, and the promises. -/
namespace Dl
open PySem PySem.Spec L2
theorem ev_listRg {K : PySem.W.Frag} {ρ : Env'} {M : MH} {te : TE} {P : Da → MH → Prop} (h : EvP K te ρ M fun d M1 => ∃ n : Int, d = .sc (.int n) ∧ 0 ≤ n ∧ n ≤ 100000 ∧ P (.lst (rngD 0 n.toNat)) M1) : EvP K (tLstRg (tRg1 te)) ρ M P := fun σ F G H Q hE hO k =>
  h σ F G H _ hE hO fun v d F1 M1 H1 s1 o1 r1 ⟨n, e, h0, h1, p⟩ => by
    subst e
    have ev := rp_sc.mp r1
    subst ev
    refine ⟨n, rfl, RgOk.of_le (by omega) (by omega) (by omega) h0, fun q hq => ?_⟩
    have er : rngD 0 n.toNat = (rgV 0 n).map Da.sc := by
      unfold rngD rgV
      rw [List.map_map, Int.sub_zero]
      rfl
    refine fin_lst (P := P) (ds := rngD 0 n.toNat) o1 hq ?_ p fun v d F' M' H' s o r p' => k v d F' M' H' (s1.trans s) o r p'
    rw [er]
    exact rpA_sc.mpr rfl
end Dl
namespace Kc
open PySem L2 Dl
structure Mend where
  n : Pn
  at_ : Nat
  st : Step
abbrev mendD (m : Mend) : Da := .tup [sD m.n.s, iD m.at_, stepD m.st]
def putAt (l : List Step) (i : Nat) (s : Step) : List Step := l.take i ++ [s] ++ l.drop i
def behindM (p : Prog) (m : Mend) : Option Prog := if m.at_ ≤ (p.steps m.n).length then some (p.with m.n (putAt (p.steps m.n) m.at_ m.st)) else none
def mendedM (p : Prog) : List Mend → Option Prog
  | [] => some p
  | m :: ms => match behindM p m with
    | some q => mendedM q ms
    | none => none
abbrev optP (C : Addr) : Option Prog → Da
  | none => .sc .non
  | some p => progD C p
/-- room for more steps -/
structure Fits (p : Prog) (n : Nat) : Prop where
  v : Valid p
  len : ∀ m, (p.steps m).length + n ≤ 6
def MendOk (ks : List Keep) (m : Mend) : Prop := StepOk m.n ks m.st
theorem putAt_len (l : List Step) (i : Nat) (s : Step) : (putAt l i s).length = l.length + 1 := by
  unfold putAt
  simp only [List.length_append, List.length_take, List.length_drop, List.length_cons, List.length_nil]
  omega
theorem putAt_mem {l : List Step} {i : Nat} {s x : Step} (h : x ∈ putAt l i s) : x = s ∨ x ∈ l := by
  unfold putAt at h
  rcases List.mem_append.mp h with h | h
  · rcases List.mem_append.mp h with h | h
    · exact .inr (List.mem_of_mem_take h)
    · exact .inl (List.mem_singleton.mp h)
  · exact .inr (List.mem_of_mem_drop h)
theorem keeps_with (p : Prog) (n : Pn) (l : List Step) : (p.with n l).keeps = p.keeps := by cases n <;> rfl
theorem steps_with (p : Prog) (n m : Pn) (l : List Step) : (p.with n l).steps m = if m = n then l else p.steps m := by cases n <;> cases m <;> rfl
theorem fits_put {p : Prog} {n : Nat} (h : Fits p (n + 1)) {m : Mend} (hm : MendOk p.keeps m) : Fits (p.with m.n (putAt (p.steps m.n) m.at_ m.st)) n where
  v := with_valid h.v (by rw [putAt_len]; have := h.len m.n; omega) fun s hs => by
    rcases putAt_mem hs with e | hs
    · rw [e]; exact hm
    · exact h.v.st m.n s hs
  len := fun k => by
    rw [steps_with]
    split
    · rw [putAt_len]
      have := h.len m.n
      omega
    · have := h.len k
      omega
theorem fits_behind {p q : Prog} {n : Nat} (h : Fits p (n + 1)) {m : Mend} (hm : MendOk p.keeps m) (e : behindM p m = some q) : Fits q n ∧ q.keeps = p.keeps := by
  unfold behindM at e
  split at e
  · cases e
    exact ⟨fits_put h hm, keeps_with _ _ _⟩
  · cases e
def choicesM : Nat → List Nat → List (List Nat)
  | 0, _ => [[]]
  | k + 1, xs => (List.range xs.length).flatMap fun i => (choicesM k (xs.drop (i + 1))).map fun r => xs.getD i 0 :: r
def pickM (ms : List Mend) (o : List Nat) : List Mend := o.map fun i => ms.getD i ⟨.new, 0, ⟨none, .again 0⟩⟩
def helpsM (p : Prog) (ms : List Mend) : Bool := match mendedM p ms with
  | some q => isRight q
  | none => false
def goodM (p : Prog) (ms : List Mend) (many : Nat) : List (List Nat) := (choicesM many (List.range ms.length)).filter fun o => helpsM p (pickM ms o)
/-- the first that are there, of those below n -/
def dueM (p : Prog) (ms : List Mend) : Nat → List (List Nat)
  | 0 => []
  | n + 1 => if dueM p ms n = [] then goodM p ms n else dueM p ms n
theorem choices_mem : ∀ (k : Nat) (xs : List Nat), ∀ o ∈ choicesM k xs, o.length = k ∧ ∀ i ∈ o, i ∈ xs
  | 0, xs, o, h => by
    rw [List.mem_singleton.mp h]
    exact ⟨rfl, fun i hi => by cases hi⟩
  | k + 1, xs, o, h => by
    obtain ⟨i, hi, h⟩ := List.mem_flatMap.mp h
    obtain ⟨r, hr, rfl⟩ := List.mem_map.mp h
    have hi := List.mem_range.mp hi
    obtain ⟨h1, h2⟩ := choices_mem k _ r hr
    refine ⟨by rw [List.length_cons, h1], fun j hj => ?_⟩
    rcases List.mem_cons.mp hj with e | hj
    · rw [e, List.getD_eq_getElem?_getD, List.getElem?_eq_getElem hi]
      exact List.getElem_mem hi
    · exact List.mem_of_mem_drop (h2 j hj)
theorem choices_len : ∀ (k : Nat) (xs : List Nat), (choicesM k xs).length ≤ xs.length ^ k
  | 0, xs => Nat.le_refl _
  | k + 1, xs => by
    have h := flatMap_le (f := fun i => (choicesM k (xs.drop (i + 1))).map fun r => xs.getD i 0 :: r) (c := xs.length ^ k) (fun i => by
      rw [List.length_map]
      refine Nat.le_trans (choices_len k _) (Nat.pow_le_pow_left ?_ k)
      rw [List.length_drop]
      omega) (List.range xs.length)
    rw [List.length_range] at h
    rw [Nat.pow_succ]
    exact h
theorem mended_valid : ∀ {ms : List Mend} {p q : Prog}, Fits p ms.length → (∀ m ∈ ms, MendOk p.keeps m) → mendedM p ms = some q → Valid q
  | [], p, q, hf, _, e => by
    cases e
    exact hf.v
  | m :: ms, p, q, hf, ho, e => by
    have e : (match behindM p m with | some q => mendedM q ms | none => none) = some q := e
    cases hb : behindM p m with
    | none => rw [hb] at e; cases e
    | some r =>
      rw [hb] at e
      obtain ⟨h1, h2⟩ := fits_behind (n := ms.length) hf (ho m List.mem_cons_self) hb
      exact mended_valid h1 (fun x hx => by rw [h2]; exact ho x (List.mem_cons_of_mem _ hx)) e
theorem fits_mono {p : Prog} {n m : Nat} (h : Fits p n) (hm : m ≤ n) : Fits p m := ⟨h.v, fun k => by have := h.len k; omega⟩
theorem pick_len (ms : List Mend) (o : List Nat) : (pickM ms o).length = o.length := by unfold pickM; rw [List.length_map]
theorem pick_mem {ms : List Mend} {o : List Nat} (h : ∀ i ∈ o, i < ms.length) : ∀ m ∈ pickM ms o, m ∈ ms := by
  intro m hm
  obtain ⟨i, hi, rfl⟩ := List.mem_map.mp hm
  rw [List.getD_eq_getElem?_getD, List.getElem?_eq_getElem (h i hi)]
  exact List.getElem_mem _
theorem due_stop {p : Prog} {ms : List Mend} {i : Nat} (h1 : dueM p ms i = []) (h2 : goodM p ms i ≠ []) : ∀ k, dueM p ms (i + 1 + k) = goodM p ms i
  | 0 => if_pos h1
  | k + 1 => by
    have ih := due_stop h1 h2 k
    show (if dueM p ms (i + 1 + k) = [] then _ else dueM p ms (i + 1 + k)) = _
    rw [if_neg (by rw [ih]; exact h2), ih]
theorem good_len {p : Prog} {ms : List Mend} {many : Nat} (h : ms.length ≤ 10) (hm : many ≤ 2) : (goodM p ms many).length ≤ 100 := by
  refine Nat.le_trans (List.length_filter_le _ _) (Nat.le_trans (choices_len many _) ?_)
  rw [List.length_range]
  exact Nat.le_trans (Nat.pow_le_pow_left h many) (Nat.le_trans (Nat.pow_le_pow_right (by decide) hm) (by decide))
theorem due_len {p : Prog} {ms : List Mend} (h : ms.length ≤ 10) : ∀ n, n ≤ 3 → (dueM p ms n).length ≤ 100 ∧ ∀ o ∈ dueM p ms n, o.length ≤ 2
  | 0, _ => ⟨Nat.zero_le _, fun o h => by cases h⟩
  | n + 1, hn => by
    have ih := due_len (p := p) h n (by omega)
    show (if dueM p ms n = [] then goodM p ms n else dueM p ms n).length ≤ 100 ∧ ∀ o ∈ (if dueM p ms n = [] then goodM p ms n else dueM p ms n), o.length ≤ 2
    split
    · refine ⟨good_len h (by omega), fun o ho => ?_⟩
      have := (choices_mem n _ o (List.mem_filter.mp ho).1).1
      omega
    · exact ih
theorem choices_lt {many n : Nat} {o : List Nat} (h : o ∈ choicesM many (List.range n)) : o.length = many ∧ ∀ i ∈ o, i < n := by
  obtain ⟨h1, h2⟩ := choices_mem many _ o h
  exact ⟨h1, fun i hi => List.mem_range.mp (h2 i hi)⟩
theorem range_data (n : Nat) : rngD 0 ((n : Int)).toNat = (List.range n).map fun i : Nat => iD i := by
  unfold rngD
  rw [Int.toNat_natCast]
  exact List.map_congr_left fun i _ => by rw [Int.zero_add]
theorem right_short {ks : List Keep} (h2 : ks.length ≤ 2) (n : Pn) : ((rightP ks).steps n).length ≤ 4 := by
  cases n with
  | new =>
    have := flatMap_le (f := fun i => rNew i (kAt ks i)) (fun i => rNew_le i (kAt ks i)) (List.range ks.length)
    rw [List.length_range] at this
    show ((List.range ks.length).flatMap fun i => rNew i (kAt ks i)).length ≤ 4
    omega
  | change =>
    have := flatMap_le (f := fun i => rChange i (kAt ks i)) (fun i => rChange_le i (kAt ks i)) (List.range ks.length)
    rw [List.length_range] at this
    show ((List.range ks.length).flatMap fun i => rChange i (kAt ks i)).length ≤ 4
    omega
  | drop =>
    have := flatMap_le (f := fun i => rDrop i (kAt ks i)) (fun i => rDrop_le i (kAt ks i)) (List.range ks.length)
    rw [List.length_range] at this
    show ((List.range ks.length).flatMap fun i => rDrop i (kAt ks i)).length ≤ 4
    omega
/-! ### promises -/
def S_behind (C : Addr) : Spd := fun ds M P => ∃ (p : Prog) (m : Mend) (n : Nat), ds = [progD C p, mendD m] ∧ Fits p (n + 1) ∧ MendOk p.keeps m ∧ P (optP C (behindM p m)) M
def S_mended (C : Addr) : SpdE := fun ds M P R => ∃ (p : Prog) (ms : List Mend), ds = [progD C p, .lst (ms.map mendD)] ∧ Fits p ms.length ∧ (∀ m ∈ ms, MendOk p.keeps m) ∧ (∀ q, mendedM p ms = some q → P (progD C q) M) ∧ (mendedM p ms = none → R M)
def S_mended_or_none (C : Addr) : Spd := fun ds M P => ∃ (p : Prog) (ms : List Mend), ds = [progD C p, .lst (ms.map mendD)] ∧ Fits p ms.length ∧ (∀ m ∈ ms, MendOk p.keeps m) ∧ P (optP C (mendedM p ms)) M
def S_choices (n : Nat) : Spd := fun ds M P => ∃ (xs : List Nat) (many : Nat), many < n ∧ ds = [.lst (xs.map fun i : Nat => iD i), iD many] ∧ xs.length ≤ 10 ∧ many ≤ 2 ∧ P (.lst ((choicesM many xs).map ordD)) M
def S_mends (C : Addr) : Spd := fun ds M P => ∃ (p : Prog) (ms : List Mend), ds = [progD C p, .lst (ms.map mendD)] ∧ ms.length ≤ 10 ∧ Fits p 2 ∧ (∀ m ∈ ms, MendOk p.keeps m) ∧ P (.lst ((dueM p ms 3).map ordD)) M
def S_law_helps (C : Addr) : Spd := fun ds M P => ∃ (p : Prog) (ms : List Mend), ds = [progD C p, .lst (ms.map mendD)] ∧ Fits p ms.length ∧ (∀ m ∈ ms, MendOk p.keeps m) ∧ P (.sc (.bl (helpsM p ms))) M
def S_law : Spd := fun ds M P => ∃ script : List Int, ds = [.ro (script.map iD)] ∧ P (.sc (.bl true)) M
/-- the error's class -/
structure TxB (P : Program) (w : World) (K : PySem.W.Frag) (mg : Str → Option Value) (base : Heap) : Prop where
  g : mg "BadMend" = some (.ref (He.ga K "BadMend"))
  o : OexC K (He.ga K "BadMend")
  ex : PySem.W.exmOne K (.ref (He.ga K "BadMend")) (.ref (He.ga K "BadMend")) = some true
  most : ∃ t, mg "MOST" = some (.int 2 t)
  ini : ∃ fI fd, PySem.W.findIn K (.ref (He.ga K "BadMend")) "__init__" = some (some (.ref fI)) ∧ PySem.W.typeIn K (.ref fI) = some (.type "function") ∧ FnOk P w K mg base CX0 1 fI fd ["self", "index"] (spBad (He.ga K "BadMend") "index") ∧ Binds K fd ["self", "index"] []
end Kc

namespace Kc
open PySem L2 Dl
local macro_rules | `(tactic| walk_at "evE") => `(tactic| (first
  | ((with_reducible refine' ev_var ?evh ?_); (case evh => exact rfl))
  | with_reducible refine' ev_k (Tx.d_NAMES (by assumption)) ?_
  | with_reducible refine' ev_k (Tx.d_WHATS (by assumption)) ?_
  | with_reducible refine' ev_k (Tx.d_SOURCES (by assumption)) ?_
  | with_reducible refine' ev_k (Tx.d_NUMBERS (by assumption)) ?_
  | with_reducible refine' ev_c ?_
  | with_reducible refine' ev_op ?_
  | with_reducible refine' ev_call ?_
  | with_reducible refine' ev_cb ?_
  | with_reducible refine' ev_tup ?_
  | with_reducible refine' ev_lst ?_
  | with_reducible refine' ev_if ?_
  | with_reducible refine' ev_andV ?_
  | with_reducible refine' ev_orV ?_
  | with_reducible refine' ev_notV ?_
  | with_reducible refine' ev_chain ?_
  | with_reducible refine' ev_sl ?_
  | with_reducible refine' ev_dget ?_
  | with_reducible refine' ev_disp ?_
  | walk_at "evF"
  | with_reducible refine' ev_meth ?_
  | with_reducible refine' ev_make ?_
  | with_reducible refine' ev_bm ?_))
local macro_rules | `(tactic| walk_at "evR") => `(tactic| (first
  | with_reducible refine' rop_I0 ?_
  | ((with_reducible refine' rop_eq ?evs ?_); (case evs => exact rfl))
  | ((with_reducible refine' rop_ne ?evs ?_); (case evs => exact rfl))
  | ((with_reducible refine' rop_ix_T ?evs ?_); (case evs => (first | assumption | exact rfl)))
  | ((with_reducible refine' rop_ix_L ?evs ?_); (case evs => (first | assumption | exact rfl)))
  | ((with_reducible refine' rop_ix_M ?evh ?evs ?_); (case evh => (first | exact updM_same | assumption)); (case evs => (first | assumption | exact rfl)))
  | with_reducible refine' rop_or1 (rop_I0 ?_)
  | ((with_reducible refine' rop_or2 (rop_or1 (rop_catA ?evz ?_))); (case evz => (first | exact Nat.le_of_ble_eq_true rfl | omega | (simp; done) | (simp; omega))))
  | ((with_reducible refine' rop_or1 (rop_I ?evh ?_)); (case evh => (first | exact Or.inl ⟨by decide, by decide⟩ | exact Or.inr ⟨by decide, by decide⟩)))
  | ((with_reducible refine' rop_I ?evh ?_); (case evh => (first | (exact (show (0:Int) < _ by omega)) | exact ⟨by decide, by decide, by decide⟩)))
  | ((with_reducible refine' rop_or2 (rop_or1 (rop_rep ?evs ?eva ?evb ?evc ?_))); (case evs => exact rfl); (case eva => decide); (case evb => decide); (case evc => exact Nat.le_of_ble_eq_true rfl))
  | ((with_reducible refine' rop_or2 (rop_or2 (rop_cat ?evs ?evt ?evz ?_))); (case evs => exact rfl); (case evt => exact rfl); (case evz => exact Nat.le_of_ble_eq_true rfl))
  | with_reducible refine' rop_isN ?_
  | with_reducible refine' rop_notN ?_
  | ((with_reducible refine' rop_isN0 ?evs ?_); (case evs => intro _ h; cases h))
  | ((with_reducible refine' rop_notN0 ?evs ?_); (case evs => intro _ h; cases h))
  | ((with_reducible refine' rop_inT ?evs ?evt ?_); (case evs => exact rfl); (case evt => first | assumption | exact rfl))
  | ((with_reducible refine' rop_inS ?evs ?evt ?evu ?_); (case evs => exact rfl); (case evt => exact rfl); (case evu => exact rfl))))
local macro_rules | `(tactic| walk_at "evC") => `(tactic| (first
  | ((with_reducible refine' rcl_len ?evs ?_); (case evs => exact rfl))
  | ((with_reducible refine' rcl_isi ?evs ?evk ?_); (case evs => exact rfl); (case evk => (first | exact kit_int_int | exact kit_int_bool | exact kit_int_str | exact kit_int_tuple | exact kit_int_list | exact kit_bool_int | exact kit_bool_bool | exact kit_bool_str | exact kit_bool_tuple | exact kit_bool_list | exact kit_str_int | exact kit_str_bool | exact kit_str_str | exact kit_str_tuple | exact kit_str_list | exact kit_tuple_int | exact kit_tuple_bool | exact kit_tuple_str | exact kit_tuple_tuple | exact kit_tuple_list | exact kit_list_int | exact kit_list_bool | exact kit_list_str | exact kit_list_tuple | exact kit_list_list | exact kit_NoneType_int | exact kit_NoneType_bool | exact kit_NoneType_str | exact kit_NoneType_tuple | exact kit_NoneType_list)))
  | with_reducible refine' rcl_int ?_
  | with_reducible refine' rcl_intB ?_
  | with_reducible refine' rcl_max2 ?_
  | with_reducible refine' rcl_min2 ?_))
local macro_rules | `(tactic| walk_at "evT") => `(tactic| (first
  | with_reducible refine' tv_test ?_
  | with_reducible refine' tv_or ?_
  | with_reducible refine' tv_and ?_
  | with_reducible refine' tv_not ?_
  | with_reducible refine' tv_B ?_
  | with_reducible refine' tv_tru ?_
  | with_reducible refine' tv_yes ?_))
local macro_rules | `(tactic| walk_at "evA") => `(tactic| (first
  | with_reducible refine' av_cons ?_
  | with_reducible refine' av_nil ?_))
local macro_rules | `(tactic| walk_at "evS") => `(tactic| (first
  | with_reducible refine' stp_seq ?_
  | with_reducible refine' stp_if ?_
  | with_reducible refine' stp_ret ?_
  | with_reducible refine' stp_next ?_
  | with_reducible refine' stp_set ?_
  | with_reducible refine' stp_asg ?_
  | with_reducible refine' stp_drop ?_
  | with_reducible refine' stp_par ?_
  | with_reducible refine' stp_dput ?_
  | with_reducible refine' stp_augL ?_
  | with_reducible refine' stp_retN ?_
  | with_reducible refine' stp_brk ?_
  | with_reducible refine' stp_cont ?_))
local macro_rules | `(tactic| walk_at "evI") => `(tactic| (first
  | ((with_reducible refine' ifT ?evs ?_); (case evs => exact rfl))
  | ((with_reducible refine' ifF ?evs ?_); (case evs => exact rfl))))
local macro_rules | `(tactic| walk_at "ev") => `(tactic| (first
  | ((with_reducible show EvP _ _ _ _ _); walk_at "evE")
  | ((with_reducible show ROp _ _ _ _ _ _); walk_at "evR")
  | ((with_reducible show AvP _ _ _ _ _); walk_at "evA")
  | ((with_reducible show TvP _ _ _ _ _); walk_at "evT")
  | ((with_reducible show RCl _ _ _ _ _); walk_at "evC")
  | ((with_reducible show StP _ _ _ _ _); walk_at "evS")
  | ((with_reducible show ite _ _ _); walk_at "evI")
  | with_reducible refine' ov_none ?_
  | with_reducible refine' ov_some ?_
  | ((with_reducible show RSl _ _ _ _ _ _ _); (first | with_reducible refine' rsl_T ?_ | ((with_reducible refine' rsl_L ?evh ?_); (case evh => exact rfl))))
  | with_reducible refine' gv_name ?_
  | with_reducible refine' gv_sub ?_
  | ((with_reducible show RSet _ _ _ _ _ _ _); ((with_reducible refine' rset_L ?evh ?evs ?_); (case evh => (first | exact updM_same | assumption)); (case evs => exact rfl)))
  | with_reducible refine' pv_cons ?_
  | with_reducible refine' pv_nil ?_
  | ((with_reducible show Exists _); refine ⟨_, rfl, ?_⟩)
  | ((with_reducible show Exists _); refine ⟨_, _, rfl, ?_⟩)
  | ((with_reducible show Exists _); refine ⟨_, _, (by first | exact ⟨rfl, rfl, rfl⟩ | exact rfl | assumption), (by first | exact rfl | decide +kernel), ?_⟩)
  | ((with_reducible show And _ _); refine ⟨Nat.le_of_ble_eq_true rfl, ?_⟩)))
local macro_rules | `(tactic| walk_at "evs") => `(tactic| (repeat walk_at "ev"))

theorem sc_is_index : FnScope ["value", "many"] ["value", "many"] (defScope (top 12)) := ⟨rfl, rfl, rfl, by decide +kernel, rfl, by decide +kernel, by decide +kernel⟩
theorem fn_is_index {P : Program} {w : World} {K : PySem.W.Frag} {mg : Str → Option Value} {base : Heap} {f : Addr} {fd : FuncData} (F : FnP K "is_index" "is_index" (top 12) f fd) (T : Tx w K mg)   : FnOk P w K mg base CX0 1 f fd ["value", "many"] (spOf K (S_is_index)) := by
  have sc := sc_is_index
  refine ok_fn (k := 0) F sc (fun ds M Q h => ?_) (fun cdv A outer s H E hr => ?_)
  · obtain ⟨a, b, rfl, hQ⟩ := h; rfl
  · have hu6 : A.units + 64 < cLine := by have := hr.un; show A.units + 64 < cLine; simp only [Around.deeper] at this; omega
    have hu := hu_of hr
    refine ⟨_, (pss_one (ps_ret (pe_and (pe_callB call_isi (by rfl) T.b_isinstance (by decide +kernel) (pa_cons (pv 0) (pa_cons (pe_bltn (v := .ty "int") (u := .type "int") (by rfl) T.b_int (by decide +kernel) rfl) pa_nil))) (pe_and (pe_not (pe_callB call_isi (by rfl) T.b_isinstance (by decide +kernel) (pa_cons (pv 0) (pa_cons (pe_bltn (v := .ty "bool") (u := .type "bool") (by rfl) T.b_bool (by decide +kernel) rfl) pa_nil)))) (pe_one (pe_chain op_le op_lt pe_int (pv 0) (pv 1))))))), fun ds M Q h => ?_⟩
    obtain ⟨a, b, rfl, hQ⟩ := h
    try dsimp only [cxOf, Cx.nox]
    walk_at "evs"
    refine ifB (fun h => ?_) (fun h => ?_)
    · walk_at "evs"
      rw [h, Bool.true_and] at hQ
      exact hQ
    · rw [h] at hQ
      exact hQ

theorem ok_is_index {P : Program} {w : World} {K : PySem.W.Frag} {mg : Str → Option Value} {base : Heap} {f : Addr} {fd : FuncData} (F : FnP K "is_index" "is_index" (top 12) f fd) (g : mg "is_index" = some (.ref f)) (T : Tx w K mg)   : Cal P w K mg base 1 "is_index" ["value", "many"] (S_is_index) :=
  cal_mk F g (fn_is_index F T ) (F.bindsN fun _ _ _ _ _ _ us hl => match us, hl with | [_, _], _ => rfl)

theorem sc_is_keep : FnScope ["value"] ["value"] (defScope (top 13)) := ⟨rfl, rfl, rfl, by decide +kernel, rfl, by decide +kernel, by decide +kernel⟩
theorem fn_is_keep {P : Program} {w : World} {K : PySem.W.Frag} {mg : Str → Option Value} {base : Heap} {f : Addr} {fd : FuncData} (F : FnP K "is_keep" "is_keep" (top 13) f fd) (T : Tx w K mg) (c_is_index : Cal P w K mg base 1 "is_index" ["value", "many"] (S_is_index))  : FnOk P w K mg base CX0 2 f fd ["value"] (spOf K (S_is_keep)) := by
  have sc := sc_is_keep
  refine ok_fn (k := 1) F sc (fun ds M Q h => ?_) (fun cdv A outer s H E hr => ?_)
  · obtain ⟨k, rfl, hk, hQ⟩ := h; rfl
  · have hu6 : A.units + 64 < cLine := by have := hr.un; show A.units + 64 < cLine; simp only [Around.deeper] at this; omega
    have hu := hu_of hr
    refine ⟨_, (pss_cons (ps_if (PW.pt (pw_or (pt_not (pt_val (pe_callB call_isi (by rfl) T.b_isinstance (by decide +kernel) (pa_cons (pv 0) (pa_cons (pe_bltn (v := .ty "tuple") (u := .type "tuple") (by rfl) T.b_tuple (by decide +kernel) rfl) pa_nil))))) (pw_or (pt_cmpR op_ne (pe_callB call_len (by rfl) T.b_len (by decide +kernel) (pa_cons (pv 0) pa_nil)) pe_int (nomark _)) (pw_or (pt_not (pt_val (pe_callB call_isi (by rfl) T.b_isinstance (by decide +kernel) (pa_cons (pe_ix ix_seq (pv 0) pe_int (fun _ _ => rfl)) (pa_cons (pe_bltn (v := .ty "str") (u := .type "str") (by rfl) T.b_str (by decide +kernel) rfl) pa_nil))))) (pw_or1 (pt_cmpR op_notIn_seq (pe_ix ix_seq (pv 0) pe_int (fun _ _ => rfl)) (pe_glob (v := .ref _) (by rfl) T.g_WHATS rfl) (by rfl))))))) (pss_one (ps_ret pe_bl)) pss_nil) (pss_one (ps_ret (pe_or (pe_cmpR op_isN1 (pe_ix ix_seq (pv 0) pe_int (fun _ _ => rfl)) pe_non (nomark _)) (pe_one (pe_calD c_is_index (hr.mono (by first | decide | exact Nat.le_refl _)) (by rfl) (pa_cons (pe_ix ix_seq (pv 0) pe_int (fun _ _ => rfl)) (pa_cons pe_int pa_nil)))))))), fun ds M Q h => ?_⟩
    obtain ⟨k, rfl, hk, hQ⟩ := h
    try dsimp only [cxOf, Cx.nox]
    obtain ⟨kw, kk⟩ := k
    rcases hk with hk | hk | hk
    · have hk' : kk = none := hk
      subst hk'
      cases kw <;> (walk_at "evs"; exact hQ)
    · have hk' : kk = some 0 := hk
      subst hk'
      cases kw <;> (walk_at "evs"; exact ⟨_, _, rfl, hQ⟩)
    · have hk' : kk = some 1 := hk
      subst hk'
      cases kw <;> (walk_at "evs"; exact ⟨_, _, rfl, hQ⟩)

theorem ok_is_keep {P : Program} {w : World} {K : PySem.W.Frag} {mg : Str → Option Value} {base : Heap} {f : Addr} {fd : FuncData} (F : FnP K "is_keep" "is_keep" (top 13) f fd) (g : mg "is_keep" = some (.ref f)) (T : Tx w K mg) (c_is_index : Cal P w K mg base 1 "is_index" ["value", "many"] (S_is_index))  : Cal P w K mg base 2 "is_keep" ["value"] (S_is_keep) :=
  cal_mk F g (fn_is_keep F T c_is_index) (F.bindsN fun _ _ _ _ _ _ us hl => match us, hl with | [_], _ => rfl)

theorem sc_is_of : FnScope ["keeps", "value", "whats"] ["keeps", "value", "whats"] (defScope (top 14)) := ⟨rfl, rfl, rfl, by decide +kernel, rfl, by decide +kernel, by decide +kernel⟩
theorem fn_is_of {P : Program} {w : World} {K : PySem.W.Frag} {mg : Str → Option Value} {base : Heap} {f : Addr} {fd : FuncData} (F : FnP K "is_of" "is_of" (top 14) f fd) (T : Tx w K mg) (c_is_index : Cal P w K mg base 1 "is_index" ["value", "many"] (S_is_index))  : FnOk P w K mg base CX0 2 f fd ["keeps", "value", "whats"] (spOf K (S_is_of)) := by
  have sc := sc_is_of
  refine ok_fn (k := 1) F sc (fun ds M Q h => ?_) (fun cdv A outer s H E hr => ?_)
  · obtain ⟨kd, ks, i, vs, kp, rfl, hs, hi, hf, hQ⟩ := h; rfl
  · have hu6 : A.units + 64 < cLine := by have := hr.un; show A.units + 64 < cLine; simp only [Around.deeper] at this; omega
    have hu := hu_of hr
    refine ⟨_, (pss_one (ps_ret (pe_and (pe_calD c_is_index (hr.mono (by first | decide | exact Nat.le_refl _)) (by rfl) (pa_cons (pv 1) (pa_cons (pe_callB call_len (by rfl) T.b_len (by decide +kernel) (pa_cons (pv 0) pa_nil)) pa_nil))) (pe_one (pe_cmpR op_in_seq (pe_ix ix_seq (pe_ix ix_seq (pv 0) (pv 1) (fun _ _ => rfl)) pe_int (fun _ _ => rfl)) (pv 2) (by rfl)))))), fun ds M Q h => ?_⟩
    obtain ⟨kd, ks, i, vs, kp, rfl, hs, hi, hf, hQ⟩ := h
    try dsimp only [cxOf, Cx.nox]
    have hil : i < ks.length := (List.getElem?_eq_some_iff.mp hi).1
    have hat : atI (ks.map keepD) (i : Int) = some (keepD kp) := atI_nat (by rw [List.getElem?_map, hi] <;> rfl)
    walk_at "evs"
    have hlen : LenAt kd M ks.length := by
      rcases hs with e | e <;> subst e <;> exact (List.length_map ..).symm
    refine rcl_len hlen ?_
    walk_at "evs"
    refine ⟨_, _, rfl, ?_⟩
    walk_at "evs"
    refine ifT (by rw [decide_eq_true (by omega), decide_eq_true (by omega)] <;> rfl) ?_
    walk_at "evs"
    have hix : ∀ P, P (keepD kp) M → ROp K (rIx K) kd (iD i) M P := fun P q => by
      rcases hs with e | e <;> subst e
      · exact rop_ix_L hat q
      · exact rop_ix_T hat q
    refine hix _ ?_
    walk_at "evs"
    exact hQ

theorem ok_is_of {P : Program} {w : World} {K : PySem.W.Frag} {mg : Str → Option Value} {base : Heap} {f : Addr} {fd : FuncData} (F : FnP K "is_of" "is_of" (top 14) f fd) (g : mg "is_of" = some (.ref f)) (T : Tx w K mg) (c_is_index : Cal P w K mg base 1 "is_index" ["value", "many"] (S_is_index))  : Cal P w K mg base 2 "is_of" ["keeps", "value", "whats"] (S_is_of) :=
  cal_mk F g (fn_is_of F T c_is_index) (F.bindsN fun _ _ _ _ _ _ us hl => match us, hl with | [_, _, _], _ => rfl)

theorem sc_is_source : FnScope ["value", "name"] ["value", "name"] (defScope (top 15)) := ⟨rfl, rfl, rfl, by decide +kernel, rfl, by decide +kernel, by decide +kernel⟩
theorem fn_is_source {P : Program} {w : World} {K : PySem.W.Frag} {mg : Str → Option Value} {base : Heap} {f : Addr} {fd : FuncData} (F : FnP K "is_source" "is_source" (top 15) f fd) (T : Tx w K mg)   : FnOk P w K mg base CX0 1 f fd ["value", "name"] (spOf K (S_is_source)) := by
  have sc := sc_is_source
  refine ok_fn (k := 0) F sc (fun ds M Q h => ?_) (fun cdv A outer s H E hr => ?_)
  · obtain ⟨x, n, rfl, hs, hQ⟩ := h; rfl
  · have hu6 : A.units + 64 < cLine := by have := hr.un; show A.units + 64 < cLine; simp only [Around.deeper] at this; omega
    have hu := hu_of hr
    refine ⟨_, (pss_cons (ps_if (PW.pt (pw_or (pt_not (pt_val (pe_callB call_isi (by rfl) T.b_isinstance (by decide +kernel) (pa_cons (pv 0) (pa_cons (pe_bltn (v := .ty "str") (u := .type "str") (by rfl) T.b_str (by decide +kernel) rfl) pa_nil))))) (pw_or1 (pt_cmpR op_notIn_seq (pv 0) (pe_glob (v := .ref _) (by rfl) T.g_SOURCES rfl) (by rfl))))) (pss_one (ps_ret pe_bl)) pss_nil) (pss_one (ps_ret (pe_and (pe_not (pe_and (pe_cmpR op_eq (pv 0) pe_str (nomark _)) (pe_one (pe_cmpR op_eq (pv 1) pe_str (nomark _))))) (pe_one (pe_not (pe_and (pe_cmpR op_eq (pv 0) pe_str (nomark _)) (pe_one (pe_cmpR op_eq (pv 1) pe_str (nomark _)))))))))), fun ds M Q h => ?_⟩
    obtain ⟨x, n, rfl, hs, hQ⟩ := h
    try dsimp only [cxOf, Cx.nox]
    obtain ⟨h1, h2⟩ := hs
    cases x <;> cases n <;> first | exact absurd rfl (h1 rfl) | exact absurd rfl (h2 rfl) | (walk_at "evs"; exact hQ)

theorem ok_is_source {P : Program} {w : World} {K : PySem.W.Frag} {mg : Str → Option Value} {base : Heap} {f : Addr} {fd : FuncData} (F : FnP K "is_source" "is_source" (top 15) f fd) (g : mg "is_source" = some (.ref f)) (T : Tx w K mg)   : Cal P w K mg base 1 "is_source" ["value", "name"] (S_is_source) :=
  cal_mk F g (fn_is_source F T ) (F.bindsN fun _ _ _ _ _ _ us hl => match us, hl with | [_, _], _ => rfl)

theorem sc_is_touch : FnScope ["value", "name", "keeps", "is_fit"] ["value", "name", "keeps"] (defScope (top 16)) := ⟨rfl, rfl, rfl, by decide +kernel, rfl, by decide +kernel, by decide +kernel⟩
theorem fn_is_touch {P : Program} {w : World} {K : PySem.W.Frag} {mg : Str → Option Value} {base : Heap} {f : Addr} {fd : FuncData} (F : FnP K "is_touch" "is_touch" (top 16) f fd) (T : Tx w K mg) (c_is_of : Cal P w K mg base 2 "is_of" ["keeps", "value", "whats"] (S_is_of)) (c_is_source : Cal P w K mg base 1 "is_source" ["value", "name"] (S_is_source))  : FnOk P w K mg base CX0 3 f fd ["value", "name", "keeps"] (spOf K (S_is_touch)) := by
  have sc := sc_is_touch
  refine ok_fn (k := 2) F sc (fun ds M Q h => ?_) (fun cdv A outer s H E hr => ?_)
  · obtain ⟨t, n, kd, ks, rfl, hs, hl, ht, hQ⟩ := h; rfl
  · have hu6 : A.units + 64 < cLine := by have := hr.un; show A.units + 64 < cLine; simp only [Around.deeper] at this; omega
    have hu := hu_of hr
    obtain ⟨es_FITTING, n_FITTING, D_FITTING⟩ := T.fit
    refine ⟨_, (pss_cons (ps_if (PW.pt (pw_or (pt_not (pt_val (pe_callB call_isi (by rfl) T.b_isinstance (by decide +kernel) (pa_cons (pv 0) (pa_cons (pe_bltn (v := .ty "tuple") (u := .type "tuple") (by rfl) T.b_tuple (by decide +kernel) rfl) pa_nil))))) (pw_or (pt_cmpR op_lt (pe_callB call_len (by rfl) T.b_len (by decide +kernel) (pa_cons (pv 0) pa_nil)) pe_int (nomark _)) (pw_or (pt_not (pt_val (pe_callB call_isi (by rfl) T.b_isinstance (by decide +kernel) (pa_cons (pe_ix ix_seq (pv 0) pe_int (fun _ _ => rfl)) (pa_cons (pe_bltn (v := .ty "str") (u := .type "str") (by rfl) T.b_str (by decide +kernel) rfl) pa_nil))))) (pw_or1 (pt_cmpR (op_notIn_kd D_FITTING) (pe_ix ix_seq (pv 0) pe_int (fun _ _ => rfl)) (pe_glob (v := .ref _) (by rfl) T.g_FITTING rfl) (by rfl))))))) (pss_one (ps_ret pe_bl)) pss_nil) (pss_cons (ps_if (PW.pt (pw_or (pt_not (pt_val (pe_calD c_is_of (hr.mono (by first | decide | exact Nat.le_refl _)) (by rfl) (pa_cons (pv 2) (pa_cons (pe_ix ix_seq (pv 0) pe_int (fun _ _ => rfl)) (pa_cons (pe_ixTab D_FITTING (pe_glob (v := .ref _) (by rfl) T.g_FITTING rfl) (pe_ix ix_seq (pv 0) pe_int (fun _ _ => rfl)) (fun _ _ => rfl)) pa_nil)))))) (pw_or1 (PW.pt (pw_and (pt_cmpR op_eq (pe_ix ix_seq (pv 0) pe_int (fun _ _ => rfl)) pe_str (nomark _)) (pw_and1 (pt_cmpR op_eq (pv 1) pe_str (nomark _)))))))) (pss_one (ps_ret pe_bl)) pss_nil) (pss_cons (ps_if (pt_cmpR op_in_seq (pe_ix ix_seq (pv 0) pe_int (fun _ _ => rfl)) (pe_tup (pa_cons pe_str (pa_cons pe_str pa_nil))) (by rfl)) (pss_cons (ps_set (i := 3) sc.nd rfl (Or.inl rfl) (pe_and (pe_cmpR op_eq (pe_callB call_len (by rfl) T.b_len (by decide +kernel) (pa_cons (pv 0) pa_nil)) pe_int (nomark _)) (pe_one (pe_calD c_is_source (hr.mono (by first | decide | exact Nat.le_refl _)) (by rfl) (pa_cons (pe_ix ix_seq (pv 0) pe_int (fun _ _ => rfl)) (pa_cons (pv 1) pa_nil)))))) (pss_one (ps_ret (pe_and (pv 3) (pe_one (pe_or (pe_cmpR op_eq (pe_ix ix_seq (pv 0) pe_int (fun _ _ => rfl)) pe_str (nomark _)) (pe_one (pe_cmpR op_eq (pe_ix ix_seq (pe_ix ix_seq (pv 2) (pe_ix ix_seq (pv 0) pe_int (fun _ _ => rfl)) (fun _ _ => rfl)) pe_int (fun _ _ => rfl)) pe_str (nomark _))))))))) pss_nil) (pss_one (ps_ret (pe_cmpR op_eq (pe_callB call_len (by rfl) T.b_len (by decide +kernel) (pa_cons (pv 0) pa_nil)) pe_int (nomark _))))))), fun ds M Q h => ?_⟩
    obtain ⟨t, n, kd, ks, rfl, hs, hl, ht, hQ⟩ := h
    try dsimp only [cxOf, Cx.nox]
    have hQ' : (DR Q).rt (.sc (.bl true)) M := hQ
    have hnd : n ≠ .drop → decide (V.str n.s = V.str "drop") = false := by
      intro h
      cases n <;> first | exact absurd rfl h | rfl
    cases t with
    | add k s =>
      obtain ⟨hsrc, kp, hk, hw⟩ := ht
      obtain ⟨u, v, hn, hv, hd⟩ := T.v_FITTING (.add k s)
      dsimp only [fitS, fitW] at hn hd
      walk_at "evs"
      refine rop_notInKD hn ?_
      walk_at "evs"
      refine rop_itemKD hn hv hd ?_
      walk_at "evs"
      refine ⟨kd, ks, k, _, kp, rfl, hs, hk, rfl, ?_⟩
      obtain ⟨kw, kk⟩ := kp
      have hat : atI (ks.map keepD) (k : Int) = some (keepD ⟨kw, kk⟩) := atI_nat (by rw [List.getElem?_map, hk] <;> rfl)
      have hix : ∀ P, P (keepD ⟨kw, kk⟩) M → ROp K (rIx K) kd (iD k) M P := fun P q => by
        rcases hs with e | e <;> subst e
        · exact rop_ix_L hat q
        · exact rop_ix_T hat q
      rcases hw with hw | ⟨hw, hso⟩
      · have hw' : kw = .sum := hw
        subst hw'
        walk_at "evs"
        refine ⟨s, n, rfl, hsrc, ?_⟩
        walk_at "evs"
        refine ifB (fun h => hQ') (fun h => ?_)
        walk_at "evs"
        refine hix _ ?_
        walk_at "evs"
        exact hQ
      · have hw' : kw = .count := hw
        subst hw' hso
        walk_at "evs"
        refine ⟨.one, n, rfl, hsrc, ?_⟩
        walk_at "evs"
        exact hQ
    | less k s =>
      obtain ⟨hsrc, kp, hk, hw⟩ := ht
      obtain ⟨u, v, hn, hv, hd⟩ := T.v_FITTING (.less k s)
      dsimp only [fitS, fitW] at hn hd
      walk_at "evs"
      refine rop_notInKD hn ?_
      walk_at "evs"
      refine rop_itemKD hn hv hd ?_
      walk_at "evs"
      refine ⟨kd, ks, k, _, kp, rfl, hs, hk, rfl, ?_⟩
      obtain ⟨kw, kk⟩ := kp
      have hat : atI (ks.map keepD) (k : Int) = some (keepD ⟨kw, kk⟩) := atI_nat (by rw [List.getElem?_map, hk] <;> rfl)
      have hix : ∀ P, P (keepD ⟨kw, kk⟩) M → ROp K (rIx K) kd (iD k) M P := fun P q => by
        rcases hs with e | e <;> subst e
        · exact rop_ix_L hat q
        · exact rop_ix_T hat q
      rcases hw with hw | ⟨hw, hso⟩
      · have hw' : kw = .sum := hw
        subst hw'
        walk_at "evs"
        refine ⟨s, n, rfl, hsrc, ?_⟩
        walk_at "evs"
        refine ifB (fun h => hQ') (fun h => ?_)
        walk_at "evs"
        refine hix _ ?_
        walk_at "evs"
        exact hQ
      · have hw' : kw = .count := hw
        subst hw' hso
        walk_at "evs"
        refine ⟨.one, n, rfl, hsrc, ?_⟩
        walk_at "evs"
        exact hQ
    | lift k =>
      obtain ⟨hnn, kp, hk, hw⟩ := ht
      obtain ⟨u, v, hn, hv, hd⟩ := T.v_FITTING (.lift k)
      dsimp only [fitS, fitW] at hn hd
      walk_at "evs"
      refine rop_notInKD hn ?_
      walk_at "evs"
      refine rop_itemKD hn hv hd ?_
      walk_at "evs"
      refine ⟨kd, ks, k, _, kp, rfl, hs, hk, rfl, ?_⟩
      obtain ⟨kw, kk⟩ := kp
      have hw' : kw = .most := hw
      subst hw'
      walk_at "evs"
      refine ifF (hnd hnn) ?_
      walk_at "evs"
      exact hQ
    | mark k =>
      obtain ⟨kp, hk, hw⟩ := ht
      obtain ⟨u, v, hn, hv, hd⟩ := T.v_FITTING (.mark k)
      dsimp only [fitS, fitW] at hn hd
      walk_at "evs"
      refine rop_notInKD hn ?_
      walk_at "evs"
      refine rop_itemKD hn hv hd ?_
      walk_at "evs"
      refine ⟨kd, ks, k, _, kp, rfl, hs, hk, rfl, ?_⟩
      obtain ⟨kw, kk⟩ := kp
      have hw' : kw = .any := hw
      subst hw'
      walk_at "evs"
      exact hQ
    | empty k =>
      obtain ⟨kp, hk⟩ := ht
      obtain ⟨u, v, hn, hv, hd⟩ := T.v_FITTING (.empty k)
      dsimp only [fitS, fitW] at hn hd
      walk_at "evs"
      refine rop_notInKD hn ?_
      walk_at "evs"
      refine rop_itemKD hn hv hd ?_
      walk_at "evs"
      refine ⟨kd, ks, k, _, kp, rfl, hs, hk, rfl, ?_⟩
      obtain ⟨kw, kk⟩ := kp
      have hin : inV (.str kw.s) [V.str "count", V.str "sum", V.str "most", V.str "any"] = true := by cases kw <;> rfl
      walk_at "evs"
      rw [hin]
      walk_at "evs"
      exact hQ
    | again k =>
      obtain ⟨kp, hk⟩ := ht
      obtain ⟨u, v, hn, hv, hd⟩ := T.v_FITTING (.again k)
      dsimp only [fitS, fitW] at hn hd
      walk_at "evs"
      refine rop_notInKD hn ?_
      walk_at "evs"
      refine rop_itemKD hn hv hd ?_
      walk_at "evs"
      refine ⟨kd, ks, k, _, kp, rfl, hs, hk, rfl, ?_⟩
      obtain ⟨kw, kk⟩ := kp
      have hin : inV (.str kw.s) [V.str "count", V.str "sum", V.str "most", V.str "any"] = true := by cases kw <;> rfl
      walk_at "evs"
      rw [hin]
      walk_at "evs"
      exact hQ

theorem ok_is_touch {P : Program} {w : World} {K : PySem.W.Frag} {mg : Str → Option Value} {base : Heap} {f : Addr} {fd : FuncData} (F : FnP K "is_touch" "is_touch" (top 16) f fd) (g : mg "is_touch" = some (.ref f)) (T : Tx w K mg) (c_is_of : Cal P w K mg base 2 "is_of" ["keeps", "value", "whats"] (S_is_of)) (c_is_source : Cal P w K mg base 1 "is_source" ["value", "name"] (S_is_source))  : Cal P w K mg base 3 "is_touch" ["value", "name", "keeps"] (S_is_touch) :=
  cal_mk F g (fn_is_touch F T c_is_of c_is_source) (F.bindsN fun _ _ _ _ _ _ us hl => match us, hl with | [_, _, _], _ => rfl)

theorem sc_is_test : FnScope ["value", "name", "keeps", "word"] ["value", "name", "keeps"] (defScope (top 17)) := ⟨rfl, rfl, rfl, by decide +kernel, rfl, by decide +kernel, by decide +kernel⟩
theorem fn_is_test {P : Program} {w : World} {K : PySem.W.Frag} {mg : Str → Option Value} {base : Heap} {f : Addr} {fd : FuncData} (F : FnP K "is_test" "is_test" (top 17) f fd) (T : Tx w K mg) (c_is_index : Cal P w K mg base 1 "is_index" ["value", "many"] (S_is_index)) (c_is_of : Cal P w K mg base 2 "is_of" ["keeps", "value", "whats"] (S_is_of))  : FnOk P w K mg base CX0 3 f fd ["value", "name", "keeps"] (spOf K (S_is_test)) := by
  have sc := sc_is_test
  refine ok_fn (k := 2) F sc (fun ds M Q h => ?_) (fun cdv A outer s H E hr => ?_)
  · obtain ⟨t, n, kd, ks, rfl, hs, hl, ht, hQ⟩ := h; rfl
  · have hu6 : A.units + 64 < cLine := by have := hr.un; show A.units + 64 < cLine; simp only [Around.deeper] at this; omega
    have hu := hu_of hr
    refine ⟨_, (pss_cons (ps_if (PW.pt (pw_or (pt_not (pt_val (pe_callB call_isi (by rfl) T.b_isinstance (by decide +kernel) (pa_cons (pv 0) (pa_cons (pe_bltn (v := .ty "tuple") (u := .type "tuple") (by rfl) T.b_tuple (by decide +kernel) rfl) pa_nil))))) (pw_or (pt_not (pt_truth (pv 0) (by intro _; rfl))) (pw_or1 (pt_not (pt_val (pe_callB call_isi (by rfl) T.b_isinstance (by decide +kernel) (pa_cons (pe_ix ix_seq (pv 0) pe_int (fun _ _ => rfl)) (pa_cons (pe_bltn (v := .ty "str") (u := .type "str") (by rfl) T.b_str (by decide +kernel) rfl) pa_nil))))))))) (pss_one (ps_ret pe_bl)) pss_nil) (pss_cons (ps_set (i := 3) sc.nd rfl (Or.inl rfl) (pe_ix ix_seq (pv 0) pe_int (fun _ _ => rfl))) (pss_cons (ps_if (pt_cmpR op_eq (pv 3) pe_str (nomark _)) (pss_one (ps_ret (pe_and (pe_cmpR op_eq (pe_callB call_len (by rfl) T.b_len (by decide +kernel) (pa_cons (pv 0) pa_nil)) pe_int (nomark _)) (pe_one (pe_cmpR op_eq (pv 1) pe_str (nomark _)))))) pss_nil) (pss_cons (ps_if (pt_cmpR op_ne (pe_callB call_len (by rfl) T.b_len (by decide +kernel) (pa_cons (pv 0) pa_nil)) pe_int (nomark _)) (pss_one (ps_ret pe_bl)) pss_nil) (pss_cons (ps_if (pt_cmpR op_eq (pv 3) pe_str (nomark _)) (pss_one (ps_ret (pe_and (pe_cmpR op_ne (pv 1) pe_str (nomark _)) (pe_one (pe_calD c_is_index (hr.mono (by first | decide | exact Nat.le_refl _)) (by rfl) (pa_cons (pe_ix ix_seq (pv 0) pe_int (fun _ _ => rfl)) (pa_cons pe_int pa_nil))))))) pss_nil) (pss_cons (ps_if (pt_cmpR op_eq (pv 3) pe_str (nomark _)) (pss_one (ps_ret (pe_and (pe_cmpR op_ne (pv 1) pe_str (nomark _)) (pe_one (pe_calD c_is_index (hr.mono (by first | decide | exact Nat.le_refl _)) (by rfl) (pa_cons (pe_ix ix_seq (pv 0) pe_int (fun _ _ => rfl)) (pa_cons pe_int pa_nil))))))) pss_nil) (pss_cons (ps_if (pt_cmpR op_eq (pv 3) pe_str (nomark _)) (pss_one (ps_ret (pe_and (pe_cmpR op_ne (pv 1) pe_str (nomark _)) (pe_one (pe_calD c_is_of (hr.mono (by first | decide | exact Nat.le_refl _)) (by rfl) (pa_cons (pv 2) (pa_cons (pe_ix ix_seq (pv 0) pe_int (fun _ _ => rfl)) (pa_cons (pe_tup (pa_cons pe_str pa_nil)) pa_nil)))))))) pss_nil) (pss_one (ps_ret (pe_and (pe_cmpR op_eq (pv 3) pe_str (nomark _)) (pe_one (pe_calD c_is_of (hr.mono (by first | decide | exact Nat.le_refl _)) (by rfl) (pa_cons (pv 2) (pa_cons (pe_ix ix_seq (pv 0) pe_int (fun _ _ => rfl)) (pa_cons (pe_tup (pa_cons pe_str pa_nil)) pa_nil))))))))))))))), fun ds M Q h => ?_⟩
    obtain ⟨t, n, kd, ks, rfl, hs, hl, ht, hQ⟩ := h
    try dsimp only [cxOf, Cx.nox]
    have hnn : n ≠ .new → decide (V.str n.s = V.str "new") = false := by
      intro h
      cases n <;> first | exact absurd rfl h | rfl
    have hnd : n ≠ .drop → decide (V.str n.s = V.str "drop") = false := by
      intro h
      cases n <;> first | exact absurd rfl h | rfl
    cases t with
    | elder c =>
      obtain ⟨h1, h2⟩ := ht
      walk_at "evs"
      refine ifT (by rw [hnn h1] <;> rfl) ?_
      walk_at "evs"
      refine ⟨_, _, rfl, ?_⟩
      rcases h2 with h2 | h2 <;> subst h2 <;> exact hQ
    | newer c =>
      obtain ⟨h1, h2⟩ := ht
      walk_at "evs"
      refine ifT (by rw [hnd h1] <;> rfl) ?_
      walk_at "evs"
      refine ⟨_, _, rfl, ?_⟩
      rcases h2 with h2 | h2 <;> subst h2 <;> exact hQ
    | moved =>
      have h1 : n = .change := ht
      subst h1
      walk_at "evs"
      exact hQ
    | none k =>
      obtain ⟨kp, hk, hw⟩ := ht
      walk_at "evs"
      refine ⟨kd, ks, k, [V.str "count"], kp, rfl, hs, hk, rfl, ?_⟩
      rw [hw]
      exact hQ
    | top k =>
      obtain ⟨h1, kp, hk, hw⟩ := ht
      walk_at "evs"
      refine ifT (by rw [hnn h1] <;> rfl) ?_
      walk_at "evs"
      refine ⟨kd, ks, k, [V.str "most"], kp, rfl, hs, hk, rfl, ?_⟩
      rw [hw]
      exact hQ

theorem ok_is_test {P : Program} {w : World} {K : PySem.W.Frag} {mg : Str → Option Value} {base : Heap} {f : Addr} {fd : FuncData} (F : FnP K "is_test" "is_test" (top 17) f fd) (g : mg "is_test" = some (.ref f)) (T : Tx w K mg) (c_is_index : Cal P w K mg base 1 "is_index" ["value", "many"] (S_is_index)) (c_is_of : Cal P w K mg base 2 "is_of" ["keeps", "value", "whats"] (S_is_of))  : Cal P w K mg base 3 "is_test" ["value", "name", "keeps"] (S_is_test) :=
  cal_mk F g (fn_is_test F T c_is_index c_is_of) (F.bindsN fun _ _ _ _ _ _ us hl => match us, hl with | [_, _, _], _ => rfl)

theorem sc_is_step : FnScope ["value", "name", "keeps"] ["value", "name", "keeps"] (defScope (top 18)) := ⟨rfl, rfl, rfl, by decide +kernel, rfl, by decide +kernel, by decide +kernel⟩
theorem fn_is_step {P : Program} {w : World} {K : PySem.W.Frag} {mg : Str → Option Value} {base : Heap} {f : Addr} {fd : FuncData} (F : FnP K "is_step" "is_step" (top 18) f fd) (T : Tx w K mg) (c_is_test : Cal P w K mg base 3 "is_test" ["value", "name", "keeps"] (S_is_test)) (c_is_touch : Cal P w K mg base 3 "is_touch" ["value", "name", "keeps"] (S_is_touch))  : FnOk P w K mg base CX0 4 f fd ["value", "name", "keeps"] (spOf K (S_is_step)) := by
  have sc := sc_is_step
  refine ok_fn (k := 3) F sc (fun ds M Q h => ?_) (fun cdv A outer s H E hr => ?_)
  · obtain ⟨st, n, kd, ks, rfl, hs, hl, ht, hQ⟩ := h; rfl
  · have hu6 : A.units + 64 < cLine := by have := hr.un; show A.units + 64 < cLine; simp only [Around.deeper] at this; omega
    have hu := hu_of hr
    refine ⟨_, (pss_cons (ps_if (PW.pt (pw_and (pt_val (pe_callB call_isi (by rfl) T.b_isinstance (by decide +kernel) (pa_cons (pv 0) (pa_cons (pe_bltn (v := .ty "tuple") (u := .type "tuple") (by rfl) T.b_tuple (by decide +kernel) rfl) pa_nil)))) (pw_and (pt_cmpR op_eq (pe_callB call_len (by rfl) T.b_len (by decide +kernel) (pa_cons (pv 0) pa_nil)) pe_int (nomark _)) (pw_and (pt_val (pe_callB call_isi (by rfl) T.b_isinstance (by decide +kernel) (pa_cons (pe_ix ix_seq (pv 0) pe_int (fun _ _ => rfl)) (pa_cons (pe_bltn (v := .ty "str") (u := .type "str") (by rfl) T.b_str (by decide +kernel) rfl) pa_nil)))) (pw_and1 (pt_cmpR op_eq (pe_ix ix_seq (pv 0) pe_int (fun _ _ => rfl)) pe_str (nomark _))))))) (pss_one (ps_ret (pe_and (pe_calD c_is_test (hr.mono (by first | decide | exact Nat.le_refl _)) (by rfl) (pa_cons (pe_ix ix_seq (pv 0) pe_int (fun _ _ => rfl)) (pa_cons (pv 1) (pa_cons (pv 2) pa_nil)))) (pe_one (pe_calD c_is_touch (hr.mono (by first | decide | exact Nat.le_refl _)) (by rfl) (pa_cons (pe_ix ix_seq (pv 0) pe_int (fun _ _ => rfl)) (pa_cons (pv 1) (pa_cons (pv 2) pa_nil)))))))) pss_nil) (pss_one (ps_ret (pe_calD c_is_touch (hr.mono (by first | decide | exact Nat.le_refl _)) (by rfl) (pa_cons (pv 0) (pa_cons (pv 1) (pa_cons (pv 2) pa_nil))))))), fun ds M Q h => ?_⟩
    obtain ⟨st, n, kd, ks, rfl, hs, hl, ht, hQ⟩ := h
    try dsimp only [cxOf, Cx.nox]
    obtain ⟨te, tc⟩ := st
    obtain ⟨h1, h2⟩ := ht
    cases te with
    | some t =>
      walk_at "evs"
      refine ⟨t, n, kd, ks, rfl, hs, hl, h2 t rfl, ?_⟩
      walk_at "evs"
      exact ⟨tc, n, kd, ks, rfl, hs, hl, h1, hQ⟩
    | none => cases tc <;> (walk_at "evs"; exact ⟨_, n, kd, ks, rfl, hs, hl, h1, hQ⟩)

theorem ok_is_step {P : Program} {w : World} {K : PySem.W.Frag} {mg : Str → Option Value} {base : Heap} {f : Addr} {fd : FuncData} (F : FnP K "is_step" "is_step" (top 18) f fd) (g : mg "is_step" = some (.ref f)) (T : Tx w K mg) (c_is_test : Cal P w K mg base 3 "is_test" ["value", "name", "keeps"] (S_is_test)) (c_is_touch : Cal P w K mg base 3 "is_touch" ["value", "name", "keeps"] (S_is_touch))  : Cal P w K mg base 4 "is_step" ["value", "name", "keeps"] (S_is_step) :=
  cal_mk F g (fn_is_step F T c_is_test c_is_touch) (F.bindsN fun _ _ _ _ _ _ us hl => match us, hl with | [_, _, _], _ => rfl)

theorem sc_check_steps : FnScope ["name", "steps", "keeps", "index", "step"] ["name", "steps", "keeps"] (defScope (top 19)) := ⟨rfl, rfl, rfl, by decide +kernel, rfl, by decide +kernel, by decide +kernel⟩
theorem fn_check_steps {P : Program} {w : World} {K : PySem.W.Frag} {mg : Str → Option Value} {base : Heap} {f : Addr} {fd : FuncData} (F : FnP K "check_steps" "check_steps" (top 19) f fd) (T : Tx w K mg) (c_is_step : Cal P w K mg base 4 "is_step" ["value", "name", "keeps"] (S_is_step))  : FnOk P w K mg base CX0 5 f fd ["name", "steps", "keeps"] (spOf K (S_check_steps)) := by
  have sc := sc_check_steps
  refine ok_fn (k := 4) F sc (fun ds M Q h => ?_) (fun cdv A outer s H E hr => ?_)
  · obtain ⟨n, sd, ss, kd, ks, rfl, hss, hs, hl, h6, hok, hQ⟩ := h; rfl
  · have hu6 : A.units + 64 < cLine := by have := hr.un; show A.units + 64 < cLine; simp only [Around.deeper] at this; omega
    have hu := hu_of hr
    refine ⟨_, (pss_cons (ps_if (pt_cmpR op_gt (pe_callB call_len (by rfl) T.b_len (by decide +kernel) (pa_cons (pv 1) pa_nil)) (pe_globI (by rfl) T.g_MOST_STEPS) (nomark _)) (pss_one ps_never) pss_nil) (pss_one (ps_for PassesOwn.never (by rfl) (pi_enumA (by rfl) T.b_enumerate (pa_cons (pv 1) pa_nil)) (pg_tup (n := 2) (by rfl) (pgs_cons (pg_name (i := 3) sc.nd rfl (Or.inl rfl)) (pgs_cons (pg_name (i := 4) sc.nd rfl (Or.inl rfl)) pgs_nil))) (pss_one (ps_if (pt_not (pt_val (pe_calD c_is_step (hr.mono (by first | decide | exact Nat.le_refl _)) (by rfl) (pa_cons (pv 4) (pa_cons (pv 0) (pa_cons (pv 2) pa_nil)))))) (pss_one ps_never) pss_nil))))), fun ds M Q h => ?_⟩
    obtain ⟨n, sd, ss, kd, ks, rfl, hss, hs, hl, h6, hok, hQ⟩ := h
    try dsimp only [cxOf, Cx.nox]
    have hlen : LenAt sd M ss.length := by
      rcases hss with e | e <;> subst e <;> exact (List.length_map ..).symm
    walk_at "evs"
    refine rcl_len hlen ?_
    walk_at "evs"
    refine ifF (decide_eq_false (by omega)) ?_
    walk_at "evs"
    refine stp_for (js := [3, 4]) (sr_enumA ?_)
    walk_at "evs"
    refine ⟨ss.map stepD, hss.elim (fun e => .inl (by rw [e])) (fun e => .inr (by rw [e])), fun i ρ' M' => (∃ a b, ρ' = [some (sD n.s), some sd, some kd, a, b]) ∧ M = M', ⟨⟨none, none, rfl⟩, rfl⟩, ?_, ?_⟩
    · rintro i d ρ' M' hd ⟨⟨a, b, rfl⟩, rfl⟩
      obtain ⟨e, he, rfl⟩ := enumD_get hd
      rw [List.getElem?_map] at he
      obtain ⟨st, hst, rfl⟩ := Option.map_eq_some_iff.mp he
      refine ⟨_, tg_tup (js := [3, 4]) rfl rfl, ?_⟩
      walk_at "evs"
      refine ⟨st, n, kd, ks, rfl, hs, hl, hok st (List.mem_of_getElem? hst), ?_⟩
      walk_at "evs"
      exact ⟨⟨_, _, rfl⟩, rfl⟩
    · rintro ρ' M' ⟨_, rfl⟩
      exact hQ

theorem ok_check_steps {P : Program} {w : World} {K : PySem.W.Frag} {mg : Str → Option Value} {base : Heap} {f : Addr} {fd : FuncData} (F : FnP K "check_steps" "check_steps" (top 19) f fd) (g : mg "check_steps" = some (.ref f)) (T : Tx w K mg) (c_is_step : Cal P w K mg base 4 "is_step" ["value", "name", "keeps"] (S_is_step))  : Cal P w K mg base 5 "check_steps" ["name", "steps", "keeps"] (S_check_steps) :=
  cal_mk F g (fn_check_steps F T c_is_step) (F.bindsN fun _ _ _ _ _ _ us hl => match us, hl with | [_, _, _], _ => rfl)

theorem sc_Program___init__ : FnScope ["self", "keeps", "new", "change", "drop", "index", "keep", "name", "steps"] ["self", "keeps", "new", "change", "drop"] (defScope (inClass (top 20) 0)) := ⟨rfl, rfl, rfl, by decide +kernel, rfl, by decide +kernel, by decide +kernel⟩
theorem fn_Program___init__ {P : Program} {w : World} {K : PySem.W.Frag} {mg : Str → Option Value} {base : Heap} {f : Addr} {fd : FuncData} (F : FnP K "__init__" "Program.__init__" (inClass (top 20) 0) f fd) (T : Tx w K mg) (c_is_keep : Cal P w K mg base 2 "is_keep" ["value"] (S_is_keep)) (c_check_steps : Cal P w K mg base 5 "check_steps" ["name", "steps", "keeps"] (S_check_steps))  : FnOk P w K mg base CX0 6 f fd ["self", "keeps", "new", "change", "drop"] (spOf K (S_Program_init (He.ga K "Program"))) := by
  have sc := sc_Program___init__
  refine ok_fn (k := 5) F sc (fun ds M Q h => ?_) (fun cdv A outer s H E hr => ?_)
  · obtain ⟨x, kd, nd, cd, dd, p, rfl, hx, hk, hn, hc, hd, hv, hQ⟩ := h; rfl
  · have hu6 : A.units + 64 < cLine := by have := hr.un; show A.units + 64 < cLine; simp only [Around.deeper] at this; omega
    have hu := hu_of hr
    refine ⟨_, (pss_cons (ps_if (pt_cmpR op_gt (pe_callB call_len (by rfl) T.b_len (by decide +kernel) (pa_cons (pv 1) pa_nil)) (pe_globI (by rfl) T.g_MOST_KEEPS) (nomark _)) (pss_one ps_never) pss_nil) (pss_cons (ps_if (pt_cmpR op_eq (pe_callB call_len (by rfl) T.b_len (by decide +kernel) (pa_cons (pv 1) pa_nil)) pe_int (nomark _)) (pss_one ps_never) pss_nil) (pss_cons (ps_for PassesOwn.never (by rfl) (pi_enumA (by rfl) T.b_enumerate (pa_cons (pv 1) pa_nil)) (pg_tup (n := 2) (by rfl) (pgs_cons (pg_name (i := 5) sc.nd rfl (Or.inl rfl)) (pgs_cons (pg_name (i := 6) sc.nd rfl (Or.inl rfl)) pgs_nil))) (pss_one (ps_if (pt_not (pt_val (pe_calD c_is_keep (hr.mono (by first | decide | exact Nat.le_refl _)) (by rfl) (pa_cons (pv 6) pa_nil)))) (pss_one ps_never) pss_nil))) (pss_cons (ps_for PassesOwn.never (by rfl) (pi_seq (pe_tup (pa_cons (pe_tup (pa_cons pe_str (pa_cons (pv 2) pa_nil))) (pa_cons (pe_tup (pa_cons pe_str (pa_cons (pv 3) pa_nil))) (pa_cons (pe_tup (pa_cons pe_str (pa_cons (pv 4) pa_nil))) pa_nil))))) (pg_tup (n := 2) (by rfl) (pgs_cons (pg_name (i := 7) sc.nd rfl (Or.inl rfl)) (pgs_cons (pg_name (i := 8) sc.nd rfl (Or.inl rfl)) pgs_nil))) (pss_one (ps_expr (pe_calD c_check_steps (hr.mono (by first | decide | exact Nat.le_refl _)) (by rfl) (pa_cons (pv 7) (pa_cons (pv 8) (pa_cons (pv 1) pa_nil))))))) (pss_cons (ps_fld (pv 0) (pe_callTy call_tuple_of (by rfl) T.b_tuple (by decide +kernel) (pa_cons (pv 1) pa_nil)) rfl) (pss_cons (ps_fld (pv 0) (pe_callTy call_tuple_of (by rfl) T.b_tuple (by decide +kernel) (pa_cons (pv 2) pa_nil)) rfl) (pss_cons (ps_fld (pv 0) (pe_callTy call_tuple_of (by rfl) T.b_tuple (by decide +kernel) (pa_cons (pv 3) pa_nil)) rfl) (pss_one (ps_fld (pv 0) (pe_callTy call_tuple_of (by rfl) T.b_tuple (by decide +kernel) (pa_cons (pv 4) pa_nil)) rfl))))))))), fun ds M Q h => ?_⟩
    obtain ⟨x, kd, nd, cd, dd, p, rfl, hx, hk, hn, hc, hd, hv, hQ⟩ := h
    try dsimp only [cxOf, Cx.nox]
    have hlen : LenAt kd M p.keeps.length := by
      rcases hk with e | e <;> subst e <;> exact (List.length_map ..).symm
    have k1 := hv.k1
    have k3 := hv.k3
    walk_at "evs"
    refine rcl_len hlen ?_
    walk_at "evs"
    refine ifF (decide_eq_false (by omega)) ?_
    walk_at "evs"
    refine rcl_len hlen ?_
    walk_at "evs"
    refine ifF (decide_eq_false (fun z => by injection z with z; omega)) ?_
    walk_at "evs"
    refine stp_for (js := [5, 6]) (sr_enumA ?_)
    walk_at "evs"
    refine ⟨p.keeps.map keepD, hk.elim (fun e => .inl (by rw [e])) (fun e => .inr (by rw [e])), fun i ρ' M' => (∃ a b, ρ' = [some (.sc (.ref x)), some kd, some nd, some cd, some dd, a, b, none, none]) ∧ M = M', ⟨⟨none, none, rfl⟩, rfl⟩, ?_, ?_⟩
    · rintro i d ρ' M' hd ⟨⟨a, b, rfl⟩, rfl⟩
      obtain ⟨e, he, rfl⟩ := enumD_get hd
      rw [List.getElem?_map] at he
      obtain ⟨k, hkk, rfl⟩ := Option.map_eq_some_iff.mp he
      refine ⟨_, tg_tup (js := [5, 6]) rfl rfl, ?_⟩
      walk_at "evs"
      refine ⟨k, rfl, hv.ok k (List.mem_of_getElem? hkk), ?_⟩
      walk_at "evs"
      exact ⟨⟨_, _, rfl⟩, rfl⟩
    · rintro ρ' M' ⟨⟨a, b, rfl⟩, rfl⟩
      have step : ∀ (f : Str) (i : Nat) (ns : List Str) (es : List Da) (z zd : Da) (zs : List Da) (ρ : Env') (M1 : MH) (D : DE), f ∈ progN → ρ[i]? = some (some zd) → SeqOf zd zs → ρ[0]? = some (some (.sc (.ref x))) → M1 x = some (.ins (He.ga K "Program") ns es) → f ∉ ns → ns.length < 1000 →
          D.nx ρ (updM M1 x (.ins (He.ga K "Program") (ns ++ [f]) (es ++ [.tup zs]))) → StP K (sFld K (tVar 0) (tCB (rTuple K) (tCons (tVar i) tNil)) f) ρ M1 D := by
        intro f i ns es z zd zs ρ M1 D hf hi hz h0 hm hnf hl q
        refine stp_fldN T.c_Program (T.n_Program f hf) ?_
        refine ev_cb (av_cons (ev_var hi (av_nil ?_)))
        have hsq : SeqAt zd M1 zs := by rcases hz with e | e <;> subst e <;> exact rfl
        refine rcl_tuple hsq (ev_var h0 ⟨x, ns, es, rfl, hm, hnf, hl, q⟩)
      walk_at "evs"
      refine stp_for (js := [7, 8]) (sr_seq ?_)
      walk_at "evs"
      refine ⟨_, .inr rfl, fun i ρ' M' => (∃ a b c d, ρ' = [some (.sc (.ref x)), some kd, some nd, some cd, some dd, a, b, c, d]) ∧ M = M', ⟨⟨_, _, _, _, rfl⟩, rfl⟩, ?_, ?_⟩
      · rintro i d ρ' M' hd' ⟨⟨a, b, c, d', rfl⟩, rfl⟩
        have hx : ∃ (n : Pn) (sd : Da), d = .tup [sD n.s, sd] ∧ SeqOf sd ((p.steps n).map stepD) := by
          match i, hd' with
          | 0, hd' => exact ⟨.new, nd, (Option.some.inj hd').symm, hn⟩
          | 1, hd' => exact ⟨.change, cd, (Option.some.inj hd').symm, hc⟩
          | 2, hd' => exact ⟨.drop, dd, (Option.some.inj hd').symm, hd⟩
          | n + 3, hd' => simp at hd'
        obtain ⟨n, sd, rfl, hsd⟩ := hx
        refine ⟨_, tg_tup (js := [7, 8]) rfl rfl, ?_⟩
        walk_at "evs"
        refine ⟨n, sd, p.steps n, kd, p.keeps, rfl, hsd, hk, k3, hv.len n, hv.st n, ?_⟩
        exact ⟨⟨_, _, _, _, rfl⟩, rfl⟩
      · rintro ρ' M' ⟨⟨a, b, c, d, rfl⟩, rfl⟩
        walk_at "evs"
        refine step "keeps" 1 [] [] kd kd _ _ _ _ (by decide +kernel) rfl hk rfl hx (by decide +kernel) (by decide) ?_
        walk_at "evs"
        refine step "new" 2 _ _ nd nd _ _ _ _ (by decide +kernel) rfl hn rfl updM_same (by decide +kernel) (by decide) ?_
        rw [updM_updM]
        walk_at "evs"
        refine step "change" 3 _ _ cd cd _ _ _ _ (by decide +kernel) rfl hc rfl updM_same (by decide +kernel) (by decide) ?_
        rw [updM_updM]
        walk_at "evs"
        refine step "drop" 4 _ _ dd dd _ _ _ _ (by decide +kernel) rfl hd rfl updM_same (by decide +kernel) (by decide) ?_
        rw [updM_updM]
        exact hQ


theorem sc_all_things : FnScope ["numbers", "kind", "number"] ["numbers"] (defScope (top 28)) := ⟨rfl, rfl, rfl, by decide +kernel, rfl, by decide +kernel, by decide +kernel⟩
theorem fn_all_things {P : Program} {w : World} {K : PySem.W.Frag} {mg : Str → Option Value} {base : Heap} {f : Addr} {fd : FuncData} (F : FnP K "all_things" "all_things" (top 28) f fd) (T : Tx w K mg)   : FnOk P w K mg base CX0 1 f fd ["numbers"] (spOf K (S_all_things)) := by
  have sc := sc_all_things
  refine ok_fn (k := 0) F sc (fun ds M Q h => ?_) (fun cdv A outer s H E hr => ?_)
  · obtain ⟨rfl, hQ⟩ := h; rfl
  · have hu6 : A.units + 64 < cLine := by have := hr.un; show A.units + 64 < cLine; simp only [Around.deeper] at this; omega
    have hu := hu_of hr
    refine ⟨_, (pss_one (ps_ret (pe_lc2 (own := [("kind", 1), ("number", 2)]) (vs1 := [2]) (by rfl) sc.nd (pi_seq (pe_tup (pa_cons pe_int (pa_cons pe_int pa_nil)))) (blkOk_by (own := [("kind", 1), ("number", 2)]) (N := ["numbers", "kind", "number"]) (sc := defScope (top 28)) (by decide +kernel)) (by decide) (fun _ _ _ _ _ => (pg_name (i := 1) sc.nd rfl (Or.inl rfl))) (fun _ _ _ _ _ => pts_nil) (fun _ _ _ _ _ => (k_pi_seq (K := K) (pv 0))) (fun _ _ _ _ _ => (pg_name (i := 2) sc.nd rfl (Or.inl rfl))) (fun _ _ _ _ _ => pts_nil) (fun _ _ _ _ _ => (pe_tup (pa_cons (pv 1) (pa_cons (pv 2) pa_nil))))))), fun ds M Q h => ?_⟩
    obtain ⟨rfl, hQ⟩ := h
    try dsimp only [cxOf, Cx.nox]
    walk_at "evs"
    refine ev_lc2Map [1] [2] (by decide) (by decide) (sr_seq ?_)
    walk_at "evs"
    refine ⟨_, .inr rfl, [numbers.map fun n => thingD (0, n), numbers.map fun n => thingD (1, n)], rfl, Nat.le_of_ble_eq_true rfl, ?_, hQ⟩
    intro i d es hd he
    have hh : ∃ k : Int, d = iD k ∧ es = numbers.map fun n => thingD (k, n) := by
      match i, hd, he with
      | 0, hd, he => exact ⟨0, (Option.some.inj hd).symm, (Option.some.inj he).symm⟩
      | 1, hd, he => exact ⟨1, (Option.some.inj hd).symm, (Option.some.inj he).symm⟩
      | n + 2, hd, he => simp at hd
    obtain ⟨k, rfl, rfl⟩ := hh
    refine ⟨_, tg_name, sr_seq ?_⟩
    walk_at "evs"
    refine ⟨numbers.map iD, .inr rfl, rfl, rfl, ?_⟩
    intro l f e hf hee
    rw [List.getElem?_map] at hf hee
    obtain ⟨n, hn, rfl⟩ := Option.map_eq_some_iff.mp hf
    rw [hn] at hee
    obtain rfl := Option.some.inj hee
    refine ⟨_, tg_name, ?_⟩
    walk_at "evs"
    exact ⟨rfl, rfl⟩

theorem ok_all_things {P : Program} {w : World} {K : PySem.W.Frag} {mg : Str → Option Value} {base : Heap} {f : Addr} {fd : FuncData} (F : FnP K "all_things" "all_things" (top 28) f fd) (g : mg "all_things" = some (.ref f)) (T : Tx w K mg)   : Cal P w K mg base 1 "all_things" ["numbers"] (S_all_things) :=
  cal_mk F g (fn_all_things F T ) (F.bindsN fun _ _ _ _ _ _ us hl => match us, hl with | [_], _ => rfl)

theorem sc_true_value : FnScope ["keep", "things", "what", "kind", "numbers", "other", "number"] ["keep", "things"] (defScope (top 23)) := ⟨rfl, rfl, rfl, by decide +kernel, rfl, by decide +kernel, by decide +kernel⟩
theorem fn_true_value {P : Program} {w : World} {K : PySem.W.Frag} {mg : Str → Option Value} {base : Heap} {f : Addr} {fd : FuncData} (F : FnP K "true_value" "true_value" (top 23) f fd) (T : Tx w K mg)   : FnOk P w K mg base CX0 1 f fd ["keep", "things"] (spOf K (S_true_value)) := by
  have sc := sc_true_value
  refine ok_fn (k := 0) F sc (fun ds M Q h => ?_) (fun cdv A outer s H E hr => ?_)
  · obtain ⟨k, ts, rfl, hl, hQ⟩ := h; rfl
  · have hu6 : A.units + 64 < cLine := by have := hr.un; show A.units + 64 < cLine; simp only [Around.deeper] at this; omega
    have hu := hu_of hr
    refine ⟨_, (pss_cons (ps_asg (pv 0) (pg_tup (n := 2) (by rfl) (pgs_cons (pg_name (i := 2) sc.nd rfl (Or.inl rfl)) (pgs_cons (pg_name (i := 3) sc.nd rfl (Or.inr rfl)) pgs_nil)))) (pss_cons (ps_setLc (i := 4) (own := [("other", 5), ("number", 6)]) (by rfl) sc.nd rfl rfl (sw_true rfl rfl rfl (by decide +kernel)) (pi_seq (pv 1)) (blkOk_by (own := [("other", 5), ("number", 6)]) (N := ["keep", "things", "what", "kind", "numbers", "other", "number"]) (sc := defScope (top 23)) (by decide +kernel)) (fun _ _ _ _ _ => (k_pg_tup (K := K) (n := 2) (by rfl) (pgs_cons (pg_name (i := 5) sc.nd rfl (Or.inl rfl)) (pgs_cons (pg_name (i := 6) sc.nd rfl (Or.inl rfl)) pgs_nil)))) (fun _ _ _ _ _ => (pts_one (PW.pt (pw_or (pt_cmpR op_isN1 (pv 3) pe_non (nomark _)) (pw_or1 (pt_cmpR op_eq (pv 5) (pv 3) (nomark _))))))) (fun _ _ _ _ _ => (pv 6))) (pss_cons (ps_if (pt_cmpR op_eq (pv 2) pe_str (nomark _)) (pss_one (ps_ret (pe_callB call_len (by rfl) T.b_len (by decide +kernel) (pa_cons (pv 4) pa_nil)))) pss_nil) (pss_cons (ps_if (pt_cmpR op_eq (pv 2) pe_str (nomark _)) (pss_one (ps_ret (pe_callB (cr_sum rfl) (by rfl) T.b_sum (by decide +kernel) (pa_cons (pv 4) pa_nil)))) pss_nil) (pss_cons (ps_if (pt_cmpR op_eq (pv 2) pe_str (nomark _)) (pss_one (ps_ret (pe_cmpR op_gt (pe_callB call_len (by rfl) T.b_len (by decide +kernel) (pa_cons (pv 4) pa_nil)) pe_int (nomark _)))) pss_nil) (pss_one (ps_ret (pe_ifExp (pt_truth (pv 4) (by intro _; rfl)) (pe_callB (cr_max rfl) (by rfl) T.b_max (by decide +kernel) (pa_cons (pv 4) pa_nil)) pe_non)))))))), fun ds M Q h => ?_⟩
    obtain ⟨k, ts, rfl, hl, hQ⟩ := h
    try dsimp only [cxOf, Cx.nox]
    obtain ⟨kw, kk⟩ := k
    refine stp_seq (stp_asg ?_)
    walk_at "evs"
    refine gv_tg (js := [2, 3]) (tg_tup rfl rfl) ?_
    refine stp_seq (stp_set (ev_lc (js := [5, 6]) (by decide) (sr_seq ?_)))
    walk_at "evs"
    have keep : ∀ (t : Thing) (ρ : Env') (PB : Bool → MH → Prop), ρ[3]? = some (some (kindD kk)) → ρ[5]? = some (some (iD t.1)) → PB (inKind kk t) M → TvP K (tOr (tTest (tOp rIsN (tVar 3) (tC .non))) (tTest (tOp rEq (tVar 5) (tVar 3)))) ρ M PB := by
      intro t ρ PB h3 h5 q
      refine tv_or (tv_test (ev_op (ev_var h3 (ev_c (rop_isN ⟨_, rfl, ?_⟩)))))
      cases kk with
      | none => exact q
      | some c =>
        refine tv_test (ev_op (ev_var h5 (ev_var h3 (rop_eq rfl ⟨_, rfl, ?_⟩))))
        have e : decide (V.int t.1 = kindV (some c)) = decide (t.1 = c) := by simp [kindV]
        rw [e]
        exact q
    let nums : List Thing → List Int := fun us => numbersOf ⟨kw, kk⟩ us
    refine ⟨ts.map thingD, .inl rfl, fun i acc M' => acc = (nums (ts.take i)).map iD ∧ M = M', ⟨rfl, rfl⟩, ?_, ?_⟩
    · rintro i d acc M' hd ⟨ea, em⟩
      subst ea em
      rw [List.getElem?_map] at hd
      obtain ⟨t, ht, rfl⟩ := Option.map_eq_some_iff.mp hd
      refine ⟨_, tg_tup (js := [5, 6]) rfl rfl, ?_⟩
      refine keep t _ _ rfl rfl ?_
      have hsp : nums (ts.take (i + 1)) = nums (ts.take i) ++ nums [t] := by
        rw [take_succ_some ht]
        exact numbersOf_snoc _ _ _
      have hb : (nums (ts.take i)).length ≤ i := Nat.le_trans (numbersOf_le ⟨kw, kk⟩ (ts.take i)) (by rw [List.length_take]; omega)
      have hi : i < ts.length := (List.getElem?_eq_some_iff.mp ht).1
      refine ifB (fun h => ?_) (fun h => ?_)
      · refine ⟨by rw [List.length_map]; omega, ?_⟩
        walk_at "evs"
        refine ⟨?_, rfl⟩
        have e1 : nums [t] = [t.2] := numbersOf_in h
        rw [hsp, e1, List.map_append]
        rfl
      · refine ⟨?_, rfl⟩
        have e1 : nums [t] = [] := numbersOf_out h
        rw [hsp, e1, List.append_nil]
    · rintro acc M' ⟨ea, em⟩
      subst ea em
      rw [List.length_map, List.take_length]
      have hlen : LenAt (.lst ((nums ts).map iD)) M (nums ts).length := (List.length_map ..).symm
      cases kw with
      | count =>
        walk_at "evs"
        rw [List.length_map]
        exact hQ
      | sum =>
        walk_at "evs"
        exact rcl_sum rfl hQ
      | any =>
        walk_at "evs"
        rw [List.length_map]
        have e : decide ((((nums ts).length : Nat) : Int) > 0) = decide (0 < (nums ts).length) := by simp
        have hQ : Q (.sc (.bl (decide (0 < (nums ts).length)))) M := hQ
        rw [← e] at hQ
        exact hQ
      | most =>
        have hQ : Q (.sc (maxV (nums ts))) M := hQ
        cases hn : nums ts with
        | nil =>
          rw [hn] at hQ
          walk_at "evs"
          exact hQ
        | cons x xs =>
          rw [hn] at hQ
          walk_at "evs"
          refine rcl_max rfl (Nat.succ_pos _) fun m hm hle => ?_
          have e : xs.foldl max x = m := maxV_eq hm hle
          have hQ : Q (.sc (.int (xs.foldl max x))) M := hQ
          rw [e] at hQ
          exact hQ

theorem ok_true_value {P : Program} {w : World} {K : PySem.W.Frag} {mg : Str → Option Value} {base : Heap} {f : Addr} {fd : FuncData} (F : FnP K "true_value" "true_value" (top 23) f fd) (g : mg "true_value" = some (.ref f)) (T : Tx w K mg)   : Cal P w K mg base 1 "true_value" ["keep", "things"] (S_true_value) :=
  cal_mk F g (fn_true_value F T ) (F.bindsN fun _ _ _ _ _ _ us hl => match us, hl with | [_, _], _ => rfl)

theorem sc_true_values : FnScope ["keeps", "things", "keep"] ["keeps", "things"] (defScope (top 24)) := ⟨rfl, rfl, rfl, by decide +kernel, rfl, by decide +kernel, by decide +kernel⟩
theorem fn_true_values {P : Program} {w : World} {K : PySem.W.Frag} {mg : Str → Option Value} {base : Heap} {f : Addr} {fd : FuncData} (F : FnP K "true_values" "true_values" (top 24) f fd) (T : Tx w K mg) (c_true_value : Cal P w K mg base 1 "true_value" ["keep", "things"] (S_true_value))  : FnOk P w K mg base CX0 2 f fd ["keeps", "things"] (spOf K (S_true_values)) := by
  have sc := sc_true_values
  refine ok_fn (k := 1) F sc (fun ds M Q h => ?_) (fun cdv A outer s H E hr => ?_)
  · obtain ⟨kd, ks, ts, rfl, hs, h3, hl, hQ⟩ := h; rfl
  · have hu6 : A.units + 64 < cLine := by have := hr.un; show A.units + 64 < cLine; simp only [Around.deeper] at this; omega
    have hu := hu_of hr
    refine ⟨_, (pss_one (ps_ret (pe_lc (own := [("keep", 2)]) (by rfl) sc.nd (pi_seq (pv 0)) (blkOk_by (own := [("keep", 2)]) (N := ["keeps", "things", "keep"]) (sc := defScope (top 24)) (by decide +kernel)) (fun _ _ _ _ _ => (pg_name (i := 2) sc.nd rfl (Or.inl rfl))) (fun _ _ _ _ _ => pts_nil) (fun _ _ _ _ _ => (k_calD (K := K) c_true_value (hr.mono (by first | decide | exact Nat.le_refl _)) (by rfl) (pa_cons (pv 2) (pa_cons (pv 1) pa_nil))))))), fun ds M Q h => ?_⟩
    obtain ⟨kd, ks, ts, rfl, hs, h3, hl, hQ⟩ := h
    try dsimp only [cxOf, Cx.nox]
    walk_at "evs"
    refine ev_lcMap [2] (by decide) (sr_seq ?_)
    walk_at "evs"
    refine ⟨ks.map keepD, hs.elim (fun e => .inl (by rw [e])) (fun e => .inr (by rw [e])), (trueValues ks ts).map Da.sc, by simp [trueValues], by simp [trueValues]; omega, ?_, hQ⟩
    intro i d e hd he
    rw [List.getElem?_map] at hd
    obtain ⟨k, hk, rfl⟩ := Option.map_eq_some_iff.mp hd
    unfold trueValues at he
    rw [List.getElem?_map, List.getElem?_map, hk] at he
    obtain rfl := Option.some.inj he
    refine ⟨_, tg_name, ?_⟩
    walk_at "evs"
    exact ⟨k, ts, rfl, hl, rfl, rfl⟩

theorem ok_true_values {P : Program} {w : World} {K : PySem.W.Frag} {mg : Str → Option Value} {base : Heap} {f : Addr} {fd : FuncData} (F : FnP K "true_values" "true_values" (top 24) f fd) (g : mg "true_values" = some (.ref f)) (T : Tx w K mg) (c_true_value : Cal P w K mg base 1 "true_value" ["keep", "things"] (S_true_value))  : Cal P w K mg base 2 "true_values" ["keeps", "things"] (S_true_values) :=
  cal_mk F g (fn_true_values F T c_true_value) (F.bindsN fun _ _ _ _ _ _ us hl => match us, hl with | [_, _], _ => rfl)

theorem sc_Deed___init__ : FnScope ["self", "keeps", "kept", "things", "elder", "newer"] ["self", "keeps", "kept", "things", "elder", "newer"] (defScope (inClass (top 25) 0)) := ⟨rfl, rfl, rfl, by decide +kernel, rfl, by decide +kernel, by decide +kernel⟩
theorem fn_Deed___init__ {P : Program} {w : World} {K : PySem.W.Frag} {mg : Str → Option Value} {base : Heap} {f : Addr} {fd : FuncData} (F : FnP K "__init__" "Deed.__init__" (inClass (top 25) 0) f fd) (T : Tx w K mg)   : FnOk P w K mg base CX0 1 f fd ["self", "keeps", "kept", "things", "elder", "newer"] (spOf K (S_Deed_init (He.ga K "Deed"))) := by
  have sc := sc_Deed___init__
  refine ok_fn (k := 0) F sc (fun ds M Q h => ?_) (fun cdv A outer s H E hr => ?_)
  · obtain ⟨x, am, d, rfl, hx, hQ⟩ := h; rfl
  · have hu6 : A.units + 64 < cLine := by have := hr.un; show A.units + 64 < cLine; simp only [Around.deeper] at this; omega
    have hu := hu_of hr
    refine ⟨_, (pss_cons (ps_fld (pv 0) (pv 1) rfl) (pss_cons (ps_fld (pv 0) (pe_callTy call_list_of (by rfl) T.b_list (by decide +kernel) (pa_cons (pv 2) pa_nil)) rfl) (pss_cons (ps_fld (pv 0) (pv 3) rfl) (pss_cons (ps_fld (pv 0) (pv 4) rfl) (pss_one (ps_fld (pv 0) (pv 5) rfl)))))), fun ds M Q h => ?_⟩
    obtain ⟨x, am, d, rfl, hx, hQ⟩ := h
    try dsimp only [cxOf, Cx.nox]
    have fld : ∀ (f : Str) (tv : TE) (ns : List Str) (es : List Da) (ρ : Env') (M1 : MH) (D : DE), f ∈ deedN → ρ[0]? = some (some (.sc (.ref x))) → f ∉ ns → ns.length < 1000 →
        EvP K tv ρ M1 (fun v M2 => M2 x = some (.ins (He.ga K "Deed") ns es) ∧ D.nx ρ (updM M2 x (.ins (He.ga K "Deed") (ns ++ [f]) (es ++ [v])))) → StP K (sFld K (tVar 0) tv f) ρ M1 D := by
      intro f tv ns es ρ M1 D hf h0 hnf hl q
      refine stp_fldN T.c_Deed (T.n_Deed f hf) (q.mono fun v M2 hq => ?_)
      exact ev_var h0 ⟨x, ns, es, rfl, hq.1, hnf, hl, hq.2⟩
    obtain ⟨ks, ar, el, nw⟩ := d
    refine stp_seq (fld "keeps" _ [] [] _ _ _ (by decide +kernel) rfl (by decide +kernel) (by decide) ?_)
    walk_at "evs"
    refine ⟨hx, ?_⟩
    refine stp_seq (fld "amounts" _ ["keeps"] [.tup (ks.map keepD)] _ _ _ (by decide +kernel) rfl (by decide +kernel) (by decide) ?_)
    refine ev_cb ?_
    walk_at "evs"
    refine rcl_listM (show SeqAt (.lst (am.map Da.sc)) _ (am.map Da.sc) from rfl) fun l hl => ?_
    have hlx : x ≠ l := by
      intro e
      subst e
      rw [updM_same] at hl
      cases hl
    have hlM : M l = none := by rw [updM_ne hlx.symm] at hl; exact hl
    refine ⟨by rw [updM_ne hlx]; exact updM_same, ?_⟩
    have e1 : ∀ (o u : MO) (N : MH), updM (updM (updM N x o) l (.lst (am.map Da.sc))) x u = updM (updM N x u) l (.lst (am.map Da.sc)) := by
      intro o u N
      rw [updM_comm hlx, updM_updM, updM_comm hlx.symm]
    rw [e1]
    refine stp_seq (fld "around" _ ["keeps", "amounts"] [.tup (ks.map keepD), .sc (.ref l)] _ _ _ (by decide +kernel) rfl (by decide +kernel) (by decide) ?_)
    walk_at "evs"
    refine ⟨by rw [updM_ne hlx]; exact updM_same, ?_⟩
    rw [e1]
    refine stp_seq (fld "elder" _ ["keeps", "amounts", "around"] [.tup (ks.map keepD), .sc (.ref l), .lst (ar.map thingD)] _ _ _ (by decide +kernel) rfl (by decide +kernel) (by decide) ?_)
    walk_at "evs"
    refine ⟨by rw [updM_ne hlx]; exact updM_same, ?_⟩
    rw [e1]
    refine fld "newer" _ ["keeps", "amounts", "around", "elder"] [.tup (ks.map keepD), .sc (.ref l), .lst (ar.map thingD), optD el] _ _ _ (by decide +kernel) rfl (by decide +kernel) (by decide) ?_
    walk_at "evs"
    refine ⟨by rw [updM_ne hlx]; exact updM_same, ?_⟩
    rw [e1]
    exact hQ l hlM


theorem sc_news : FnScope ["things", "kind", "number"] ["things"] (defScope (top 32)) := ⟨rfl, rfl, rfl, by decide +kernel, rfl, by decide +kernel, by decide +kernel⟩
theorem fn_news {P : Program} {w : World} {K : PySem.W.Frag} {mg : Str → Option Value} {base : Heap} {f : Addr} {fd : FuncData} (F : FnP K "news" "news" (top 32) f fd) (T : Tx w K mg)   : FnOk P w K mg base CX0 1 f fd ["things"] (spOf K (S_news)) := by
  have sc := sc_news
  refine ok_fn (k := 0) F sc (fun ds M Q h => ?_) (fun cdv A outer s H E hr => ?_)
  · obtain ⟨d, ts, rfl, hs, hl, hQ⟩ := h; rfl
  · have hu6 : A.units + 64 < cLine := by have := hr.un; show A.units + 64 < cLine; simp only [Around.deeper] at this; omega
    have hu := hu_of hr
    refine ⟨_, (pss_one (ps_ret (pe_lc (own := [("kind", 1), ("number", 2)]) (by rfl) sc.nd (pi_seq (pv 0)) (blkOk_by (own := [("kind", 1), ("number", 2)]) (N := ["things", "kind", "number"]) (sc := defScope (top 32)) (by decide +kernel)) (fun _ _ _ _ _ => (k_pg_tup (K := K) (n := 2) (by rfl) (pgs_cons (pg_name (i := 1) sc.nd rfl (Or.inl rfl)) (pgs_cons (pg_name (i := 2) sc.nd rfl (Or.inl rfl)) pgs_nil)))) (fun _ _ _ _ _ => pts_nil) (fun _ _ _ _ _ => (pe_tup (pa_cons pe_str (pa_cons (pv 1) (pa_cons (pv 2) pa_nil)))))))), fun ds M Q h => ?_⟩
    obtain ⟨d, ts, rfl, hs, hl, hQ⟩ := h
    try dsimp only [cxOf, Cx.nox]
    walk_at "evs"
    refine ev_lcMap [1, 2] (by decide) (sr_seq ?_)
    walk_at "evs"
    refine ⟨ts.map thingD, hs.elim (fun e => .inl (by rw [e])) (fun e => .inr (by rw [e])), (news ts).map ddD, by simp [news], by simp [news]; omega, ?_, hQ⟩
    intro i d e hd he
    rw [List.getElem?_map] at hd
    obtain ⟨t, ht, rfl⟩ := Option.map_eq_some_iff.mp hd
    unfold news at he
    rw [List.getElem?_map, List.getElem?_map, ht] at he
    obtain rfl := Option.some.inj he
    refine ⟨_, tg_tup (js := [1, 2]) rfl rfl, ?_⟩
    walk_at "evs"
    exact ⟨rfl, rfl⟩

theorem ok_news {P : Program} {w : World} {K : PySem.W.Frag} {mg : Str → Option Value} {base : Heap} {f : Addr} {fd : FuncData} (F : FnP K "news" "news" (top 32) f fd) (g : mg "news" = some (.ref f)) (T : Tx w K mg)   : Cal P w K mg base 1 "news" ["things"] (S_news) :=
  cal_mk F g (fn_news F T ) (F.bindsN fun _ _ _ _ _ _ us hl => match us, hl with | [_], _ => rfl)

theorem sc_crowds : FnScope ["many", "most", "found", "first", "rows", "others", "number", "row", "other"] ["many", "most"] (defScope (top 31)) := ⟨rfl, rfl, rfl, by decide +kernel, rfl, by decide +kernel, by decide +kernel⟩
theorem fn_crowds {P : Program} {w : World} {K : PySem.W.Frag} {mg : Str → Option Value} {base : Heap} {f : Addr} {fd : FuncData} (F : FnP K "crowds" "crowds" (top 31) f fd) (T : Tx w K mg)   : FnOk P w K mg base CX0 1 f fd ["many", "most"] (spOf K (S_crowds)) := by
  have sc := sc_crowds
  refine ok_fn (k := 0) F sc (fun ds M Q h => ?_) (fun cdv A outer s H E hr => ?_)
  · obtain ⟨many, most, rfl, hmost, hmany, hQ⟩ := h; rfl
  · have hu6 : A.units + 64 < cLine := by have := hr.un; show A.units + 64 < cLine; simp only [Around.deeper] at this; omega
    have hu := hu_of hr
    refine ⟨_, (pss_cons (ps_set (i := 2) sc.nd rfl (Or.inl rfl) (pe_lst pa_nil)) (pss_cons (ps_for PassesOwn.never (by rfl) (pi_range2 (by rfl) T.b_range (pa_cons (pe_callB (call_max2 rfl) (by rfl) T.b_max (by decide +kernel) (pa_cons (pe_op op_sub (pv 0) (pv 1)) (pa_cons pe_int pa_nil))) (pa_cons (pe_op op_addA (pe_callB (call_min2 rfl) (by rfl) T.b_min (by decide +kernel) (pa_cons (pv 0) (pa_cons (pv 1) pa_nil))) pe_int) pa_nil))) (pg_name (i := 3) sc.nd rfl (Or.inr rfl)) (pss_cons (ps_set (i := 4) sc.nd rfl (Or.inl rfl) (pe_ifExp (pt_cmpR op_eq (pv 3) pe_int (nomark _)) (pe_lst (pa_cons (pe_tup pa_nil) pa_nil)) (pe_lc (own := [("number", 6)]) (by rfl) sc.nd (pi_seq (pe_glob (v := .ref _) (by rfl) T.g_NUMBERS rfl)) (blkOk_by (own := [("number", 6)]) (N := ["many", "most", "found", "first", "rows", "others", "number", "row", "other"]) (sc := defScope (top 31)) (by decide +kernel)) (fun _ _ _ _ _ => (pg_name (i := 6) sc.nd rfl (Or.inl rfl))) (fun _ _ _ _ _ => pts_nil) (fun _ _ _ _ _ => (pe_op (k_op_mulA (K := K)) (pe_tup (pa_cons (pe_tup (pa_cons pe_int (pa_cons (pv 6) pa_nil))) pa_nil)) (pv 3)))))) (pss_cons (ps_set (i := 5) sc.nd rfl (Or.inr rfl) (pe_ifExp (pt_cmpR op_eq (pv 0) (pv 3) (nomark _)) (pe_lst (pa_cons (pe_tup pa_nil) pa_nil)) (pe_lc (own := [("number", 6)]) (by rfl) sc.nd (pi_seq (pe_glob (v := .ref _) (by rfl) T.g_NUMBERS rfl)) (blkOk_by (own := [("number", 6)]) (N := ["many", "most", "found", "first", "rows", "others", "number", "row", "other"]) (sc := defScope (top 31)) (by decide +kernel)) (fun _ _ _ _ _ => (pg_name (i := 6) sc.nd rfl (Or.inl rfl))) (fun _ _ _ _ _ => pts_nil) (fun _ _ _ _ _ => (pe_op (k_op_mulA (K := K)) (pe_tup (pa_cons (pe_tup (pa_cons pe_int (pa_cons (pv 6) pa_nil))) pa_nil)) (pe_op op_sub (pv 0) (pv 3))))))) (pss_one (ps_set (i := 2) sc.nd rfl (Or.inl rfl) (pe_op op_addA (pv 2) (pe_lc2 (own := [("row", 7), ("other", 8)]) (vs1 := [8]) (by rfl) sc.nd (pi_seq (pv 4)) (blkOk_by (own := [("row", 7), ("other", 8)]) (N := ["many", "most", "found", "first", "rows", "others", "number", "row", "other"]) (sc := defScope (top 31)) (by decide +kernel)) (by decide) (fun _ _ _ _ _ => (pg_name (i := 7) sc.nd rfl (Or.inl rfl))) (fun _ _ _ _ _ => pts_nil) (fun _ _ _ _ _ => (k_pi_seq (K := K) (pv 5))) (fun _ _ _ _ _ => (pg_name (i := 8) sc.nd rfl (Or.inl rfl))) (fun _ _ _ _ _ => pts_nil) (fun _ _ _ _ _ => (pe_op (k_op_addA (K := K)) (pv 7) (pv 8)))))))))) (pss_one (ps_ret (pv 2))))), fun ds M Q h => ?_⟩
    obtain ⟨many, most, rfl, hmost, hmany, hQ⟩ := h
    try dsimp only [cxOf, Cx.nox]
    let lo : Nat := many - most
    let n : Nat := min many most + 1 - lo
    have hcr : crowds many most = (List.range n).flatMap fun i => crowdsAt many (lo + i) := rfl
    have rows : ∀ (i : Nat) (k : Int) (c : Nat) (ρ : Env') (te : TE) (P : Da → MH → Prop), c ≤ 40 → (c ≠ 0 → ∀ (m : Int) (PP : Da → MH → Prop), PP (.tup (List.replicate c (thingD (k, m)))) M → EvP K te ((setAllD (wipeD ρ [6]) [6] [iD m])) M PP) → P (.lst ((rowsOf k c).map crowdD)) M →
        (c ≠ 0 → EvP K (tLc (iSeq K (tC (V.ref (He.ga K "NUMBERS")))) (gName 6) tYes te [6]) ρ M P) := by
      intro i k c ρ te P hc hte q h0
      refine ev_lcMap [6] (by decide) (sr_seq (ev_k T.d_NUMBERS ?_))
      refine ⟨numbers.map iD, .inr rfl, (rowsOf k c).map crowdD, ?_, ?_, ?_, q⟩
      · unfold rowsOf
        rw [if_neg h0, List.length_map, List.length_map, List.length_map]
      · have := rowsOf_le k c
        rw [List.length_map]
        omega
      · intro j d e hd he
        rw [List.getElem?_map] at hd
        obtain ⟨m, hm, rfl⟩ := Option.map_eq_some_iff.mp hd
        unfold rowsOf at he
        rw [if_neg h0, List.getElem?_map, List.getElem?_map, hm] at he
        obtain rfl := Option.some.inj he
        refine ⟨_, tg_name, hte h0 m _ ⟨?_, rfl⟩⟩
        show Da.tup _ = Da.tup (List.map thingD (List.replicate c (k, m)))
        rw [List.map_replicate]
    walk_at "evs"
    refine stp_for (js := [3]) (sr_range2 ?_)
    walk_at "evs"
    refine ⟨⟨by omega, by omega, by omega, by omega⟩, ?_⟩
    have e1 : max ((many : Int) - (most : Int)) 0 = (lo : Int) := by show _ = ((many - most : Nat) : Int); omega
    have e2 : (min (many : Int) (most : Int) + 1 - max ((many : Int) - (most : Int)) 0).toNat = n := by show _ = min many most + 1 - (many - most); omega
    rw [e2, e1]
    refine ⟨fun i ρ' M' => (∃ a b c d e f, ρ' = [some (iD many), some (iD most), some (.lst (((List.range n).take i).flatMap fun i => crowdsAt many (lo + i) |>.map crowdD)), a, b, c, d, e, f]) ∧ M = M', ⟨⟨none, none, none, none, none, none, rfl⟩, rfl⟩, ?_, ?_⟩
    · rintro i d ρ' M' hd ⟨⟨a, b, c, d', e, f, rfl⟩, rfl⟩
      obtain ⟨hi, rfl⟩ := rngD_get hd
      have hin : i < min many most + 1 - (many - most) := hi
      have hfm : lo + i ≤ many ∧ lo + i ≤ 8 := by
        have : lo = many - most := rfl
        omega
      refine ⟨_, tg_name, ?_⟩
      have einc : decide (V.int ((lo : Int) + (i : Int)) = V.int 0) = decide (lo + i = 0) := by
        rw [decInt]
        by_cases h : lo + i = 0
        · rw [decide_eq_true h, decide_eq_true (by omega)]
        · rw [decide_eq_false h, decide_eq_false (by omega)]
      have ein2 : decide (V.int (many : Int) = V.int ((lo : Int) + (i : Int))) = decide (many - (lo + i) = 0) := by
        rw [decInt]
        by_cases h : many - (lo + i) = 0
        · rw [decide_eq_true h, decide_eq_true (by omega)]
        · rw [decide_eq_false h, decide_eq_false (by omega)]
      have mul : ∀ (k m : Int) (c : Nat) (z : Int) (PP : Da → MH → Prop), z = (c : Int) → c ≠ 0 → c ≤ 40 → PP (.tup (List.replicate c (thingD (k, m)))) M → ROp K (rMulA K) (.tup [thingD (k, m)]) (iD z) M PP := by
        intro k m c z PP hz h0 h40 q
        by_cases h1 : c = 1
        · subst h1
          subst hz
          exact rop_or2 (rop_or2 (rop_or2 (rop_oneT q)))
        · refine rop_or2 (rop_or2 (rop_or1 (rop_repT (by intro z; cases z) (by omega) (by omega) (Nat.le_of_ble_eq_true rfl) ?_)))
          have e : z.toNat = c := by omega
          rw [e, replicate_flat]
          exact q
      refine stp_seq (stp_set (ev_ifV (.lst ((rowsOf 0 (lo + i)).map crowdD)) ?_ ?_))
      · walk_at "evs"
        refine ⟨rfl, ?_⟩
        rw [einc]
        refine ifB (fun h => ?_) (fun h => ?_)
        · have h1 := of_decide_eq_true h
          walk_at "evs"
          rw [h1]
          exact ⟨rfl, rfl⟩
        · have h1 := of_decide_eq_false h
          refine rows i 0 (lo + i) _ _ _ (by omega) (fun h0 m PP q => ?_) ⟨rfl, rfl⟩ h1
          walk_at "evs"
          exact mul 0 m (lo + i) _ _ (by omega) h0 (by omega) q
      refine stp_seq (stp_set (ev_ifV (.lst ((rowsOf 1 (many - (lo + i))).map crowdD)) ?_ ?_))
      · walk_at "evs"
        refine ⟨rfl, ?_⟩
        rw [ein2]
        refine ifB (fun h => ?_) (fun h => ?_)
        · have h1 := of_decide_eq_true h
          walk_at "evs"
          rw [h1]
          exact ⟨rfl, rfl⟩
        · have h1 := of_decide_eq_false h
          refine rows i 1 (many - (lo + i)) _ _ _ (by omega) (fun h0 m PP q => ?_) ⟨rfl, rfl⟩ h1
          walk_at "evs"
          exact mul 1 m (many - (lo + i)) _ _ (by omega) h0 (by omega) q
      refine stp_set ?_
      walk_at "evs"
      have hr1 := rowsOf_le 0 (lo + i)
      have hr2 := rowsOf_le 1 (many - (lo + i))
      refine ev_lc2Map [7] [8] (by decide) (by decide) (sr_seq ?_)
      walk_at "evs"
      have hfl : ((rowsOf 0 (lo + i)).map fun r => (rowsOf 1 (many - (lo + i))).map fun o => crowdD (r ++ o)).flatten = (crowdsAt many (lo + i)).map crowdD := by
        unfold crowdsAt
        rw [List.map_flatMap, ← List.flatMap_def]
        congr 1
        funext r
        rw [List.map_map]
        rfl
      have hca := crowdsAt_le many (lo + i)
      refine ⟨_, .inl rfl, (rowsOf 0 (lo + i)).map fun r => (rowsOf 1 (many - (lo + i))).map fun o => crowdD (r ++ o), by rw [List.length_map, List.length_map], by rw [hfl, List.length_map]; omega, ?_, ?_⟩
      · intro j d es hd he
        rw [List.getElem?_map] at hd he
        obtain ⟨r, hr, rfl⟩ := Option.map_eq_some_iff.mp hd
        rw [hr] at he
        obtain rfl := Option.some.inj he
        have hrl := rowsOf_mem (List.mem_of_getElem? hr)
        refine ⟨_, tg_name, sr_seq ?_⟩
        walk_at "evs"
        refine ⟨_, .inl rfl, rfl, by rw [List.length_map, List.length_map], ?_⟩
        intro l f e hf hee
        rw [List.getElem?_map] at hf hee
        obtain ⟨o, ho, rfl⟩ := Option.map_eq_some_iff.mp hf
        rw [ho] at hee
        obtain rfl := Option.some.inj hee
        have hol := rowsOf_mem (List.mem_of_getElem? ho)
        refine ⟨_, tg_name, ?_⟩
        refine ev_op (ev_var rfl (ev_var rfl (rop_or2 (rop_or1 (rop_catA (by rw [List.length_map, List.length_map]; omega) ⟨?_, rfl⟩)))))
        show Da.tup _ = Da.tup (List.map thingD (r ++ o))
        rw [List.map_append]
      · rw [hfl]
        have hb := flatMap_le (f := fun i => (crowdsAt many (lo + i)).map crowdD) (c := 16) (fun i => by rw [List.length_map]; exact crowdsAt_le _ _) ((List.range n).take i)
        have hb2 : ((List.range n).take i).length ≤ 20 := by
          rw [List.length_take]
          omega
        refine rop_or2 (rop_or2 ?_)
        refine rop_cat (show _ = _ from rfl) (show _ = _ from rfl) (by rw [List.length_map]; omega) ?_
        have hfin : (((List.range n).take i).flatMap fun i => (crowdsAt many (lo + i)).map crowdD) ++ (crowdsAt many (lo + i)).map crowdD = ((List.range n).take (i + 1)).flatMap fun i => (crowdsAt many (lo + i)).map crowdD := by
          rw [take_succ_some (List.getElem?_range hi), List.flatMap_append, List.flatMap_singleton]
        rw [hfin]
        exact ⟨⟨_, _, _, _, _, _, rfl⟩, rfl⟩
    · rintro ρ' M' ⟨⟨a, b, c, d, e, f, rfl⟩, rfl⟩
      walk_at "evs"
      rw [rngD_length, ← List.map_flatMap, List.take_of_length_le (Nat.le_of_eq List.length_range)]
      exact hQ

theorem ok_crowds {P : Program} {w : World} {K : PySem.W.Frag} {mg : Str → Option Value} {base : Heap} {f : Addr} {fd : FuncData} (F : FnP K "crowds" "crowds" (top 31) f fd) (g : mg "crowds" = some (.ref f)) (T : Tx w K mg)   : Cal P w K mg base 1 "crowds" ["many", "most"] (S_crowds) :=
  cal_mk F g (fn_crowds F T ) (F.bindsN fun _ _ _ _ _ _ us hl => match us, hl with | [_, _], _ => rfl)

theorem sc_is_right : FnScope ["program"] ["program"] (defScope (top 37)) := ⟨rfl, rfl, rfl, by decide +kernel, rfl, by decide +kernel, by decide +kernel⟩
theorem fn_is_right {P : Program} {w : World} {K : PySem.W.Frag} {mg : Str → Option Value} {base : Heap} {f : Addr} {fd : FuncData} (F : FnP K "is_right" "is_right" (top 37) f fd) (T : Tx w K mg) (c_lie : Cal P w K mg base 6 "lie" ["program"] (S_lie (He.ga K "Program")))  : FnOk P w K mg base CX0 7 f fd ["program"] (spOf K (S_is_right (He.ga K "Program"))) := by
  have sc := sc_is_right
  refine ok_fn (k := 6) F sc (fun ds M Q h => ?_) (fun cdv A outer s H E hr => ?_)
  · obtain ⟨p, rfl, hv, hQ⟩ := h; rfl
  · have hu6 : A.units + 64 < cLine := by have := hr.un; show A.units + 64 < cLine; simp only [Around.deeper] at this; omega
    have hu := hu_of hr
    refine ⟨_, (pss_one (ps_ret (pe_cmpR op_isN1 (pe_calD c_lie (hr.mono (by first | decide | exact Nat.le_refl _)) (by rfl) (pa_cons (pv 0) pa_nil)) pe_non (nomark _)))), fun ds M Q h => ?_⟩
    obtain ⟨p, rfl, hv, hQ⟩ := h
    try dsimp only [cxOf, Cx.nox]
    walk_at "evs"
    refine ⟨p, rfl, hv, ?_⟩
    cases hl : lie p with
    | none =>
      have e : isRight p = true := by unfold isRight; rw [hl]; rfl
      rw [e] at hQ
      walk_at "evs"
      exact hQ
    | some x =>
      have e : isRight p = false := by unfold isRight; rw [hl]; rfl
      rw [e] at hQ
      walk_at "evs"
      exact hQ

theorem ok_is_right {P : Program} {w : World} {K : PySem.W.Frag} {mg : Str → Option Value} {base : Heap} {f : Addr} {fd : FuncData} (F : FnP K "is_right" "is_right" (top 37) f fd) (g : mg "is_right" = some (.ref f)) (T : Tx w K mg) (c_lie : Cal P w K mg base 6 "lie" ["program"] (S_lie (He.ga K "Program")))  : Cal P w K mg base 7 "is_right" ["program"] (S_is_right (He.ga K "Program")) :=
  cal_mk F g (fn_is_right F T c_lie) (F.bindsN fun _ _ _ _ _ _ us hl => match us, hl with | [_], _ => rfl)

theorem sc_lie : FnScope ["program", "most", "many", "found"] ["program"] (defScope (top 36)) := ⟨rfl, rfl, rfl, by decide +kernel, rfl, by decide +kernel, by decide +kernel⟩
theorem fn_lie {P : Program} {w : World} {K : PySem.W.Frag} {mg : Str → Option Value} {base : Heap} {f : Addr} {fd : FuncData} (F : FnP K "lie" "lie" (top 36) f fd) (T : Tx w K mg) (c_most_others : Cal P w K mg base 3 "most_others" ["program"] (S_most_others (He.ga K "Program"))) (c_lie_of_new : Cal P w K mg base 5 "lie_of_new" ["program", "many", "most"] (S_lie_of_new (He.ga K "Program"))) (c_lie_of_old : Cal P w K mg base 5 "lie_of_old" ["program", "many", "most"] (S_lie_of_old (He.ga K "Program")))  : FnOk P w K mg base CX0 6 f fd ["program"] (spOf K (S_lie (He.ga K "Program"))) := by
  have sc := sc_lie
  refine ok_fn (k := 5) F sc (fun ds M Q h => ?_) (fun cdv A outer s H E hr => ?_)
  · obtain ⟨p, rfl, hv, hQ⟩ := h; rfl
  · have hu6 : A.units + 64 < cLine := by have := hr.un; show A.units + 64 < cLine; simp only [Around.deeper] at this; omega
    have hu := hu_of hr
    refine ⟨_, (pss_cons (ps_set (i := 1) sc.nd rfl (Or.inl rfl) (pe_calD c_most_others (hr.mono (by first | decide | exact Nat.le_refl _)) (by rfl) (pa_cons (pv 0) pa_nil))) (pss_cons (ps_for PassesOwn.never (by rfl) (pi_range1 (by rfl) T.b_range (pa_cons (pe_op op_addA (pe_op op_mulA pe_int (pv 1)) pe_int) pa_nil)) (pg_name (i := 2) sc.nd rfl (Or.inl rfl)) (pss_cons (ps_set (i := 3) sc.nd rfl (Or.inl rfl) (pe_ifExp (pt_cmpR op_le (pv 2) (pe_op op_mulA pe_int (pv 1)) (nomark _)) (pe_calD c_lie_of_new (hr.mono (by first | decide | exact Nat.le_refl _)) (by rfl) (pa_cons (pv 0) (pa_cons (pv 2) (pa_cons (pv 1) pa_nil)))) pe_non)) (pss_cons (ps_if (PW.pt (pw_and (pt_cmpR op_isN1 (pv 3) pe_non (nomark _)) (pw_and1 (pt_cmpR op_gt (pv 2) pe_int (nomark _))))) (pss_one (ps_set (i := 3) sc.nd rfl (Or.inl rfl) (pe_calD c_lie_of_old (hr.mono (by first | decide | exact Nat.le_refl _)) (by rfl) (pa_cons (pv 0) (pa_cons (pe_op op_sub (pv 2) pe_int) (pa_cons (pv 1) pa_nil)))))) pss_nil) (pss_one (ps_if (pt_cmpR op_notN1 (pv 3) pe_non (nomark _)) (pss_one (ps_ret (pv 3))) pss_nil))))) (pss_one (ps_ret pe_non)))), fun ds M Q h => ?_⟩
    obtain ⟨p, rfl, hv, hQ⟩ := h
    try dsimp only [cxOf, Cx.nox]
    have hm1 := mostOthers_le hv
    have hm2 := mostOthers_ge p
    have hl : lie p = (List.range (2 * mostOthers p + 2)).findSome? (lieAt p (mostOthers p)) := rfl
    walk_at "evs"
    refine ⟨p, rfl, hv, ?_⟩
    refine stp_seq (stp_for (js := [2]) (sr_range1 ?_))
    walk_at "evs"
    try refine rop_or1 (rop_I (.inl (by decide)) ?_)
    walk_at "evs"
    refine ⟨by omega, by omega, ?_⟩
    have en : (2 * (mostOthers p : Int) + 2).toNat = 2 * mostOthers p + 2 := by omega
    rw [en]
    refine ⟨fun i ρ' M' => (∃ a b, ρ' = [some (progD (He.ga K "Program") p), some (iD (mostOthers p)), a, b]) ∧ M = M' ∧ ((List.range (2 * mostOthers p + 2)).take i).findSome? (lieAt p (mostOthers p)) = none, ⟨⟨none, none, rfl⟩, rfl, rfl⟩, ?_, ?_⟩
    · rintro i d ρ' M' hd ⟨⟨a, b, rfl⟩, rfl, hno⟩
      obtain ⟨hi, rfl⟩ := rngD_get hd
      rw [Int.zero_add]
      have hri : (List.range (2 * mostOthers p + 2))[i]? = some i := List.getElem?_range hi
      refine ⟨_, tg_name, ?_⟩
      have hat : lieAt p (mostOthers p) i = match (if i ≤ 2 * mostOthers p then lieOfNew p i (mostOthers p) else none) with
        | some x => some x
        | none => if 0 < i then lieOfOld p (i - 1) (mostOthers p) else none := rfl
      generalize hnw : (if i ≤ 2 * mostOthers p then lieOfNew p i (mostOthers p) else none) = nw at hat
      refine stp_seq (stp_set (ev_ifV (lieD nw) ?_ ?_))
      · walk_at "evs"
        try refine rop_or1 (rop_I (.inl (by decide)) ?_)
        walk_at "evs"
        refine ⟨rfl, ?_⟩
        refine ifB (fun h => ?_) (fun h => ?_)
        · have h1 : i ≤ 2 * mostOthers p := by have := of_decide_eq_true h; omega
          rw [if_pos h1] at hnw
          subst hnw
          walk_at "evs"
          exact ⟨p, i, mostOthers p, rfl, hv, by omega, by omega, rfl, rfl⟩
        · have h1 : ¬ i ≤ 2 * mostOthers p := by have := of_decide_eq_false h; omega
          rw [if_neg h1] at hnw
          subst hnw
          walk_at "evs"
          exact ⟨rfl, rfl⟩
      cases nw with
      | some x =>
        have hat : lieAt p (mostOthers p) i = some x := hat
        walk_at "evs"
        rw [hl, findSome_hit hri hno hat] at hQ
        exact hQ
      | none =>
        have hat : lieAt p (mostOthers p) i = if 0 < i then lieOfOld p (i - 1) (mostOthers p) else none := hat
        walk_at "evs"
        refine ifB (fun h => ?_) (fun h => ?_)
        · have h1 : 0 < i := by have := of_decide_eq_true h; omega
          rw [if_pos h1] at hat
          have h2 : (i : Int) - 1 = ((i - 1 : Nat) : Int) := by omega
          walk_at "evs"
          refine ⟨p, i - 1, mostOthers p, by rw [h2], hv, by omega, by omega, ?_⟩
          cases ho : lieOfOld p (i - 1) (mostOthers p) with
          | none =>
            rw [ho] at hat
            walk_at "evs"
            exact ⟨⟨_, _, rfl⟩, rfl, findSome_snoc hri hno hat⟩
          | some x =>
            rw [ho] at hat
            walk_at "evs"
            rw [hl, findSome_hit hri hno hat] at hQ
            exact hQ
        · have h1 : ¬ 0 < i := by have := of_decide_eq_false h; omega
          rw [if_neg h1] at hat
          walk_at "evs"
          exact ⟨⟨_, _, rfl⟩, rfl, findSome_snoc hri hno hat⟩
    · rintro ρ' M' ⟨⟨a, b, rfl⟩, rfl, hall⟩
      walk_at "evs"
      rw [rngD_length, List.take_of_length_le (Nat.le_of_eq List.length_range)] at hall
      rw [hl, hall] at hQ
      exact hQ

theorem ok_lie {P : Program} {w : World} {K : PySem.W.Frag} {mg : Str → Option Value} {base : Heap} {f : Addr} {fd : FuncData} (F : FnP K "lie" "lie" (top 36) f fd) (g : mg "lie" = some (.ref f)) (T : Tx w K mg) (c_most_others : Cal P w K mg base 3 "most_others" ["program"] (S_most_others (He.ga K "Program"))) (c_lie_of_new : Cal P w K mg base 5 "lie_of_new" ["program", "many", "most"] (S_lie_of_new (He.ga K "Program"))) (c_lie_of_old : Cal P w K mg base 5 "lie_of_old" ["program", "many", "most"] (S_lie_of_old (He.ga K "Program")))  : Cal P w K mg base 6 "lie" ["program"] (S_lie (He.ga K "Program")) :=
  cal_mk F g (fn_lie F T c_most_others c_lie_of_new c_lie_of_old) (F.bindsN fun _ _ _ _ _ _ us hl => match us, hl with | [_], _ => rfl)

theorem sc__law_begin : FnScope ["_law_script"] ["_law_script"] (defScope (top 46)) := ⟨rfl, rfl, rfl, by decide +kernel, rfl, by decide +kernel, by decide +kernel⟩
theorem fn__law_begin {P : Program} {w : World} {K : PySem.W.Frag} {mg : Str → Option Value} {base : Heap} {f : Addr} {fd : FuncData} (F : FnP K "_law_begin" "_law_begin" (top 46) f fd) (T : Tx w K mg)   : FnOk P w K mg base CX0 1 f fd ["_law_script"] (spOf K (S_law_begin)) := by
  have sc := sc__law_begin
  refine ok_fn (k := 0) F sc (fun ds M Q h => ?_) (fun cdv A outer s H E hr => ?_)
  · obtain ⟨script, rfl, hQ⟩ := h; rfl
  · have hu6 : A.units + 64 < cLine := by have := hr.un; show A.units + 64 < cLine; simp only [Around.deeper] at this; omega
    have hu := hu_of hr
    refine ⟨_, (pss_one (ps_ret (pe_lst (pa_cons (pe_callTy call_list_of (by rfl) T.b_list (by decide +kernel) (pa_cons (pv 0) pa_nil)) (pa_cons pe_int (pa_cons pe_int (pa_cons pe_int pa_nil))))))), fun ds M Q h => ?_⟩
    obtain ⟨script, rfl, hQ⟩ := h
    try dsimp only [cxOf, Cx.nox]
    refine stp_ret (ev_lstM ?_)
    walk_at "evs"
    refine rcl_list (show SeqAt (.ro (script.map iD)) M (script.map iD) from rfl) ?_
    walk_at "evs"
    exact hQ

theorem ok__law_begin {P : Program} {w : World} {K : PySem.W.Frag} {mg : Str → Option Value} {base : Heap} {f : Addr} {fd : FuncData} (F : FnP K "_law_begin" "_law_begin" (top 46) f fd) (g : mg "_law_begin" = some (.ref f)) (T : Tx w K mg)   : Cal P w K mg base 1 "_law_begin" ["_law_script"] (S_law_begin) :=
  cal_mk F g (fn__law_begin F T ) (F.bindsN fun _ _ _ _ _ _ us hl => match us, hl with | [_], _ => rfl)

theorem sc__law_draw : FnScope ["_law_draws", "_law_many", "_law_cell", "_law_found"] ["_law_draws", "_law_many"] (defScope (top 47)) := ⟨rfl, rfl, rfl, by decide +kernel, rfl, by decide +kernel, by decide +kernel⟩
theorem fn__law_draw {P : Program} {w : World} {K : PySem.W.Frag} {mg : Str → Option Value} {base : Heap} {f : Addr} {fd : FuncData} (F : FnP K "_law_draw" "_law_draw" (top 47) f fd) (T : Tx w K mg)   : FnOk P w K mg base CX0 1 f fd ["_law_draws", "_law_many"] (spOf K (S_law_draw)) := by
  have sc := sc__law_draw
  refine ok_fn (k := 0) F sc (fun ds M Q h => ?_) (fun cdv A outer s H E hr => ?_)
  · obtain ⟨a, st, many, rfl, hm, hok, h1, h2, hQ⟩ := h; rfl
  · have hu6 : A.units + 64 < cLine := by have := hr.un; show A.units + 64 < cLine; simp only [Around.deeper] at this; omega
    have hu := hu_of hr
    refine ⟨_, (pss_cons (ps_if (pt_cmpR op_eq (pe_ix ix_seq (pv 0) pe_int (fun _ _ => rfl)) pe_int (nomark _)) (pss_one (ps_if (pt_cmpR op_lt (pe_ix ix_seq (pv 0) pe_int (fun _ _ => rfl)) (pe_callB call_len (by rfl) T.b_len (by decide +kernel) (pa_cons (pe_ix ix_seq (pv 0) pe_int (fun _ _ => rfl)) pa_nil)) (nomark _)) (pss_cons (ps_set (i := 2) sc.nd rfl (Or.inl rfl) (pe_ix ix_seq (pe_ix ix_seq (pv 0) pe_int (fun _ _ => rfl)) (pe_ix ix_seq (pv 0) pe_int (fun _ _ => rfl)) (fun _ _ => rfl))) (pss_cons (ps_asg (pe_op op_addA (pe_ix ix_seq (pv 0) pe_int (fun _ _ => rfl)) pe_int) (pg_sub (pv 0) pe_int set_list)) (pss_one (ps_if (pt_cmpR op_ge (pv 2) (pe_op op_pow pe_int pe_int) (nomark _)) (pss_one (ps_asg (pv 2) (pg_sub (pv 0) pe_int set_list))) (pss_one (ps_asg (pe_op op_mod (pe_callTy call_int1 (by rfl) T.b_int (by decide +kernel) (pa_cons (pe_op op_addA (pe_op op_addA (pe_op op_mulA (pe_ix ix_seq (pv 0) pe_int (fun _ _ => rfl)) pe_int) (pe_op op_mulA (pv 2) pe_int)) pe_int) pa_nil)) pe_int) (pg_sub (pv 0) pe_int set_list))))))) (pss_one (ps_asg (pe_op op_mod (pe_callTy call_int1 (by rfl) T.b_int (by decide +kernel) (pa_cons (pe_op op_addA (pe_op op_mulA (pe_ix ix_seq (pv 0) pe_int (fun _ _ => rfl)) pe_int) pe_int) pa_nil)) pe_int) (pg_sub (pv 0) pe_int set_list))))) pss_nil) (pss_cons (ps_if (pt_cmpR op_gt (pe_ix ix_seq (pv 0) pe_int (fun _ _ => rfl)) pe_int (nomark _)) (pss_cons (ps_set (i := 3) sc.nd rfl (Or.inl rfl) (pe_op op_mod (pe_callTy call_int1 (by rfl) T.b_int (by decide +kernel) (pa_cons (pe_ix ix_seq (pv 0) pe_int (fun _ _ => rfl)) pa_nil)) (pv 1))) (pss_cons (ps_asg (pe_op op_fdiv (pe_ix ix_seq (pv 0) pe_int (fun _ _ => rfl)) (pv 1)) (pg_sub (pv 0) pe_int set_list)) (pss_one (ps_ret (pv 3))))) pss_nil) (pss_one (ps_ret (pe_op op_mod (pe_op op_mod (pe_callTy call_int1 (by rfl) T.b_int (by decide +kernel) (pa_cons (pe_op op_mulA (pe_ix ix_seq (pv 0) pe_int (fun _ _ => rfl)) pe_int) pa_nil)) pe_int) (pv 1)))))), fun ds M Q h => ?_⟩
    obtain ⟨a, st, many, rfl, hm, hok, h1, h2, hQ⟩ := h
    try dsimp only [cxOf, Cx.nox]
    obtain ⟨sc0, pos, big, seed⟩ := st
    obtain ⟨hp, hb⟩ := hok
    have hp : 0 ≤ pos := hp
    have hb : 0 ≤ big := hb
    refine stp_cut (fun ρ' M' => ∃ (st' : DrSt) (x : Option Da), st'.Ok ∧ ρ' = [some (.sc (.ref a)), some (iD many), x, none] ∧ updM M a (.lst st'.l) = M') ?_ ?_
    · walk_at "evs"
      refine ifB (fun hz => ?_) (fun hz => ?_)
      · walk_at "evs"
        have hlen : (Da.lst (sc0.map iD)) = Da.lst (sc0.map iD) := rfl
        rw [List.length_map]
        refine ifB (fun hlt => ?_) (fun hlt => ?_)
        · have hlt : pos < (sc0.length : Int) := of_decide_eq_true hlt
          obtain ⟨j, rfl⟩ := Int.eq_ofNat_of_zero_le hp
          have hj : j < sc0.length := by omega
          have hat : atI (sc0.map iD) (j : Int) = some (iD sc0[j]) := atI_nat (by rw [List.getElem?_map, List.getElem?_eq_getElem hj] <;> rfl)
          walk_at "evs"
          try refine rop_ix_L hat ?_
          walk_at "evs"
          refine ifB (fun hge => ?_) (fun hge => ?_)
          · walk_at "evs"
            rw [updM_updM]
            have hge : (10 : Int) ^ 18 ≤ sc0[j] := of_decide_eq_true hge
            have h10 : (0 : Int) ≤ 10 ^ 18 := by decide
            refine ⟨⟨sc0, (j : Int) + 1, sc0[j], seed⟩, _, ⟨?_, Int.le_trans h10 hge⟩, rfl, rfl⟩
            show (0 : Int) ≤ (j : Int) + 1
            omega
          · walk_at "evs"
            rw [updM_updM]
            refine ⟨⟨sc0, (j : Int) + 1, big, (seed * 48271 + sc0[j] * 69621 + 11) % 2147483647⟩, _, ⟨?_, hb⟩, rfl, rfl⟩
            show (0 : Int) ≤ (j : Int) + 1
            omega
        · walk_at "evs"
          exact ⟨⟨sc0, pos, big, (seed * 48271 + 7) % 2147483647⟩, none, ⟨hp, hb⟩, rfl, rfl⟩
      · walk_at "evs"
        exact ⟨⟨sc0, pos, big, seed⟩, none, ⟨hp, hb⟩, rfl, updM_id hm⟩
    · rintro ρ' M' ⟨⟨sc1, pos, big, seed⟩, x, ⟨hp, hb⟩, rfl, rfl⟩
      have hp : 0 ≤ pos := hp
      have hb : 0 ≤ big := hb
      have hm0 : (0 : Int) < (many : Int) := by omega
      have fin : ∀ (z : Int) (big' : Int) (Mz : MH), 0 ≤ z → z < (many : Int) → 0 ≤ big' → Mz = updM M a (.lst (DrSt.l ⟨sc1, pos, big', seed⟩)) → Q (iD z) Mz := by
        intro z big' Mz h0 hlt hb' e
        obtain ⟨r, rfl⟩ := Int.eq_ofNat_of_zero_le h0
        rw [e]
        exact hQ r ⟨sc1, pos, big', seed⟩ ⟨hp, hb'⟩ (by omega)
      walk_at "evs"
      refine ifB (fun h => ?_) (fun h => ?_)
      · walk_at "evs"
        try refine rop_I ⟨hm0, by omega⟩ ?_
        walk_at "evs"
        rw [updM_updM]
        exact fin _ (big / (many : Int)) _ (Int.emod_nonneg _ (by omega)) (Int.emod_lt_of_pos _ hm0) (Int.ediv_nonneg hb (by omega)) rfl
      · walk_at "evs"
        exact fin _ big _ (Int.emod_nonneg _ (by omega)) (Int.emod_lt_of_pos _ hm0) hb rfl

theorem ok__law_draw {P : Program} {w : World} {K : PySem.W.Frag} {mg : Str → Option Value} {base : Heap} {f : Addr} {fd : FuncData} (F : FnP K "_law_draw" "_law_draw" (top 47) f fd) (g : mg "_law_draw" = some (.ref f)) (T : Tx w K mg)   : Cal P w K mg base 1 "_law_draw" ["_law_draws", "_law_many"] (S_law_draw) :=
  cal_mk F g (fn__law_draw F T ) (F.bindsN fun _ _ _ _ _ _ us hl => match us, hl with | [_, _], _ => rfl)

theorem sc__law_keep : FnScope ["_law_draws"] ["_law_draws"] (defScope (top 48)) := ⟨rfl, rfl, rfl, by decide +kernel, rfl, by decide +kernel, by decide +kernel⟩
theorem fn__law_keep {P : Program} {w : World} {K : PySem.W.Frag} {mg : Str → Option Value} {base : Heap} {f : Addr} {fd : FuncData} (F : FnP K "_law_keep" "_law_keep" (top 48) f fd) (T : Tx w K mg) (c__law_draw : Cal P w K mg base 1 "_law_draw" ["_law_draws", "_law_many"] (S_law_draw))  : FnOk P w K mg base CX0 2 f fd ["_law_draws"] (spOf K (S_law_keep)) := by
  have sc := sc__law_keep
  refine ok_fn (k := 1) F sc (fun ds M Q h => ?_) (fun cdv A outer s H E hr => ?_)
  · obtain ⟨a, st, rfl, hm, hok, hQ⟩ := h; rfl
  · have hu6 : A.units + 64 < cLine := by have := hr.un; show A.units + 64 < cLine; simp only [Around.deeper] at this; omega
    have hu := hu_of hr
    refine ⟨_, (pss_one (ps_ret (pe_tup (pa_cons (pe_ix ix_seq (pe_lst (pa_cons pe_str (pa_cons pe_str (pa_cons pe_str (pa_cons pe_str pa_nil))))) (pe_calD c__law_draw (hr.mono (by first | decide | exact Nat.le_refl _)) (by rfl) (pa_cons (pv 0) (pa_cons pe_int pa_nil))) (fun _ _ => rfl)) (pa_cons (pe_ix ix_seq (pe_lst (pa_cons pe_non (pa_cons pe_int (pa_cons pe_int pa_nil)))) (pe_calD c__law_draw (hr.mono (by first | decide | exact Nat.le_refl _)) (by rfl) (pa_cons (pv 0) (pa_cons pe_int pa_nil))) (fun _ _ => rfl)) pa_nil))))), fun ds M Q h => ?_⟩
    obtain ⟨a, st, rfl, hm, hok, hQ⟩ := h
    try dsimp only [cxOf, Cx.nox]
    walk_at "evs"
    refine ⟨a, st, 4, rfl, hm, hok, by decide, by decide, ?_⟩
    intro r st1 hok1 hr
    have hx : ∃ w : What, atI [sD "count", sD "sum", sD "most", sD "any"] (r : Int) = some (sD w.s) := by
      match r, hr with
      | 0, _ => exact ⟨.count, rfl⟩
      | 1, _ => exact ⟨.sum, rfl⟩
      | 2, _ => exact ⟨.most, rfl⟩
      | 3, _ => exact ⟨.any, rfl⟩
    obtain ⟨w', hw⟩ := hx
    refine rop_ix_L hw ?_
    walk_at "evs"
    refine ⟨a, st1, 3, rfl, updM_same, hok1, by decide, by decide, ?_⟩
    intro r2 st2 hok2 hr2
    have hy : ∃ k : Option Int, (k = none ∨ k = some 0 ∨ k = some 1) ∧ atI [Da.sc .non, iD 0, iD 1] (r2 : Int) = some (kindD k) := by
      match r2, hr2 with
      | 0, _ => exact ⟨none, .inl rfl, rfl⟩
      | 1, _ => exact ⟨some 0, .inr (.inl rfl), rfl⟩
      | 2, _ => exact ⟨some 1, .inr (.inr rfl), rfl⟩
    obtain ⟨k, hk, hw2⟩ := hy
    refine rop_ix_L hw2 ?_
    walk_at "evs"
    rw [updM_updM]
    exact hQ ⟨w', k⟩ st2 hok2 hk

theorem ok__law_keep {P : Program} {w : World} {K : PySem.W.Frag} {mg : Str → Option Value} {base : Heap} {f : Addr} {fd : FuncData} (F : FnP K "_law_keep" "_law_keep" (top 48) f fd) (g : mg "_law_keep" = some (.ref f)) (T : Tx w K mg) (c__law_draw : Cal P w K mg base 1 "_law_draw" ["_law_draws", "_law_many"] (S_law_draw))  : Cal P w K mg base 2 "_law_keep" ["_law_draws"] (S_law_keep) :=
  cal_mk F g (fn__law_keep F T c__law_draw) (F.bindsN fun _ _ _ _ _ _ us hl => match us, hl with | [_], _ => rfl)

theorem sc__law_under : FnScope ["_law_keep_here", "_law_word", "_law_step_here"] ["_law_keep_here", "_law_word", "_law_step_here"] (defScope (top 49)) := ⟨rfl, rfl, rfl, by decide +kernel, rfl, by decide +kernel, by decide +kernel⟩
theorem fn__law_under {P : Program} {w : World} {K : PySem.W.Frag} {mg : Str → Option Value} {base : Heap} {f : Addr} {fd : FuncData} (F : FnP K "_law_under" "_law_under" (top 49) f fd) (T : Tx w K mg)   : FnOk P w K mg base CX0 1 f fd ["_law_keep_here", "_law_word", "_law_step_here"] (spOf K (S_law_under)) := by
  have sc := sc__law_under
  refine ok_fn (k := 0) F sc (fun ds M Q h => ?_) (fun cdv A outer s H E hr => ?_)
  · obtain ⟨kp, wd, c, rfl, hQ⟩ := h; rfl
  · have hu6 : A.units + 64 < cLine := by have := hr.un; show A.units + 64 < cLine; simp only [Around.deeper] at this; omega
    have hu := hu_of hr
    refine ⟨_, (pss_cons (ps_if (pt_cmpR op_isN1 (pe_ix ix_seq (pv 0) pe_int (fun _ _ => rfl)) pe_non (nomark _)) (pss_one (ps_ret (pv 2))) pss_nil) (pss_one (ps_ret (pe_tup (pa_cons pe_str (pa_cons (pe_tup (pa_cons (pv 1) (pa_cons (pe_ix ix_seq (pv 0) pe_int (fun _ _ => rfl)) pa_nil))) (pa_cons (pv 2) pa_nil))))))), fun ds M Q h => ?_⟩
    obtain ⟨kp, wd, c, rfl, hQ⟩ := h
    try dsimp only [cxOf, Cx.nox]
    obtain ⟨kw, kk⟩ := kp
    cases kk with
    | none =>
      walk_at "evs"
      exact hQ
    | some z => cases wd <;> (walk_at "evs"; exact hQ)

theorem ok__law_under {P : Program} {w : World} {K : PySem.W.Frag} {mg : Str → Option Value} {base : Heap} {f : Addr} {fd : FuncData} (F : FnP K "_law_under" "_law_under" (top 49) f fd) (g : mg "_law_under" = some (.ref f)) (T : Tx w K mg)   : Cal P w K mg base 1 "_law_under" ["_law_keep_here", "_law_word", "_law_step_here"] (S_law_under) :=
  cal_mk F g (fn__law_under F T ) (F.bindsN fun _ _ _ _ _ _ us hl => match us, hl with | [_, _, _], _ => rfl)

theorem sc__law_right : FnScope ["_law_draws", "_law_most", "_law_keeps", "_law_new", "_law_change", "_law_drop", "_law_k", "_law_what", "_law_first", "_law_second"] ["_law_draws", "_law_most"] (defScope (top 50)) := ⟨rfl, rfl, rfl, by decide +kernel, rfl, by decide +kernel, by decide +kernel⟩
theorem fn__law_right {P : Program} {w : World} {K : PySem.W.Frag} {mg : Str → Option Value} {base : Heap} {f : Addr} {fd : FuncData} (F : FnP K "_law_right" "_law_right" (top 50) f fd) (T : Tx w K mg) (c__law_draw : Cal P w K mg base 1 "_law_draw" ["_law_draws", "_law_many"] (S_law_draw)) (c__law_keep : Cal P w K mg base 2 "_law_keep" ["_law_draws"] (S_law_keep)) (c__law_under : Cal P w K mg base 1 "_law_under" ["_law_keep_here", "_law_word", "_law_step_here"] (S_law_under))  : FnOk P w K mg base CX0 3 f fd ["_law_draws", "_law_most"] (spOf K (S_law_right)) := by
  have sc := sc__law_right
  refine ok_fn (k := 2) F sc (fun ds M Q h => ?_) (fun cdv A outer s H E hr => ?_)
  · obtain ⟨a, st, most, rfl, hm, hok, h1, h2, hQ⟩ := h; rfl
  · have hu6 : A.units + 64 < cLine := by have := hr.un; show A.units + 64 < cLine; simp only [Around.deeper] at this; omega
    have hu := hu_of hr
    refine ⟨_, (pss_cons (ps_setLc (i := 2) (own := [("_law_k", 6)]) (by rfl) sc.nd rfl rfl (sw_true rfl rfl rfl (by decide +kernel)) (pi_range1 (by rfl) T.b_range (pa_cons (pe_op op_addA pe_int (pe_calD c__law_draw (hr.mono (by first | decide | exact Nat.le_refl _)) (by rfl) (pa_cons (pv 0) (pa_cons (pv 1) pa_nil)))) pa_nil)) (blkOk_by (own := [("_law_k", 6)]) (N := ["_law_draws", "_law_most", "_law_keeps", "_law_new", "_law_change", "_law_drop", "_law_k", "_law_what", "_law_first", "_law_second"]) (sc := defScope (top 50)) (by decide +kernel)) (fun _ _ _ _ _ => (pg_name (i := 6) sc.nd rfl (Or.inl rfl))) (fun _ _ _ _ _ => pts_nil) (fun _ _ _ _ _ => (k_calD (K := K) c__law_keep (hr.mono (by first | decide | exact Nat.le_refl _)) (by rfl) (pa_cons (pv 0) pa_nil)))) (pss_cons (ps_set (i := 3) sc.nd rfl (Or.inl rfl) (pe_lst pa_nil)) (pss_cons (ps_set (i := 4) sc.nd rfl (Or.inl rfl) (pe_lst pa_nil)) (pss_cons (ps_set (i := 5) sc.nd rfl (Or.inl rfl) (pe_lst pa_nil)) (pss_cons (ps_for PassesOwn.never (by rfl) (pi_range1 (by rfl) T.b_range (pa_cons (pe_callB call_len (by rfl) T.b_len (by decide +kernel) (pa_cons (pv 2) pa_nil)) pa_nil)) (pg_name (i := 6) sc.nd rfl (Or.inl rfl)) (pss_cons (ps_set (i := 7) sc.nd rfl (Or.inl rfl) (pe_ix ix_seq (pe_ix ix_seq (pv 2) (pv 6) (fun _ _ => rfl)) pe_int (fun _ _ => rfl))) (pss_one (ps_if (pt_cmpR op_in_seq (pv 7) (pe_tup (pa_cons pe_str (pa_cons pe_str pa_nil))) (by rfl)) (pss_cons (ps_set (i := 8) sc.nd rfl (Or.inl rfl) (pe_ix ix_seq (pe_lst (pa_cons (pe_tup (pa_cons pe_str (pa_cons (pv 6) (pa_cons pe_str pa_nil)))) (pa_cons (pe_tup (pa_cons pe_str (pa_cons (pv 6) (pa_cons pe_str pa_nil)))) pa_nil))) (pe_callTy call_int1 (by rfl) T.b_int (by decide +kernel) (pa_cons (pe_cmpR op_eq (pv 7) pe_str (nomark _)) pa_nil)) (fun _ _ => rfl))) (pss_cons (ps_set (i := 9) sc.nd rfl (Or.inl rfl) (pe_ix ix_seq (pe_lst (pa_cons (pe_tup (pa_cons pe_str (pa_cons (pv 6) (pa_cons pe_str pa_nil)))) (pa_cons (pe_tup (pa_cons pe_str (pa_cons (pv 6) (pa_cons pe_str pa_nil)))) pa_nil))) (pe_callTy call_int1 (by rfl) T.b_int (by decide +kernel) (pa_cons (pe_cmpR op_eq (pv 7) pe_str (nomark _)) pa_nil)) (fun _ _ => rfl))) (pss_cons (ps_expr (pe_bm PySem.F.plainAttrs_list PySem.F.slot_list_append PySem.F.type_list_append mt_append (pv 3) (pa_cons (pe_calD c__law_under (hr.mono (by first | decide | exact Nat.le_refl _)) (by rfl) (pa_cons (pe_ix ix_seq (pv 2) (pv 6) (fun _ _ => rfl)) (pa_cons pe_str (pa_cons (pv 9) pa_nil)))) pa_nil))) (pss_cons (ps_if (PW.pt (pw_or (pt_cmpR op_eq (pv 7) pe_str (nomark _)) (pw_or1 (pt_cmpR op_notN1 (pe_ix ix_seq (pe_ix ix_seq (pv 2) (pv 6) (fun _ _ => rfl)) pe_int (fun _ _ => rfl)) pe_non (nomark _))))) (pss_cons (ps_expr (pe_bm PySem.F.plainAttrs_list PySem.F.slot_list_append PySem.F.type_list_append mt_append (pv 4) (pa_cons (pe_calD c__law_under (hr.mono (by first | decide | exact Nat.le_refl _)) (by rfl) (pa_cons (pe_ix ix_seq (pv 2) (pv 6) (fun _ _ => rfl)) (pa_cons pe_str (pa_cons (pv 8) pa_nil)))) pa_nil))) (pss_one (ps_expr (pe_bm PySem.F.plainAttrs_list PySem.F.slot_list_append PySem.F.type_list_append mt_append (pv 4) (pa_cons (pe_calD c__law_under (hr.mono (by first | decide | exact Nat.le_refl _)) (by rfl) (pa_cons (pe_ix ix_seq (pv 2) (pv 6) (fun _ _ => rfl)) (pa_cons pe_str (pa_cons (pv 9) pa_nil)))) pa_nil))))) pss_nil) (pss_one (ps_expr (pe_bm PySem.F.plainAttrs_list PySem.F.slot_list_append PySem.F.type_list_append mt_append (pv 5) (pa_cons (pe_calD c__law_under (hr.mono (by first | decide | exact Nat.le_refl _)) (by rfl) (pa_cons (pe_ix ix_seq (pv 2) (pv 6) (fun _ _ => rfl)) (pa_cons pe_str (pa_cons (pv 8) pa_nil)))) pa_nil)))))))) (pss_one (ps_if (pt_cmpR op_eq (pv 7) pe_str (nomark _)) (pss_cons (ps_expr (pe_bm PySem.F.plainAttrs_list PySem.F.slot_list_append PySem.F.type_list_append mt_append (pv 3) (pa_cons (pe_calD c__law_under (hr.mono (by first | decide | exact Nat.le_refl _)) (by rfl) (pa_cons (pe_ix ix_seq (pv 2) (pv 6) (fun _ _ => rfl)) (pa_cons pe_str (pa_cons (pe_tup (pa_cons pe_str (pa_cons (pv 6) pa_nil))) pa_nil)))) pa_nil))) (pss_cons (ps_expr (pe_bm PySem.F.plainAttrs_list PySem.F.slot_list_append PySem.F.type_list_append mt_append (pv 4) (pa_cons (pe_tup (pa_cons pe_str (pa_cons (pv 6) pa_nil))) pa_nil))) (pss_one (ps_expr (pe_bm PySem.F.plainAttrs_list PySem.F.slot_list_append PySem.F.type_list_append mt_append (pv 5) (pa_cons (pe_tup (pa_cons pe_str (pa_cons (pe_tup (pa_cons pe_str (pa_cons (pv 6) pa_nil))) (pa_cons (pe_tup (pa_cons pe_str (pa_cons (pv 6) pa_nil))) pa_nil)))) pa_nil)))))) (pss_cons (ps_expr (pe_bm PySem.F.plainAttrs_list PySem.F.slot_list_append PySem.F.type_list_append mt_append (pv 3) (pa_cons (pe_calD c__law_under (hr.mono (by first | decide | exact Nat.le_refl _)) (by rfl) (pa_cons (pe_ix ix_seq (pv 2) (pv 6) (fun _ _ => rfl)) (pa_cons pe_str (pa_cons (pe_tup (pa_cons pe_str (pa_cons (pv 6) pa_nil))) pa_nil)))) pa_nil))) (pss_cons (ps_expr (pe_bm PySem.F.plainAttrs_list PySem.F.slot_list_append PySem.F.type_list_append mt_append (pv 4) (pa_cons (pe_tup (pa_cons pe_str (pa_cons (pv 6) pa_nil))) pa_nil))) (pss_one (ps_expr (pe_bm PySem.F.plainAttrs_list PySem.F.slot_list_append PySem.F.type_list_append mt_append (pv 5) (pa_cons (pe_tup (pa_cons pe_str (pa_cons (pv 6) pa_nil))) pa_nil)))))))))))) (pss_one (ps_ret (pe_lst (pa_cons (pv 2) (pa_cons (pv 3) (pa_cons (pv 4) (pa_cons (pv 5) pa_nil)))))))))))), fun ds M Q h => ?_⟩
    obtain ⟨a, st, most, rfl, hm, hok, h1, h2, hQ⟩ := h
    try dsimp only [cxOf, Cx.nox]
    refine stp_seq (stp_set (ev_lc (js := [6]) (by decide) (sr_range1 ?_)))
    walk_at "evs"
    refine ⟨a, st, most, rfl, hm, hok, h1, by omega, ?_⟩
    intro r st1 hok1 hr
    walk_at "evs"
    refine ⟨by omega, by omega, ?_⟩
    have hrn : (1 + (r : Int)).toNat = r + 1 := by omega
    rw [hrn]
    refine ⟨fun i acc M' => ∃ (ks : List Keep) (st' : DrSt), acc = ks.map keepD ∧ updM M a (.lst st'.l) = M' ∧ st'.Ok ∧ ks.length = i ∧ ∀ k ∈ ks, KeepOk k, ⟨[], st1, rfl, rfl, hok1, rfl, fun _ h => by cases h⟩, ?_, ?_⟩
    · rintro i d acc M' hd ⟨ks, st', rfl, rfl, hok', hlen, hko⟩
      obtain ⟨hi, rfl⟩ := rngD_get hd
      refine ⟨_, tg_name, tv_yes ?_⟩
      rw [if_pos rfl]
      refine ⟨by rw [List.length_map]; omega, ?_⟩
      walk_at "evs"
      refine ⟨a, st', rfl, updM_same, hok', ?_⟩
      intro k st2 hok2 hk
      refine ⟨ks ++ [k], st2, by rw [List.map_append]; rfl, by rw [updM_updM], hok2, by rw [List.length_append, hlen]; rfl, fun x hx => ?_⟩
      rcases List.mem_append.mp hx with h | h
      · exact hko x h
      · rw [List.mem_singleton.mp h]
        exact hk
    · rintro acc M' ⟨ks, st', rfl, rfl, hok', hlen, hko⟩
      rw [rngD_length] at hlen
      have hl3 : ks.length ≤ 3 := by omega
      generalize hN : updM M a (.lst st'.l) = N
      refine stp_seq (stp_set (ev_lstM ?_))
      walk_at "evs"
      intro p1 n1
      refine stp_seq (stp_set (ev_lstM ?_))
      walk_at "evs"
      intro p2 n2
      refine stp_seq (stp_set (ev_lstM ?_))
      walk_at "evs"
      intro p3 n3
      have h12 : p1 ≠ p2 := by
        intro e
        rw [e, updM_same] at n2
        cases n2
      have h13 : p1 ≠ p3 := by
        intro e
        rw [e, updM_ne (by rw [← e]; exact h12), updM_same] at n3
        cases n3
      have h23 : p2 ≠ p3 := by
        intro e
        rw [e, updM_same] at n3
        cases n3
      have N2 : N p2 = none := by rw [updM_ne h12.symm] at n2; exact n2
      have N3 : N p3 = none := by rw [updM_ne h23.symm, updM_ne h13.symm] at n3; exact n3
      refine stp_cut (fun ρ' M' => (∃ x y z u, ρ' = [some (.sc (.ref a)), some (iD most), some (.lst (ks.map keepD)), some (.sc (.ref p1)), some (.sc (.ref p2)), some (.sc (.ref p3)), x, y, z, u]) ∧ MM N p1 p2 p3 ((rightP ks).new.map stepD) ((rightP ks).change.map stepD) ((rightP ks).drop.map stepD) = M') ?_ ?_
      · refine stp_for (js := [6]) (sr_range1 ?_)
        walk_at "evs"
        refine ⟨by rw [List.length_map]; omega, by rw [List.length_map]; omega, ?_⟩
        have hlk : (((ks.map keepD).length : Nat) : Int).toNat = ks.length := by rw [List.length_map]; omega
        rw [hlk]
        refine ⟨fun i ρ' M' => (∃ x y z u, ρ' = [some (.sc (.ref a)), some (iD most), some (.lst (ks.map keepD)), some (.sc (.ref p1)), some (.sc (.ref p2)), some (.sc (.ref p3)), x, y, z, u]) ∧
          MM N p1 p2 p3 (((List.range i).flatMap fun i => rNew i (kAt ks i)).map stepD) (((List.range i).flatMap fun i => rChange i (kAt ks i)).map stepD) (((List.range i).flatMap fun i => rDrop i (kAt ks i)).map stepD) = M', ⟨⟨none, none, none, none, rfl⟩, rfl⟩, ?_, ?_⟩
        · rintro i d ρ' M' hd ⟨⟨x, y, z, u, rfl⟩, rfl⟩
          obtain ⟨hi, rfl⟩ := rngD_get hd
          rw [Int.zero_add]
          have hat : atI (ks.map keepD) (i : Int) = some (keepD (kAt ks i)) := atI_nat (by rw [List.getElem?_map, kAt_get hi] <;> rfl)
          have ln := flatMap_le (f := fun i => rNew i (kAt ks i)) (fun i => rNew_le i (kAt ks i)) (List.range i)
          have lc := flatMap_le (f := fun i => rChange i (kAt ks i)) (fun i => rChange_le i (kAt ks i)) (List.range i)
          have ld := flatMap_le (f := fun i => rDrop i (kAt ks i)) (fun i => rDrop_le i (kAt ks i)) (List.range i)
          rw [List.length_range] at ln lc ld
          refine ⟨_, tg_name, ?_⟩
          generalize hkp : kAt ks i = kp at hat
          obtain ⟨kw, kk⟩ := kp
          cases kw with
          | count =>
            cases kk with
            | none =>
              walk_at "evs"
              refine ⟨_, _, rfl, MM1 h12 h13, rfl, ?_⟩
              walk_at "evs"
              refine ⟨_, true, .add i .one, rfl, ?_⟩
              walk_at "evs"
              refine rmt_append (MM1 h12 h13) (by simp only [List.length_append, List.length_map, List.length_cons, List.length_nil]; omega) ?_
              rw [MMu1 h12 h13]
              walk_at "evs"
              refine ⟨_, _, rfl, MM3, rfl, ?_⟩
              walk_at "evs"
              refine ⟨_, false, .less i .one, rfl, ?_⟩
              walk_at "evs"
              refine rmt_append (MM3) (by simp only [List.length_append, List.length_map, List.length_cons, List.length_nil]; omega) ?_
              rw [MMu3]
              walk_at "evs"
              refine ⟨⟨_, _, _, _, rfl⟩, ?_⟩
              rw [range_succ_flat, range_succ_flat, range_succ_flat, List.map_append, List.map_append, List.map_append, hkp]
              show MM N p1 p2 p3 _ (_ ++ []) _ = _
              rw [List.append_nil]
              rfl
            | some z =>
              walk_at "evs"
              refine ⟨_, _, rfl, MM1 h12 h13, rfl, ?_⟩
              walk_at "evs"
              refine ⟨_, true, .add i .one, rfl, ?_⟩
              walk_at "evs"
              refine rmt_append (MM1 h12 h13) (by simp only [List.length_append, List.length_map, List.length_cons, List.length_nil]; omega) ?_
              rw [MMu1 h12 h13]
              walk_at "evs"
              refine ⟨_, _, rfl, MM2 h23, rfl, ?_⟩
              walk_at "evs"
              refine ⟨_, false, .less i .one, rfl, ?_⟩
              walk_at "evs"
              refine rmt_append (MM2 h23) (by simp only [List.length_append, List.length_map, List.length_cons, List.length_nil]; omega) ?_
              rw [MMu2 h23]
              walk_at "evs"
              refine ⟨_, _, rfl, MM2 h23, rfl, ?_⟩
              walk_at "evs"
              refine ⟨_, true, .add i .one, rfl, ?_⟩
              walk_at "evs"
              refine rmt_append (MM2 h23) (by simp only [List.length_append, List.length_map, List.length_cons, List.length_nil]; omega) ?_
              rw [MMu2 h23]
              walk_at "evs"
              refine ⟨_, _, rfl, MM3, rfl, ?_⟩
              walk_at "evs"
              refine ⟨_, false, .less i .one, rfl, ?_⟩
              walk_at "evs"
              refine rmt_append (MM3) (by simp only [List.length_append, List.length_map, List.length_cons, List.length_nil]; omega) ?_
              rw [MMu3]
              walk_at "evs"
              refine ⟨⟨_, _, _, _, rfl⟩, ?_⟩
              rw [range_succ_flat, range_succ_flat, range_succ_flat, List.map_append, List.map_append, List.map_append, hkp]
              rw [List.append_assoc]
              rfl
          | sum =>
            cases kk with
            | none =>
              walk_at "evs"
              refine ⟨_, _, rfl, MM1 h12 h13, rfl, ?_⟩
              walk_at "evs"
              refine ⟨_, true, .add i .newer, rfl, ?_⟩
              walk_at "evs"
              refine rmt_append (MM1 h12 h13) (by simp only [List.length_append, List.length_map, List.length_cons, List.length_nil]; omega) ?_
              rw [MMu1 h12 h13]
              walk_at "evs"
              refine ⟨_, _, rfl, MM2 h23, rfl, ?_⟩
              walk_at "evs"
              refine ⟨_, false, .less i .elder, rfl, ?_⟩
              walk_at "evs"
              refine rmt_append (MM2 h23) (by simp only [List.length_append, List.length_map, List.length_cons, List.length_nil]; omega) ?_
              rw [MMu2 h23]
              walk_at "evs"
              refine ⟨_, _, rfl, MM2 h23, rfl, ?_⟩
              walk_at "evs"
              refine ⟨_, true, .add i .newer, rfl, ?_⟩
              walk_at "evs"
              refine rmt_append (MM2 h23) (by simp only [List.length_append, List.length_map, List.length_cons, List.length_nil]; omega) ?_
              rw [MMu2 h23]
              walk_at "evs"
              refine ⟨_, _, rfl, MM3, rfl, ?_⟩
              walk_at "evs"
              refine ⟨_, false, .less i .elder, rfl, ?_⟩
              walk_at "evs"
              refine rmt_append (MM3) (by simp only [List.length_append, List.length_map, List.length_cons, List.length_nil]; omega) ?_
              rw [MMu3]
              walk_at "evs"
              refine ⟨⟨_, _, _, _, rfl⟩, ?_⟩
              rw [range_succ_flat, range_succ_flat, range_succ_flat, List.map_append, List.map_append, List.map_append, hkp]
              rw [List.append_assoc]
              rfl
            | some z =>
              walk_at "evs"
              refine ⟨_, _, rfl, MM1 h12 h13, rfl, ?_⟩
              walk_at "evs"
              refine ⟨_, true, .add i .newer, rfl, ?_⟩
              walk_at "evs"
              refine rmt_append (MM1 h12 h13) (by simp only [List.length_append, List.length_map, List.length_cons, List.length_nil]; omega) ?_
              rw [MMu1 h12 h13]
              walk_at "evs"
              refine ⟨_, _, rfl, MM2 h23, rfl, ?_⟩
              walk_at "evs"
              refine ⟨_, false, .less i .elder, rfl, ?_⟩
              walk_at "evs"
              refine rmt_append (MM2 h23) (by simp only [List.length_append, List.length_map, List.length_cons, List.length_nil]; omega) ?_
              rw [MMu2 h23]
              walk_at "evs"
              refine ⟨_, _, rfl, MM2 h23, rfl, ?_⟩
              walk_at "evs"
              refine ⟨_, true, .add i .newer, rfl, ?_⟩
              walk_at "evs"
              refine rmt_append (MM2 h23) (by simp only [List.length_append, List.length_map, List.length_cons, List.length_nil]; omega) ?_
              rw [MMu2 h23]
              walk_at "evs"
              refine ⟨_, _, rfl, MM3, rfl, ?_⟩
              walk_at "evs"
              refine ⟨_, false, .less i .elder, rfl, ?_⟩
              walk_at "evs"
              refine rmt_append (MM3) (by simp only [List.length_append, List.length_map, List.length_cons, List.length_nil]; omega) ?_
              rw [MMu3]
              walk_at "evs"
              refine ⟨⟨_, _, _, _, rfl⟩, ?_⟩
              rw [range_succ_flat, range_succ_flat, range_succ_flat, List.map_append, List.map_append, List.map_append, hkp]
              rw [List.append_assoc]
              rfl
          | most =>
            walk_at "evs"
            refine ⟨_, _, rfl, MM1 h12 h13, rfl, ?_⟩
            walk_at "evs"
            refine ⟨_, true, .lift i, rfl, ?_⟩
            walk_at "evs"
            refine rmt_append (MM1 h12 h13) (by simp only [List.length_append, List.length_map, List.length_cons, List.length_nil]; omega) ?_
            rw [MMu1 h12 h13]
            walk_at "evs"
            refine ⟨_, _, rfl, MM2 h23, rfl, ?_⟩
            walk_at "evs"
            refine rmt_append (MM2 h23) (by simp only [List.length_append, List.length_map, List.length_cons, List.length_nil]; omega) ?_
            rw [MMu2 h23]
            walk_at "evs"
            refine ⟨_, _, rfl, MM3, rfl, ?_⟩
            walk_at "evs"
            refine rmt_append (MM3) (by simp only [List.length_append, List.length_map, List.length_cons, List.length_nil]; omega) ?_
            rw [MMu3]
            walk_at "evs"
            refine ⟨⟨_, _, _, _, rfl⟩, ?_⟩
            rw [range_succ_flat, range_succ_flat, range_succ_flat, List.map_append, List.map_append, List.map_append, hkp]
            rfl
          | any =>
            walk_at "evs"
            refine ⟨_, _, rfl, MM1 h12 h13, rfl, ?_⟩
            walk_at "evs"
            refine ⟨_, true, .mark i, rfl, ?_⟩
            walk_at "evs"
            refine rmt_append (MM1 h12 h13) (by simp only [List.length_append, List.length_map, List.length_cons, List.length_nil]; omega) ?_
            rw [MMu1 h12 h13]
            walk_at "evs"
            refine ⟨_, _, rfl, MM2 h23, rfl, ?_⟩
            walk_at "evs"
            refine rmt_append (MM2 h23) (by simp only [List.length_append, List.length_map, List.length_cons, List.length_nil]; omega) ?_
            rw [MMu2 h23]
            walk_at "evs"
            refine ⟨_, _, rfl, MM3, rfl, ?_⟩
            walk_at "evs"
            refine rmt_append (MM3) (by simp only [List.length_append, List.length_map, List.length_cons, List.length_nil]; omega) ?_
            rw [MMu3]
            walk_at "evs"
            refine ⟨⟨_, _, _, _, rfl⟩, ?_⟩
            rw [range_succ_flat, range_succ_flat, range_succ_flat, List.map_append, List.map_append, List.map_append, hkp]
            rfl
        · rintro ρ' M' ⟨⟨x, y, z, u, rfl⟩, rfl⟩
          rw [rngD_length]
          exact ⟨⟨_, _, _, _, rfl⟩, rfl⟩
      · rintro ρ' M' ⟨⟨x, y, z, u, rfl⟩, rfl⟩
        refine stp_frzL (i := 3) rfl (MM1 h12 h13) ?_
        refine stp_frzL (i := 4) (p := p2) rfl ((delM_ne h12.symm).trans (MM2 h23)) ?_
        refine stp_frzL (i := 5) (p := p3) rfl ((delM_ne h23.symm).trans ((delM_ne h13.symm).trans MM3)) ?_
        rw [MMdel h12 h13 h23 n1 N2 N3]
        refine stp_ret (ev_lstM ?_)
        walk_at "evs"
        intro q hq
        have hqM : M q = none := by
          rw [← hN] at hq
          by_cases e : q = a
          · rw [e, updM_same] at hq
            cases hq
          · rw [updM_ne e] at hq
            exact hq
        rw [← hN]
        exact hQ ks st' q hok' (by omega) (by omega) hko hqM

theorem ok__law_right {P : Program} {w : World} {K : PySem.W.Frag} {mg : Str → Option Value} {base : Heap} {f : Addr} {fd : FuncData} (F : FnP K "_law_right" "_law_right" (top 50) f fd) (g : mg "_law_right" = some (.ref f)) (T : Tx w K mg) (c__law_draw : Cal P w K mg base 1 "_law_draw" ["_law_draws", "_law_many"] (S_law_draw)) (c__law_keep : Cal P w K mg base 2 "_law_keep" ["_law_draws"] (S_law_keep)) (c__law_under : Cal P w K mg base 1 "_law_under" ["_law_keep_here", "_law_word", "_law_step_here"] (S_law_under))  : Cal P w K mg base 3 "_law_right" ["_law_draws", "_law_most"] (S_law_right) :=
  cal_mk F g (fn__law_right F T c__law_draw c__law_keep c__law_under) (F.bindsN fun _ _ _ _ _ _ us hl => match us, hl with | [_, _], _ => rfl)

theorem sc__law_touch : FnScope ["_law_draws", "_law_keeps", "_law_at", "_law_k", "_law_what", "_law_some", "_law_sources"] ["_law_draws", "_law_keeps", "_law_at"] (defScope (top 51)) := ⟨rfl, rfl, rfl, by decide +kernel, rfl, by decide +kernel, by decide +kernel⟩
theorem fn__law_touch {P : Program} {w : World} {K : PySem.W.Frag} {mg : Str → Option Value} {base : Heap} {f : Addr} {fd : FuncData} (F : FnP K "_law_touch" "_law_touch" (top 51) f fd) (T : Tx w K mg) (c__law_draw : Cal P w K mg base 1 "_law_draw" ["_law_draws", "_law_many"] (S_law_draw))  : FnOk P w K mg base CX0 2 f fd ["_law_draws", "_law_keeps", "_law_at"] (spOf K (S_law_touch)) := by
  have sc := sc__law_touch
  refine ok_fn (k := 1) F sc (fun ds M Q h => ?_) (fun cdv A outer s H E hr => ?_)
  · obtain ⟨a, st, ks, n, rfl, hm, hok, h1, h3, hQ⟩ := h; rfl
  · have hu6 : A.units + 64 < cLine := by have := hr.un; show A.units + 64 < cLine; simp only [Around.deeper] at this; omega
    have hu := hu_of hr
    refine ⟨_, (pss_cons (ps_set (i := 3) sc.nd rfl (Or.inl rfl) (pe_calD c__law_draw (hr.mono (by first | decide | exact Nat.le_refl _)) (by rfl) (pa_cons (pv 0) (pa_cons (pe_callB call_len (by rfl) T.b_len (by decide +kernel) (pa_cons (pv 1) pa_nil)) pa_nil)))) (pss_cons (ps_set (i := 4) sc.nd rfl (Or.inl rfl) (pe_ix ix_seq (pe_ix ix_seq (pv 1) (pv 3) (fun _ _ => rfl)) pe_int (fun _ _ => rfl))) (pss_cons (ps_set (i := 5) sc.nd rfl (Or.inl rfl) (pe_lst (pa_cons (pe_tup (pa_cons pe_str (pa_cons (pv 3) pa_nil))) (pa_cons (pe_tup (pa_cons pe_str (pa_cons (pv 3) pa_nil))) pa_nil)))) (pss_cons (ps_if (pt_cmpR op_in_seq (pv 4) (pe_tup (pa_cons pe_str (pa_cons pe_str pa_nil))) (by rfl)) (pss_cons (ps_set (i := 6) sc.nd rfl (Or.inl rfl) (pe_op op_addA (pe_lst (pa_cons pe_str pa_nil)) (pe_ix ix_seq (pe_lst (pa_cons (pe_lst (pa_cons pe_str pa_nil)) (pa_cons (pe_lst (pa_cons pe_str (pa_cons pe_str pa_nil))) (pa_cons (pe_lst (pa_cons pe_str pa_nil)) pa_nil)))) (pe_op op_sub (pv 2) pe_int) (fun _ _ => rfl)))) (pss_cons (ps_if (pt_cmpR op_eq (pv 4) pe_str (nomark _)) (pss_one (ps_set (i := 6) sc.nd rfl (Or.inl rfl) (pe_lst (pa_cons pe_str pa_nil)))) pss_nil) (pss_one (ps_set (i := 5) sc.nd rfl (Or.inl rfl) (pe_op op_addA (pv 5) (pe_op op_mulA (pe_lst (pa_cons (pe_tup (pa_cons (pe_ix ix_seq (pe_lst (pa_cons pe_str (pa_cons pe_str pa_nil))) (pe_calD c__law_draw (hr.mono (by first | decide | exact Nat.le_refl _)) (by rfl) (pa_cons (pv 0) (pa_cons pe_int pa_nil))) (fun _ _ => rfl)) (pa_cons (pv 3) (pa_cons (pe_ix ix_seq (pv 6) (pe_calD c__law_draw (hr.mono (by first | decide | exact Nat.le_refl _)) (by rfl) (pa_cons (pv 0) (pa_cons (pe_callB call_len (by rfl) T.b_len (by decide +kernel) (pa_cons (pv 6) pa_nil)) pa_nil))) (fun _ _ => rfl)) pa_nil)))) pa_nil)) pe_int)))))) pss_nil) (pss_cons (ps_if (PW.pt (pw_and (pt_cmpR op_eq (pv 4) pe_str (nomark _)) (pw_and1 (pt_cmpR op_lt (pv 2) pe_int (nomark _))))) (pss_one (ps_set (i := 5) sc.nd rfl (Or.inl rfl) (pe_op op_addA (pv 5) (pe_op op_mulA (pe_lst (pa_cons (pe_tup (pa_cons pe_str (pa_cons (pv 3) pa_nil))) pa_nil)) pe_int)))) pss_nil) (pss_cons (ps_if (pt_cmpR op_eq (pv 4) pe_str (nomark _)) (pss_one (ps_set (i := 5) sc.nd rfl (Or.inl rfl) (pe_op op_addA (pv 5) (pe_op op_mulA (pe_lst (pa_cons (pe_tup (pa_cons pe_str (pa_cons (pv 3) pa_nil))) pa_nil)) pe_int)))) pss_nil) (pss_one (ps_ret (pe_ix ix_seq (pv 5) (pe_calD c__law_draw (hr.mono (by first | decide | exact Nat.le_refl _)) (by rfl) (pa_cons (pv 0) (pa_cons (pe_callB call_len (by rfl) T.b_len (by decide +kernel) (pa_cons (pv 5) pa_nil)) pa_nil))) (fun _ _ => rfl)))))))))), fun ds M Q h => ?_⟩
    obtain ⟨a, st, ks, n, rfl, hm, hok, h1, h3, hQ⟩ := h
    try dsimp only [cxOf, Cx.nox]
    walk_at "evs"
    refine ⟨a, st, (ks.map keepD).length, rfl, hm, hok, by rw [List.length_map]; omega, by rw [List.length_map]; omega, ?_⟩
    intro k st1 hok1 hk
    rw [List.length_map] at hk
    have hat : atI (ks.map keepD) (k : Int) = some (keepD (kAt ks k)) := atI_nat (by rw [List.getElem?_map, kAt_get hk] <;> rfl)
    have hk' := kAt_get hk
    have hag : TouchOk n ks (.again k) := ⟨_, hk'⟩
    have hem : TouchOk n ks (.empty k) := ⟨_, hk'⟩
    have pick : ∀ (ts : List Touch) (r : Nat), (∀ t ∈ ts, TouchOk n ks t) → r < ts.length → ∃ t, atI (ts.map touchD) (r : Int) = some (touchD t) ∧ TouchOk n ks t := fun ts r ha hr => ⟨ts[r], pickL hr, ha _ (List.getElem_mem hr)⟩
    generalize kAt ks k = kp at hat hk'
    obtain ⟨kw, kk⟩ := kp
    cases n with
    | new =>
      cases kw with
      | count =>
        walk_at "evs"
        refine ⟨a, st1, 2, rfl, updM_same, hok1, by decide, by decide, ?_⟩
        intro r2 st2 hok2 hr2
        have ho : ∃ (mk : Nat → Src → Touch) (w : Str), (∀ s, TouchOk .new ks (mk k s) ↔ AddOk .new ks k s) ∧ (∀ s, touchD (mk k s) = .tup [sD w, iD k, sD s.s]) ∧ atI [sD "add", sD "less"] (r2 : Int) = some (sD w) := by
          match r2, hr2 with
          | 0, _ => exact ⟨.add, "add", fun _ => Iff.rfl, fun _ => rfl, rfl⟩
          | 1, _ => exact ⟨.less, "less", fun _ => Iff.rfl, fun _ => rfl, rfl⟩
        obtain ⟨mk, w0, hmk, hmd, hw0⟩ := ho
        rw [updM_updM]
        refine rop_ix_L hw0 ?_
        walk_at "evs"
        refine ⟨a, st2, 1, rfl, updM_same, hok2, by decide, by decide, ?_⟩
        intro r3 st3 hok3 hr3
        have hs : ∃ s : Src, AddOk .new ks k s ∧ atI [sD "one"] (r3 : Int) = some (sD s.s) := by
          match r3, hr3 with
          | 0, _ => exact ⟨.one, ⟨⟨(by intro h; cases h), (by intro h; cases h)⟩, _, hk', .inr ⟨rfl, rfl⟩⟩, rfl⟩
        obtain ⟨s0, hs0, hat3⟩ := hs
        rw [updM_updM]
        refine rop_ix_L hat3 ?_
        walk_at "evs"
        have hto := (hmk s0).mpr hs0
        refine ⟨a, st3, 6, rfl, updM_same, hok3, by decide, by decide, ?_⟩
        intro r4 st4 hok4 hr4
        obtain ⟨t', ht', hto'⟩ := pick [.again k, .empty k, mk k s0, mk k s0, mk k s0, mk k s0] r4 (by intro t ht; rcases List.mem_cons.mp ht with e | ht; · exact e ▸ hag
                                                                                                       rcases List.mem_cons.mp ht with e | ht; · exact e ▸ hem
                                                                                                       rcases List.mem_cons.mp ht with e | ht; · exact e ▸ hto
                                                                                                       rcases List.mem_cons.mp ht with e | ht; · exact e ▸ hto
                                                                                                       rcases List.mem_cons.mp ht with e | ht; · exact e ▸ hto
                                                                                                       rcases List.mem_cons.mp ht with e | ht; · exact e ▸ hto
                                                                                                       cases ht) hr4
        simp only [List.map_cons, List.map_nil, hmd] at ht'
        refine rop_ix_L ht' ?_
        walk_at "evs"
        rw [updM_updM]
        exact hQ t' st4 hok4 hto'
      | sum =>
        walk_at "evs"
        refine ⟨a, st1, 2, rfl, updM_same, hok1, by decide, by decide, ?_⟩
        intro r2 st2 hok2 hr2
        have ho : ∃ (mk : Nat → Src → Touch) (w : Str), (∀ s, TouchOk .new ks (mk k s) ↔ AddOk .new ks k s) ∧ (∀ s, touchD (mk k s) = .tup [sD w, iD k, sD s.s]) ∧ atI [sD "add", sD "less"] (r2 : Int) = some (sD w) := by
          match r2, hr2 with
          | 0, _ => exact ⟨.add, "add", fun _ => Iff.rfl, fun _ => rfl, rfl⟩
          | 1, _ => exact ⟨.less, "less", fun _ => Iff.rfl, fun _ => rfl, rfl⟩
        obtain ⟨mk, w0, hmk, hmd, hw0⟩ := ho
        rw [updM_updM]
        refine rop_ix_L hw0 ?_
        walk_at "evs"
        refine ⟨a, st2, 2, rfl, updM_same, hok2, by decide, by decide, ?_⟩
        intro r3 st3 hok3 hr3
        have hs : ∃ s : Src, AddOk .new ks k s ∧ atI [sD "one", sD "newer"] (r3 : Int) = some (sD s.s) := by
          match r3, hr3 with
          | 0, _ => exact ⟨.one, ⟨⟨(by intro h; cases h), (by intro h; cases h)⟩, _, hk', .inl rfl⟩, rfl⟩
          | 1, _ => exact ⟨.newer, ⟨⟨(by intros; first | decide | contradiction), (by intros; first | decide | contradiction)⟩, _, hk', .inl rfl⟩, rfl⟩
        obtain ⟨s0, hs0, hat3⟩ := hs
        rw [updM_updM]
        refine rop_ix_L hat3 ?_
        walk_at "evs"
        have hto := (hmk s0).mpr hs0
        refine ⟨a, st3, 6, rfl, updM_same, hok3, by decide, by decide, ?_⟩
        intro r4 st4 hok4 hr4
        obtain ⟨t', ht', hto'⟩ := pick [.again k, .empty k, mk k s0, mk k s0, mk k s0, mk k s0] r4 (by intro t ht; rcases List.mem_cons.mp ht with e | ht; · exact e ▸ hag
                                                                                                       rcases List.mem_cons.mp ht with e | ht; · exact e ▸ hem
                                                                                                       rcases List.mem_cons.mp ht with e | ht; · exact e ▸ hto
                                                                                                       rcases List.mem_cons.mp ht with e | ht; · exact e ▸ hto
                                                                                                       rcases List.mem_cons.mp ht with e | ht; · exact e ▸ hto
                                                                                                       rcases List.mem_cons.mp ht with e | ht; · exact e ▸ hto
                                                                                                       cases ht) hr4
        simp only [List.map_cons, List.map_nil, hmd] at ht'
        refine rop_ix_L ht' ?_
        walk_at "evs"
        rw [updM_updM]
        exact hQ t' st4 hok4 hto'
      | most =>
        have hli : TouchOk .new ks (.lift k) := ⟨by decide, _, hk', rfl⟩
        walk_at "evs"
        refine ⟨a, st1, 4, rfl, updM_same, hok1, by decide, by decide, ?_⟩
        intro r4 st4 hok4 hr4
        obtain ⟨t', ht', hto'⟩ := pick [.again k, .empty k, .lift k, .lift k] r4 (by
          intro t ht
          rcases List.mem_cons.mp ht with e | ht
          · exact e ▸ hag
          rcases List.mem_cons.mp ht with e | ht
          · exact e ▸ hem
          rcases List.mem_cons.mp ht with e | ht
          · exact e ▸ hli
          rcases List.mem_cons.mp ht with e | ht
          · exact e ▸ hli
          cases ht) hr4
        rw [updM_updM]
        refine rop_ix_L ht' ?_
        walk_at "evs"
        exact hQ t' st4 hok4 hto'
      | any =>
        have hma : TouchOk .new ks (.mark k) := ⟨_, hk', rfl⟩
        walk_at "evs"
        refine ⟨a, st1, 4, rfl, updM_same, hok1, by decide, by decide, ?_⟩
        intro r4 st4 hok4 hr4
        obtain ⟨t', ht', hto'⟩ := pick [.again k, .empty k, .mark k, .mark k] r4 (by
          intro t ht
          rcases List.mem_cons.mp ht with e | ht
          · exact e ▸ hag
          rcases List.mem_cons.mp ht with e | ht
          · exact e ▸ hem
          rcases List.mem_cons.mp ht with e | ht
          · exact e ▸ hma
          rcases List.mem_cons.mp ht with e | ht
          · exact e ▸ hma
          cases ht) hr4
        rw [updM_updM]
        refine rop_ix_L ht' ?_
        walk_at "evs"
        exact hQ t' st4 hok4 hto'
    | change =>
      cases kw with
      | count =>
        walk_at "evs"
        refine ⟨a, st1, 2, rfl, updM_same, hok1, by decide, by decide, ?_⟩
        intro r2 st2 hok2 hr2
        have ho : ∃ (mk : Nat → Src → Touch) (w : Str), (∀ s, TouchOk .change ks (mk k s) ↔ AddOk .change ks k s) ∧ (∀ s, touchD (mk k s) = .tup [sD w, iD k, sD s.s]) ∧ atI [sD "add", sD "less"] (r2 : Int) = some (sD w) := by
          match r2, hr2 with
          | 0, _ => exact ⟨.add, "add", fun _ => Iff.rfl, fun _ => rfl, rfl⟩
          | 1, _ => exact ⟨.less, "less", fun _ => Iff.rfl, fun _ => rfl, rfl⟩
        obtain ⟨mk, w0, hmk, hmd, hw0⟩ := ho
        rw [updM_updM]
        refine rop_ix_L hw0 ?_
        walk_at "evs"
        refine ⟨a, st2, 1, rfl, updM_same, hok2, by decide, by decide, ?_⟩
        intro r3 st3 hok3 hr3
        have hs : ∃ s : Src, AddOk .change ks k s ∧ atI [sD "one"] (r3 : Int) = some (sD s.s) := by
          match r3, hr3 with
          | 0, _ => exact ⟨.one, ⟨⟨(by intro h; cases h), (by intro h; cases h)⟩, _, hk', .inr ⟨rfl, rfl⟩⟩, rfl⟩
        obtain ⟨s0, hs0, hat3⟩ := hs
        rw [updM_updM]
        refine rop_ix_L hat3 ?_
        walk_at "evs"
        have hto := (hmk s0).mpr hs0
        refine ⟨a, st3, 6, rfl, updM_same, hok3, by decide, by decide, ?_⟩
        intro r4 st4 hok4 hr4
        obtain ⟨t', ht', hto'⟩ := pick [.again k, .empty k, mk k s0, mk k s0, mk k s0, mk k s0] r4 (by intro t ht; rcases List.mem_cons.mp ht with e | ht; · exact e ▸ hag
                                                                                                       rcases List.mem_cons.mp ht with e | ht; · exact e ▸ hem
                                                                                                       rcases List.mem_cons.mp ht with e | ht; · exact e ▸ hto
                                                                                                       rcases List.mem_cons.mp ht with e | ht; · exact e ▸ hto
                                                                                                       rcases List.mem_cons.mp ht with e | ht; · exact e ▸ hto
                                                                                                       rcases List.mem_cons.mp ht with e | ht; · exact e ▸ hto
                                                                                                       cases ht) hr4
        simp only [List.map_cons, List.map_nil, hmd] at ht'
        refine rop_ix_L ht' ?_
        walk_at "evs"
        rw [updM_updM]
        exact hQ t' st4 hok4 hto'
      | sum =>
        walk_at "evs"
        refine ⟨a, st1, 2, rfl, updM_same, hok1, by decide, by decide, ?_⟩
        intro r2 st2 hok2 hr2
        have ho : ∃ (mk : Nat → Src → Touch) (w : Str), (∀ s, TouchOk .change ks (mk k s) ↔ AddOk .change ks k s) ∧ (∀ s, touchD (mk k s) = .tup [sD w, iD k, sD s.s]) ∧ atI [sD "add", sD "less"] (r2 : Int) = some (sD w) := by
          match r2, hr2 with
          | 0, _ => exact ⟨.add, "add", fun _ => Iff.rfl, fun _ => rfl, rfl⟩
          | 1, _ => exact ⟨.less, "less", fun _ => Iff.rfl, fun _ => rfl, rfl⟩
        obtain ⟨mk, w0, hmk, hmd, hw0⟩ := ho
        rw [updM_updM]
        refine rop_ix_L hw0 ?_
        walk_at "evs"
        refine ⟨a, st2, 3, rfl, updM_same, hok2, by decide, by decide, ?_⟩
        intro r3 st3 hok3 hr3
        have hs : ∃ s : Src, AddOk .change ks k s ∧ atI [sD "one", sD "elder", sD "newer"] (r3 : Int) = some (sD s.s) := by
          match r3, hr3 with
          | 0, _ => exact ⟨.one, ⟨⟨(by intro h; cases h), (by intro h; cases h)⟩, _, hk', .inl rfl⟩, rfl⟩
          | 1, _ => exact ⟨.elder, ⟨⟨(by intros; first | decide | contradiction), (by intros; first | decide | contradiction)⟩, _, hk', .inl rfl⟩, rfl⟩
          | 2, _ => exact ⟨.newer, ⟨⟨(by intros; first | decide | contradiction), (by intros; first | decide | contradiction)⟩, _, hk', .inl rfl⟩, rfl⟩
        obtain ⟨s0, hs0, hat3⟩ := hs
        rw [updM_updM]
        refine rop_ix_L hat3 ?_
        walk_at "evs"
        have hto := (hmk s0).mpr hs0
        refine ⟨a, st3, 6, rfl, updM_same, hok3, by decide, by decide, ?_⟩
        intro r4 st4 hok4 hr4
        obtain ⟨t', ht', hto'⟩ := pick [.again k, .empty k, mk k s0, mk k s0, mk k s0, mk k s0] r4 (by intro t ht; rcases List.mem_cons.mp ht with e | ht; · exact e ▸ hag
                                                                                                       rcases List.mem_cons.mp ht with e | ht; · exact e ▸ hem
                                                                                                       rcases List.mem_cons.mp ht with e | ht; · exact e ▸ hto
                                                                                                       rcases List.mem_cons.mp ht with e | ht; · exact e ▸ hto
                                                                                                       rcases List.mem_cons.mp ht with e | ht; · exact e ▸ hto
                                                                                                       rcases List.mem_cons.mp ht with e | ht; · exact e ▸ hto
                                                                                                       cases ht) hr4
        simp only [List.map_cons, List.map_nil, hmd] at ht'
        refine rop_ix_L ht' ?_
        walk_at "evs"
        rw [updM_updM]
        exact hQ t' st4 hok4 hto'
      | most =>
        have hli : TouchOk .change ks (.lift k) := ⟨by decide, _, hk', rfl⟩
        walk_at "evs"
        refine ⟨a, st1, 4, rfl, updM_same, hok1, by decide, by decide, ?_⟩
        intro r4 st4 hok4 hr4
        obtain ⟨t', ht', hto'⟩ := pick [.again k, .empty k, .lift k, .lift k] r4 (by
          intro t ht
          rcases List.mem_cons.mp ht with e | ht
          · exact e ▸ hag
          rcases List.mem_cons.mp ht with e | ht
          · exact e ▸ hem
          rcases List.mem_cons.mp ht with e | ht
          · exact e ▸ hli
          rcases List.mem_cons.mp ht with e | ht
          · exact e ▸ hli
          cases ht) hr4
        rw [updM_updM]
        refine rop_ix_L ht' ?_
        walk_at "evs"
        exact hQ t' st4 hok4 hto'
      | any =>
        have hma : TouchOk .change ks (.mark k) := ⟨_, hk', rfl⟩
        walk_at "evs"
        refine ⟨a, st1, 4, rfl, updM_same, hok1, by decide, by decide, ?_⟩
        intro r4 st4 hok4 hr4
        obtain ⟨t', ht', hto'⟩ := pick [.again k, .empty k, .mark k, .mark k] r4 (by
          intro t ht
          rcases List.mem_cons.mp ht with e | ht
          · exact e ▸ hag
          rcases List.mem_cons.mp ht with e | ht
          · exact e ▸ hem
          rcases List.mem_cons.mp ht with e | ht
          · exact e ▸ hma
          rcases List.mem_cons.mp ht with e | ht
          · exact e ▸ hma
          cases ht) hr4
        rw [updM_updM]
        refine rop_ix_L ht' ?_
        walk_at "evs"
        exact hQ t' st4 hok4 hto'
    | drop =>
      cases kw with
      | count =>
        walk_at "evs"
        refine ⟨a, st1, 2, rfl, updM_same, hok1, by decide, by decide, ?_⟩
        intro r2 st2 hok2 hr2
        have ho : ∃ (mk : Nat → Src → Touch) (w : Str), (∀ s, TouchOk .drop ks (mk k s) ↔ AddOk .drop ks k s) ∧ (∀ s, touchD (mk k s) = .tup [sD w, iD k, sD s.s]) ∧ atI [sD "add", sD "less"] (r2 : Int) = some (sD w) := by
          match r2, hr2 with
          | 0, _ => exact ⟨.add, "add", fun _ => Iff.rfl, fun _ => rfl, rfl⟩
          | 1, _ => exact ⟨.less, "less", fun _ => Iff.rfl, fun _ => rfl, rfl⟩
        obtain ⟨mk, w0, hmk, hmd, hw0⟩ := ho
        rw [updM_updM]
        refine rop_ix_L hw0 ?_
        walk_at "evs"
        refine ⟨a, st2, 1, rfl, updM_same, hok2, by decide, by decide, ?_⟩
        intro r3 st3 hok3 hr3
        have hs : ∃ s : Src, AddOk .drop ks k s ∧ atI [sD "one"] (r3 : Int) = some (sD s.s) := by
          match r3, hr3 with
          | 0, _ => exact ⟨.one, ⟨⟨(by intro h; cases h), (by intro h; cases h)⟩, _, hk', .inr ⟨rfl, rfl⟩⟩, rfl⟩
        obtain ⟨s0, hs0, hat3⟩ := hs
        rw [updM_updM]
        refine rop_ix_L hat3 ?_
        walk_at "evs"
        have hto := (hmk s0).mpr hs0
        refine ⟨a, st3, 6, rfl, updM_same, hok3, by decide, by decide, ?_⟩
        intro r4 st4 hok4 hr4
        obtain ⟨t', ht', hto'⟩ := pick [.again k, .empty k, mk k s0, mk k s0, mk k s0, mk k s0] r4 (by intro t ht; rcases List.mem_cons.mp ht with e | ht; · exact e ▸ hag
                                                                                                       rcases List.mem_cons.mp ht with e | ht; · exact e ▸ hem
                                                                                                       rcases List.mem_cons.mp ht with e | ht; · exact e ▸ hto
                                                                                                       rcases List.mem_cons.mp ht with e | ht; · exact e ▸ hto
                                                                                                       rcases List.mem_cons.mp ht with e | ht; · exact e ▸ hto
                                                                                                       rcases List.mem_cons.mp ht with e | ht; · exact e ▸ hto
                                                                                                       cases ht) hr4
        simp only [List.map_cons, List.map_nil, hmd] at ht'
        refine rop_ix_L ht' ?_
        walk_at "evs"
        rw [updM_updM]
        exact hQ t' st4 hok4 hto'
      | sum =>
        walk_at "evs"
        refine ⟨a, st1, 2, rfl, updM_same, hok1, by decide, by decide, ?_⟩
        intro r2 st2 hok2 hr2
        have ho : ∃ (mk : Nat → Src → Touch) (w : Str), (∀ s, TouchOk .drop ks (mk k s) ↔ AddOk .drop ks k s) ∧ (∀ s, touchD (mk k s) = .tup [sD w, iD k, sD s.s]) ∧ atI [sD "add", sD "less"] (r2 : Int) = some (sD w) := by
          match r2, hr2 with
          | 0, _ => exact ⟨.add, "add", fun _ => Iff.rfl, fun _ => rfl, rfl⟩
          | 1, _ => exact ⟨.less, "less", fun _ => Iff.rfl, fun _ => rfl, rfl⟩
        obtain ⟨mk, w0, hmk, hmd, hw0⟩ := ho
        rw [updM_updM]
        refine rop_ix_L hw0 ?_
        walk_at "evs"
        refine ⟨a, st2, 2, rfl, updM_same, hok2, by decide, by decide, ?_⟩
        intro r3 st3 hok3 hr3
        have hs : ∃ s : Src, AddOk .drop ks k s ∧ atI [sD "one", sD "elder"] (r3 : Int) = some (sD s.s) := by
          match r3, hr3 with
          | 0, _ => exact ⟨.one, ⟨⟨(by intro h; cases h), (by intro h; cases h)⟩, _, hk', .inl rfl⟩, rfl⟩
          | 1, _ => exact ⟨.elder, ⟨⟨(by intros; first | decide | contradiction), (by intros; first | decide | contradiction)⟩, _, hk', .inl rfl⟩, rfl⟩
        obtain ⟨s0, hs0, hat3⟩ := hs
        rw [updM_updM]
        refine rop_ix_L hat3 ?_
        walk_at "evs"
        have hto := (hmk s0).mpr hs0
        refine ⟨a, st3, 6, rfl, updM_same, hok3, by decide, by decide, ?_⟩
        intro r4 st4 hok4 hr4
        obtain ⟨t', ht', hto'⟩ := pick [.again k, .empty k, mk k s0, mk k s0, mk k s0, mk k s0] r4 (by intro t ht; rcases List.mem_cons.mp ht with e | ht; · exact e ▸ hag
                                                                                                       rcases List.mem_cons.mp ht with e | ht; · exact e ▸ hem
                                                                                                       rcases List.mem_cons.mp ht with e | ht; · exact e ▸ hto
                                                                                                       rcases List.mem_cons.mp ht with e | ht; · exact e ▸ hto
                                                                                                       rcases List.mem_cons.mp ht with e | ht; · exact e ▸ hto
                                                                                                       rcases List.mem_cons.mp ht with e | ht; · exact e ▸ hto
                                                                                                       cases ht) hr4
        simp only [List.map_cons, List.map_nil, hmd] at ht'
        refine rop_ix_L ht' ?_
        walk_at "evs"
        rw [updM_updM]
        exact hQ t' st4 hok4 hto'
      | most =>
        walk_at "evs"
        refine ⟨a, st1, 2, rfl, updM_same, hok1, by decide, by decide, ?_⟩
        intro r4 st4 hok4 hr4
        obtain ⟨t', ht', hto'⟩ := pick [.again k, .empty k] r4 (by
          intro t ht
          rcases List.mem_cons.mp ht with e | ht
          · exact e ▸ hag
          rcases List.mem_cons.mp ht with e | ht
          · exact e ▸ hem
          cases ht) hr4
        rw [updM_updM]
        refine rop_ix_L ht' ?_
        walk_at "evs"
        exact hQ t' st4 hok4 hto'
      | any =>
        have hma : TouchOk .drop ks (.mark k) := ⟨_, hk', rfl⟩
        walk_at "evs"
        refine ⟨a, st1, 4, rfl, updM_same, hok1, by decide, by decide, ?_⟩
        intro r4 st4 hok4 hr4
        obtain ⟨t', ht', hto'⟩ := pick [.again k, .empty k, .mark k, .mark k] r4 (by
          intro t ht
          rcases List.mem_cons.mp ht with e | ht
          · exact e ▸ hag
          rcases List.mem_cons.mp ht with e | ht
          · exact e ▸ hem
          rcases List.mem_cons.mp ht with e | ht
          · exact e ▸ hma
          rcases List.mem_cons.mp ht with e | ht
          · exact e ▸ hma
          cases ht) hr4
        rw [updM_updM]
        refine rop_ix_L ht' ?_
        walk_at "evs"
        exact hQ t' st4 hok4 hto'

theorem ok__law_touch {P : Program} {w : World} {K : PySem.W.Frag} {mg : Str → Option Value} {base : Heap} {f : Addr} {fd : FuncData} (F : FnP K "_law_touch" "_law_touch" (top 51) f fd) (g : mg "_law_touch" = some (.ref f)) (T : Tx w K mg) (c__law_draw : Cal P w K mg base 1 "_law_draw" ["_law_draws", "_law_many"] (S_law_draw))  : Cal P w K mg base 2 "_law_touch" ["_law_draws", "_law_keeps", "_law_at"] (S_law_touch) :=
  cal_mk F g (fn__law_touch F T c__law_draw) (F.bindsN fun _ _ _ _ _ _ us hl => match us, hl with | [_, _, _], _ => rfl)

theorem sc__law_step : FnScope ["_law_draws", "_law_keeps", "_law_at", "_law_touch_here", "_law_tests", "_law_k"] ["_law_draws", "_law_keeps", "_law_at"] (defScope (top 52)) := ⟨rfl, rfl, rfl, by decide +kernel, rfl, by decide +kernel, by decide +kernel⟩
theorem fn__law_step {P : Program} {w : World} {K : PySem.W.Frag} {mg : Str → Option Value} {base : Heap} {f : Addr} {fd : FuncData} (F : FnP K "_law_step" "_law_step" (top 52) f fd) (T : Tx w K mg) (c__law_touch : Cal P w K mg base 2 "_law_touch" ["_law_draws", "_law_keeps", "_law_at"] (S_law_touch)) (c__law_draw : Cal P w K mg base 1 "_law_draw" ["_law_draws", "_law_many"] (S_law_draw))  : FnOk P w K mg base CX0 3 f fd ["_law_draws", "_law_keeps", "_law_at"] (spOf K (S_law_step)) := by
  have sc := sc__law_step
  refine ok_fn (k := 2) F sc (fun ds M Q h => ?_) (fun cdv A outer s H E hr => ?_)
  · obtain ⟨a, st, ks, n, rfl, hm, hok, h1, h3, hko, hQ⟩ := h; rfl
  · have hu6 : A.units + 64 < cLine := by have := hr.un; show A.units + 64 < cLine; simp only [Around.deeper] at this; omega
    have hu := hu_of hr
    refine ⟨_, (pss_cons (ps_set (i := 3) sc.nd rfl (Or.inl rfl) (pe_calD c__law_touch (hr.mono (by first | decide | exact Nat.le_refl _)) (by rfl) (pa_cons (pv 0) (pa_cons (pv 1) (pa_cons (pv 2) pa_nil))))) (pss_cons (ps_set (i := 4) sc.nd rfl (Or.inl rfl) (pe_lst pa_nil)) (pss_cons (ps_if (pt_cmpR op_gt (pv 2) pe_int (nomark _)) (pss_cons (ps_set (i := 4) sc.nd rfl (Or.inl rfl) (pe_op op_addA (pv 4) (pe_lst (pa_cons (pe_tup (pa_cons pe_str (pa_cons (pe_calD c__law_draw (hr.mono (by first | decide | exact Nat.le_refl _)) (by rfl) (pa_cons (pv 0) (pa_cons pe_int pa_nil))) pa_nil))) pa_nil)))) (pss_one (ps_set (i := 4) sc.nd rfl (Or.inl rfl) (pe_op op_addA (pv 4) (pe_lc (own := [("_law_k", 5)]) (by rfl) sc.nd (pi_range1 (by rfl) T.b_range (pa_cons (pe_callB call_len (by rfl) T.b_len (by decide +kernel) (pa_cons (pv 1) pa_nil)) pa_nil)) (blkOk_by (own := [("_law_k", 5)]) (N := ["_law_draws", "_law_keeps", "_law_at", "_law_touch_here", "_law_tests", "_law_k"]) (sc := defScope (top 52)) (by decide +kernel)) (fun _ _ _ _ _ => (pg_name (i := 5) sc.nd rfl (Or.inl rfl))) (fun _ _ _ _ _ => (pts_one (pt_cmpR op_eq (pe_ix (k_ix_seq (K := K)) (pe_ix (k_ix_seq (K := K)) (pv 1) (pv 5) (fun _ _ => rfl)) pe_int (fun _ _ => rfl)) pe_str (nomark _)))) (fun _ _ _ _ _ => (pe_tup (pa_cons pe_str (pa_cons (pv 5) pa_nil))))))))) pss_nil) (pss_cons (ps_if (pt_cmpR op_lt (pv 2) pe_int (nomark _)) (pss_one (ps_set (i := 4) sc.nd rfl (Or.inl rfl) (pe_op op_addA (pv 4) (pe_lst (pa_cons (pe_tup (pa_cons pe_str (pa_cons (pe_calD c__law_draw (hr.mono (by first | decide | exact Nat.le_refl _)) (by rfl) (pa_cons (pv 0) (pa_cons pe_int pa_nil))) pa_nil))) pa_nil))))) pss_nil) (pss_cons (ps_if (pt_cmpR op_eq (pv 2) pe_int (nomark _)) (pss_one (ps_set (i := 4) sc.nd rfl (Or.inl rfl) (pe_op op_addA (pv 4) (pe_lst (pa_cons (pe_tup (pa_cons pe_str pa_nil)) pa_nil))))) pss_nil) (pss_cons (ps_set (i := 4) sc.nd rfl (Or.inl rfl) (pe_op op_addA (pv 4) (pe_lc (own := [("_law_k", 5)]) (by rfl) sc.nd (pi_range1 (by rfl) T.b_range (pa_cons (pe_callB call_len (by rfl) T.b_len (by decide +kernel) (pa_cons (pv 1) pa_nil)) pa_nil)) (blkOk_by (own := [("_law_k", 5)]) (N := ["_law_draws", "_law_keeps", "_law_at", "_law_touch_here", "_law_tests", "_law_k"]) (sc := defScope (top 52)) (by decide +kernel)) (fun _ _ _ _ _ => (pg_name (i := 5) sc.nd rfl (Or.inl rfl))) (fun _ _ _ _ _ => (pts_one (pt_cmpR op_eq (pe_ix (k_ix_seq (K := K)) (pe_ix (k_ix_seq (K := K)) (pv 1) (pv 5) (fun _ _ => rfl)) pe_int (fun _ _ => rfl)) pe_str (nomark _)))) (fun _ _ _ _ _ => (pe_tup (pa_cons pe_str (pa_cons (pv 5) pa_nil))))))) (pss_cons (ps_if (pt_cmpR op_eq (pe_calD c__law_draw (hr.mono (by first | decide | exact Nat.le_refl _)) (by rfl) (pa_cons (pv 0) (pa_cons pe_int pa_nil))) pe_int (nomark _)) (pss_one (ps_ret (pv 3))) pss_nil) (pss_one (ps_ret (pe_tup (pa_cons pe_str (pa_cons (pe_ix ix_seq (pv 4) (pe_calD c__law_draw (hr.mono (by first | decide | exact Nat.le_refl _)) (by rfl) (pa_cons (pv 0) (pa_cons (pe_callB call_len (by rfl) T.b_len (by decide +kernel) (pa_cons (pv 4) pa_nil)) pa_nil))) (fun _ _ => rfl)) (pa_cons (pv 3) pa_nil))))))))))))), fun ds M Q h => ?_⟩
    obtain ⟨a, st, ks, n, rfl, hm, hok, h1, h3, hko, hQ⟩ := h
    try dsimp only [cxOf, Cx.nox]
    walk_at "evs"
    refine ⟨a, st, ks, n, rfl, hm, hok, h1, h3, ?_⟩
    intro t0 st0 hok0 ht0
    walk_at "evs"
    have comp : ∀ (s : Str) (w : What) (mk : Nat → Test) (ρ : Env') (M1 : MH) (PP : Da → MH → Prop), (∀ i : Nat, testD (mk i) = .tup [sD s, iD i]) → (wipeD ρ [5])[1]? = some (some (.lst (ks.map keepD))) → (wipeD ρ [5])[5]? = some none → ρ[1]? = some (some (.lst (ks.map keepD))) →
        PP (.lst ((((List.range ks.length).filter fun i => decide ((kAt ks i).what = w)).map mk).map testD)) M1 →
        EvP K (tLc (iRng1 (tCons (tCB (Dl.rLen K) (tCons (tVar 1) tNil)) tNil)) (gName 5) (tTest (tOp rEq (tOp (rIx K) (tOp (rIx K) (tVar 1) (tVar 5)) (tC (.int 0))) (tC (.str w.s)))) (tTup (tCons (tC (.str s)) (tCons (tVar 5) tNil))) [5]) ρ M1 PP := by
      intro s w mk ρ M1 PP hmk e1 e5 e1' q
      refine ev_lc (js := [5]) (by decide) (sr_range1 (av_cons (ev_cb (av_cons (ev_var e1' (av_nil (rcl_len (show _ = _ from rfl) (av_nil ⟨_, rfl, ?_, ?_, ?_⟩))))))))
      · omega
      · rw [List.length_map]; omega
      have hlk : (((ks.map keepD).length : Nat) : Int).toNat = ks.length := by rw [List.length_map]; omega
      rw [hlk]
      refine ⟨fun i acc M' => acc = ((((List.range i).filter fun i => decide ((kAt ks i).what = w)).map mk).map testD) ∧ M1 = M', ⟨rfl, rfl⟩, ?_, ?_⟩
      · rintro i d acc M' hd ⟨rfl, rfl⟩
        obtain ⟨hi, rfl⟩ := rngD_get hd
        rw [Int.zero_add]
        have hat : atI (ks.map keepD) (i : Int) = some (keepD (kAt ks i)) := atI_nat (by rw [List.getElem?_map, kAt_get hi] <;> rfl)
        refine ⟨_, tg_name, ?_⟩
        have f1 : (setAllD (wipeD ρ [5]) [5] [iD (i : Int)])[1]? = some (some (.lst (ks.map keepD))) := by
          show ((wipeD ρ [5]).set 5 _)[1]? = _
          rw [List.getElem?_set_ne (by decide)]
          exact e1
        have f5 : (setAllD (wipeD ρ [5]) [5] [iD (i : Int)])[5]? = some (some (iD (i : Int))) := by
          show ((wipeD ρ [5]).set 5 _)[5]? = _
          rw [List.getElem?_set_self (List.getElem?_eq_some_iff.mp e5).1]
        refine tv_test (ev_op (ev_op (ev_op (ev_var f1 (ev_var f5 (rop_ix_L hat (ev_c (rop_ix_T rfl (ev_c (rop_eq rfl ⟨_, rfl, ?_⟩))))))))))
        have hdec : decide (V.str (kAt ks i).what.s = V.str w.s) = decide ((kAt ks i).what = w) := by cases (kAt ks i).what <;> cases w <;> rfl
        rw [hdec]
        have hsp : (List.range (i + 1)).filter (fun i => decide ((kAt ks i).what = w)) = (List.range i).filter (fun i => decide ((kAt ks i).what = w)) ++ [i].filter (fun i => decide ((kAt ks i).what = w)) := by rw [List.range_succ, List.filter_append]
        have hle : ((List.range i).filter fun i => decide ((kAt ks i).what = w)).length ≤ i := Nat.le_trans (List.length_filter_le _ _) (by rw [List.length_range]; omega)
        refine ifB (fun h => ?_) (fun h => ?_)
        · refine ⟨by rw [List.length_map, List.length_map]; omega, ?_⟩
          refine ev_tup (av_cons (ev_c (av_cons (ev_var f5 (av_nil ⟨Nat.le_of_ble_eq_true rfl, ?_, rfl⟩)))))
          rw [hsp, List.filter_cons_of_pos (by exact h), List.filter_nil, List.map_append, List.map_append]
          congr 1
          exact congrArg (fun z => [z]) (hmk i).symm
        · refine ⟨?_, rfl⟩
          rw [hsp, List.filter_cons_of_neg (by rw [h]; exact Bool.false_ne_true), List.filter_nil, List.append_nil]
      · rintro acc M' ⟨rfl, rfl⟩
        rw [rngD_length]
        exact q
    have elder : n ≠ .new → ∀ r, r < 2 → TestOk n ks (.elder (r : Nat)) := fun hn r hr => ⟨hn, by omega⟩
    have newer : n ≠ .drop → ∀ r, r < 2 → TestOk n ks (.newer (r : Nat)) := fun hn r hr => ⟨hn, by omega⟩
    have tops : n ≠ .new → ∀ t ∈ (((List.range ks.length).filter fun i => decide ((kAt ks i).what = .most)).map Test.top), TestOk n ks t := by
      intro hn t ht
      obtain ⟨i, hi, rfl⟩ := List.mem_map.mp ht
      obtain ⟨h1, h2⟩ := List.mem_filter.mp hi
      exact ⟨hn, _, kAt_get (List.mem_range.mp h1), of_decide_eq_true h2⟩
    have nones : ∀ t ∈ (((List.range ks.length).filter fun i => decide ((kAt ks i).what = .count)).map Test.none), TestOk n ks t := by
      intro t ht
      obtain ⟨i, hi, rfl⟩ := List.mem_map.mp ht
      obtain ⟨h1, h2⟩ := List.mem_filter.mp hi
      exact ⟨_, kAt_get (List.mem_range.mp h1), of_decide_eq_true h2⟩
    have ltop : (((List.range ks.length).filter fun i => decide ((kAt ks i).what = .most)).map Test.top).length ≤ 3 := by
      rw [List.length_map]
      exact Nat.le_trans (List.length_filter_le _ _) (by rw [List.length_range]; omega)
    have lnone : (((List.range ks.length).filter fun i => decide ((kAt ks i).what = .count)).map Test.none).length ≤ 3 := by
      rw [List.length_map]
      exact Nat.le_trans (List.length_filter_le _ _) (by rw [List.length_range]; omega)
    generalize htops : (((List.range ks.length).filter fun i => decide ((kAt ks i).what = .most)).map Test.top) = top at tops ltop
    generalize hnones : (((List.range ks.length).filter fun i => decide ((kAt ks i).what = .count)).map Test.none) = nn at nones lnone
    have cat : ∀ (xs ys : List Test) (M1 : MH) (PP : Da → MH → Prop), xs.length ≤ 10 → ys.length ≤ 10 → PP (.lst ((xs ++ ys).map testD)) M1 → ROp K (rAddA K) (.lst (xs.map testD)) (.lst (ys.map testD)) M1 PP := by
      intro xs ys M1 PP h1 h2 q
      refine rop_or2 (rop_or2 ?_)
      refine rop_cat (ds := xs.map testD) (es := ys.map testD) (show _ = _ from rfl) (show _ = _ from rfl) (by rw [List.length_map, List.length_map]; omega) ?_
      rw [← List.map_append]
      exact q
    have tail : ∀ (ts : List Test) (st1 : DrSt) (x : Option Da), (∀ t ∈ ts, TestOk n ks t) → 1 ≤ ts.length → ts.length ≤ 20 → st1.Ok →
        StP K (tSeq (tIfS (tTest (tOp rEq (tCall (spOf K S_law_draw) [] E0 (tCons (tVar 0) (tCons (tC (.int 2)) tNil))) (tC (.int 0)))) (tRet (tVar 3)) tNext) (tRet (tTup (tCons (tC (.str "if")) (tCons (tOp (rIx K) (tVar 4) (tCall (spOf K S_law_draw) [] E0 (tCons (tVar 0) (tCons (tCB (Dl.rLen K) (tCons (tVar 4) tNil)) tNil)))) (tCons (tVar 3) tNil))))))
          [some (.sc (.ref a)), some (.lst (ks.map keepD)), some (iD n.at_), some (touchD t0), some (.lst (ts.map testD)), x] (updM M a (.lst st1.l)) (DR Q) := by
      intro ts st1 x hts hl1 hl20 hok1
      walk_at "evs"
      refine ⟨a, st1, 2, rfl, updM_same, hok1, by decide, by decide, ?_⟩
      intro r st2 hok2 hr
      walk_at "evs"
      refine ifB (fun h => ?_) (fun h => ?_)
      · walk_at "evs"
        rw [updM_updM]
        exact hQ ⟨none, t0⟩ st2 hok2 ⟨ht0, fun t h => by cases h⟩
      · walk_at "evs"
        refine ⟨a, st2, (ts.map testD).length, rfl, updM_same, hok2, by rw [List.length_map]; omega, by rw [List.length_map]; omega, ?_⟩
        intro r2 st3 hok3 hr2
        rw [List.length_map] at hr2
        have hp := pickL (f := testD) hr2
        refine rop_ix_L hp ?_
        walk_at "evs"
        rw [updM_updM, updM_updM]
        exact hQ ⟨some ts[r2], t0⟩ st3 hok3 ⟨ht0, fun t h => by cases h; exact hts _ (List.getElem_mem hr2)⟩
    have nonesC : ∀ (ρ : Env') (M1 : MH) (PP : Da → MH → Prop), (wipeD ρ [5])[1]? = some (some (.lst (ks.map keepD))) → (wipeD ρ [5])[5]? = some none → ρ[1]? = some (some (.lst (ks.map keepD))) → PP (.lst (nn.map testD)) M1 →
        EvP K (tLc (iRng1 (tCons (tCB (Dl.rLen K) (tCons (tVar 1) tNil)) tNil)) (gName 5) (tTest (tOp rEq (tOp (rIx K) (tOp (rIx K) (tVar 1) (tVar 5)) (tC (.int 0))) (tC (.str "count")))) (tTup (tCons (tC (.str "none")) (tCons (tVar 5) tNil))) [5]) ρ M1 PP := by
      intro ρ M1 PP e1 e2 e3 q
      refine comp "none" .count .none ρ M1 PP (fun _ => rfl) e1 e2 e3 ?_
      rw [hnones]
      exact q
    have topsC : ∀ (ρ : Env') (M1 : MH) (PP : Da → MH → Prop), (wipeD ρ [5])[1]? = some (some (.lst (ks.map keepD))) → (wipeD ρ [5])[5]? = some none → ρ[1]? = some (some (.lst (ks.map keepD))) → PP (.lst (top.map testD)) M1 →
        EvP K (tLc (iRng1 (tCons (tCB (Dl.rLen K) (tCons (tVar 1) tNil)) tNil)) (gName 5) (tTest (tOp rEq (tOp (rIx K) (tOp (rIx K) (tVar 1) (tVar 5)) (tC (.int 0))) (tC (.str "most")))) (tTup (tCons (tC (.str "top")) (tCons (tVar 5) tNil))) [5]) ρ M1 PP := by
      intro ρ M1 PP e1 e2 e3 q
      refine comp "top" .most .top ρ M1 PP (fun _ => rfl) e1 e2 e3 ?_
      rw [htops]
      exact q
    cases n with
    | new =>
      walk_at "evs"
      refine ⟨a, st0, 2, rfl, updM_same, hok0, by decide, by decide, ?_⟩
      intro r1 st1 hok1 hr1
      rw [updM_updM]
      walk_at "evs"
      refine nonesC _ _ _ rfl rfl rfl ?_
      refine cat [.newer r1] nn _ _ (Nat.le_of_ble_eq_true rfl) (by omega) ?_
      refine tail ([.newer r1] ++ nn) st1 _ ?_ (by simp only [List.length_append, List.length_cons, List.length_nil]; omega) (by simp only [List.length_append, List.length_cons, List.length_nil]; omega) hok1
      intro t ht
      rcases List.mem_append.mp ht with h | h
      · exact (List.mem_singleton.mp h) ▸ newer (by decide) r1 hr1
      · exact nones t h
    | change =>
      walk_at "evs"
      refine ⟨a, st0, 2, rfl, updM_same, hok0, by decide, by decide, ?_⟩
      intro r1 st1 hok1 hr1
      rw [updM_updM]
      walk_at "evs"
      refine topsC _ _ _ rfl rfl rfl ?_
      refine cat [.elder r1] top _ _ (Nat.le_of_ble_eq_true rfl) (by omega) ?_
      walk_at "evs"
      refine ⟨a, st1, 2, rfl, updM_same, hok1, by decide, by decide, ?_⟩
      intro r2 st2 hok2 hr2
      rw [updM_updM]
      walk_at "evs"
      refine cat ([.elder r1] ++ top) [.newer r2] _ _ (by simp only [List.length_append, List.length_cons, List.length_nil]; omega) (Nat.le_of_ble_eq_true rfl) ?_
      walk_at "evs"
      refine cat ([.elder r1] ++ top ++ [.newer r2]) [.moved] _ _ (by simp only [List.length_append, List.length_cons, List.length_nil]; omega) (Nat.le_of_ble_eq_true rfl) ?_
      walk_at "evs"
      refine nonesC _ _ _ rfl rfl rfl ?_
      refine cat ([.elder r1] ++ top ++ [.newer r2] ++ [.moved]) nn _ _ (by simp only [List.length_append, List.length_cons, List.length_nil]; omega) (by omega) ?_
      refine tail ([.elder r1] ++ top ++ [.newer r2] ++ [.moved] ++ nn) st2 _ ?_ (by simp only [List.length_append, List.length_cons, List.length_nil]; omega) (by simp only [List.length_append, List.length_cons, List.length_nil]; omega) hok2
      intro t ht
      rcases List.mem_append.mp ht with h | h
      · rcases List.mem_append.mp h with h | h
        · rcases List.mem_append.mp h with h | h
          · rcases List.mem_append.mp h with h | h
            · exact (List.mem_singleton.mp h) ▸ elder (by decide) r1 hr1
            · exact tops (by decide) t h
          · exact (List.mem_singleton.mp h) ▸ newer (by decide) r2 hr2
        · exact (List.mem_singleton.mp h) ▸ rfl
      · exact nones t h
    | drop =>
      walk_at "evs"
      refine ⟨a, st0, 2, rfl, updM_same, hok0, by decide, by decide, ?_⟩
      intro r1 st1 hok1 hr1
      rw [updM_updM]
      walk_at "evs"
      refine topsC _ _ _ rfl rfl rfl ?_
      refine cat [.elder r1] top _ _ (Nat.le_of_ble_eq_true rfl) (by omega) ?_
      walk_at "evs"
      refine nonesC _ _ _ rfl rfl rfl ?_
      refine cat ([.elder r1] ++ top) nn _ _ (by simp only [List.length_append, List.length_cons, List.length_nil]; omega) (by omega) ?_
      refine tail ([.elder r1] ++ top ++ nn) st1 _ ?_ (by simp only [List.length_append, List.length_cons, List.length_nil]; omega) (by simp only [List.length_append, List.length_cons, List.length_nil]; omega) hok1
      intro t ht
      rcases List.mem_append.mp ht with h | h
      · rcases List.mem_append.mp h with h | h
        · exact (List.mem_singleton.mp h) ▸ elder (by decide) r1 hr1
        · exact tops (by decide) t h
      · exact nones t h

theorem ok__law_step {P : Program} {w : World} {K : PySem.W.Frag} {mg : Str → Option Value} {base : Heap} {f : Addr} {fd : FuncData} (F : FnP K "_law_step" "_law_step" (top 52) f fd) (g : mg "_law_step" = some (.ref f)) (T : Tx w K mg) (c__law_touch : Cal P w K mg base 2 "_law_touch" ["_law_draws", "_law_keeps", "_law_at"] (S_law_touch)) (c__law_draw : Cal P w K mg base 1 "_law_draw" ["_law_draws", "_law_many"] (S_law_draw))  : Cal P w K mg base 3 "_law_step" ["_law_draws", "_law_keeps", "_law_at"] (S_law_step) :=
  cal_mk F g (fn__law_step F T c__law_touch c__law_draw) (F.bindsN fun _ _ _ _ _ _ us hl => match us, hl with | [_, _, _], _ => rfl)

theorem sc__law_made : FnScope ["_law_parts"] ["_law_parts"] (defScope (top 55)) := ⟨rfl, rfl, rfl, by decide +kernel, rfl, by decide +kernel, by decide +kernel⟩
theorem fn__law_made {P : Program} {w : World} {K : PySem.W.Frag} {mg : Str → Option Value} {base : Heap} {f : Addr} {fd : FuncData} (F : FnP K "_law_made" "_law_made" (top 55) f fd) (T : Tx w K mg) (k_Program : CalC P w K mg base (He.ga K "Program") 6 "Program" ["self", "keeps", "new", "change", "drop"] (S_Program_init (He.ga K "Program")))  : FnOk P w K mg base CX0 8 f fd ["_law_parts"] (spOf K (S_law_made (He.ga K "Program"))) := by
  have sc := sc__law_made
  refine ok_fn (k := 7) F sc (fun ds M Q h => ?_) (fun cdv A outer s H E hr => ?_)
  · obtain ⟨d, p, rfl, hd, hv, hQ⟩ := h; rfl
  · have hu6 : A.units + 64 < cLine := by have := hr.un; show A.units + 64 < cLine; simp only [Around.deeper] at this; omega
    have hu := hu_of hr
    refine ⟨_, (pss_one (ps_ret (pe_makD k_Program (hr.mono (by first | decide | exact Nat.le_refl _)) (by rfl) (pa_cons (pe_ix ix_seq (pv 0) pe_int (fun _ _ => rfl)) (pa_cons (pe_ix ix_seq (pv 0) pe_int (fun _ _ => rfl)) (pa_cons (pe_ix ix_seq (pv 0) pe_int (fun _ _ => rfl)) (pa_cons (pe_ix ix_seq (pv 0) pe_int (fun _ _ => rfl)) pa_nil))))))), fun ds M Q h => ?_⟩
    obtain ⟨d, p, rfl, hd, hv, hQ⟩ := h
    try dsimp only [cxOf, Cx.nox]
    refine stp_to M (stp_frzO ?_)
    have hix : ∀ (i : Int) (e : Da) (PP : Da → MH → Prop), atI (partsL p) i = some e → PP e M → ROp K (rIx K) d (iD i) M PP := by
      intro i e PP h q
      cases d with
      | lst es =>
        have e1 : es = partsL p := hd
        rw [e1]
        exact rop_ix_L h q
      | sc v =>
        cases v with
        | ref z => exact rop_ix_M hd h q
        | _ => cases hd
      | tup _ => cases hd
      | obj _ _ _ => cases hd
      | ro _ => cases hd
    walk_at "evs"
    refine hix 0 _ _ rfl ?_
    walk_at "evs"
    refine hix 1 _ _ rfl ?_
    walk_at "evs"
    refine hix 2 _ _ rfl ?_
    walk_at "evs"
    refine hix 3 _ _ rfl ?_
    walk_at "evs"
    intro x hx
    refine ⟨x, _, _, _, _, p, rfl, updM_same, .inl rfl, .inl rfl, .inl rfl, .inl rfl, hv, rfl, ?_⟩
    exact ⟨x, _, _, _, rfl, updM_same, (((SubM.refl M).upd' hx).upd' hx).del hx, hQ⟩

theorem ok__law_made {P : Program} {w : World} {K : PySem.W.Frag} {mg : Str → Option Value} {base : Heap} {f : Addr} {fd : FuncData} (F : FnP K "_law_made" "_law_made" (top 55) f fd) (g : mg "_law_made" = some (.ref f)) (T : Tx w K mg) (k_Program : CalC P w K mg base (He.ga K "Program") 6 "Program" ["self", "keeps", "new", "change", "drop"] (S_Program_init (He.ga K "Program")))  : Cal P w K mg base 8 "_law_made" ["_law_parts"] (S_law_made (He.ga K "Program")) :=
  cal_mk F g (fn__law_made F T k_Program) (F.bindsN fun _ _ _ _ _ _ us hl => match us, hl with | [_], _ => rfl)

theorem sc__law_like : FnScope ["_law_actual", "_law_due", "_law_k"] ["_law_actual", "_law_due"] (defScope (top 56)) := ⟨rfl, rfl, rfl, by decide +kernel, rfl, by decide +kernel, by decide +kernel⟩
theorem fn__law_like {n k : Nat} {P : Program} {w : World} {K : PySem.W.Frag} {mg : Str → Option Value} {base : Heap} {f : Addr} {fd : FuncData} (F : FnP K "_law_like" "_law_like" (top 56) f fd) (T : Tx w K mg) (c__law_like : Cal P w K mg base k "_law_like" ["_law_actual", "_law_due"] (S_law_like n))  : FnOk P w K mg base CX0 (k+1) f fd ["_law_actual", "_law_due"] (spOf K (S_law_like (n + 1))) := by
  have sc := sc__law_like
  refine ok_fn (k := k) F sc (fun ds M Q h => ?_) (fun cdv A outer s H E hr => ?_)
  · obtain ⟨d, rfl, hd, hQ⟩ := h; rfl
  · have hu6 : A.units + 64 < cLine := by have := hr.un; show A.units + 64 < cLine; simp only [Around.deeper] at this; omega
    have hu := hu_of hr
    refine ⟨_, (pss_cons (ps_if (pt_cmpR op_isN1 (pv 1) pe_non (nomark _)) (pss_one (ps_ret (pe_cmpR op_isN1 (pv 0) pe_non (nomark _)))) pss_nil) (pss_cons (ps_if (pt_val (pe_callB call_isi (by rfl) T.b_isinstance (by decide +kernel) (pa_cons (pv 1) (pa_cons (pe_bltn (v := .ty "bool") (u := .type "bool") (by rfl) T.b_bool (by decide +kernel) rfl) pa_nil)))) (pss_one (ps_ret (pe_and (pe_callB call_isi (by rfl) T.b_isinstance (by decide +kernel) (pa_cons (pv 0) (pa_cons (pe_bltn (v := .ty "bool") (u := .type "bool") (by rfl) T.b_bool (by decide +kernel) rfl) pa_nil))) (pe_one (pe_cmpR op_eq (pv 0) (pv 1) (nomark _)))))) pss_nil) (pss_cons (ps_if (pt_val (pe_callB call_isi (by rfl) T.b_isinstance (by decide +kernel) (pa_cons (pv 1) (pa_cons (pe_bltn (v := .ty "int") (u := .type "int") (by rfl) T.b_int (by decide +kernel) rfl) pa_nil)))) (pss_one (ps_ret (pe_and (pe_callB call_isi (by rfl) T.b_isinstance (by decide +kernel) (pa_cons (pv 0) (pa_cons (pe_bltn (v := .ty "int") (u := .type "int") (by rfl) T.b_int (by decide +kernel) rfl) pa_nil))) (pe_and (pe_not (pe_callB call_isi (by rfl) T.b_isinstance (by decide +kernel) (pa_cons (pv 0) (pa_cons (pe_bltn (v := .ty "bool") (u := .type "bool") (by rfl) T.b_bool (by decide +kernel) rfl) pa_nil)))) (pe_one (pe_cmpR op_eq (pv 0) (pv 1) (nomark _))))))) pss_nil) (pss_cons (ps_if (pt_val (pe_callB call_isi (by rfl) T.b_isinstance (by decide +kernel) (pa_cons (pv 1) (pa_cons (pe_bltn (v := .ty "str") (u := .type "str") (by rfl) T.b_str (by decide +kernel) rfl) pa_nil)))) (pss_one (ps_ret (pe_and (pe_callB call_isi (by rfl) T.b_isinstance (by decide +kernel) (pa_cons (pv 0) (pa_cons (pe_bltn (v := .ty "str") (u := .type "str") (by rfl) T.b_str (by decide +kernel) rfl) pa_nil))) (pe_one (pe_cmpR op_eq (pv 0) (pv 1) (nomark _)))))) pss_nil) (pss_cons (ps_if (pt_val (pe_callB call_isi (by rfl) T.b_isinstance (by decide +kernel) (pa_cons (pv 1) (pa_cons (pe_bltn (v := .ty "tuple") (u := .type "tuple") (by rfl) T.b_tuple (by decide +kernel) rfl) pa_nil)))) (pss_one (ps_if (PW.pt (pw_or (pt_not (pt_val (pe_callB call_isi (by rfl) T.b_isinstance (by decide +kernel) (pa_cons (pv 0) (pa_cons (pe_bltn (v := .ty "tuple") (u := .type "tuple") (by rfl) T.b_tuple (by decide +kernel) rfl) pa_nil))))) (pw_or1 (pt_cmpR op_ne (pe_callB call_len (by rfl) T.b_len (by decide +kernel) (pa_cons (pv 0) pa_nil)) (pe_callB call_len (by rfl) T.b_len (by decide +kernel) (pa_cons (pv 1) pa_nil)) (nomark _))))) (pss_one (ps_ret pe_bl)) pss_nil)) (pss_one (ps_if (PW.pt (pw_or (pt_not (pt_val (pe_callB call_isi (by rfl) T.b_isinstance (by decide +kernel) (pa_cons (pv 0) (pa_cons (pe_bltn (v := .ty "list") (u := .type "list") (by rfl) T.b_list (by decide +kernel) rfl) pa_nil))))) (pw_or1 (pt_cmpR op_ne (pe_callB call_len (by rfl) T.b_len (by decide +kernel) (pa_cons (pv 0) pa_nil)) (pe_callB call_len (by rfl) T.b_len (by decide +kernel) (pa_cons (pv 1) pa_nil)) (nomark _))))) (pss_one (ps_ret pe_bl)) pss_nil))) (pss_cons (ps_for PassesOwn.never (by rfl) (pi_range1 (by rfl) T.b_range (pa_cons (pe_callB call_len (by rfl) T.b_len (by decide +kernel) (pa_cons (pv 1) pa_nil)) pa_nil)) (pg_name (i := 2) sc.nd rfl (Or.inl rfl)) (pss_one (ps_if (pt_not (pt_val (pe_calD c__law_like (hr.mono (by first | decide | exact Nat.le_refl _)) (by rfl) (pa_cons (pe_ix ix_seq (pv 0) (pv 2) (fun _ _ => rfl)) (pa_cons (pe_ix ix_seq (pv 1) (pv 2) (fun _ _ => rfl)) pa_nil))))) (pss_one (ps_ret pe_bl)) pss_nil))) (pss_one (ps_ret pe_bl)))))))), fun ds M Q h => ?_⟩
    obtain ⟨d, rfl, hd, hQ⟩ := h
    try dsimp only [cxOf, Cx.nox]
    cases d with
    | sc v =>
      rcases hd with rfl | ⟨b, rfl⟩ | ⟨z, rfl⟩ | ⟨z, rfl⟩
      · walk_at "evs"
        exact hQ
      · walk_at "evs"
        rw [decide_eq_true rfl]
        exact hQ
      · walk_at "evs"
        rw [decide_eq_true rfl]
        exact hQ
      · walk_at "evs"
        rw [decide_eq_true rfl]
        exact hQ
    | tup ds =>
      obtain ⟨hl, hall⟩ := hd
      walk_at "evs"
      refine ifF (by rw [decide_eq_true rfl]; rfl) ?_
      walk_at "evs"
      refine stp_for (js := [2]) (sr_range1 ?_)
      walk_at "evs"
      refine ⟨by omega, by omega, ?_⟩
      have hmn : ((ds.length : Nat) : Int).toNat = ds.length := by omega
      rw [hmn]
      refine ⟨fun i ρ' M' => (∃ x, ρ' = [some (.tup ds), some (.tup ds), x]) ∧ M = M', ⟨⟨none, rfl⟩, rfl⟩, ?_, ?_⟩
      · rintro i d ρ' M' hd ⟨⟨x, rfl⟩, rfl⟩
        obtain ⟨hi, rfl⟩ := rngD_get hd
        rw [Int.zero_add]
        have hat : atI ds (i : Int) = some ds[i] := atI_nat (List.getElem?_eq_getElem hi)
        refine ⟨_, tg_name, ?_⟩
        walk_at "evs"
        refine ⟨ds[i], rfl, hall _ (List.getElem_mem hi), ?_⟩
        walk_at "evs"
        exact ⟨⟨_, rfl⟩, rfl⟩
      · rintro ρ' M' ⟨⟨x, rfl⟩, rfl⟩
        walk_at "evs"
        exact hQ
    | lst ds =>
      obtain ⟨hl, hall⟩ := hd
      walk_at "evs"
      refine ifF (by rw [decide_eq_true rfl]; rfl) ?_
      walk_at "evs"
      refine stp_for (js := [2]) (sr_range1 ?_)
      walk_at "evs"
      refine ⟨by omega, by omega, ?_⟩
      have hmn : ((ds.length : Nat) : Int).toNat = ds.length := by omega
      rw [hmn]
      refine ⟨fun i ρ' M' => (∃ x, ρ' = [some (.lst ds), some (.lst ds), x]) ∧ M = M', ⟨⟨none, rfl⟩, rfl⟩, ?_, ?_⟩
      · rintro i d ρ' M' hd ⟨⟨x, rfl⟩, rfl⟩
        obtain ⟨hi, rfl⟩ := rngD_get hd
        rw [Int.zero_add]
        have hat : atI ds (i : Int) = some ds[i] := atI_nat (List.getElem?_eq_getElem hi)
        refine ⟨_, tg_name, ?_⟩
        walk_at "evs"
        refine ⟨ds[i], rfl, hall _ (List.getElem_mem hi), ?_⟩
        walk_at "evs"
        exact ⟨⟨_, rfl⟩, rfl⟩
      · rintro ρ' M' ⟨⟨x, rfl⟩, rfl⟩
        walk_at "evs"
        exact hQ
    | obj _ _ _ => exact hd.elim
    | ro _ => exact hd.elim

theorem ok__law_like {n k : Nat} {P : Program} {w : World} {K : PySem.W.Frag} {mg : Str → Option Value} {base : Heap} {f : Addr} {fd : FuncData} (F : FnP K "_law_like" "_law_like" (top 56) f fd) (g : mg "_law_like" = some (.ref f)) (T : Tx w K mg) (c__law_like : Cal P w K mg base k "_law_like" ["_law_actual", "_law_due"] (S_law_like n))  : Cal P w K mg base (k+1) "_law_like" ["_law_actual", "_law_due"] (S_law_like (n + 1)) :=
  cal_mk F g (fn__law_like F T c__law_like) (F.bindsN fun _ _ _ _ _ _ us hl => match us, hl with | [_, _], _ => rfl)

theorem sc_BadMend___init__ : FnScope ["self", "index"] ["self", "index"] (defScope (inClass (top 3) 0)) := ⟨rfl, rfl, rfl, by decide +kernel, rfl, by decide +kernel, by decide +kernel⟩
theorem fn_BadMend___init__ {P : Program} {w : World} {K : PySem.W.Frag} {mg : Str → Option Value} {base : Heap} {f : Addr} {fd : FuncData} (F : FnP K "__init__" "BadMend.__init__" (inClass (top 3) 0) f fd) (O : OexC K (He.ga K "BadMend")) (hn : PySem.W.findIn K (.ref (He.ga K "BadMend")) "index" = some none) : FnOk P w K mg base CX0 1 f fd ["self", "index"] (spBad (He.ga K "BadMend") "index") := by
  have sc := sc_BadMend___init__
  refine FunD.ok (k := 0) F sc (fun vs H Q E h => ?_) (fun cdv A outer s H vs Q E hr h => ?_)
  · obtain ⟨a, v, e, _⟩ := h
    rw [e]
    rfl
  · obtain ⟨a, v, e, ha, q⟩ := h
    subst e
    exact ⟨_, (pss_one (ps_ost (pv 0) (pv 1))), v, rfl, .ref a, rfl, a, He.ga K "BadMend", rfl, O, hn, .inl ⟨ha, fun dx h1 h2 => q dx h1 h2⟩⟩

theorem sc_behind : FnScope ["program", "mend", "steps", "made"] ["program", "mend"] (defScope (top 40)) := ⟨rfl, rfl, rfl, by decide +kernel, rfl, by decide +kernel, by decide +kernel⟩
theorem fn_behind {P : Program} {w : World} {K : PySem.W.Frag} {mg : Str → Option Value} {base : Heap} {f : Addr} {fd : FuncData} (F : FnP K "behind" "behind" (top 40) f fd) (T : Tx w K mg) (c_is_index : Cal P w K mg base 1 "is_index" ["value", "many"] (S_is_index)) (m_steps_of : CalM P w K mg base (He.ga K "Program") 1 "steps_of" ["self", "name"] (S_steps_of (He.ga K "Program"))) (m_with_steps : CalM P w K mg base (He.ga K "Program") 8 "with_steps" ["self", "name", "steps"] (S_with_steps (He.ga K "Program")))  : FnOk P w K mg base CX0 9 f fd ["program", "mend"] (spOf K (S_behind (He.ga K "Program"))) := by
  have sc := sc_behind
  refine ok_fn (k := 8) F sc (fun ds M Q h => ?_) (fun cdv A outer s H E hr => ?_)
  · obtain ⟨p, m, n, rfl, hF, hm, hQ⟩ := h; rfl
  · have hu6 : A.units + 64 < cLine := by have := hr.un; show A.units + 64 < cLine; simp only [Around.deeper] at this; omega
    have hu := hu_of hr
    refine ⟨_, (pss_cons (ps_if (PW.pt (pw_or (pt_not (pt_val (pe_callB call_isi (by rfl) T.b_isinstance (by decide +kernel) (pa_cons (pv 1) (pa_cons (pe_bltn (v := .ty "tuple") (u := .type "tuple") (by rfl) T.b_tuple (by decide +kernel) rfl) pa_nil))))) (pw_or (pt_cmpR op_ne (pe_callB call_len (by rfl) T.b_len (by decide +kernel) (pa_cons (pv 1) pa_nil)) pe_int (nomark _)) (pw_or (pt_not (pt_val (pe_callB call_isi (by rfl) T.b_isinstance (by decide +kernel) (pa_cons (pe_ix ix_seq (pv 1) pe_int (fun _ _ => rfl)) (pa_cons (pe_bltn (v := .ty "str") (u := .type "str") (by rfl) T.b_str (by decide +kernel) rfl) pa_nil))))) (pw_or1 (pt_cmpR op_notIn_seq (pe_ix ix_seq (pv 1) pe_int (fun _ _ => rfl)) (pe_glob (v := .ref _) (by rfl) T.g_NAMES rfl) (by rfl))))))) (pss_one (ps_ret pe_non)) pss_nil) (pss_cons (ps_set (i := 2) sc.nd rfl (Or.inl rfl) (pe_metD m_steps_of (hr.mono (by first | decide | exact Nat.le_refl _)) (pv 0) (pa_cons (pe_ix ix_seq (pv 1) pe_int (fun _ _ => rfl)) pa_nil))) (pss_cons (ps_if (pt_not (pt_val (pe_calD c_is_index (hr.mono (by first | decide | exact Nat.le_refl _)) (by rfl) (pa_cons (pe_ix ix_seq (pv 1) pe_int (fun _ _ => rfl)) (pa_cons (pe_op op_addA (pe_callB call_len (by rfl) T.b_len (by decide +kernel) (pa_cons (pv 2) pa_nil)) pe_int) pa_nil))))) (pss_one (ps_ret pe_non)) pss_nil) (pss_cons (ps_set (i := 3) sc.nd rfl (Or.inl rfl) pe_non) (pss_cons (ps_try_thru0 (pss_one (ps_set (i := 3) sc.nd rfl (Or.inl rfl) (pe_metD m_with_steps (hr.mono (by first | decide | exact Nat.le_refl _)) (pv 0) (pa_cons (pe_ix ix_seq (pv 1) pe_int (fun _ _ => rfl)) (pa_cons (pe_op op_addA (pe_op op_addA (pe_slice sl_both (pv 2) po_none (po_some (pe_ix ix_seq (pv 1) pe_int (fun _ _ => rfl)))) (pe_tup (pa_cons (pe_ix ix_seq (pv 1) pe_int (fun _ _ => rfl)) pa_nil))) (pe_slice sl_both (pv 2) (po_some (pe_ix ix_seq (pv 1) pe_int (fun _ _ => rfl))) po_none)) pa_nil)))))) (pss_one (ps_ret (pv 3)))))))), fun ds M Q h => ?_⟩
    obtain ⟨p, m, n, rfl, hF, hm, hQ⟩ := h
    try dsimp only [cxOf, Cx.nox]
    obtain ⟨mn, mp, ms⟩ := m
    have hv := hF.v
    have hnm : inV (.str mn.s) [V.str "new", V.str "change", V.str "drop"] = true := by cases mn <;> rfl
    walk_at "evs"
    refine ifF (by show (!inV (.str mn.s) [V.str "new", V.str "change", V.str "drop"]) = false; rw [hnm]; rfl) ?_
    walk_at "evs"
    refine ⟨p, mn, rfl, ?_⟩
    walk_at "evs"
    rw [List.length_map]
    refine ⟨_, _, rfl, ?_⟩
    refine ⟨_, rfl, ?_⟩
    have hQ : Q (optP (He.ga K "Program") (if mp ≤ (p.steps mn).length then some (p.with mn (putAt (p.steps mn) mp ms)) else none)) M := hQ
    by_cases hle : mp ≤ (p.steps mn).length
    · rw [if_pos hle] at hQ
      have hb : (decide ((0 : Int) ≤ (mp : Int)) && decide ((mp : Int) < ((p.steps mn).length : Int) + 1)) = true := by rw [decide_eq_true (by omega), decide_eq_true (by omega)]; rfl
      refine ifF (by show (!(decide ((0 : Int) ≤ (mp : Int)) && decide ((mp : Int) < ((p.steps mn).length : Int) + 1))) = false; rw [hb]; rfl) (stp_next ?_)
      have hl6 := hF.len mn
      have hmap : (p.steps mn).map stepD = (p.steps mn).map stepD := rfl
      have hlm : ((p.steps mn).map stepD).length = (p.steps mn).length := List.length_map ..
      have hct : cutD ((p.steps mn).map stepD) none (some (mp : Int)) = ((p.steps mn).take mp).map stepD := by rw [cut_take (by rw [hlm]; exact hle), List.map_take]
      have hcd : cutD ((p.steps mn).map stepD) (some (mp : Int)) none = ((p.steps mn).drop mp).map stepD := by rw [cut_drop (by rw [hlm]; exact hle), List.map_drop]
      walk_at "evs"
      rw [show cutD ((p.steps mn).map stepD) none (some ((({ n := mn, at_ := mp, st := ms } : Mend).at_ : Nat) : Int)) = ((p.steps mn).take mp).map stepD from hct]
      refine rop_or2 (rop_or1 (rop_catA (by simp only [List.length_map, List.length_take, List.length_cons, List.length_nil]; omega) ?_))
      walk_at "evs"
      rw [show cutD ((p.steps mn).map stepD) (some ((({ n := mn, at_ := mp, st := ms } : Mend).at_ : Nat) : Int)) none = ((p.steps mn).drop mp).map stepD from hcd]
      refine rop_or2 (rop_or1 (rop_catA (by simp only [List.length_append, List.length_map, List.length_take, List.length_drop, List.length_cons, List.length_nil]; omega) ?_))
      walk_at "evs"
      have hput : ((p.steps mn).take mp).map stepD ++ [stepD ms] ++ ((p.steps mn).drop mp).map stepD = (putAt (p.steps mn) mp ms).map stepD := by
        unfold putAt
        rw [List.map_append, List.map_append]
        rfl
      refine ⟨p, mn, _, putAt (p.steps mn) mp ms, rfl, .inr (by exact congrArg Da.tup hput), (fits_put hF (m := ⟨mn, mp, ms⟩) hm).v, ?_⟩
      walk_at "evs"
      exact hQ
    · rw [if_neg hle] at hQ
      have hb : (decide ((0 : Int) ≤ (mp : Int)) && decide ((mp : Int) < ((p.steps mn).length : Int) + 1)) = false := by rw [decide_eq_false (by omega : ¬ (mp : Int) < ((p.steps mn).length : Int) + 1), Bool.and_false]
      refine ifT (by show (!(decide ((0 : Int) ≤ (mp : Int)) && decide ((mp : Int) < ((p.steps mn).length : Int) + 1))) = true; rw [hb]; rfl) ?_
      walk_at "evs"
      exact hQ

theorem ok_behind {P : Program} {w : World} {K : PySem.W.Frag} {mg : Str → Option Value} {base : Heap} {f : Addr} {fd : FuncData} (F : FnP K "behind" "behind" (top 40) f fd) (g : mg "behind" = some (.ref f)) (T : Tx w K mg) (c_is_index : Cal P w K mg base 1 "is_index" ["value", "many"] (S_is_index)) (m_steps_of : CalM P w K mg base (He.ga K "Program") 1 "steps_of" ["self", "name"] (S_steps_of (He.ga K "Program"))) (m_with_steps : CalM P w K mg base (He.ga K "Program") 8 "with_steps" ["self", "name", "steps"] (S_with_steps (He.ga K "Program")))  : Cal P w K mg base 9 "behind" ["program", "mend"] (S_behind (He.ga K "Program")) :=
  cal_mk F g (fn_behind F T c_is_index m_steps_of m_with_steps) (F.bindsN fun _ _ _ _ _ _ us hl => match us, hl with | [_, _], _ => rfl)

theorem sc_mended : FnScope ["program", "mends", "index", "mend"] ["program", "mends"] (defScope (top 41)) := ⟨rfl, rfl, rfl, by decide +kernel, rfl, by decide +kernel, by decide +kernel⟩
theorem fn_mended {P : Program} {w : World} {K : PySem.W.Frag} {mg : Str → Option Value} {base : Heap} {f : Addr} {fd : FuncData} (F : FnP K "mended" "mended" (top 41) f fd) (T : Tx w K mg) (c_behind : Cal P w K mg base 9 "behind" ["program", "mend"] (S_behind (He.ga K "Program"))) (TB : TxB P w K mg base) : FnOk P w K mg base (L2.CX P w) 10 f fd ["program", "mends"] (spOfE K (He.ga K "BadMend") (S_mended (He.ga K "Program"))) := by
  have sc := sc_mended
  obtain ⟨fI, fdI, iC, tI, FI, bI⟩ := TB.ini
  refine ok_fnE (k := 9) F sc (fun ds M Q R h => ?_) (fun cdv A outer s H E hr => ?_)
  · obtain ⟨p, ms, e, _⟩ := h
    rw [e]
    rfl
  · have hu := hu_of hr
    refine ⟨_, (pss_cons (ps_for (passes_of rfl) (by rfl) (pi_enumA (by rfl) T.b_enumerate (pa_cons (pv 1) pa_nil)) (pg_tup (n := 2) (by rfl) (pgs_cons (pg_name (i := 2) sc.nd rfl (Or.inl rfl)) (pgs_cons (pg_name (i := 3) sc.nd rfl (Or.inl rfl)) pgs_nil))) (pss_cons (ps_set (i := 0) sc.nd rfl (Or.inl rfl) (pe_calD c_behind (hr.mono (by first | decide | exact Nat.le_refl _)) (by rfl) (pa_cons (pv 0) (pa_cons (pv 3) pa_nil)))) (pss_one (ps_if (pt_cmpR op_isN1 (pv 0) pe_non (nomark _)) (pss_one (ps_raise rfl (takes_of rfl rfl rfl rfl) (pmk_oex TB.o iC tI FI (hr.mono (by first | decide | exact Nat.le_refl _)) bI .nil pass0 (by rfl) TB.g (pa_cons (pv 2) pa_nil)))) pss_nil)))) (pss_one (ps_ret (pv 0)))), fun ds M Q R F0 G0 hS hE => ?_⟩
    obtain ⟨p, ms, rfl, hF, hok, h1, h2⟩ := hS
    try dsimp only [cxOf, Cx.nox]
    refine stpe_seq (stpe_for (js := [2, 3]) (sr_enumA ?_))
    walk_at "evs"
    refine ⟨_, .inl rfl, fun i ρ' M' => ∃ q, (∃ a b, ρ' = [some (progD (He.ga K "Program") q), some (.lst (ms.map mendD)), a, b]) ∧ M = M' ∧ Fits q (ms.length - i) ∧ q.keeps = p.keeps ∧ mendedM p ms = mendedM q (ms.drop i), ⟨p, ⟨none, none, rfl⟩, rfl, by simpa using hF, rfl, by simp⟩, ?_, ?_⟩
    · rintro i d ρ' M' hd ⟨q, ⟨a, b, rfl⟩, rfl, hf, hk, he⟩
      obtain ⟨e, he2, rfl⟩ := enumD_get hd
      rw [List.getElem?_map] at he2
      obtain ⟨m, hm, rfl⟩ := Option.map_eq_some_iff.mp he2
      have hi : i < ms.length := (List.getElem?_eq_some_iff.mp hm).1
      have hmo : MendOk q.keeps m := by
        rw [hk]
        exact hok m (List.mem_of_getElem? hm)
      have hf1 : Fits q ((ms.length - (i + 1)) + 1) := by
        have e : (ms.length - (i + 1)) + 1 = ms.length - i := by omega
        rw [e]
        exact hf
      have hdr : ms.drop i = m :: ms.drop (i + 1) := by
        rw [← List.getElem_cons_drop hi]
        congr 1
        exact (List.getElem?_eq_some_iff.mp hm).2
      rw [hdr] at he
      refine ⟨_, tg_tup (js := [2, 3]) rfl rfl, ?_⟩
      refine stpe_seq (stpe_of (stp_set ?_))
      walk_at "evs"
      refine ⟨q, m, _, rfl, hf1, hmo, ?_⟩
      cases hb : behindM q m with
      | none =>
        have hn : mendedM p ms = none := by
          rw [he]
          show (match behindM q m with | some q => mendedM q (ms.drop (i + 1)) | none => none) = none
          rw [hb]
        refine stpe_if ?_
        walk_at "evs"
        refine stpe_raise (R := R) hE ?_
        walk_at "evs"
        exact h2 hn
      | some q2 =>
        obtain ⟨f1, f2⟩ := fits_behind hf1 hmo hb
        refine stpe_if ?_
        walk_at "evs"
        refine stpe_of (stp_next ?_)
        refine ⟨q2, ⟨_, _, rfl⟩, rfl, f1, f2.trans hk, ?_⟩
        rw [he]
        show (match behindM q m with | some q => mendedM q (ms.drop (i + 1)) | none => none) = _
        rw [hb]
    · rintro ρ' M' ⟨q, ⟨a, b, rfl⟩, rfl, _, _, he⟩
      rw [enumD_length, List.length_map, List.drop_length] at he
      refine stpe_of ?_
      walk_at "evs"
      exact h1 q he

theorem sc_mended_or_none : FnScope ["program", "mends", "made"] ["program", "mends"] (defScope (top 42)) := ⟨rfl, rfl, rfl, by decide +kernel, rfl, by decide +kernel, by decide +kernel⟩
theorem fn_mended_or_none {P : Program} {w : World} {K : PySem.W.Frag} {mg : Str → Option Value} {base : Heap} {f : Addr} {fd : FuncData} (F : FnP K "mended_or_none" "mended_or_none" (top 42) f fd) (T : Tx w K mg)  (TB : TxB P w K mg base) (c_mended : CalE P w K mg base (He.ga K "BadMend") 10 "mended" ["program", "mends"] (S_mended (He.ga K "Program"))) : FnOk P w K mg base CX0 11 f fd ["program", "mends"] (spOf K (S_mended_or_none (He.ga K "Program"))) := by
  have sc := sc_mended_or_none
  refine ok_fn (k := 10) F sc (fun ds M Q h => ?_) (fun cdv A outer s H E hr => ?_)
  · obtain ⟨p, ms, rfl, hF, hok, hQ⟩ := h; rfl
  · have hu6 : A.units + 64 < cLine := by have := hr.un; show A.units + 64 < cLine; simp only [Around.deeper] at this; omega
    have hu := hu_of hr
    refine ⟨_, (pss_cons (ps_set (i := 2) sc.nd rfl (Or.inl rfl) pe_non) (pss_cons (ps_try_only (c := .ref (He.ga K "BadMend")) rfl rfl ⟨rfl, by decide, .inl TB.g⟩ takes0 (fun W pn xe tk _ => (pss_one (ps_set (i := 2) sc.nd rfl (Or.inl rfl) (k_pe_calE (K := K) c_mended tk (hr.mono (by first | decide | exact Nat.le_refl _)) (by rfl) (pa_cons (pv 0) (pa_cons (pv 1) pa_nil)))))) (fun a oe cls d pn _ _ => (pss_one (ps_set (i := 2) sc.nd rfl (Or.inl rfl) pe_non)))) (pss_one (ps_ret (pv 2))))), fun ds M Q h => ?_⟩
    obtain ⟨p, ms, rfl, hF, hok, hQ⟩ := h
    try dsimp only [cxOf, Cx.nox]
    walk_at "evs"
    refine stp_tryCall TB.ex ?_
    walk_at "evs"
    refine ⟨p, ms, rfl, hF, hok, fun q hq => ?_, fun hn => ?_⟩
    · rw [hq] at hQ
      walk_at "evs"
      exact hQ
    · rw [hn] at hQ
      walk_at "evs"
      exact hQ

theorem ok_mended_or_none {P : Program} {w : World} {K : PySem.W.Frag} {mg : Str → Option Value} {base : Heap} {f : Addr} {fd : FuncData} (F : FnP K "mended_or_none" "mended_or_none" (top 42) f fd) (g : mg "mended_or_none" = some (.ref f)) (T : Tx w K mg)  (TB : TxB P w K mg base) (c_mended : CalE P w K mg base (He.ga K "BadMend") 10 "mended" ["program", "mends"] (S_mended (He.ga K "Program"))) : Cal P w K mg base 11 "mended_or_none" ["program", "mends"] (S_mended_or_none (He.ga K "Program")) :=
  cal_mk F g (fn_mended_or_none F T TB c_mended) (F.bindsN fun _ _ _ _ _ _ us hl => match us, hl with | [_, _], _ => rfl)

theorem sc_choices : FnScope ["things", "many", "found", "at", "thing", "rest"] ["things", "many"] (defScope (top 43)) := ⟨rfl, rfl, rfl, by decide +kernel, rfl, by decide +kernel, by decide +kernel⟩
theorem fn_choices {n k : Nat} {P : Program} {w : World} {K : PySem.W.Frag} {mg : Str → Option Value} {base : Heap} {f : Addr} {fd : FuncData} (F : FnP K "choices" "choices" (top 43) f fd) (T : Tx w K mg) (c_choices : Cal P w K mg base k "choices" ["things", "many"] (S_choices n))  : FnOk P w K mg base CX0 (k+1) f fd ["things", "many"] (spOf K (S_choices (n + 1))) := by
  have sc := sc_choices
  refine ok_fn (k := k) F sc (fun ds M Q h => ?_) (fun cdv A outer s H E hr => ?_)
  · obtain ⟨xs, many, hn, rfl, hxl, hm2, hQ⟩ := h; rfl
  · have hu6 : A.units + 64 < cLine := by have := hr.un; show A.units + 64 < cLine; simp only [Around.deeper] at this; omega
    have hu := hu_of hr
    refine ⟨_, (pss_cons (ps_if (pt_cmpR op_eq (pv 1) pe_int (nomark _)) (pss_one (ps_ret (pe_lst (pa_cons (pe_tup pa_nil) pa_nil)))) pss_nil) (pss_cons (ps_set (i := 2) sc.nd rfl (Or.inl rfl) (pe_lst pa_nil)) (pss_cons (ps_for PassesOwn.never (by rfl) (pi_enumA (by rfl) T.b_enumerate (pa_cons (pv 0) pa_nil)) (pg_tup (n := 2) (by rfl) (pgs_cons (pg_name (i := 3) sc.nd rfl (Or.inl rfl)) (pgs_cons (pg_name (i := 4) sc.nd rfl (Or.inl rfl)) pgs_nil))) (pss_one (ps_for PassesOwn.never (by rfl) (pi_seq (pe_calD c_choices (hr.mono (by first | decide | exact Nat.le_refl _)) (by rfl) (pa_cons (pe_slice sl_both (pv 0) (po_some (pe_op op_addA (pv 3) pe_int)) po_none) (pa_cons (pe_op op_sub (pv 1) pe_int) pa_nil)))) (pg_name (i := 5) sc.nd rfl (Or.inl rfl)) (pss_one (ps_expr (pe_bm PySem.F.plainAttrs_list PySem.F.slot_list_append PySem.F.type_list_append mt_append (pv 2) (pa_cons (pe_op op_addA (pe_tup (pa_cons (pv 4) pa_nil)) (pv 5)) pa_nil))))))) (pss_one (ps_ret (pv 2)))))), fun ds M Q h => ?_⟩
    obtain ⟨xs, many, hn, rfl, hxl, hm2, hQ⟩ := h
    try dsimp only [cxOf, Cx.nox]
    cases many with
    | zero =>
      walk_at "evs"
      exact hQ
    | succ many =>
      refine stp_seq (stp_if (tv_test (ev_op (ev_var rfl (ev_c (rop_eq rfl ⟨_, rfl, ?_⟩))))))
      refine ifF (decide_eq_false (fun z => by injection z with z; omega)) (stp_next ?_)
      refine stp_seq (stp_set (ev_lstM (av_nil ⟨Nat.zero_le _, fun r hr => ?_⟩)))
      let G : Nat → List (List Nat) := fun i => (choicesM many (xs.drop (i + 1))).map fun r => xs.getD i 0 :: r
      have hC : choicesM (many + 1) xs = (List.range xs.length).flatMap G := rfl
      have hGl : ∀ i, (choicesM many (xs.drop (i + 1))).length ≤ 10 := fun i => by
        refine Nat.le_trans (choices_len many _) ?_
        have h1 : (xs.drop (i + 1)).length ≤ 10 := by rw [List.length_drop]; omega
        refine Nat.le_trans (Nat.pow_le_pow_left h1 many) ?_
        exact Nat.le_trans (Nat.pow_le_pow_right (by decide) (show many ≤ 1 by omega)) (by decide)
      have hFl : ∀ i, ((List.range i).flatMap G).length ≤ 10 * i := fun i => by
        have h := flatMap_le (f := G) (c := 10) (fun i => by show (List.map _ _).length ≤ 10; rw [List.length_map]; exact hGl i) (List.range i)
        rw [List.length_range] at h
        exact h
      refine stp_seq (stp_for (js := [3, 4]) (sr_enumA ?_))
      walk_at "evs"
      refine ⟨_, .inl rfl, fun i ρ' M' => (∃ a b c, ρ' = [some (.lst (xs.map fun i : Nat => iD i)), some (iD ((many + 1 : Nat) : Int)), some (.sc (.ref r)), a, b, c]) ∧ updM M r (.lst (((List.range i).flatMap G).map ordD)) = M', ⟨⟨none, none, none, rfl⟩, rfl⟩, ?_, ?_⟩
      · rintro i d ρ' M' hd ⟨⟨a, b, c, rfl⟩, rfl⟩
        obtain ⟨e, he, rfl⟩ := enumD_get hd
        rw [List.getElem?_map] at he
        obtain ⟨x, hx, rfl⟩ := Option.map_eq_some_iff.mp he
        have hi : i < xs.length := (List.getElem?_eq_some_iff.mp hx).1
        have hgx : xs.getD i 0 = x := by rw [List.getD_eq_getElem?_getD, hx] <;> rfl
        have ei : (i : Int) + 1 = ((i + 1 : Nat) : Int) := by omega
        have em : ((many + 1 : Nat) : Int) - 1 = (many : Int) := by omega
        have hcut : cutD (xs.map fun i : Nat => iD i) (some ((i : Int) + 1)) none = (xs.drop (i + 1)).map fun i : Nat => iD i := by
          rw [ei, cut_drop (by rw [List.length_map]; omega), List.map_drop]
        have hfl := hFl i
        have hil : i < 10 := by omega
        refine ⟨_, tg_tup (js := [3, 4]) rfl rfl, ?_⟩
        refine stp_for (js := [5]) (sr_seq ?_)
        walk_at "evs"
        refine ⟨xs.drop (i + 1), many, by omega, by rw [hcut, em], by rw [List.length_drop]; omega, by omega, ?_⟩
        walk_at "evs"
        refine ⟨_, .inl rfl, fun j ρ' M' => (∃ c, ρ' = [some (.lst (xs.map fun i : Nat => iD i)), some (iD ((many + 1 : Nat) : Int)), some (.sc (.ref r)), some (iD i), some (iD x), c]) ∧ updM M r (.lst (((List.range i).flatMap G ++ (((choicesM many (xs.drop (i + 1))).take j).map fun r => x :: r)).map ordD)) = M', ⟨⟨_, rfl⟩, by rw [List.take_zero, List.map_nil, List.append_nil]⟩, ?_, ?_⟩
        · rintro j d ρ' M' hd ⟨⟨c, rfl⟩, rfl⟩
          rw [List.getElem?_map] at hd
          obtain ⟨o, ho, rfl⟩ := Option.map_eq_some_iff.mp hd
          obtain ⟨ol, _⟩ := choices_mem many _ o (List.mem_of_getElem? ho)
          have hj : j < (choicesM many (xs.drop (i + 1))).length := (List.getElem?_eq_some_iff.mp ho).1
          have hg := hGl i
          refine ⟨_, tg_name, ?_⟩
          refine stp_drop ?_
          refine ev_bm ?_
          walk_at "evs"
          refine ⟨_, _, rfl, updM_same, rfl, ?_⟩
          walk_at "evs"
          first
            | refine rop_or2 (rop_or1 (rop_catA (by simp only [List.length_map, List.length_cons, List.length_nil]; omega) ?_))
            | refine rop_or2 (rop_or1 (rop_catA (by show 1 + (o.map fun i : Nat => iD i).length ≤ 100000; rw [List.length_map]; omega) ?_))
            | skip
          walk_at "evs"
          refine rmt_append updM_same (by simp only [List.length_map, List.length_append, List.length_take]; omega) ?_
          rw [updM_updM]
          refine ⟨⟨_, rfl⟩, ?_⟩
          rw [take_succ_some ho, List.map_append, List.map_append, List.map_append, List.map_append, ← List.append_assoc]
          rfl
        · rintro ρ' M' ⟨⟨c, rfl⟩, rfl⟩
          rw [List.length_map, List.take_length]
          refine ⟨⟨_, _, _, rfl⟩, ?_⟩
          rw [range_succ_flat]
          show updM M r (.lst (((List.range i).flatMap G ++ (choicesM many (xs.drop (i + 1))).map fun r => xs.getD i 0 :: r).map ordD)) = _
          rw [hgx]
      · rintro ρ' M' ⟨⟨a, b, c, rfl⟩, rfl⟩
        rw [enumD_length, List.length_map, ← hC]
        refine stp_ret (ev_frzL (ev_var rfl ⟨r, _, rfl, updM_same, ?_⟩))
        rw [delM_upd hr]
        exact hQ

theorem ok_choices {n k : Nat} {P : Program} {w : World} {K : PySem.W.Frag} {mg : Str → Option Value} {base : Heap} {f : Addr} {fd : FuncData} (F : FnP K "choices" "choices" (top 43) f fd) (g : mg "choices" = some (.ref f)) (T : Tx w K mg) (c_choices : Cal P w K mg base k "choices" ["things", "many"] (S_choices n))  : Cal P w K mg base (k+1) "choices" ["things", "many"] (S_choices (n + 1)) :=
  cal_mk F g (fn_choices F T c_choices) (F.bindsN fun _ _ _ _ _ _ us hl => match us, hl with | [_, _], _ => rfl)

theorem sc__law_choices : FnScope ["_law_things", "_law_many", "_law_found", "_law_k", "_law_rest"] ["_law_things", "_law_many"] (defScope (top 57)) := ⟨rfl, rfl, rfl, by decide +kernel, rfl, by decide +kernel, by decide +kernel⟩
theorem fn__law_choices {n k : Nat} {P : Program} {w : World} {K : PySem.W.Frag} {mg : Str → Option Value} {base : Heap} {f : Addr} {fd : FuncData} (F : FnP K "_law_choices" "_law_choices" (top 57) f fd) (T : Tx w K mg) (c__law_choices : Cal P w K mg base k "_law_choices" ["_law_things", "_law_many"] (S_choices n))  : FnOk P w K mg base CX0 (k+1) f fd ["_law_things", "_law_many"] (spOf K (S_choices (n + 1))) := by
  have sc := sc__law_choices
  refine ok_fn (k := k) F sc (fun ds M Q h => ?_) (fun cdv A outer s H E hr => ?_)
  · obtain ⟨xs, many, hn, rfl, hxl, hm2, hQ⟩ := h; rfl
  · have hu6 : A.units + 64 < cLine := by have := hr.un; show A.units + 64 < cLine; simp only [Around.deeper] at this; omega
    have hu := hu_of hr
    refine ⟨_, (pss_cons (ps_if (pt_cmpR op_eq (pv 1) pe_int (nomark _)) (pss_one (ps_ret (pe_lst (pa_cons (pe_tup pa_nil) pa_nil)))) pss_nil) (pss_cons (ps_set (i := 2) sc.nd rfl (Or.inl rfl) (pe_lst pa_nil)) (pss_cons (ps_for PassesOwn.never (by rfl) (pi_range1 (by rfl) T.b_range (pa_cons (pe_callB call_len (by rfl) T.b_len (by decide +kernel) (pa_cons (pv 0) pa_nil)) pa_nil)) (pg_name (i := 3) sc.nd rfl (Or.inl rfl)) (pss_one (ps_for PassesOwn.never (by rfl) (pi_seq (pe_calD c__law_choices (hr.mono (by first | decide | exact Nat.le_refl _)) (by rfl) (pa_cons (pe_slice sl_both (pv 0) (po_some (pe_op op_addA (pv 3) pe_int)) po_none) (pa_cons (pe_op op_sub (pv 1) pe_int) pa_nil)))) (pg_name (i := 4) sc.nd rfl (Or.inl rfl)) (pss_one (ps_expr (pe_bm PySem.F.plainAttrs_list PySem.F.slot_list_append PySem.F.type_list_append mt_append (pv 2) (pa_cons (pe_op op_addA (pe_tup (pa_cons (pe_ix ix_seq (pv 0) (pv 3) (fun _ _ => rfl)) pa_nil)) (pv 4)) pa_nil))))))) (pss_one (ps_ret (pv 2)))))), fun ds M Q h => ?_⟩
    obtain ⟨xs, many, hn, rfl, hxl, hm2, hQ⟩ := h
    try dsimp only [cxOf, Cx.nox]
    cases many with
    | zero =>
      walk_at "evs"
      exact hQ
    | succ many =>
      refine stp_seq (stp_if (tv_test (ev_op (ev_var rfl (ev_c (rop_eq rfl ⟨_, rfl, ?_⟩))))))
      refine ifF (decide_eq_false (fun z => by injection z with z; omega)) (stp_next ?_)
      refine stp_seq (stp_set (ev_lstM (av_nil ⟨Nat.zero_le _, fun r hr => ?_⟩)))
      let G : Nat → List (List Nat) := fun i => (choicesM many (xs.drop (i + 1))).map fun r => xs.getD i 0 :: r
      have hC : choicesM (many + 1) xs = (List.range xs.length).flatMap G := rfl
      have hGl : ∀ i, (choicesM many (xs.drop (i + 1))).length ≤ 10 := fun i => by
        refine Nat.le_trans (choices_len many _) ?_
        have h1 : (xs.drop (i + 1)).length ≤ 10 := by rw [List.length_drop]; omega
        refine Nat.le_trans (Nat.pow_le_pow_left h1 many) ?_
        exact Nat.le_trans (Nat.pow_le_pow_right (by decide) (show many ≤ 1 by omega)) (by decide)
      have hFl : ∀ i, ((List.range i).flatMap G).length ≤ 10 * i := fun i => by
        have h := flatMap_le (f := G) (c := 10) (fun i => by show (List.map _ _).length ≤ 10; rw [List.length_map]; exact hGl i) (List.range i)
        rw [List.length_range] at h
        exact h
      refine stp_seq (stp_for (js := [3]) (sr_range1 ?_))
      walk_at "evs"
      rw [List.length_map]
      refine ⟨by omega, by omega, ?_⟩
      have hmn : ((xs.length : Nat) : Int).toNat = xs.length := by omega
      rw [hmn]
      refine ⟨fun i ρ' M' => (∃ b c, ρ' = [some (.lst (xs.map fun i : Nat => iD i)), some (iD ((many + 1 : Nat) : Int)), some (.sc (.ref r)), b, c]) ∧ updM M r (.lst (((List.range i).flatMap G).map ordD)) = M', ⟨⟨none, none, rfl⟩, rfl⟩, ?_, ?_⟩
      · rintro i d ρ' M' hd ⟨⟨b, c, rfl⟩, rfl⟩
        obtain ⟨hi, rfl⟩ := rngD_get hd
        rw [Int.zero_add]
        have hx : xs[i]? = some xs[i] := List.getElem?_eq_getElem hi
        have hxi : atI (xs.map fun i : Nat => iD i) (i : Int) = some (iD xs[i]) := atI_nat (by rw [List.getElem?_map, hx] <;> rfl)
        generalize xs[i] = x at hx hxi
        have hgx : xs.getD i 0 = x := by rw [List.getD_eq_getElem?_getD, hx] <;> rfl
        have ei : (i : Int) + 1 = ((i + 1 : Nat) : Int) := by omega
        have em : ((many + 1 : Nat) : Int) - 1 = (many : Int) := by omega
        have hcut : cutD (xs.map fun i : Nat => iD i) (some ((i : Int) + 1)) none = (xs.drop (i + 1)).map fun i : Nat => iD i := by
          rw [ei, cut_drop (by rw [List.length_map]; omega), List.map_drop]
        have hfl := hFl i
        have hil : i < 10 := by omega
        refine ⟨_, tg_name, ?_⟩
        refine stp_for (js := [4]) (sr_seq ?_)
        walk_at "evs"
        refine ⟨xs.drop (i + 1), many, by omega, by rw [hcut, em], by rw [List.length_drop]; omega, by omega, ?_⟩
        walk_at "evs"
        refine ⟨_, .inl rfl, fun j ρ' M' => (∃ c, ρ' = [some (.lst (xs.map fun i : Nat => iD i)), some (iD ((many + 1 : Nat) : Int)), some (.sc (.ref r)), some (iD i), c]) ∧ updM M r (.lst (((List.range i).flatMap G ++ (((choicesM many (xs.drop (i + 1))).take j).map fun r => x :: r)).map ordD)) = M', ⟨⟨_, rfl⟩, by rw [List.take_zero, List.map_nil, List.append_nil]⟩, ?_, ?_⟩
        · rintro j d ρ' M' hd ⟨⟨c, rfl⟩, rfl⟩
          rw [List.getElem?_map] at hd
          obtain ⟨o, ho, rfl⟩ := Option.map_eq_some_iff.mp hd
          obtain ⟨ol, _⟩ := choices_mem many _ o (List.mem_of_getElem? ho)
          have hj : j < (choicesM many (xs.drop (i + 1))).length := (List.getElem?_eq_some_iff.mp ho).1
          have hg := hGl i
          refine ⟨_, tg_name, ?_⟩
          refine stp_drop ?_
          refine ev_bm ?_
          walk_at "evs"
          refine ⟨_, _, rfl, updM_same, rfl, ?_⟩
          walk_at "evs"
          try refine rop_ix_L hxi ?_
          walk_at "evs"
          first
            | refine rop_or2 (rop_or1 (rop_catA (by simp only [List.length_map, List.length_cons, List.length_nil]; omega) ?_))
            | refine rop_or2 (rop_or1 (rop_catA (by show 1 + (o.map fun i : Nat => iD i).length ≤ 100000; rw [List.length_map]; omega) ?_))
            | skip
          walk_at "evs"
          refine rmt_append updM_same (by simp only [List.length_map, List.length_append, List.length_take]; omega) ?_
          rw [updM_updM]
          refine ⟨⟨_, rfl⟩, ?_⟩
          rw [take_succ_some ho, List.map_append, List.map_append, List.map_append, List.map_append, ← List.append_assoc]
          rfl
        · rintro ρ' M' ⟨⟨c, rfl⟩, rfl⟩
          rw [List.length_map, List.take_length]
          refine ⟨⟨_, _, rfl⟩, ?_⟩
          rw [range_succ_flat]
          show updM M r (.lst (((List.range i).flatMap G ++ (choicesM many (xs.drop (i + 1))).map fun r => xs.getD i 0 :: r).map ordD)) = _
          rw [hgx]
      · rintro ρ' M' ⟨⟨b, c, rfl⟩, rfl⟩
        rw [rngD_length, ← hC]
        refine stp_ret (ev_frzL (ev_var rfl ⟨r, _, rfl, updM_same, ?_⟩))
        rw [delM_upd hr]
        exact hQ

theorem ok__law_choices {n k : Nat} {P : Program} {w : World} {K : PySem.W.Frag} {mg : Str → Option Value} {base : Heap} {f : Addr} {fd : FuncData} (F : FnP K "_law_choices" "_law_choices" (top 57) f fd) (g : mg "_law_choices" = some (.ref f)) (T : Tx w K mg) (c__law_choices : Cal P w K mg base k "_law_choices" ["_law_things", "_law_many"] (S_choices n))  : Cal P w K mg base (k+1) "_law_choices" ["_law_things", "_law_many"] (S_choices (n + 1)) :=
  cal_mk F g (fn__law_choices F T c__law_choices) (F.bindsN fun _ _ _ _ _ _ us hl => match us, hl with | [_, _], _ => rfl)

theorem sc__law_helps : FnScope ["_law_program", "_law_some", "_law_made_here"] ["_law_program", "_law_some"] (defScope (top 58)) := ⟨rfl, rfl, rfl, by decide +kernel, rfl, by decide +kernel, by decide +kernel⟩
theorem fn__law_helps {P : Program} {w : World} {K : PySem.W.Frag} {mg : Str → Option Value} {base : Heap} {f : Addr} {fd : FuncData} (F : FnP K "_law_helps" "_law_helps" (top 58) f fd) (T : Tx w K mg) (c_is_right : Cal P w K mg base 7 "is_right" ["program"] (S_is_right (He.ga K "Program"))) (TB : TxB P w K mg base) (c_mended : CalE P w K mg base (He.ga K "BadMend") 10 "mended" ["program", "mends"] (S_mended (He.ga K "Program"))) : FnOk P w K mg base CX0 11 f fd ["_law_program", "_law_some"] (spOf K (S_law_helps (He.ga K "Program"))) := by
  have sc := sc__law_helps
  refine ok_fn (k := 10) F sc (fun ds M Q h => ?_) (fun cdv A outer s H E hr => ?_)
  · obtain ⟨p, ms, rfl, hF, hok, hQ⟩ := h; rfl
  · have hu6 : A.units + 64 < cLine := by have := hr.un; show A.units + 64 < cLine; simp only [Around.deeper] at this; omega
    have hu := hu_of hr
    refine ⟨_, (pss_cons (ps_set (i := 2) sc.nd rfl (Or.inl rfl) pe_non) (pss_cons (ps_try_only (c := .ref (He.ga K "BadMend")) rfl rfl ⟨rfl, by decide, .inl TB.g⟩ takes0 (fun W pn xe tk _ => (pss_one (ps_set (i := 2) sc.nd rfl (Or.inl rfl) (k_pe_calE (K := K) c_mended tk (hr.mono (by first | decide | exact Nat.le_refl _)) (by rfl) (pa_cons (pv 0) (pa_cons (pv 1) pa_nil)))))) (fun a oe cls d pn _ _ => (pss_one (ps_set (i := 2) sc.nd rfl (Or.inl rfl) pe_non)))) (pss_one (ps_ret (pe_and (pe_cmpR op_notN1 (pv 2) pe_non (nomark _)) (pe_one (pe_calD c_is_right (hr.mono (by first | decide | exact Nat.le_refl _)) (by rfl) (pa_cons (pv 2) pa_nil)))))))), fun ds M Q h => ?_⟩
    obtain ⟨p, ms, rfl, hF, hok, hQ⟩ := h
    try dsimp only [cxOf, Cx.nox]
    walk_at "evs"
    refine stp_tryCall TB.ex ?_
    walk_at "evs"
    refine ⟨p, ms, rfl, hF, hok, fun q hq => ?_, fun hn => ?_⟩
    · have e : helpsM p ms = isRight q := by unfold helpsM; rw [hq]
      rw [e] at hQ
      walk_at "evs"
      refine ⟨q, rfl, mended_valid hF hok hq, ?_⟩
      exact hQ
    · have e : helpsM p ms = false := by unfold helpsM; rw [hn]
      rw [e] at hQ
      walk_at "evs"
      exact hQ

theorem ok__law_helps {P : Program} {w : World} {K : PySem.W.Frag} {mg : Str → Option Value} {base : Heap} {f : Addr} {fd : FuncData} (F : FnP K "_law_helps" "_law_helps" (top 58) f fd) (g : mg "_law_helps" = some (.ref f)) (T : Tx w K mg) (c_is_right : Cal P w K mg base 7 "is_right" ["program"] (S_is_right (He.ga K "Program"))) (TB : TxB P w K mg base) (c_mended : CalE P w K mg base (He.ga K "BadMend") 10 "mended" ["program", "mends"] (S_mended (He.ga K "Program"))) : Cal P w K mg base 11 "_law_helps" ["_law_program", "_law_some"] (S_law_helps (He.ga K "Program")) :=
  cal_mk F g (fn__law_helps F T c_is_right TB c_mended) (F.bindsN fun _ _ _ _ _ _ us hl => match us, hl with | [_, _], _ => rfl)

theorem sc_mends : FnScope ["program", "offered", "indexes", "many", "found", "some", "made", "index"] ["program", "offered"] (defScope (top 44)) := ⟨rfl, rfl, rfl, by decide +kernel, rfl, by decide +kernel, by decide +kernel⟩
theorem fn_mends {P : Program} {w : World} {K : PySem.W.Frag} {mg : Str → Option Value} {base : Heap} {f : Addr} {fd : FuncData} (F : FnP K "mends" "mends" (top 44) f fd) (T : Tx w K mg) (c_choices : Cal P w K mg base 3 "choices" ["things", "many"] (S_choices 3)) (c_mended_or_none : Cal P w K mg base 11 "mended_or_none" ["program", "mends"] (S_mended_or_none (He.ga K "Program"))) (c_is_right : Cal P w K mg base 7 "is_right" ["program"] (S_is_right (He.ga K "Program"))) (TB : TxB P w K mg base) : FnOk P w K mg base CX0 12 f fd ["program", "offered"] (spOf K (S_mends (He.ga K "Program"))) := by
  have sc := sc_mends
  refine ok_fn (k := 11) F sc (fun ds M Q h => ?_) (fun cdv A outer s H E hr => ?_)
  · obtain ⟨p, ms, rfl, hl10, hF, hok, hQ⟩ := h; rfl
  · have hu6 : A.units + 64 < cLine := by have := hr.un; show A.units + 64 < cLine; simp only [Around.deeper] at this; omega
    have hu := hu_of hr
    refine ⟨_, (pss_cons (ps_set (i := 2) sc.nd rfl (Or.inl rfl) (pe_listRg rfl (by rfl) T.b_list (prg_1 (by rfl) T.b_range (pe_callB call_len (by rfl) T.b_len (by decide +kernel) (pa_cons (pv 1) pa_nil))))) (pss_cons (ps_for PassesOwn.never (by rfl) (pi_range1 (by rfl) T.b_range (pa_cons (pe_op op_addA (pe_globI (by rfl) TB.most) pe_int) pa_nil)) (pg_name (i := 3) sc.nd rfl (Or.inl rfl)) (pss_cons (ps_set (i := 4) sc.nd rfl (Or.inl rfl) (pe_lst pa_nil)) (pss_cons (ps_for PassesOwn.never (by rfl) (pi_seq (pe_calD c_choices (hr.mono (by first | decide | exact Nat.le_refl _)) (by rfl) (pa_cons (pv 2) (pa_cons (pv 3) pa_nil)))) (pg_name (i := 5) sc.nd rfl (Or.inl rfl)) (pss_cons (ps_set (i := 6) sc.nd rfl (Or.inl rfl) (pe_calD c_mended_or_none (hr.mono (by first | decide | exact Nat.le_refl _)) (by rfl) (pa_cons (pv 0) (pa_cons (pe_lc (own := [("index", 7)]) (by rfl) sc.nd (pi_seq (pv 5)) (blkOk_by (own := [("index", 7)]) (N := ["program", "offered", "indexes", "many", "found", "some", "made", "index"]) (sc := defScope (top 44)) (by decide +kernel)) (fun _ _ _ _ _ => (pg_name (i := 7) sc.nd rfl (Or.inl rfl))) (fun _ _ _ _ _ => pts_nil) (fun _ _ _ _ _ => (pe_ix (k_ix_seq (K := K)) (pv 1) (pv 7) (fun _ _ => rfl)))) pa_nil)))) (pss_one (ps_if (PW.pt (pw_and (pt_cmpR op_notN1 (pv 6) pe_non (nomark _)) (pw_and1 (pt_val (pe_calD c_is_right (hr.mono (by first | decide | exact Nat.le_refl _)) (by rfl) (pa_cons (pv 6) pa_nil)))))) (pss_one (ps_expr (pe_bm PySem.F.plainAttrs_list PySem.F.slot_list_append PySem.F.type_list_append mt_append (pv 4) (pa_cons (pv 5) pa_nil)))) pss_nil)))) (pss_one (ps_if (pt_truth (pv 4) (by intro _; rfl)) (pss_one (ps_ret (pv 4))) pss_nil))))) (pss_one (ps_ret (pe_lst pa_nil))))), fun ds M Q h => ?_⟩
    obtain ⟨p, ms, rfl, hl10, hF, hok, hQ⟩ := h
    try dsimp only [cxOf, Cx.nox]
    have hlm : (ms.map mendD).length = ms.length := List.length_map ..
    refine stp_to M ?_
    refine stp_seq (stp_set (ev_listRg ?_))
    walk_at "evs"
    rw [hlm]
    refine ⟨by omega, by omega, ?_⟩
    rw [range_data]
    refine stp_seq (stp_for (js := [3]) (sr_range1 ?_))
    walk_at "evs"
    refine ⟨by decide, by decide, ?_⟩
    refine ⟨fun i ρ' M' => (∃ b3 b4 b5 b6 b7, ρ' = [some (progD (He.ga K "Program") p), some (.lst (ms.map mendD)), some (.lst ((List.range ms.length).map fun i : Nat => iD i)), b3, b4, b5, b6, b7]) ∧ SubM M M' ∧ dueM p ms i = [], ⟨⟨_, _, _, _, _, rfl⟩, SubM.refl M, rfl⟩, ?_, ?_⟩
    · rintro i d ρ' M' hd ⟨⟨b3, b4, b5, b6, b7, rfl⟩, hsub, hdue⟩
      obtain ⟨hi, rfl⟩ := rngD_get hd
      have hi3 : i < 3 := hi
      rw [Int.zero_add]
      refine ⟨_, tg_name, ?_⟩
      refine stp_seq (stp_set (ev_lstM (av_nil ⟨Nat.zero_le _, fun r hr => ?_⟩)))
      have hrM : M r = none := by
        cases e : M r with
        | none => rfl
        | some u => rw [hsub _ _ e] at hr; cases hr
      let F : List Nat → Bool := fun o => helpsM p (pickM ms o)
      have hG : goodM p ms i = (choicesM i (List.range ms.length)).filter F := rfl
      have hcl : (choicesM i (List.range ms.length)).length ≤ 100 := by
        refine Nat.le_trans (choices_len i _) ?_
        rw [List.length_range]
        exact Nat.le_trans (Nat.pow_le_pow_left hl10 i) (Nat.le_trans (Nat.pow_le_pow_right (by decide) (show i ≤ 2 by omega)) (by decide))
      refine stp_seq (stp_for (js := [5]) (sr_seq ?_))
      walk_at "evs"
      refine ⟨List.range ms.length, i, hi3, rfl, by rw [List.length_range]; exact hl10, by omega, ?_⟩
      walk_at "evs"
      refine ⟨_, .inl rfl, fun j ρ' M'' => (∃ b5 b6 b7, ρ' = [some (progD (He.ga K "Program") p), some (.lst (ms.map mendD)), some (.lst ((List.range ms.length).map fun i : Nat => iD i)), some (iD i), some (.sc (.ref r)), b5, b6, b7]) ∧ updM M' r (.lst ((((choicesM i (List.range ms.length)).take j).filter F).map ordD)) = M'', ⟨⟨_, _, _, rfl⟩, rfl⟩, ?_, ?_⟩
      · rintro j d ρ' M'' hd ⟨⟨b5, b6, b7, rfl⟩, eM⟩
        rw [List.getElem?_map] at hd
        obtain ⟨o, ho, rfl⟩ := Option.map_eq_some_iff.mp hd
        obtain ⟨ol, om⟩ := choices_lt (List.mem_of_getElem? ho)
        have hj : j < (choicesM i (List.range ms.length)).length := (List.getElem?_eq_some_iff.mp ho).1
        have hfl : (((choicesM i (List.range ms.length)).take j).filter F).length ≤ j := Nat.le_trans (List.length_filter_le _ _) (by rw [List.length_take]; omega)
        have hsp : ((choicesM i (List.range ms.length)).take (j + 1)).filter F = ((choicesM i (List.range ms.length)).take j).filter F ++ [o].filter F := by rw [take_succ_some ho, List.filter_append]
        have hfit : Fits p (pickM ms o).length := fits_mono hF (by rw [pick_len, ol]; omega)
        have hpo : ∀ m ∈ pickM ms o, MendOk p.keeps m := fun m hm => hok m (pick_mem om m hm)
        refine ⟨_, tg_name, ?_⟩
        refine stp_seq (stp_set ?_)
        walk_at "evs"
        refine ev_lcMap [7] (by decide) (sr_seq ?_)
        walk_at "evs"
        refine ⟨_, .inr rfl, (pickM ms o).map mendD, by rw [List.length_map, pick_len, List.length_map], by rw [List.length_map, pick_len]; omega, ?_, ?_⟩
        · intro l f e hf he
          rw [List.getElem?_map] at hf
          obtain ⟨k, hk, rfl⟩ := Option.map_eq_some_iff.mp hf
          unfold pickM at he
          rw [List.getElem?_map, List.getElem?_map, hk] at he
          obtain rfl := Option.some.inj he
          have hkl := om k (List.mem_of_getElem? hk)
          have hat : atI (ms.map mendD) (k : Int) = some (mendD (ms.getD k ⟨.new, 0, ⟨none, .again 0⟩⟩)) := by
            rw [List.getD_eq_getElem?_getD, List.getElem?_eq_getElem hkl]
            exact pickL hkl
          refine ⟨_, tg_name, ?_⟩
          walk_at "evs"
          exact ⟨rfl, rfl⟩
        walk_at "evs"
        refine ⟨p, pickM ms o, rfl, hfit, hpo, ?_⟩
        have hmm : M'' r = some (.lst ((((choicesM i (List.range ms.length)).take j).filter F).map ordD)) := by rw [← eM]; exact updM_same
        have no : ∀ x, F o = false → (∃ b5 b6 b7, x = [some (progD (He.ga K "Program") p), some (.lst (ms.map mendD)), some (.lst ((List.range ms.length).map fun i : Nat => iD i)), some (iD i), some (.sc (.ref r)), b5, b6, b7]) → (∃ b5 b6 b7, x = [some (progD (He.ga K "Program") p), some (.lst (ms.map mendD)), some (.lst ((List.range ms.length).map fun i : Nat => iD i)), some (iD i), some (.sc (.ref r)), b5, b6, b7]) ∧ updM M' r (.lst ((((choicesM i (List.range ms.length)).take (j + 1)).filter F).map ordD)) = M'' := fun x h hx => by
          refine ⟨hx, ?_⟩
          rw [hsp, List.filter_cons_of_neg (by rw [h]; exact Bool.false_ne_true), List.filter_nil, List.append_nil]
          exact eM
        cases hm : mendedM p (pickM ms o) with
        | none =>
          have hFo : F o = false := by show helpsM p (pickM ms o) = false; unfold helpsM; rw [hm]
          walk_at "evs"
          exact no _ hFo ⟨_, _, _, rfl⟩
        | some q =>
          have hFo : F o = isRight q := by show helpsM p (pickM ms o) = isRight q; unfold helpsM; rw [hm]
          walk_at "evs"
          refine ⟨q, rfl, mended_valid hfit hpo hm, ?_⟩
          refine ⟨_, rfl, ?_⟩
          refine ifB (fun h => ?_) (fun h => ?_)
          · walk_at "evs"
            refine ⟨_, _, rfl, hmm, rfl, ?_⟩
            walk_at "evs"
            refine rmt_append hmm (by rw [List.length_map]; omega) ?_
            refine ⟨⟨_, _, _, rfl⟩, ?_⟩
            rw [← eM, updM_updM, hsp, List.filter_cons_of_pos (hFo.trans h), List.filter_nil, List.map_append]
            rfl
          · walk_at "evs"
            exact no _ (hFo.trans h) ⟨_, _, _, rfl⟩
      · rintro ρ' M'' ⟨⟨b5, b6, b7, rfl⟩, eM⟩
        rw [List.length_map, List.take_length, ← hG] at eM
        have hmm : M'' r = some (.lst ((goodM p ms i).map ordD)) := by rw [← eM]; exact updM_same
        have hsub2 : SubM M M'' := by rw [← eM]; exact hsub.upd' hrM
        refine stp_if (tv_tru (ev_var rfl ⟨!((goodM p ms i).map ordD).isEmpty, ?_, ?_⟩))
        · show (match M'' r with | some (.lst ds) => _ = !ds.isEmpty | _ => False)
          rw [hmm]
        cases hg : goodM p ms i with
        | nil =>
          refine ifF rfl (stp_next ?_)
          refine ⟨⟨_, _, _, _, _, rfl⟩, hsub2, ?_⟩
          show (if dueM p ms i = [] then goodM p ms i else dueM p ms i) = []
          rw [if_pos hdue, hg]
        | cons o os =>
          rw [← hg]
          refine ifT (by rw [hg]; rfl) ?_
          have hne : goodM p ms i ≠ [] := by rw [hg]; simp
          have h3 : dueM p ms 3 = goodM p ms i := by
            have e := due_stop hdue hne (2 - i)
            have e3 : i + 1 + (2 - i) = 3 := by omega
            rw [e3] at e
            exact e
          refine stp_ret (ev_frzL (ev_var rfl ⟨r, _, rfl, hmm, ?_⟩))
          refine ⟨hsub2.del hrM, ?_⟩
          rw [← h3]
          exact hQ
    · rintro ρ' M' ⟨⟨b3, b4, b5, b6, b7, rfl⟩, hsub, hdue⟩
      have hdue : dueM p ms 3 = [] := hdue
      walk_at "evs"
      refine ⟨hsub, ?_⟩
      rw [hdue] at hQ
      exact hQ

theorem ok_mends {P : Program} {w : World} {K : PySem.W.Frag} {mg : Str → Option Value} {base : Heap} {f : Addr} {fd : FuncData} (F : FnP K "mends" "mends" (top 44) f fd) (g : mg "mends" = some (.ref f)) (T : Tx w K mg) (c_choices : Cal P w K mg base 3 "choices" ["things", "many"] (S_choices 3)) (c_mended_or_none : Cal P w K mg base 11 "mended_or_none" ["program", "mends"] (S_mended_or_none (He.ga K "Program"))) (c_is_right : Cal P w K mg base 7 "is_right" ["program"] (S_is_right (He.ga K "Program"))) (TB : TxB P w K mg base) : Cal P w K mg base 12 "mends" ["program", "offered"] (S_mends (He.ga K "Program")) :=
  cal_mk F g (fn_mends F T c_choices c_mended_or_none c_is_right TB) (F.bindsN fun _ _ _ _ _ _ us hl => match us, hl with | [_, _], _ => rfl)

theorem sc_law : FnScope ["_law_script", "_law_draws", "_law_parts", "_law_offered", "_law_k", "_law_at", "_law_place", "_law_program", "_law_due", "_law_many", "_law_some"] ["_law_script"] (defScope (top 59)) := ⟨rfl, rfl, rfl, by decide +kernel, rfl, by decide +kernel, by decide +kernel⟩
theorem fn_law {P : Program} {w : World} {K : PySem.W.Frag} {mg : Str → Option Value} {base : Heap} {f : Addr} {fd : FuncData} (F : FnP K "law" "law" (top 59) f fd) (T : Tx w K mg) (c__law_begin : Cal P w K mg base 1 "_law_begin" ["_law_script"] (S_law_begin)) (c__law_right : Cal P w K mg base 3 "_law_right" ["_law_draws", "_law_most"] (S_law_right)) (c__law_draw : Cal P w K mg base 1 "_law_draw" ["_law_draws", "_law_many"] (S_law_draw)) (c__law_step : Cal P w K mg base 3 "_law_step" ["_law_draws", "_law_keeps", "_law_at"] (S_law_step)) (c__law_made : Cal P w K mg base 8 "_law_made" ["_law_parts"] (S_law_made (He.ga K "Program"))) (c__law_choices : Cal P w K mg base 3 "_law_choices" ["_law_things", "_law_many"] (S_choices 3)) (c__law_helps : Cal P w K mg base 11 "_law_helps" ["_law_program", "_law_some"] (S_law_helps (He.ga K "Program"))) (c__law_like : Cal P w K mg base 4 "_law_like" ["_law_actual", "_law_due"] (S_law_like 4)) (c_mends : Cal P w K mg base 12 "mends" ["program", "offered"] (S_mends (He.ga K "Program")))  : FnOk P w K mg base CX0 13 f fd ["_law_script"] (spOf K (S_law)) := by
  have sc := sc_law
  refine ok_fn (k := 12) F sc (fun ds M Q h => ?_) (fun cdv A outer s H E hr => ?_)
  · obtain ⟨script, rfl, hQ⟩ := h; rfl
  · have hu6 : A.units + 64 < cLine := by have := hr.un; show A.units + 64 < cLine; simp only [Around.deeper] at this; omega
    have hu := hu_of hr
    refine ⟨_, (pss_cons (ps_set (i := 1) sc.nd rfl (Or.inl rfl) (pe_calD c__law_begin (hr.mono (by first | decide | exact Nat.le_refl _)) (by rfl) (pa_cons (pv 0) pa_nil))) (pss_cons (ps_set (i := 2) sc.nd rfl (Or.inl rfl) (pe_calD c__law_right (hr.mono (by first | decide | exact Nat.le_refl _)) (by rfl) (pa_cons (pv 1) (pa_cons pe_int pa_nil)))) (pss_cons (ps_set (i := 3) sc.nd rfl (Or.inr rfl) (pe_lst pa_nil)) (pss_cons (ps_for PassesOwn.never (by rfl) (pi_range1 (by rfl) T.b_range (pa_cons (pe_calD c__law_draw (hr.mono (by first | decide | exact Nat.le_refl _)) (by rfl) (pa_cons (pv 1) (pa_cons pe_int pa_nil))) pa_nil)) (pg_name (i := 4) sc.nd rfl (Or.inl rfl)) (pss_cons (ps_set (i := 5) sc.nd rfl (Or.inl rfl) (pe_op op_addA pe_int (pe_calD c__law_draw (hr.mono (by first | decide | exact Nat.le_refl _)) (by rfl) (pa_cons (pv 1) (pa_cons pe_int pa_nil))))) (pss_one (ps_if (pt_cmpR op_gt (pe_callB call_len (by rfl) T.b_len (by decide +kernel) (pa_cons (pe_ix ix_seq (pv 2) (pv 5) (fun _ _ => rfl)) pa_nil)) pe_int (nomark _)) (pss_cons (ps_set (i := 6) sc.nd rfl (Or.inl rfl) (pe_calD c__law_draw (hr.mono (by first | decide | exact Nat.le_refl _)) (by rfl) (pa_cons (pv 1) (pa_cons (pe_callB call_len (by rfl) T.b_len (by decide +kernel) (pa_cons (pe_ix ix_seq (pv 2) (pv 5) (fun _ _ => rfl)) pa_nil)) pa_nil)))) (pss_cons (ps_expr (pe_bm PySem.F.plainAttrs_list PySem.F.slot_list_append PySem.F.type_list_append mt_append (pv 3) (pa_cons (pe_tup (pa_cons (pe_ix ix_seq (pe_lst (pa_cons pe_str (pa_cons pe_str (pa_cons pe_str pa_nil)))) (pe_op op_sub (pv 5) pe_int) (fun _ _ => rfl)) (pa_cons (pv 6) (pa_cons (pe_ix ix_seq (pe_ix ix_seq (pv 2) (pv 5) (fun _ _ => rfl)) (pv 6) (fun _ _ => rfl)) pa_nil)))) pa_nil))) (pss_one (ps_asg (pe_op op_addA (pe_slice sl_both (pe_ix ix_seq (pv 2) (pv 5) (fun _ _ => rfl)) po_none (po_some (pv 6))) (pe_slice sl_both (pe_ix ix_seq (pv 2) (pv 5) (fun _ _ => rfl)) (po_some (pe_op op_addA (pv 6) pe_int)) po_none)) (pg_sub (pv 2) (pv 5) set_list))))) pss_nil)))) (pss_cons (ps_for PassesOwn.never (by rfl) (pi_range1 (by rfl) T.b_range (pa_cons (pe_calD c__law_draw (hr.mono (by first | decide | exact Nat.le_refl _)) (by rfl) (pa_cons (pv 1) (pa_cons pe_int pa_nil))) pa_nil)) (pg_name (i := 4) sc.nd rfl (Or.inl rfl)) (pss_cons (ps_set (i := 5) sc.nd rfl (Or.inl rfl) (pe_op op_addA pe_int (pe_calD c__law_draw (hr.mono (by first | decide | exact Nat.le_refl _)) (by rfl) (pa_cons (pv 1) (pa_cons pe_int pa_nil))))) (pss_one (ps_expr (pe_bm PySem.F.plainAttrs_list PySem.F.slot_list_insert PySem.F.type_list_insert mt_insert (pv 3) (pa_cons pe_int (pa_cons (pe_tup (pa_cons (pe_ix ix_seq (pe_lst (pa_cons pe_str (pa_cons pe_str (pa_cons pe_str pa_nil)))) (pe_op op_sub (pv 5) pe_int) (fun _ _ => rfl)) (pa_cons (pe_calD c__law_draw (hr.mono (by first | decide | exact Nat.le_refl _)) (by rfl) (pa_cons (pv 1) (pa_cons pe_int pa_nil))) (pa_cons (pe_calD c__law_step (hr.mono (by first | decide | exact Nat.le_refl _)) (by rfl) (pa_cons (pv 1) (pa_cons (pe_ix ix_seq (pv 2) pe_int (fun _ _ => rfl)) (pa_cons (pv 5) pa_nil)))) pa_nil)))) pa_nil))))))) (pss_cons (ps_expr (pe_bm PySem.F.plainAttrs_list PySem.F.slot_list_append PySem.F.type_list_append mt_append (pv 3) (pa_cons (pe_tup (pa_cons pe_str (pa_cons pe_int (pa_cons (pe_tup (pa_cons pe_str (pa_cons pe_int pa_nil))) pa_nil)))) pa_nil))) (pss_cons (ps_set (i := 7) sc.nd rfl (Or.inl rfl) (pe_calD c__law_made (hr.mono (by first | decide | exact Nat.le_refl _)) (by rfl) (pa_cons (pv 2) pa_nil))) (pss_cons (ps_set (i := 8) sc.nd rfl (Or.inl rfl) (pe_lst pa_nil)) (pss_cons (ps_for PassesOwn.never (by rfl) (pi_range1 (by rfl) T.b_range (pa_cons pe_int pa_nil)) (pg_name (i := 9) sc.nd rfl (Or.inl rfl)) (pss_one (ps_if (pt_cmpR op_eq (pe_callB call_len (by rfl) T.b_len (by decide +kernel) (pa_cons (pv 8) pa_nil)) pe_int (nomark _)) (pss_one (ps_for PassesOwn.never (by rfl) (pi_seq (pe_calD c__law_choices (hr.mono (by first | decide | exact Nat.le_refl _)) (by rfl) (pa_cons (pe_listRg rfl (by rfl) T.b_list (prg_1 (by rfl) T.b_range (pe_callB call_len (by rfl) T.b_len (by decide +kernel) (pa_cons (pv 3) pa_nil)))) (pa_cons (pv 9) pa_nil)))) (pg_name (i := 10) sc.nd rfl (Or.inl rfl)) (pss_one (ps_if (pt_val (pe_calD c__law_helps (hr.mono (by first | decide | exact Nat.le_refl _)) (by rfl) (pa_cons (pv 7) (pa_cons (pe_lc (own := [("_law_k", 4)]) (by rfl) sc.nd (pi_seq (pv 10)) (blkOk_by (own := [("_law_k", 4)]) (N := ["_law_script", "_law_draws", "_law_parts", "_law_offered", "_law_k", "_law_at", "_law_place", "_law_program", "_law_due", "_law_many", "_law_some"]) (sc := defScope (top 59)) (by decide +kernel)) (fun _ _ _ _ _ => (pg_name (i := 4) sc.nd rfl (Or.inl rfl))) (fun _ _ _ _ _ => pts_nil) (fun _ _ _ _ _ => (pe_ix (k_ix_seq (K := K)) (pv 3) (pv 4) (fun _ _ => rfl)))) pa_nil)))) (pss_one (ps_expr (pe_bm PySem.F.plainAttrs_list PySem.F.slot_list_append PySem.F.type_list_append mt_append (pv 8) (pa_cons (pv 10) pa_nil)))) pss_nil)))) pss_nil))) (pss_one (ps_ret (pe_calD c__law_like (hr.mono (by first | decide | exact Nat.le_refl _)) (by rfl) (pa_cons (pe_calD c_mends (hr.mono (by first | decide | exact Nat.le_refl _)) (by rfl) (pa_cons (pv 7) (pa_cons (pv 3) pa_nil))) (pa_cons (pv 8) pa_nil)))))))))))))), fun ds M Q h => ?_⟩
    obtain ⟨script, rfl, hQ⟩ := h
    try dsimp only [cxOf, Cx.nox]
    refine stp_to M ?_
    refine stp_seq (stp_set ?_)
    walk_at "evs"
    refine ⟨script, rfl, ?_⟩
    intro a ha
    refine stp_seq (stp_set ?_)
    walk_at "evs"
    refine ⟨a, _, 2, rfl, updM_same, ⟨Int.le_refl _, Int.le_refl _⟩, by decide, by decide, ?_⟩
    intro ks st0 q hok0 k1 k2 ko hq
    rw [updM_updM]
    have haq : a ≠ q := fun e => by rw [← e, updM_same] at hq; cases hq
    have hqM : M q = none := by rw [updM_ne haq.symm] at hq; exact hq
    refine stp_seq (stp_set (ev_lstM (av_nil ⟨Nat.zero_le _, fun o ho => ?_⟩)))
    have hao : a ≠ o := by
      rintro rfl
      rw [updM_ne haq, updM_same] at ho
      cases ho
    have hqo : q ≠ o := fun e => by rw [← e, updM_same] at ho; cases ho
    have hoM : M o = none := by rw [updM_ne hqo.symm, updM_ne hao.symm] at ho; exact ho
    have nm : ∀ (n : Pn), atI [sD "new", sD "change", sD "drop"] (((n.at_ : Nat) : Int) - 1) = some (sD n.s) := by intro n; cases n <;> rfl
    have hn : ∀ r : Nat, r < 3 → ∃ n : Pn, 1 + (r : Int) = (n.at_ : Nat) := by
      intro r hr
      match r, hr with
      | 0, _ => exact ⟨.new, rfl⟩
      | 1, _ => exact ⟨.change, rfl⟩
      | 2, _ => exact ⟨.drop, rfl⟩
    have hsame : ∀ (dr : DrSt) (p : Prog) (ms : List Mend), SubM M (MM M a q o dr.l (partsL p) (ms.map mendD)) := fun dr p ms => by
      unfold MM
      exact (((SubM.refl M).upd' ha).upd' hqM).upd' hoM
    let I : Nat → Env' → MH → Prop := fun i ρ' M' => ∃ (p : Prog) (ms : List Mend) (dr : DrSt), (∃ b4 b5 b6, ρ' = [some (.ro (script.map iD)), some (.sc (.ref a)), some (.sc (.ref q)), some (.sc (.ref o)), b4, b5, b6, none, none, none, none]) ∧ MM M a q o dr.l (partsL p) (ms.map mendD) = M' ∧ dr.Ok ∧ Valid p ∧ (∀ n, (p.steps n).length ≤ 4) ∧ ms.length ≤ i ∧ ∀ m ∈ ms, MendOk p.keeps m
    have hI0 : I 0 [some (.ro (script.map iD)), some (.sc (.ref a)), some (.sc (.ref q)), some (.sc (.ref o)), none, none, none, none, none, none, none] (MM M a q o st0.l (partsL (rightP ks)) (([] : List Mend).map mendD)) := ⟨rightP ks, [], st0, ⟨_, _, _, rfl⟩, rfl, hok0, right_valid k1 (by omega) ko, right_short k2, Nat.le_refl _, fun m hm => by cases hm⟩
    rw [show updM (updM (updM M a (.lst st0.l)) q (.lst (partsL (rightP ks)))) o (.lst []) = MM M a q o st0.l (partsL (rightP ks)) (([] : List Mend).map mendD) from rfl]
    -- taken out
    refine stp_cut (R := I 2) ?_ ?_
    · refine stp_for (js := [4]) (sr_range1 ?_)
      walk_at "evs"
      refine ⟨a, st0, 3, rfl, MM1 haq hao, hok0, by decide, by decide, ?_⟩
      intro r1 dr1 hok1 hr1
      rw [MMu1 haq hao]
      walk_at "evs"
      refine ⟨by omega, by omega, ?_⟩
      have hmn : ((r1 : Nat) : Int).toNat = r1 := by omega
      rw [hmn]
      refine ⟨I, ⟨rightP ks, [], dr1, ⟨_, _, _, rfl⟩, rfl, hok1, right_valid k1 (by omega) ko, right_short k2, Nat.le_refl _, fun m hm => by cases hm⟩, ?_, ?_⟩
      · rintro i d ρ' M' hd ⟨p, ms, dr, ⟨b4, b5, b6, rfl⟩, rfl, hdok, hv, h4, hml, hmo⟩
        obtain ⟨hi, rfl⟩ := rngD_get hd
        refine ⟨_, tg_name, ?_⟩
        refine stp_seq (stp_set ?_)
        walk_at "evs"
        refine ⟨a, dr, 3, rfl, MM1 haq hao, hdok, by decide, by decide, ?_⟩
        intro r dr2 hok2 hr
        rw [MMu1 haq hao]
        obtain ⟨n, hn⟩ := hn r hr
        walk_at "evs"
        rw [hn]
        generalize hL : p.steps n = L
        have hat : atI (partsL p) ((n.at_ : Nat) : Int) = some (.lst (L.map stepD)) := by rw [← hL]; cases n <;> rfl
        have hnm := nm n
        have hL4 : L.length ≤ 4 := by rw [← hL]; exact h4 n
        have hq2 : MM M a q o dr2.l (partsL p) (ms.map mendD) q = some (.lst (partsL p)) := MM2 hqo
        have ho2 : MM M a q o dr2.l (partsL p) (ms.map mendD) o = some (.lst (ms.map mendD)) := MM3
        refine rop_ix_M hq2 hat ?_
        walk_at "evs"
        rw [List.length_map]
        refine ifB (fun h => ?_) (fun h => ?_)
        · have hpos : 0 < L.length := by have := of_decide_eq_true h; omega
          walk_at "evs"
          refine ⟨a, dr2, (L.map stepD).length, rfl, MM1 haq hao, hok2, by rw [List.length_map]; omega, by rw [List.length_map]; omega, ?_⟩
          intro pl dr3 hok3 hpl
          rw [MMu1 haq hao]
          have hpl : pl < L.length := by rw [List.length_map] at hpl; exact hpl
          have hst : atI (L.map stepD) (pl : Int) = some (stepD L[pl]) := pickL hpl
          have hso : StepOk n p.keeps L[pl] := hv.st n _ (by rw [hL]; exact List.getElem_mem hpl)
          have hq3 : MM M a q o dr3.l (partsL p) (ms.map mendD) q = some (.lst (partsL p)) := MM2 hqo
          have ho3 : MM M a q o dr3.l (partsL p) (ms.map mendD) o = some (.lst (ms.map mendD)) := MM3
          refine stp_seq (stp_drop (ev_bm ?_))
          walk_at "evs"
          refine ⟨_, _, rfl, ho3, rfl, ?_⟩
          walk_at "evs"
          refine rmt_append ho3 (by rw [List.length_map]; omega) ?_
          rw [MMu3]
          have hms : ms.map mendD ++ [.tup [sD n.s, iD pl, stepD L[pl]]] = (ms ++ [(⟨n, pl, L[pl]⟩ : Mend)]).map mendD := by rw [List.map_append]; rfl
          rw [hms]
          have hq4 : MM M a q o dr3.l (partsL p) ((ms ++ [(⟨n, pl, L[pl]⟩ : Mend)]).map mendD) q = some (.lst (partsL p)) := MM2 hqo
          walk_at "evs"
          have epl : (pl : Int) + 1 = ((pl + 1 : Nat) : Int) := by omega
          have hct : cutD (L.map stepD) none (some (pl : Int)) = (L.map stepD).take pl := cut_take (by rw [List.length_map]; omega)
          have hcd : cutD (L.map stepD) (some ((pl : Int) + 1)) none = (L.map stepD).drop (pl + 1) := by rw [epl]; exact cut_drop (by rw [List.length_map]; omega)
          rw [hct, hcd]
          refine rop_or2 (rop_or2 ?_)
          refine rop_cat (ds := (L.map stepD).take pl) (es := (L.map stepD).drop (pl + 1)) (show _ = _ from rfl) (show _ = _ from rfl) (by simp only [List.length_take, List.length_drop, List.length_map]; omega) ?_
          have hcut : (L.map stepD).take pl ++ (L.map stepD).drop (pl + 1) = (L.eraseIdx pl).map stepD := by
            rw [List.eraseIdx_eq_take_drop_succ, List.map_append, List.map_take, List.map_drop]
          rw [hcut]
          walk_at "evs"
          refine rset_L (j := n.at_) hq4 (by cases n <;> rfl) ?_
          rw [MMu2 hqo]
          have hset : (partsL p).set n.at_ (.lst ((L.eraseIdx pl).map stepD)) = partsL (p.with n (L.eraseIdx pl)) := by cases n <;> rfl
          rw [hset]
          have hel : (L.eraseIdx pl).length ≤ 4 := Nat.le_trans (List.length_eraseIdx_le ..) hL4
          refine ⟨p.with n (L.eraseIdx pl), ms ++ [(⟨n, pl, L[pl]⟩ : Mend)], dr3, ⟨_, _, _, rfl⟩, rfl, hok3, with_valid hv (by omega) (fun s hs => hv.st n s (by rw [hL]; exact List.mem_of_mem_eraseIdx hs)), fun m => ?_, by rw [List.length_append]; show ms.length + 1 ≤ _; omega, fun m hm => ?_⟩
          · rw [steps_with]
            split
            · exact hel
            · exact h4 m
          · rw [keeps_with]
            rcases List.mem_append.mp hm with hm | hm
            · exact hmo m hm
            · rw [List.mem_singleton.mp hm]
              exact hso
        · walk_at "evs"
          refine ⟨p, ms, dr2, ⟨_, _, _, rfl⟩, rfl, hok2, hv, h4, by omega, hmo⟩
      · rintro ρ' M' ⟨p, ms, dr, h1, h2, h3, h4, h5, h6, h7⟩
        rw [rngD_length] at h6
        exact ⟨p, ms, dr, h1, h2, h3, h4, h5, by omega, h7⟩
    · rintro ρ' M' ⟨p, ms, dr, ⟨b4, b5, b6, rfl⟩, rfl, hdok, hv, h4, hml, hmo⟩
      -- put in
      refine stp_cut (R := I 4) ?_ ?_
      · refine stp_for (js := [4]) (sr_range1 ?_)
        walk_at "evs"
        refine ⟨a, dr, 3, rfl, MM1 haq hao, hdok, by decide, by decide, ?_⟩
        intro r1 dr1 hok1 hr1
        rw [MMu1 haq hao]
        walk_at "evs"
        refine ⟨by omega, by omega, ?_⟩
        have hmn : ((r1 : Nat) : Int).toNat = r1 := by omega
        rw [hmn]
        refine ⟨fun i => I (2 + i), ⟨p, ms, dr1, ⟨_, _, _, rfl⟩, rfl, hok1, hv, h4, hml, hmo⟩, ?_, ?_⟩
        · rintro i d ρ' M' hd ⟨p, ms, dr, ⟨b4, b5, b6, rfl⟩, rfl, hdok, hv, h4, hml, hmo⟩
          obtain ⟨hi, rfl⟩ := rngD_get hd
          refine ⟨_, tg_name, ?_⟩
          refine stp_seq (stp_set ?_)
          walk_at "evs"
          refine ⟨a, dr, 3, rfl, MM1 haq hao, hdok, by decide, by decide, ?_⟩
          intro r dr2 hok2 hr
          rw [MMu1 haq hao]
          obtain ⟨n, hn⟩ := hn r hr
          have hnm := nm n
          walk_at "evs"
          rw [hn]
          refine ⟨_, _, rfl, MM3, rfl, ?_⟩
          walk_at "evs"
          refine ⟨a, dr2, 3, rfl, MM1 haq hao, hok2, by decide, by decide, ?_⟩
          intro pl dr3 hok3 hpl
          rw [MMu1 haq hao]
          walk_at "evs"
          refine rop_ix_M (MM2 hqo) (show atI (partsL p) 0 = some (.lst (p.keeps.map keepD)) from rfl) ?_
          walk_at "evs"
          refine ⟨a, dr3, p.keeps, n, rfl, MM1 haq hao, hok3, hv.k1, hv.k3, hv.ok, ?_⟩
          intro s dr4 hok4 hs
          rw [MMu1 haq hao]
          walk_at "evs"
          refine rmt_insert MM3 (by rw [List.length_map]; omega) (by decide) (by decide) ?_
          rw [MMu3]
          refine ⟨p, (⟨n, pl, s⟩ : Mend) :: ms, dr4, ⟨_, _, _, rfl⟩, rfl, hok4, hv, h4, by rw [List.length_cons]; omega, fun m hm => ?_⟩
          rcases List.mem_cons.mp hm with e | hm
          · rw [e]
            exact hs
          · exact hmo m hm
        · rintro ρ' M' ⟨p, ms, dr, h1, h2, h3, h4, h5, h6, h7⟩
          rw [rngD_length] at h6
          exact ⟨p, ms, dr, h1, h2, h3, h4, h5, by omega, h7⟩
      · rintro ρ' M' ⟨p, ms, dr, ⟨b4, b5, b6, rfl⟩, rfl, hdok, hv, h4, hml, hmo⟩
        refine stp_seq (stp_drop (ev_bm ?_))
        walk_at "evs"
        refine ⟨_, _, rfl, MM3, rfl, ?_⟩
        walk_at "evs"
        refine rmt_append MM3 (by rw [List.length_map]; omega) ?_
        rw [MMu3]
        have hms : ms.map mendD ++ [.tup [sD "change", iD 0, .tup [sD "again", iD 0]]] = (ms ++ [(⟨.change, 0, ⟨none, .again 0⟩⟩ : Mend)]).map mendD := by rw [List.map_append]; rfl
        rw [hms]
        have hml2 : (ms ++ [(⟨.change, 0, ⟨none, .again 0⟩⟩ : Mend)]).length ≤ 10 := by rw [List.length_append]; show ms.length + 1 ≤ _; omega
        have hmo2 : ∀ m ∈ ms ++ [(⟨.change, 0, ⟨none, .again 0⟩⟩ : Mend)], MendOk p.keeps m := fun m hm => by
          rcases List.mem_append.mp hm with hm | hm
          · exact hmo m hm
          · rw [List.mem_singleton.mp hm]
            exact ⟨⟨_, List.getElem?_eq_getElem (show 0 < p.keeps.length from hv.k1)⟩, fun t h => by cases h⟩
        generalize ms ++ [(⟨.change, 0, ⟨none, .again 0⟩⟩ : Mend)] = ms' at hml2 hmo2
        have hF : Fits p 2 := ⟨hv, fun m => by have := h4 m; omega⟩
        refine stp_seq (stp_set ?_)
        walk_at "evs"
        refine ⟨_, p, rfl, (MM2 hqo), hv, ?_⟩
        refine stp_frzL (i := 3) rfl MM3 ?_
        have hsub : SubM M (delM (MM M a q o dr.l (partsL p) (ms'.map mendD)) o) := (hsame dr p ms').del hoM
        generalize delM (MM M a q o dr.l (partsL p) (ms'.map mendD)) o = N at hsub
        refine stp_seq (stp_set (ev_lstM (av_nil ⟨Nat.zero_le _, fun w hw => ?_⟩)))
        have hwM : M w = none := by
          cases e : M w with
          | none => rfl
          | some u => rw [hsub _ _ e] at hw; cases hw
        have hlm : (ms'.map mendD).length = ms'.length := List.length_map ..
        refine stp_seq (stp_for (js := [9]) (sr_range1 ?_))
        walk_at "evs"
        refine ⟨by decide, by decide, ?_⟩
        refine ⟨fun i ρ' M' => (∃ b4 b5 b6 b9 b10, ρ' = [some (.ro (script.map iD)), some (.sc (.ref a)), some (.sc (.ref q)), some (.lst (ms'.map mendD)), b4, b5, b6, some (progD (He.ga K "Program") p), some (.sc (.ref w)), b9, b10]) ∧ updM N w (.lst ((dueM p ms' i).map ordD)) = M', ⟨⟨_, _, _, _, _, rfl⟩, rfl⟩, ?_, ?_⟩
        · rintro i d ρ' M' hd ⟨⟨b4, b5, b6, b9, b10, rfl⟩, eM⟩
          obtain ⟨hi, rfl⟩ := rngD_get hd
          have hi3 : i < 3 := hi
          rw [Int.zero_add]
          have hw2 : M' w = some (.lst ((dueM p ms' i).map ordD)) := by rw [← eM]; exact updM_same
          refine ⟨_, tg_name, ?_⟩
          refine stp_if (tv_test (ev_op (ev_cb (av_cons (ev_var rfl (av_nil (rcl_len (n := (dueM p ms' i).length) ?_ ?_)))))))
          · exact ⟨_, hw2, (List.length_map ..).symm⟩
          refine ev_c (rop_eq rfl ⟨_, rfl, ?_⟩)
          rw [decInt]
          by_cases hnil : dueM p ms' i = []
          · refine ifT (by rw [hnil]; rfl) ?_
            let F : List Nat → Bool := fun o => helpsM p (pickM ms' o)
            have hG : goodM p ms' i = (choicesM i (List.range ms'.length)).filter F := rfl
            have hcl : (choicesM i (List.range ms'.length)).length ≤ 100 := by
              refine Nat.le_trans (choices_len i _) ?_
              rw [List.length_range]
              exact Nat.le_trans (Nat.pow_le_pow_left hml2 i) (Nat.le_trans (Nat.pow_le_pow_right (by decide) (show i ≤ 2 by omega)) (by decide))
            have eM0 : updM N w (.lst []) = M' := by rw [← eM, hnil]; rfl
            refine stp_for (js := [10]) (sr_seq ?_)
            walk_at "evs"
            refine ev_listRg ?_
            walk_at "evs"
            rw [hlm]
            refine ⟨by omega, by omega, ?_⟩
            rw [range_data]
            walk_at "evs"
            refine ⟨List.range ms'.length, i, hi3, rfl, by rw [List.length_range]; exact hml2, by omega, ?_⟩
            walk_at "evs"
            refine ⟨_, .inl rfl, fun j ρ' M'' => (∃ b4 b5 b6 b10, ρ' = [some (.ro (script.map iD)), some (.sc (.ref a)), some (.sc (.ref q)), some (.lst (ms'.map mendD)), b4, b5, b6, some (progD (He.ga K "Program") p), some (.sc (.ref w)), some (iD i), b10]) ∧ updM N w (.lst ((((choicesM i (List.range ms'.length)).take j).filter F).map ordD)) = M'', ⟨⟨_, _, _, _, rfl⟩, eM0⟩, ?_, ?_⟩
            · rintro j d ρ' M'' hd ⟨⟨b4, b5, b6, b10, rfl⟩, eM2⟩
              rw [List.getElem?_map] at hd
              obtain ⟨o, ho, rfl⟩ := Option.map_eq_some_iff.mp hd
              obtain ⟨ol, om⟩ := choices_lt (List.mem_of_getElem? ho)
              have hj : j < (choicesM i (List.range ms'.length)).length := (List.getElem?_eq_some_iff.mp ho).1
              have hfl : (((choicesM i (List.range ms'.length)).take j).filter F).length ≤ j := Nat.le_trans (List.length_filter_le _ _) (by rw [List.length_take]; omega)
              have hsp : ((choicesM i (List.range ms'.length)).take (j + 1)).filter F = ((choicesM i (List.range ms'.length)).take j).filter F ++ [o].filter F := by rw [take_succ_some ho, List.filter_append]
              have hfit : Fits p (pickM ms' o).length := fits_mono hF (by rw [pick_len, ol]; omega)
              have hpo : ∀ m ∈ pickM ms' o, MendOk p.keeps m := fun m hm => hmo2 m (pick_mem om m hm)
              refine ⟨_, tg_name, ?_⟩
              refine stp_if ?_
              walk_at "evs"
              refine ev_lcMap [4] (by decide) (sr_seq ?_)
              walk_at "evs"
              refine ⟨_, .inr rfl, (pickM ms' o).map mendD, by rw [List.length_map, pick_len, List.length_map], by rw [List.length_map, pick_len]; omega, ?_, ?_⟩
              · intro l f e hf he
                rw [List.getElem?_map] at hf
                obtain ⟨k, hk, rfl⟩ := Option.map_eq_some_iff.mp hf
                unfold pickM at he
                rw [List.getElem?_map, List.getElem?_map, hk] at he
                obtain rfl := Option.some.inj he
                have hkl := om k (List.mem_of_getElem? hk)
                have hat : atI (ms'.map mendD) (k : Int) = some (mendD (ms'.getD k ⟨.new, 0, ⟨none, .again 0⟩⟩)) := by
                  rw [List.getD_eq_getElem?_getD, List.getElem?_eq_getElem hkl]
                  exact pickL hkl
                refine ⟨_, tg_name, ?_⟩
                walk_at "evs"
                exact ⟨rfl, rfl⟩
              walk_at "evs"
              refine ⟨p, pickM ms' o, rfl, hfit, hpo, ?_⟩
              have hmm : M'' w = some (.lst ((((choicesM i (List.range ms'.length)).take j).filter F).map ordD)) := by rw [← eM2]; exact updM_same
              refine ⟨_, rfl, ?_⟩
              refine ifB (fun h => ?_) (fun h => ?_)
              · walk_at "evs"
                refine ⟨_, _, rfl, hmm, rfl, ?_⟩
                walk_at "evs"
                refine rmt_append hmm (by rw [List.length_map]; omega) ?_
                refine ⟨⟨_, _, _, _, rfl⟩, ?_⟩
                rw [← eM2, updM_updM, hsp, List.filter_cons_of_pos (show F o = true from h), List.filter_nil, List.map_append]
                rfl
              · walk_at "evs"
                refine ⟨⟨_, _, _, _, rfl⟩, ?_⟩
                rw [hsp, List.filter_cons_of_neg (by show ¬ helpsM p (pickM ms' o) = true; rw [h]; exact Bool.false_ne_true), List.filter_nil, List.append_nil]
                exact eM2
            · rintro ρ' M'' ⟨⟨b4, b5, b6, b10, rfl⟩, eM2⟩
              rw [List.length_map, List.take_length, ← hG] at eM2
              refine ⟨⟨_, _, _, _, _, rfl⟩, ?_⟩
              show updM N w (.lst ((if dueM p ms' i = [] then goodM p ms' i else dueM p ms' i).map ordD)) = M''
              rw [if_pos hnil]
              exact eM2
          · refine ifF (decide_eq_false (fun z => hnil (List.length_eq_zero_iff.mp (by omega)))) ?_
            refine stp_next ?_
            refine ⟨⟨_, _, _, _, _, rfl⟩, ?_⟩
            show updM N w (.lst ((if dueM p ms' i = [] then goodM p ms' i else dueM p ms' i).map ordD)) = M'
            rw [if_neg hnil]
            exact eM
        · rintro ρ' M' ⟨⟨b4, b5, b6, b9, b10, rfl⟩, eM⟩
          have eM : updM N w (.lst ((dueM p ms' 3).map ordD)) = M' := eM
          refine stp_frzL (i := 8) rfl (by rw [← eM]; exact updM_same) ?_
          have hsub3 : SubM M (delM M' w) := by rw [← eM, delM_upd hw]; exact hsub
          walk_at "evs"
          refine ⟨p, ms', rfl, hml2, hF, hmo2, ?_⟩
          walk_at "evs"
          obtain ⟨d1, d2⟩ := due_len (p := p) hml2 3 (Nat.le_refl _)
          refine ⟨_, rfl, lk_ords (by omega) (fun o ho => by have := d2 o ho; omega), ?_⟩
          exact ⟨hsub3, hQ⟩

theorem ok_law {P : Program} {w : World} {K : PySem.W.Frag} {mg : Str → Option Value} {base : Heap} {f : Addr} {fd : FuncData} (F : FnP K "law" "law" (top 59) f fd) (g : mg "law" = some (.ref f)) (T : Tx w K mg) (c__law_begin : Cal P w K mg base 1 "_law_begin" ["_law_script"] (S_law_begin)) (c__law_right : Cal P w K mg base 3 "_law_right" ["_law_draws", "_law_most"] (S_law_right)) (c__law_draw : Cal P w K mg base 1 "_law_draw" ["_law_draws", "_law_many"] (S_law_draw)) (c__law_step : Cal P w K mg base 3 "_law_step" ["_law_draws", "_law_keeps", "_law_at"] (S_law_step)) (c__law_made : Cal P w K mg base 8 "_law_made" ["_law_parts"] (S_law_made (He.ga K "Program"))) (c__law_choices : Cal P w K mg base 3 "_law_choices" ["_law_things", "_law_many"] (S_choices 3)) (c__law_helps : Cal P w K mg base 11 "_law_helps" ["_law_program", "_law_some"] (S_law_helps (He.ga K "Program"))) (c__law_like : Cal P w K mg base 4 "_law_like" ["_law_actual", "_law_due"] (S_law_like 4)) (c_mends : Cal P w K mg base 12 "mends" ["program", "offered"] (S_mends (He.ga K "Program")))  : Cal P w K mg base 13 "law" ["_law_script"] (S_law) :=
  cal_mk F g (fn_law F T c__law_begin c__law_right c__law_draw c__law_step c__law_made c__law_choices c__law_helps c__law_like c_mends) (F.bindsN fun _ _ _ _ _ _ us hl => match us, hl with | [_], _ => rfl)
end Kc
namespace Kc
open PySem L2 Dl
local macro_rules | `(tactic| walk_at "evE") => `(tactic| (first
  | ((with_reducible refine' ev_var ?evh ?_); (case evh => exact rfl))
  | with_reducible refine' ev_k (Tx.d_NAMES (by assumption)) ?_
  | with_reducible refine' ev_k (Tx.d_WHATS (by assumption)) ?_
  | with_reducible refine' ev_k (Tx.d_SOURCES (by assumption)) ?_
  | with_reducible refine' ev_k (Tx.d_NUMBERS (by assumption)) ?_
  | with_reducible refine' ev_c ?_
  | with_reducible refine' ev_op ?_
  | with_reducible refine' ev_call ?_
  | with_reducible refine' ev_cb ?_
  | with_reducible refine' ev_tup ?_
  | with_reducible refine' ev_lst ?_
  | with_reducible refine' ev_if ?_
  | with_reducible refine' ev_andV ?_
  | with_reducible refine' ev_orV ?_
  | with_reducible refine' ev_notV ?_
  | with_reducible refine' ev_chain ?_
  | with_reducible refine' ev_sl ?_
  | with_reducible refine' ev_dget ?_
  | with_reducible refine' ev_disp ?_
  | walk_at "evF"
  | with_reducible refine' ev_meth ?_
  | with_reducible refine' ev_make ?_
  | with_reducible refine' ev_bm ?_))
local macro_rules | `(tactic| walk_at "evR") => `(tactic| (first
  | with_reducible refine' rop_I0 ?_
  | ((with_reducible refine' rop_eq ?evs ?_); (case evs => exact rfl))
  | ((with_reducible refine' rop_ne ?evs ?_); (case evs => exact rfl))
  | ((with_reducible refine' rop_ix_T ?evs ?_); (case evs => (first | assumption | exact rfl)))
  | ((with_reducible refine' rop_ix_L ?evs ?_); (case evs => (first | assumption | exact rfl)))
  | ((with_reducible refine' rop_ix_M ?evh ?evs ?_); (case evh => (first | exact updM_same | assumption)); (case evs => (first | assumption | exact rfl)))
  | with_reducible refine' rop_or1 (rop_I0 ?_)
  | ((with_reducible refine' rop_or2 (rop_or1 (rop_catA ?evz ?_))); (case evz => (first | exact Nat.le_of_ble_eq_true rfl | omega | (simp; done) | (simp; omega))))
  | ((with_reducible refine' rop_or1 (rop_I ?evh ?_)); (case evh => (first | exact Or.inl ⟨by decide, by decide⟩ | exact Or.inr ⟨by decide, by decide⟩)))
  | ((with_reducible refine' rop_I ?evh ?_); (case evh => (first | (exact (show (0:Int) < _ by omega)) | exact ⟨by decide, by decide, by decide⟩)))
  | ((with_reducible refine' rop_or2 (rop_or1 (rop_rep ?evs ?eva ?evb ?evc ?_))); (case evs => exact rfl); (case eva => decide); (case evb => decide); (case evc => exact Nat.le_of_ble_eq_true rfl))
  | ((with_reducible refine' rop_or2 (rop_or2 (rop_cat ?evs ?evt ?evz ?_))); (case evs => exact rfl); (case evt => exact rfl); (case evz => exact Nat.le_of_ble_eq_true rfl))
  | with_reducible refine' rop_isN ?_
  | with_reducible refine' rop_notN ?_
  | ((with_reducible refine' rop_isN0 ?evs ?_); (case evs => intro _ h; cases h))
  | ((with_reducible refine' rop_notN0 ?evs ?_); (case evs => intro _ h; cases h))
  | ((with_reducible refine' rop_inT ?evs ?evt ?_); (case evs => exact rfl); (case evt => first | assumption | exact rfl))
  | ((with_reducible refine' rop_inS ?evs ?evt ?evu ?_); (case evs => exact rfl); (case evt => exact rfl); (case evu => exact rfl))))
local macro_rules | `(tactic| walk_at "evC") => `(tactic| (first
  | ((with_reducible refine' rcl_len ?evs ?_); (case evs => exact rfl))
  | ((with_reducible refine' rcl_isi ?evs ?evk ?_); (case evs => exact rfl); (case evk => (first | exact kit_int_int | exact kit_int_bool | exact kit_int_str | exact kit_int_tuple | exact kit_int_list | exact kit_bool_int | exact kit_bool_bool | exact kit_bool_str | exact kit_bool_tuple | exact kit_bool_list | exact kit_str_int | exact kit_str_bool | exact kit_str_str | exact kit_str_tuple | exact kit_str_list | exact kit_tuple_int | exact kit_tuple_bool | exact kit_tuple_str | exact kit_tuple_tuple | exact kit_tuple_list | exact kit_list_int | exact kit_list_bool | exact kit_list_str | exact kit_list_tuple | exact kit_list_list | exact kit_NoneType_int | exact kit_NoneType_bool | exact kit_NoneType_str | exact kit_NoneType_tuple | exact kit_NoneType_list)))
  | with_reducible refine' rcl_int ?_
  | with_reducible refine' rcl_intB ?_
  | with_reducible refine' rcl_max2 ?_
  | with_reducible refine' rcl_min2 ?_))
local macro_rules | `(tactic| walk_at "evT") => `(tactic| (first
  | with_reducible refine' tv_test ?_
  | with_reducible refine' tv_or ?_
  | with_reducible refine' tv_and ?_
  | with_reducible refine' tv_not ?_
  | with_reducible refine' tv_B ?_
  | with_reducible refine' tv_tru ?_
  | with_reducible refine' tv_yes ?_))
local macro_rules | `(tactic| walk_at "evA") => `(tactic| (first
  | with_reducible refine' av_cons ?_
  | with_reducible refine' av_nil ?_))
local macro_rules | `(tactic| walk_at "evS") => `(tactic| (first
  | with_reducible refine' stp_seq ?_
  | with_reducible refine' stp_if ?_
  | with_reducible refine' stp_ret ?_
  | with_reducible refine' stp_next ?_
  | with_reducible refine' stp_set ?_
  | with_reducible refine' stp_asg ?_
  | with_reducible refine' stp_drop ?_
  | with_reducible refine' stp_par ?_
  | with_reducible refine' stp_dput ?_
  | with_reducible refine' stp_augL ?_
  | with_reducible refine' stp_retN ?_
  | with_reducible refine' stp_brk ?_
  | with_reducible refine' stp_cont ?_))
local macro_rules | `(tactic| walk_at "evI") => `(tactic| (first
  | ((with_reducible refine' ifT ?evs ?_); (case evs => exact rfl))
  | ((with_reducible refine' ifF ?evs ?_); (case evs => exact rfl))))
local macro_rules | `(tactic| walk_at "ev") => `(tactic| (first
  | ((with_reducible show EvP _ _ _ _ _); walk_at "evE")
  | ((with_reducible show ROp _ _ _ _ _ _); walk_at "evR")
  | ((with_reducible show AvP _ _ _ _ _); walk_at "evA")
  | ((with_reducible show TvP _ _ _ _ _); walk_at "evT")
  | ((with_reducible show RCl _ _ _ _ _); walk_at "evC")
  | ((with_reducible show StP _ _ _ _ _); walk_at "evS")
  | ((with_reducible show ite _ _ _); walk_at "evI")
  | with_reducible refine' ov_none ?_
  | with_reducible refine' ov_some ?_
  | ((with_reducible show RSl _ _ _ _ _ _ _); (first | with_reducible refine' rsl_T ?_ | ((with_reducible refine' rsl_L ?evh ?_); (case evh => exact rfl))))
  | with_reducible refine' gv_name ?_
  | with_reducible refine' gv_sub ?_
  | ((with_reducible show RSet _ _ _ _ _ _ _); ((with_reducible refine' rset_L ?evh ?evs ?_); (case evh => (first | exact updM_same | assumption)); (case evs => exact rfl)))
  | with_reducible refine' pv_cons ?_
  | with_reducible refine' pv_nil ?_
  | ((with_reducible show Exists _); refine ⟨_, rfl, ?_⟩)
  | ((with_reducible show Exists _); refine ⟨_, _, rfl, ?_⟩)
  | ((with_reducible show Exists _); refine ⟨_, _, (by first | exact ⟨rfl, rfl, rfl⟩ | exact rfl | assumption), (by first | exact rfl | decide +kernel), ?_⟩)
  | ((with_reducible show And _ _); refine ⟨Nat.le_of_ble_eq_true rfl, ?_⟩)))
local macro_rules | `(tactic| walk_at "evs") => `(tactic| (repeat walk_at "ev"))
local macro_rules | `(tactic| walk_at "evF") => `(tactic| ((with_reducible refine' ev_fld (C := He.ga _ "Program") (ns := progN) (Tx.c_Program (by assumption)) (Tx.n_Program (by assumption) _ ?evm) ?_); (case evm => decide +kernel)))

theorem sc_Program_steps_of : FnScope ["self", "name"] ["self", "name"] (defScope (inClass (top 20) 3)) := ⟨rfl, rfl, rfl, by decide +kernel, rfl, by decide +kernel, by decide +kernel⟩
theorem fn_Program_steps_of {P : Program} {w : World} {K : PySem.W.Frag} {mg : Str → Option Value} {base : Heap} {f : Addr} {fd : FuncData} (F : FnP K "steps_of" "Program.steps_of" (inClass (top 20) 3) f fd) (T : Tx w K mg)   : FnOk P w K mg base CX0 1 f fd ["self", "name"] (spOf K (S_steps_of (He.ga K "Program"))) := by
  have sc := sc_Program_steps_of
  refine ok_fn (k := 0) F sc (fun ds M Q h => ?_) (fun cdv A outer s H E hr => ?_)
  · obtain ⟨p, n, rfl, hQ⟩ := h; rfl
  · have hu6 : A.units + 64 < cLine := by have := hr.un; show A.units + 64 < cLine; simp only [Around.deeper] at this; omega
    have hu := hu_of hr
    refine ⟨_, (pss_one (ps_ret (pe_dget hu (pe_disp (pps_cons pe_str (pe_fld (pv 0) rfl) (pps_cons pe_str (pe_fld (pv 0) rfl) (pps_cons pe_str (pe_fld (pv 0) rfl) pps_nil))) (by rfl) (by rfl) (fun z => by cases z) (by decide)) (pv 1) (fun _ _ => rfl)))), fun ds M Q h => ?_⟩
    obtain ⟨p, n, rfl, hQ⟩ := h
    try dsimp only [cxOf, Cx.nox]
    refine stp_to M ?_
    walk_at "evs"
    intro q hq
    cases n <;> (walk_at "evs"; refine ⟨_, _, _, _, rfl, updM_same, rfl, rfl, ?_⟩; exact subU hq hQ)


theorem sc_Program_with_steps : FnScope ["self", "name", "steps", "rows", "other"] ["self", "name", "steps"] (defScope (inClass (top 20) 4)) := ⟨rfl, rfl, rfl, by decide +kernel, rfl, by decide +kernel, by decide +kernel⟩
theorem fn_Program_with_steps {P : Program} {w : World} {K : PySem.W.Frag} {mg : Str → Option Value} {base : Heap} {f : Addr} {fd : FuncData} (F : FnP K "with_steps" "Program.with_steps" (inClass (top 20) 4) f fd) (T : Tx w K mg) (m_steps_of : CalM P w K mg base (He.ga K "Program") 1 "steps_of" ["self", "name"] (S_steps_of (He.ga K "Program"))) (k_Program : CalC P w K mg base (He.ga K "Program") 6 "Program" ["self", "keeps", "new", "change", "drop"] (S_Program_init (He.ga K "Program")))  : FnOk P w K mg base CX0 8 f fd ["self", "name", "steps"] (spOf K (S_with_steps (He.ga K "Program"))) := by
  have sc := sc_Program_with_steps
  refine ok_fn (k := 7) F sc (fun ds M Q h => ?_) (fun cdv A outer s H E hr => ?_)
  · obtain ⟨p, n, sd, ss, rfl, hs, hv, hQ⟩ := h; rfl
  · have hu6 : A.units + 64 < cLine := by have := hr.un; show A.units + 64 < cLine; simp only [Around.deeper] at this; omega
    have hu := hu_of hr
    refine ⟨_, (pss_cons (ps_setDc (i := 3) (own := [("other", 4)]) (by rfl) sc.nd rfl rfl (sw_trueD rfl rfl rfl (by decide +kernel)) (pi_seq (pe_glob (v := .ref _) (by rfl) T.g_NAMES rfl)) (blkOk_by (own := [("other", 4)]) (N := ["self", "name", "steps", "rows", "other"]) (sc := defScope (inClass (top 20) 4)) (by decide +kernel)) (fun _ _ _ _ _ => (pg_name (i := 4) sc.nd rfl (Or.inl rfl))) (fun _ _ _ _ _ => pts_nil) (fun _ _ _ _ _ => (pv 4)) (fun _ _ _ _ _ => (k_metD (K := K) m_steps_of (hr.mono (by first | decide | exact Nat.le_refl _)) (pv 0) (pa_cons (pv 4) pa_nil)))) (pss_cons (ps_dput hu (pv 3) (pv 1) (pv 2) rfl) (pss_one (ps_ret (pe_makD k_Program (hr.mono (by first | decide | exact Nat.le_refl _)) (by rfl) (pa_cons (pe_fld (pv 0) rfl) (pa_cons (pe_dget hu (pv 3) pe_str (fun _ _ => rfl)) (pa_cons (pe_dget hu (pv 3) pe_str (fun _ _ => rfl)) (pa_cons (pe_dget hu (pv 3) pe_str (fun _ _ => rfl)) pa_nil))))))))), fun ds M Q h => ?_⟩
    obtain ⟨p, n, sd, ss, rfl, hs, hv, hQ⟩ := h
    try dsimp only [cxOf, Cx.nox]
    refine stp_to M (stp_frzO ?_)
    walk_at "evs"
    refine ev_dc (js := [4]) (by decide) (sr_seq ?_)
    walk_at "evs"
    have nm : ∀ (i : Nat) (d : Da), [sD "new", sD "change", sD "drop"][i]? = some d → ∃ m : Pn, d = sD m.s ∧ i = (match m with | .new => 0 | .change => 1 | .drop => 2) := by
      intro i d hd
      match i, hd with
      | 0, hd => exact ⟨.new, (Option.some.inj hd).symm, rfl⟩
      | 1, hd => exact ⟨.change, (Option.some.inj hd).symm, rfl⟩
      | 2, hd => exact ⟨.drop, (Option.some.inj hd).symm, rfl⟩
      | n + 3, hd => simp at hd
    let all : List (Key × Da) := [(.inr "new", .tup (p.new.map stepD)), (.inr "change", .tup (p.change.map stepD)), (.inr "drop", .tup (p.drop.map stepD))]
    refine ⟨[sD "new", sD "change", sD "drop"], .inr rfl, fun i acc M' => acc = all.take i ∧ M = M', ⟨rfl, rfl⟩, ?_, ?_⟩
    · rintro i d acc M' hd ⟨ea, em⟩
      subst ea em
      obtain ⟨m, rfl, rfl⟩ := nm i d hd
      refine ⟨_, tg_name, tv_yes ?_⟩
      rw [if_pos rfl]
      refine ⟨by rw [List.length_take]; exact Nat.lt_of_le_of_lt (Nat.min_le_right _ _) (Nat.le_of_ble_eq_true rfl), ?_⟩
      walk_at "evs"
      refine ⟨p, m, rfl, ?_⟩
      cases m <;> exact ⟨_, rfl, rfl, rfl⟩
    · rintro acc M' ⟨ea, em⟩ q hq
      subst ea em
      walk_at "evs"
      have hks : (all.take [sD "new", sD "change", sD "drop"].length) = all := rfl
      refine ⟨q, all, .inr n.s, rfl, updM_same, rfl, Nat.le_of_ble_eq_true rfl, ?_⟩
      rw [updM_updM]
      have hg : ∀ m : Pn, ∃ z, valD (putD all (.inr n.s) sd) (.inr m.s) = some z ∧ SeqOf z (((p.with n ss).steps m).map stepD) := by
        intro m
        cases n <;> cases m <;> first | exact ⟨_, rfl, hs⟩ | exact ⟨_, rfl, .inr rfl⟩
      obtain ⟨z1, v1, w1⟩ := hg .new
      obtain ⟨z2, v2, w2⟩ := hg .change
      obtain ⟨z3, v3, w3⟩ := hg .drop
      have hk : (p.with n ss).keeps = p.keeps := by cases n <;> rfl
      walk_at "evs"
      refine ⟨q, _, .inr "new", z1, rfl, updM_same, rfl, v1, ?_⟩
      walk_at "evs"
      refine ⟨q, _, .inr "change", z2, rfl, updM_same, rfl, v2, ?_⟩
      walk_at "evs"
      refine ⟨q, _, .inr "drop", z3, rfl, updM_same, rfl, v3, ?_⟩
      walk_at "evs"
      intro x hx
      have hxq : x ≠ q := by
        intro e
        subst e
        rw [updM_same] at hx
        cases hx
      have hxM : M x = none := by rw [updM_ne hxq] at hx; exact hx
      refine ⟨x, _, z1, z2, z3, p.with n ss, rfl, updM_same, .inr (by rw [hk]), w1, w2, w3, hv, rfl, ?_⟩
      exact ⟨x, _, _, _, rfl, updM_same, (((SubM.upd hq).upd' hxM).upd' hxM).del hxM, hQ⟩


theorem sc_asks_none : FnScope ["program", "rows", "name", "row", "step"] ["program"] (defScope (top 29)) := ⟨rfl, rfl, rfl, by decide +kernel, rfl, by decide +kernel, by decide +kernel⟩
theorem fn_asks_none {P : Program} {w : World} {K : PySem.W.Frag} {mg : Str → Option Value} {base : Heap} {f : Addr} {fd : FuncData} (F : FnP K "asks_none" "asks_none" (top 29) f fd) (T : Tx w K mg) (m_steps_of : CalM P w K mg base (He.ga K "Program") 1 "steps_of" ["self", "name"] (S_steps_of (He.ga K "Program")))  : FnOk P w K mg base CX0 2 f fd ["program"] (spOf K (S_asks_none (He.ga K "Program"))) := by
  have sc := sc_asks_none
  refine ok_fn (k := 1) F sc (fun ds M Q h => ?_) (fun cdv A outer s H E hr => ?_)
  · obtain ⟨p, rfl, hv, hQ⟩ := h; rfl
  · have hu6 : A.units + 64 < cLine := by have := hr.un; show A.units + 64 < cLine; simp only [Around.deeper] at this; omega
    have hu := hu_of hr
    refine ⟨_, (pss_cons (ps_setLc (i := 1) (own := [("name", 2)]) (by rfl) sc.nd rfl rfl (sw_true rfl rfl rfl (by decide +kernel)) (pi_seq (pe_glob (v := .ref _) (by rfl) T.g_NAMES rfl)) (blkOk_by (own := [("name", 2)]) (N := ["program", "rows", "name", "row", "step"]) (sc := defScope (top 29)) (by decide +kernel)) (fun _ _ _ _ _ => (pg_name (i := 2) sc.nd rfl (Or.inl rfl))) (fun _ _ _ _ _ => pts_nil) (fun _ _ _ _ _ => (k_metD (K := K) m_steps_of (hr.mono (by first | decide | exact Nat.le_refl _)) (pv 0) (pa_cons (pv 2) pa_nil)))) (pss_one (ps_ret (pe_callB (cr_any rfl) (by rfl) T.b_any (by decide +kernel) (pa_cons (pe_lc2 (own := [("row", 3), ("step", 4)]) (vs1 := [4]) (by rfl) sc.nd (pi_seq (pv 1)) (blkOk_by (own := [("row", 3), ("step", 4)]) (N := ["program", "rows", "name", "row", "step"]) (sc := defScope (top 29)) (by decide +kernel)) (by decide) (fun _ _ _ _ _ => (pg_name (i := 3) sc.nd rfl (Or.inl rfl))) (fun _ _ _ _ _ => pts_nil) (fun _ _ _ _ _ => (k_pi_seq (K := K) (pv 3))) (fun _ _ _ _ _ => (pg_name (i := 4) sc.nd rfl (Or.inl rfl))) (fun _ _ _ _ _ => pts_nil) (fun _ _ _ _ _ => (pe_and (pe_cmpR op_eq (pe_ix (k_ix_seq (K := K)) (pv 4) pe_int (fun _ _ => rfl)) pe_str (nomark _)) (pe_one (pe_cmpR op_eq (pe_ix (k_ix_seq (K := K)) (pe_ix (k_ix_seq (K := K)) (pv 4) pe_int (fun _ _ => rfl)) pe_int (fun _ _ => rfl)) pe_str (nomark _)))))) pa_nil))))), fun ds M Q h => ?_⟩
    obtain ⟨p, rfl, hv, hQ⟩ := h
    try dsimp only [cxOf, Cx.nox]
    have nm : ∀ (i : Nat) (d : Da), [sD "new", sD "change", sD "drop"][i]? = some d → ∃ m : Pn, d = sD m.s ∧ [p.new, p.change, p.drop][i]? = some (p.steps m) := by
      intro i d hd
      match i, hd with
      | 0, hd => exact ⟨.new, (Option.some.inj hd).symm, rfl⟩
      | 1, hd => exact ⟨.change, (Option.some.inj hd).symm, rfl⟩
      | 2, hd => exact ⟨.drop, (Option.some.inj hd).symm, rfl⟩
      | n + 3, hd => simp at hd
    have h1 : p.new.length ≤ 6 := hv.len .new
    have h2 : p.change.length ≤ 6 := hv.len .change
    have h3 : p.drop.length ≤ 6 := hv.len .drop
    refine stp_seq (stp_set (ev_lcMap [2] (by decide) (sr_seq ?_)))
    walk_at "evs"
    refine ⟨_, .inr rfl, [p.new, p.change, p.drop].map fun l => .tup (l.map stepD), rfl, by simp, ?_, ?_⟩
    · intro i d e hd he
      obtain ⟨m, rfl, hm⟩ := nm i d hd
      rw [List.getElem?_map, hm] at he
      obtain rfl := Option.some.inj he
      refine ⟨_, tg_name, ?_⟩
      walk_at "evs"
      exact ⟨p, m, rfl, rfl, rfl⟩
    · walk_at "evs"
      refine ev_lc2Map [3] [4] (by decide) (by decide) (sr_seq ?_)
      walk_at "evs"
      refine ⟨_, .inl rfl, [p.new, p.change, p.drop].map fun l => l.map fun s => .sc (.bl s.asksNone), rfl, by simp; omega, ?_, ?_⟩
      · intro i d es hd he
        rw [List.getElem?_map] at hd he
        obtain ⟨l, hl, rfl⟩ := Option.map_eq_some_iff.mp hd
        rw [hl] at he
        obtain rfl := Option.some.inj he
        refine ⟨_, tg_name, sr_seq ?_⟩
        walk_at "evs"
        refine ⟨_, .inr rfl, rfl, by simp, ?_⟩
        intro j f e hf hee
        rw [List.getElem?_map] at hf hee
        obtain ⟨s, hs, rfl⟩ := Option.map_eq_some_iff.mp hf
        rw [hs] at hee
        obtain rfl := Option.some.inj hee
        refine ⟨_, tg_name, ?_⟩
        obtain ⟨te, tc⟩ := s
        cases te with
        | none => cases tc <;> (walk_at "evs"; exact ⟨rfl, rfl⟩)
        | some t => cases t <;> (walk_at "evs"; exact ⟨rfl, rfl⟩)
      · have e : ([p.new, p.change, p.drop].map fun l => l.map fun s => Da.sc (.bl s.asksNone)).flatten = ((p.new ++ p.change ++ p.drop).map Step.asksNone).map fun b => Da.sc (.bl b) := by
          simp [List.map_append, Function.comp_def]
        rw [e]
        walk_at "evs"
        refine rcl_any (bs := (p.new ++ p.change ++ p.drop).map Step.asksNone) (by exact rfl) ?_
        have e2 : ((p.new ++ p.change ++ p.drop).map Step.asksNone).any id = asksNone p := by
          unfold asksNone
          rw [List.any_map]
          rfl
        rw [e2]
        exact hQ

theorem ok_asks_none {P : Program} {w : World} {K : PySem.W.Frag} {mg : Str → Option Value} {base : Heap} {f : Addr} {fd : FuncData} (F : FnP K "asks_none" "asks_none" (top 29) f fd) (g : mg "asks_none" = some (.ref f)) (T : Tx w K mg) (m_steps_of : CalM P w K mg base (He.ga K "Program") 1 "steps_of" ["self", "name"] (S_steps_of (He.ga K "Program")))  : Cal P w K mg base 2 "asks_none" ["program"] (S_asks_none (He.ga K "Program")) :=
  cal_mk F g (fn_asks_none F T m_steps_of) (F.bindsN fun _ _ _ _ _ _ us hl => match us, hl with | [_], _ => rfl)

theorem sc_most_others : FnScope ["program", "name"] ["program"] (defScope (top 30)) := ⟨rfl, rfl, rfl, by decide +kernel, rfl, by decide +kernel, by decide +kernel⟩
theorem fn_most_others {P : Program} {w : World} {K : PySem.W.Frag} {mg : Str → Option Value} {base : Heap} {f : Addr} {fd : FuncData} (F : FnP K "most_others" "most_others" (top 30) f fd) (T : Tx w K mg) (c_asks_none : Cal P w K mg base 2 "asks_none" ["program"] (S_asks_none (He.ga K "Program"))) (m_steps_of : CalM P w K mg base (He.ga K "Program") 1 "steps_of" ["self", "name"] (S_steps_of (He.ga K "Program")))  : FnOk P w K mg base CX0 3 f fd ["program"] (spOf K (S_most_others (He.ga K "Program"))) := by
  have sc := sc_most_others
  refine ok_fn (k := 2) F sc (fun ds M Q h => ?_) (fun cdv A outer s H E hr => ?_)
  · obtain ⟨p, rfl, hv, hQ⟩ := h; rfl
  · have hu6 : A.units + 64 < cLine := by have := hr.un; show A.units + 64 < cLine; simp only [Around.deeper] at this; omega
    have hu := hu_of hr
    refine ⟨_, (pss_one (ps_ret (pe_callB (cr_max rfl) (by rfl) T.b_max (by decide +kernel) (pa_cons (pe_op op_addA (pe_lst (pa_cons pe_int pa_nil)) (pe_lc (own := [("name", 1)]) (by rfl) sc.nd (pi_seq (pe_glob (v := .ref _) (by rfl) T.g_NAMES rfl)) (blkOk_by (own := [("name", 1)]) (N := ["program", "name"]) (sc := defScope (top 30)) (by decide +kernel)) (fun _ _ _ _ _ => (pg_name (i := 1) sc.nd rfl (Or.inl rfl))) (fun _ _ _ _ _ => (pts_one (pt_val (k_calD (K := K) c_asks_none (hr.mono (by first | decide | exact Nat.le_refl _)) (by rfl) (pa_cons (pv 0) pa_nil))))) (fun _ _ _ _ _ => (pe_callB (k_call_len (K := K)) (by rfl) T.b_len (by decide +kernel) (pa_cons (k_metD (K := K) m_steps_of (hr.mono (by first | decide | exact Nat.le_refl _)) (pv 0) (pa_cons (pv 1) pa_nil)) pa_nil))))) pa_nil)))), fun ds M Q h => ?_⟩
    obtain ⟨p, rfl, hv, hQ⟩ := h
    try dsimp only [cxOf, Cx.nox]
    have nm : ∀ (i : Nat) (d : Da), [sD "new", sD "change", sD "drop"][i]? = some d → ∃ m : Pn, d = sD m.s ∧ [p.new, p.change, p.drop][i]? = some (p.steps m) := by
      intro i d hd
      match i, hd with
      | 0, hd => exact ⟨.new, (Option.some.inj hd).symm, rfl⟩
      | 1, hd => exact ⟨.change, (Option.some.inj hd).symm, rfl⟩
      | 2, hd => exact ⟨.drop, (Option.some.inj hd).symm, rfl⟩
      | n + 3, hd => simp at hd
    let ls : List Int := if asksNone p = true then [(p.new.length : Int), (p.change.length : Int), (p.drop.length : Int)] else []
    walk_at "evs"
    refine ev_lc (js := [1]) (by decide) (sr_seq ?_)
    walk_at "evs"
    refine ⟨_, .inr rfl, fun i acc M' => acc = (ls.take i).map iD ∧ M = M', ⟨rfl, rfl⟩, ?_, ?_⟩
    · rintro i d acc M' hd ⟨ea, em⟩
      subst ea em
      obtain ⟨m, rfl, hm⟩ := nm i d hd
      refine ⟨_, tg_name, ?_⟩
      walk_at "evs"
      refine ⟨p, rfl, hv, ?_⟩
      walk_at "evs"
      refine ifB (fun h => ?_) (fun h => ?_)
      · have e : ls = [p.new, p.change, p.drop].map fun l => (l.length : Int) := by
          show (if _ then _ else _) = _
          rw [if_pos h]
          rfl
        refine ⟨by rw [e]; simp; omega, ?_⟩
        walk_at "evs"
        refine ⟨p, m, rfl, ?_⟩
        walk_at "evs"
        refine ⟨?_, rfl⟩
        rw [List.length_map, take_succ_some (l := ls) (e := ((p.steps m).length : Int)) (by rw [e, List.getElem?_map, hm] <;> rfl), List.map_append]
        rfl
      · refine ⟨?_, rfl⟩
        have e : ls = [] := by
          show (if _ then _ else _) = _
          rw [if_neg (by rw [h]; exact Bool.false_ne_true)]
        rw [e, List.take_nil, List.take_nil]
    · rintro acc M' ⟨ea, em⟩
      subst ea em
      have e : ls.take 3 = ls := by
        show List.take 3 (if _ then _ else _) = (if _ then _ else _)
        split <;> rfl
      refine rop_or2 (rop_or2 ?_)
      refine rop_cat (ds := [iD 2]) (es := ls.map iD) (show _ = _ from rfl) (show _ = _ from congrArg _ e) ?_ ?_
      · rw [List.length_map, ← e, List.length_take]
        simp; omega
      · walk_at "evs"
        refine rcl_max (ns := 2 :: ls) (show _ = _ from rfl) (Nat.succ_pos _) fun m hm hle => ?_
        have em : m = (mostOthers p : Nat) := by
          rw [← maxV_eq hm hle]
          have e0 : (if asksNone p = true then [(p.new.length : Int), (p.change.length : Int), (p.drop.length : Int)] else []) = ls := rfl
          unfold mostOthers
          by_cases hb : asksNone p = true
          · rw [if_pos hb] at e0 ⊢
            rw [← e0]
            show max (max (max (2 : Int) p.new.length) p.change.length) p.drop.length = _
            omega
          · rw [if_neg hb] at e0 ⊢
            rw [← e0]
            rfl
        subst em
        exact hQ

theorem ok_most_others {P : Program} {w : World} {K : PySem.W.Frag} {mg : Str → Option Value} {base : Heap} {f : Addr} {fd : FuncData} (F : FnP K "most_others" "most_others" (top 30) f fd) (g : mg "most_others" = some (.ref f)) (T : Tx w K mg) (c_asks_none : Cal P w K mg base 2 "asks_none" ["program"] (S_asks_none (He.ga K "Program"))) (m_steps_of : CalM P w K mg base (He.ga K "Program") 1 "steps_of" ["self", "name"] (S_steps_of (He.ga K "Program")))  : Cal P w K mg base 3 "most_others" ["program"] (S_most_others (He.ga K "Program")) :=
  cal_mk F g (fn_most_others F T c_asks_none m_steps_of) (F.bindsN fun _ _ _ _ _ _ us hl => match us, hl with | [_], _ => rfl)

theorem sc_first_lie : FnScope ["program", "steps", "before", "after", "elder", "newer", "kept", "told", "index", "true"] ["program", "steps", "before", "after", "elder", "newer"] (defScope (top 33)) := ⟨rfl, rfl, rfl, by decide +kernel, rfl, by decide +kernel, by decide +kernel⟩
theorem fn_first_lie {P : Program} {w : World} {K : PySem.W.Frag} {mg : Str → Option Value} {base : Heap} {f : Addr} {fd : FuncData} (F : FnP K "first_lie" "first_lie" (top 33) f fd) (T : Tx w K mg) (c_true_values : Cal P w K mg base 2 "true_values" ["keeps", "things"] (S_true_values)) (m_steps : CalM P w K mg base (He.ga K "Deed") 3 "steps" ["self", "some"] (S_steps (He.ga K "Deed"))) (k_Deed : CalC P w K mg base (He.ga K "Deed") 1 "Deed" ["self", "keeps", "kept", "things", "elder", "newer"] (S_Deed_init (He.ga K "Deed")))  : FnOk P w K mg base CX0 4 f fd ["program", "steps", "before", "after", "elder", "newer"] (spOf K (S_first_lie (He.ga K "Program"))) := by
  have sc := sc_first_lie
  refine ok_fn (k := 3) F sc (fun ds M Q h => ?_) (fun cdv A outer s H E hr => ?_)
  · obtain ⟨p, ss, before, after, elder, newer, n, rfl, h3, hok, hst, hb, ha, hQ⟩ := h; rfl
  · have hu6 : A.units + 64 < cLine := by have := hr.un; show A.units + 64 < cLine; simp only [Around.deeper] at this; omega
    have hu := hu_of hr
    refine ⟨_, (pss_cons (ps_set (i := 6) sc.nd rfl (Or.inl rfl) (pe_calD c_true_values (hr.mono (by first | decide | exact Nat.le_refl _)) (by rfl) (pa_cons (pe_fld (pv 0) rfl) (pa_cons (pv 2) pa_nil)))) (pss_cons (ps_set (i := 7) sc.nd rfl (Or.inl rfl) (pe_metD m_steps (hr.mono (by first | decide | exact Nat.le_refl _)) (pe_makD k_Deed (hr.mono (by first | decide | exact Nat.le_refl _)) (by rfl) (pa_cons (pe_fld (pv 0) rfl) (pa_cons (pv 6) (pa_cons (pv 3) (pa_cons (pv 4) (pa_cons (pv 5) pa_nil)))))) (pa_cons (pv 1) pa_nil))) (pss_cons (ps_for PassesOwn.never (by rfl) (pi_enumA (by rfl) T.b_enumerate (pa_cons (pe_calD c_true_values (hr.mono (by first | decide | exact Nat.le_refl _)) (by rfl) (pa_cons (pe_fld (pv 0) rfl) (pa_cons (pv 3) pa_nil))) pa_nil)) (pg_tup (n := 2) (by rfl) (pgs_cons (pg_name (i := 8) sc.nd rfl (Or.inl rfl)) (pgs_cons (pg_name (i := 9) sc.nd rfl (Or.inl rfl)) pgs_nil))) (pss_one (ps_if (pt_cmpR op_ne (pe_ix ix_seq (pv 7) (pv 8) (fun _ _ => rfl)) (pv 9) (nomark _)) (pss_one (ps_ret (pv 8))) pss_nil))) (pss_one (ps_ret pe_non))))), fun ds M Q h => ?_⟩
    obtain ⟨p, ss, before, after, elder, newer, n, rfl, h3, hok, hst, hb, ha, hQ⟩ := h
    try dsimp only [cxOf, Cx.nox]
    refine stp_to M ?_
    walk_at "evs"
    refine ⟨.tup (p.keeps.map keepD), p.keeps, before, rfl, .inr rfl, h3, hb, ?_⟩
    walk_at "evs"
    intro x hx
    refine ⟨x, trueValues p.keeps before, ⟨p.keeps, after, elder, newer⟩, rfl, updM_same, ?_⟩
    intro l hl
    refine ⟨rfl, ?_⟩
    have hxl : x ≠ l := by
      intro e
      subst e
      rw [updM_same] at hl
      cases hl
    have hlM : M l = none := by rw [updM_ne hxl.symm] at hl; exact hl
    refine ⟨_, _, (by show _ = _; rw [updM_ne hxl]; exact updM_same), by decide +kernel, ?_⟩
    walk_at "evs"
    refine ⟨x, l, ⟨p.keeps, after, elder, newer⟩, trueValues p.keeps before, n, _, ss, rfl, .inr rfl, ⟨by rw [updM_ne hxl]; exact updM_same, updM_same, hxl⟩, hok, tyA_true _ _, hst, ha, ?_⟩
    walk_at "evs"
    let N : MH := updM (updM (updM (updM M x (.ins (He.ga K "Deed") [] [])) x (.ins (He.ga K "Deed") deedN [.tup (p.keeps.map keepD), .sc (.ref l), .lst (after.map thingD), optD elder, optD newer])) l (.lst ((trueValues p.keeps before).map Da.sc))) l (.lst ((run ⟨p.keeps, after, elder, newer⟩ ss (trueValues p.keeps before)).map Da.sc))
    have hsub : SubM M N := ((((SubM.refl M).upd' hx).upd' hx).upd' hlM).upd' hlM
    have hN : N l = some (.lst ((run ⟨p.keeps, after, elder, newer⟩ ss (trueValues p.keeps before)).map Da.sc)) := updM_same
    let pr : Nat → Bool := fun i => !decide (at_ (run ⟨p.keeps, after, elder, newer⟩ ss (trueValues p.keeps before)) i = at_ (trueValues p.keeps after) i)
    have hfl : firstLie p ss before after elder newer = (List.range p.keeps.length).find? pr := rfl
    have ht1 : TyA p.keeps (run ⟨p.keeps, after, elder, newer⟩ ss (trueValues p.keeps before)) := tyA_run (n := n) (d := ⟨p.keeps, after, elder, newer⟩) (tyA_true _ _) hst
    have ht2 : TyA p.keeps (trueValues p.keeps after) := tyA_true _ _
    refine stp_for (js := [8, 9]) (sr_enumA ?_)
    walk_at "evs"
    refine ⟨.tup (p.keeps.map keepD), p.keeps, after, rfl, .inr rfl, h3, ha, ?_⟩
    walk_at "evs"
    refine ⟨_, .inl rfl, fun i ρ' M' => (∃ a b, ρ' = [some (progD (He.ga K "Program") p), some (.tup (ss.map stepD)), some (.lst (before.map thingD)), some (.lst (after.map thingD)), some (optD elder), some (optD newer), some (.lst ((trueValues p.keeps before).map Da.sc)), some (.sc (.ref l)), a, b]) ∧ N = M' ∧ ∀ j, j < i → (!pr j) = true, ⟨⟨none, none, rfl⟩, rfl, fun j hj => absurd hj (Nat.not_lt_zero j)⟩, ?_, ?_⟩
    · rintro i d ρ' M' hd ⟨⟨a, b, rfl⟩, eN, hprev⟩
      obtain ⟨e, he, rfl⟩ := enumD_get hd
      rw [List.getElem?_map] at he
      obtain ⟨u, hu', rfl⟩ := Option.map_eq_some_iff.mp he
      have hil : i < p.keeps.length := by rw [← ht2.len]; exact (List.getElem?_eq_some_iff.mp hu').1
      have hk : p.keeps[i]? = some p.keeps[i] := List.getElem?_eq_getElem hil
      obtain ⟨v, hv, tv⟩ := ht1.at_ hk
      have tu := ht2.ty i _ u hk hu'
      have hat : atI ((run ⟨p.keeps, after, elder, newer⟩ ss (trueValues p.keeps before)).map Da.sc) (i : Int) = some (.sc v) := atI_nat (by rw [List.getElem?_map, hv] <;> rfl)
      have hpr : pr i = !decide (v = u) := by
        show (!decide (at_ _ i = at_ _ i)) = _
        rw [at_some hv, at_some hu']
      subst eN
      refine ⟨_, tg_tup (js := [8, 9]) rfl rfl, ?_⟩
      walk_at "evs"
      try refine rop_ix_M hN hat ?_
      walk_at "evs"
      refine rop_ne (scal_ty tv tu) ?_
      walk_at "evs"
      refine ifB (fun h => ?_) (fun h => ?_)
      · walk_at "evs"
        refine ⟨hsub, ?_⟩
        have e : (List.range p.keeps.length).find? pr = some i := List.find?_range_eq_some.mpr ⟨hpr.trans h, List.mem_range.mpr hil, hprev⟩
        rw [hfl, e] at hQ
        exact hQ
      · walk_at "evs"
        refine ⟨⟨_, _, rfl⟩, rfl, fun j hj => ?_⟩
        by_cases e : j = i
        · rw [e, hpr, h]; rfl
        · exact hprev j (by omega)
    · rintro ρ' M' ⟨_, eN, hall⟩
      subst eN
      walk_at "evs"
      refine ⟨hsub, ?_⟩
      have e : (List.range p.keeps.length).find? pr = none := List.find?_range_eq_none.mpr fun i hi => hall i (by rw [enumD_length, List.length_map, ht2.len]; exact hi)
      rw [hfl, e] at hQ
      exact hQ

theorem ok_first_lie {P : Program} {w : World} {K : PySem.W.Frag} {mg : Str → Option Value} {base : Heap} {f : Addr} {fd : FuncData} (F : FnP K "first_lie" "first_lie" (top 33) f fd) (g : mg "first_lie" = some (.ref f)) (T : Tx w K mg) (c_true_values : Cal P w K mg base 2 "true_values" ["keeps", "things"] (S_true_values)) (m_steps : CalM P w K mg base (He.ga K "Deed") 3 "steps" ["self", "some"] (S_steps (He.ga K "Deed"))) (k_Deed : CalC P w K mg base (He.ga K "Deed") 1 "Deed" ["self", "keeps", "kept", "things", "elder", "newer"] (S_Deed_init (He.ga K "Deed")))  : Cal P w K mg base 4 "first_lie" ["program", "steps", "before", "after", "elder", "newer"] (S_first_lie (He.ga K "Program")) :=
  cal_mk F g (fn_first_lie F T c_true_values m_steps k_Deed) (F.bindsN fun _ _ _ _ _ _ us hl => match us, hl with | [_, _, _, _, _, _], _ => rfl)

theorem sc_lie_of_new : FnScope ["program", "many", "most", "crowd", "newer", "index"] ["program", "many", "most"] (defScope (top 34)) := ⟨rfl, rfl, rfl, by decide +kernel, rfl, by decide +kernel, by decide +kernel⟩
theorem fn_lie_of_new {P : Program} {w : World} {K : PySem.W.Frag} {mg : Str → Option Value} {base : Heap} {f : Addr} {fd : FuncData} (F : FnP K "lie_of_new" "lie_of_new" (top 34) f fd) (T : Tx w K mg) (c_crowds : Cal P w K mg base 1 "crowds" ["many", "most"] (S_crowds)) (c_all_things : Cal P w K mg base 1 "all_things" ["numbers"] (S_all_things)) (c_first_lie : Cal P w K mg base 4 "first_lie" ["program", "steps", "before", "after", "elder", "newer"] (S_first_lie (He.ga K "Program"))) (c_news : Cal P w K mg base 1 "news" ["things"] (S_news))  : FnOk P w K mg base CX0 5 f fd ["program", "many", "most"] (spOf K (S_lie_of_new (He.ga K "Program"))) := by
  have sc := sc_lie_of_new
  refine ok_fn (k := 4) F sc (fun ds M Q h => ?_) (fun cdv A outer s H E hr => ?_)
  · obtain ⟨p, many, most, rfl, hv, hmost, hmany, hQ⟩ := h; rfl
  · have hu6 : A.units + 64 < cLine := by have := hr.un; show A.units + 64 < cLine; simp only [Around.deeper] at this; omega
    have hu := hu_of hr
    refine ⟨_, (pss_cons (ps_for PassesOwn.never (by rfl) (pi_seq (pe_calD c_crowds (hr.mono (by first | decide | exact Nat.le_refl _)) (by rfl) (pa_cons (pv 1) (pa_cons (pv 2) pa_nil)))) (pg_name (i := 3) sc.nd rfl (Or.inl rfl)) (pss_one (ps_for PassesOwn.never (by rfl) (pi_seq (pe_calD c_all_things (hr.mono (by first | decide | exact Nat.le_refl _)) (by rfl) (pa_cons (pe_glob (v := .ref _) (by rfl) T.g_NUMBERS rfl) pa_nil))) (pg_name (i := 4) sc.nd rfl (Or.inl rfl)) (pss_cons (ps_set (i := 5) sc.nd rfl (Or.inl rfl) (pe_calD c_first_lie (hr.mono (by first | decide | exact Nat.le_refl _)) (by rfl) (pa_cons (pv 0) (pa_cons (pe_fld (pv 0) rfl) (pa_cons (pe_callTy call_list_of (by rfl) T.b_list (by decide +kernel) (pa_cons (pv 3) pa_nil)) (pa_cons (pe_op op_addA (pe_callTy call_list_of (by rfl) T.b_list (by decide +kernel) (pa_cons (pv 3) pa_nil)) (pe_lst (pa_cons (pv 4) pa_nil))) (pa_cons pe_non (pa_cons (pv 4) pa_nil)))))))) (pss_one (ps_if (pt_cmpR op_notN1 (pv 5) pe_non (nomark _)) (pss_one (ps_ret (pe_tup (pa_cons (pe_op op_addA (pe_calD c_news (hr.mono (by first | decide | exact Nat.le_refl _)) (by rfl) (pa_cons (pv 3) pa_nil)) (pe_lst (pa_cons (pe_op op_addA (pe_tup (pa_cons pe_str pa_nil)) (pv 4)) pa_nil))) (pa_cons (pv 5) pa_nil))))) pss_nil)))))) (pss_one (ps_ret pe_non))), fun ds M Q h => ?_⟩
    obtain ⟨p, many, most, rfl, hv, hmost, hmany, hQ⟩ := h
    try dsimp only [cxOf, Cx.nox]
    let F : List Thing → Thing → Option Lie := fun c nw => (firstLie p p.new c (c ++ [nw]) none (some nw)).map fun i => (news c ++ [.new nw.1 nw.2], i)
    have hF : lieOfNew p many most = (crowds many most).findSome? fun c => allThings.findSome? (F c) := rfl
    refine stp_seq (stp_for (js := [3]) (sr_seq ?_))
    walk_at "evs"
    refine ⟨many, most, rfl, hmost, hmany, ?_⟩
    have hcl := crowds_le many most
    refine ⟨_, .inl rfl, fun i ρ' M' => (∃ a b c, ρ' = [some (progD (He.ga K "Program") p), some (iD many), some (iD most), a, b, c]) ∧ M = M' ∧ ((crowds many most).take i).findSome? (fun c => allThings.findSome? (F c)) = none, ⟨⟨none, none, none, rfl⟩, rfl, rfl⟩, ?_, ?_⟩
    · rintro i d ρ' M' hd ⟨⟨a, b, c, rfl⟩, rfl, hno⟩
      rw [List.getElem?_map] at hd
      obtain ⟨cr, hcr, rfl⟩ := Option.map_eq_some_iff.mp hd
      have hcm := crowds_mem (List.mem_of_getElem? hcr)
      refine ⟨_, tg_name, stp_for (js := [4]) (sr_seq ?_)⟩
      walk_at "evs"
      refine ⟨rfl, ?_⟩
      refine ⟨_, .inl rfl, fun i ρ' M' => (∃ b c, ρ' = [some (progD (He.ga K "Program") p), some (iD many), some (iD most), some (crowdD cr), b, c]) ∧ M = M' ∧ (allThings.take i).findSome? (F cr) = none, ⟨⟨_, _, rfl⟩, rfl, rfl⟩, ?_, ?_⟩
      · rintro j d ρ' M' hd ⟨⟨b, c, rfl⟩, rfl, hno1⟩
        rw [List.getElem?_map] at hd
        obtain ⟨nw, hnw, rfl⟩ := Option.map_eq_some_iff.mp hd
        refine ⟨_, tg_name, ?_⟩
        walk_at "evs"
        refine rcl_list (show SeqAt (.tup (cr.map thingD)) M (cr.map thingD) from rfl) ?_
        walk_at "evs"
        refine rcl_list (show SeqAt (.tup (cr.map thingD)) M (cr.map thingD) from rfl) ?_
        walk_at "evs"
        refine rop_or2 (rop_or2 ?_)
        refine rop_cat (ds := cr.map thingD) (es := [thingD nw]) (show _ = _ from rfl) (show _ = _ from rfl) (by simp; omega) ?_
        walk_at "evs"
        refine ⟨p, p.new, cr, cr ++ [nw], none, some nw, .new, by rw [List.map_append]; rfl, hv.k3, ⟨hv.k3, fun h => absurd rfl h, fun _ => ⟨_, rfl⟩⟩, hv.st .new, by omega, by rw [List.length_append]; simp; omega, ?_⟩
        cases hfl : firstLie p p.new cr (cr ++ [nw]) none (some nw) with
        | none =>
          walk_at "evs"
          refine ⟨⟨_, _, rfl⟩, rfl, findSome_snoc hnw hno1 ?_⟩
          show Option.map _ (firstLie p p.new cr (cr ++ [nw]) none (some nw)) = none
          rw [hfl]
          rfl
        | some ix =>
          walk_at "evs"
          refine ⟨crowdD cr, cr, rfl, .inr rfl, by omega, ?_⟩
          walk_at "evs"
          refine rop_or2 (rop_or2 ?_)
          refine rop_cat (ds := (news cr).map ddD) (es := [ddD (Dd.new nw.1 nw.2)]) (show _ = _ from rfl) (show _ = _ from rfl) (by simp [news]; omega) ?_
          walk_at "evs"
          have e : F cr nw = some (news cr ++ [.new nw.1 nw.2], ix) := by
            show Option.map _ (firstLie p p.new cr (cr ++ [nw]) none (some nw)) = _
            rw [hfl]
            rfl
          rw [hF, findSome_hit hcr hno (findSome_hit hnw hno1 e)] at hQ
          have hQ : Q (.tup [.lst ((news cr ++ [Dd.new nw.1 nw.2]).map ddD), iD ix]) M := hQ
          rw [List.map_append] at hQ
          exact hQ
      · rintro ρ' M' ⟨⟨b, c, rfl⟩, rfl, hall⟩
        refine ⟨⟨_, _, _, rfl⟩, rfl, findSome_snoc hcr hno ?_⟩
        exact hall
    · rintro ρ' M' ⟨⟨a, b, c, rfl⟩, rfl, hall⟩
      walk_at "evs"
      rw [List.length_map, List.take_length] at hall
      rw [hF, hall] at hQ
      exact hQ

theorem ok_lie_of_new {P : Program} {w : World} {K : PySem.W.Frag} {mg : Str → Option Value} {base : Heap} {f : Addr} {fd : FuncData} (F : FnP K "lie_of_new" "lie_of_new" (top 34) f fd) (g : mg "lie_of_new" = some (.ref f)) (T : Tx w K mg) (c_crowds : Cal P w K mg base 1 "crowds" ["many", "most"] (S_crowds)) (c_all_things : Cal P w K mg base 1 "all_things" ["numbers"] (S_all_things)) (c_first_lie : Cal P w K mg base 4 "first_lie" ["program", "steps", "before", "after", "elder", "newer"] (S_first_lie (He.ga K "Program"))) (c_news : Cal P w K mg base 1 "news" ["things"] (S_news))  : Cal P w K mg base 5 "lie_of_new" ["program", "many", "most"] (S_lie_of_new (He.ga K "Program")) :=
  cal_mk F g (fn_lie_of_new F T c_crowds c_all_things c_first_lie c_news) (F.bindsN fun _ _ _ _ _ _ us hl => match us, hl with | [_, _, _], _ => rfl)

theorem sc_lie_of_old : FnScope ["program", "many", "most", "crowd", "elder", "before", "index", "newer"] ["program", "many", "most"] (defScope (top 35)) := ⟨rfl, rfl, rfl, by decide +kernel, rfl, by decide +kernel, by decide +kernel⟩
theorem fn_lie_of_old {P : Program} {w : World} {K : PySem.W.Frag} {mg : Str → Option Value} {base : Heap} {f : Addr} {fd : FuncData} (F : FnP K "lie_of_old" "lie_of_old" (top 35) f fd) (T : Tx w K mg) (c_crowds : Cal P w K mg base 1 "crowds" ["many", "most"] (S_crowds)) (c_all_things : Cal P w K mg base 1 "all_things" ["numbers"] (S_all_things)) (c_first_lie : Cal P w K mg base 4 "first_lie" ["program", "steps", "before", "after", "elder", "newer"] (S_first_lie (He.ga K "Program"))) (c_news : Cal P w K mg base 1 "news" ["things"] (S_news))  : FnOk P w K mg base CX0 5 f fd ["program", "many", "most"] (spOf K (S_lie_of_old (He.ga K "Program"))) := by
  have sc := sc_lie_of_old
  refine ok_fn (k := 4) F sc (fun ds M Q h => ?_) (fun cdv A outer s H E hr => ?_)
  · obtain ⟨p, many, most, rfl, hv, hmost, hmany, hQ⟩ := h; rfl
  · have hu6 : A.units + 64 < cLine := by have := hr.un; show A.units + 64 < cLine; simp only [Around.deeper] at this; omega
    have hu := hu_of hr
    refine ⟨_, (pss_cons (ps_for PassesOwn.never (by rfl) (pi_seq (pe_calD c_crowds (hr.mono (by first | decide | exact Nat.le_refl _)) (by rfl) (pa_cons (pv 1) (pa_cons (pv 2) pa_nil)))) (pg_name (i := 3) sc.nd rfl (Or.inl rfl)) (pss_one (ps_for PassesOwn.never (by rfl) (pi_seq (pe_calD c_all_things (hr.mono (by first | decide | exact Nat.le_refl _)) (by rfl) (pa_cons (pe_glob (v := .ref _) (by rfl) T.g_NUMBERS rfl) pa_nil))) (pg_name (i := 4) sc.nd rfl (Or.inl rfl)) (pss_cons (ps_set (i := 5) sc.nd rfl (Or.inl rfl) (pe_op op_addA (pe_callTy call_list_of (by rfl) T.b_list (by decide +kernel) (pa_cons (pv 3) pa_nil)) (pe_lst (pa_cons (pv 4) pa_nil)))) (pss_cons (ps_set (i := 6) sc.nd rfl (Or.inl rfl) (pe_calD c_first_lie (hr.mono (by first | decide | exact Nat.le_refl _)) (by rfl) (pa_cons (pv 0) (pa_cons (pe_fld (pv 0) rfl) (pa_cons (pv 5) (pa_cons (pe_callTy call_list_of (by rfl) T.b_list (by decide +kernel) (pa_cons (pv 3) pa_nil)) (pa_cons (pv 4) (pa_cons pe_non pa_nil)))))))) (pss_cons (ps_if (pt_cmpR op_notN1 (pv 6) pe_non (nomark _)) (pss_one (ps_ret (pe_tup (pa_cons (pe_op op_addA (pe_calD c_news (hr.mono (by first | decide | exact Nat.le_refl _)) (by rfl) (pa_cons (pv 5) pa_nil)) (pe_lst (pa_cons (pe_tup (pa_cons pe_str (pa_cons (pe_callB call_len (by rfl) T.b_len (by decide +kernel) (pa_cons (pv 5) pa_nil)) pa_nil))) pa_nil))) (pa_cons (pv 6) pa_nil))))) pss_nil) (pss_one (ps_for PassesOwn.never (by rfl) (pi_seq (pe_calD c_all_things (hr.mono (by first | decide | exact Nat.le_refl _)) (by rfl) (pa_cons (pe_glob (v := .ref _) (by rfl) T.g_NUMBERS rfl) pa_nil))) (pg_name (i := 7) sc.nd rfl (Or.inl rfl)) (pss_cons (ps_set (i := 6) sc.nd rfl (Or.inl rfl) (pe_calD c_first_lie (hr.mono (by first | decide | exact Nat.le_refl _)) (by rfl) (pa_cons (pv 0) (pa_cons (pe_fld (pv 0) rfl) (pa_cons (pv 5) (pa_cons (pe_op op_addA (pe_callTy call_list_of (by rfl) T.b_list (by decide +kernel) (pa_cons (pv 3) pa_nil)) (pe_lst (pa_cons (pv 7) pa_nil))) (pa_cons (pv 4) (pa_cons (pv 7) pa_nil)))))))) (pss_one (ps_if (pt_cmpR op_notN1 (pv 6) pe_non (nomark _)) (pss_one (ps_ret (pe_tup (pa_cons (pe_op op_addA (pe_calD c_news (hr.mono (by first | decide | exact Nat.le_refl _)) (by rfl) (pa_cons (pv 5) pa_nil)) (pe_lst (pa_cons (pe_op op_addA (pe_tup (pa_cons pe_str (pa_cons (pe_callB call_len (by rfl) T.b_len (by decide +kernel) (pa_cons (pv 5) pa_nil)) pa_nil))) (pv 7)) pa_nil))) (pa_cons (pv 6) pa_nil))))) pss_nil))))))))))) (pss_one (ps_ret pe_non))), fun ds M Q h => ?_⟩
    obtain ⟨p, many, most, rfl, hv, hmost, hmany, hQ⟩ := h
    try dsimp only [cxOf, Cx.nox]
    let G : List Thing → Thing → Thing → Option Lie := fun c el nw => (firstLie p p.change (c ++ [el]) (c ++ [nw]) (some el) (some nw)).map fun i => (news (c ++ [el]) ++ [.change (c.length + 1) nw.1 nw.2], i)
    let F : List Thing → Thing → Option Lie := fun c el => match firstLie p p.drop (c ++ [el]) c (some el) none with
      | some i => some (news (c ++ [el]) ++ [.drop (c.length + 1)], i)
      | none => allThings.findSome? (G c el)
    have hF : lieOfOld p many most = (crowds many most).findSome? fun c => allThings.findSome? (F c) := rfl
    refine stp_seq (stp_for (js := [3]) (sr_seq ?_))
    walk_at "evs"
    refine ⟨many, most, rfl, hmost, hmany, ?_⟩
    have hcl := crowds_le many most
    refine ⟨_, .inl rfl, fun i ρ' M' => (∃ a b c d e, ρ' = [some (progD (He.ga K "Program") p), some (iD many), some (iD most), a, b, c, d, e]) ∧ M = M' ∧ ((crowds many most).take i).findSome? (fun c => allThings.findSome? (F c)) = none, ⟨⟨none, none, none, none, none, rfl⟩, rfl, rfl⟩, ?_, ?_⟩
    · rintro i d ρ' M' hd ⟨⟨a, b, c, d', e', rfl⟩, rfl, hno⟩
      rw [List.getElem?_map] at hd
      obtain ⟨cr, hcr, rfl⟩ := Option.map_eq_some_iff.mp hd
      have hcm := crowds_mem (List.mem_of_getElem? hcr)
      refine ⟨_, tg_name, stp_for (js := [4]) (sr_seq ?_)⟩
      walk_at "evs"
      refine ⟨rfl, ?_⟩
      refine ⟨_, .inl rfl, fun i ρ' M' => (∃ b c d e, ρ' = [some (progD (He.ga K "Program") p), some (iD many), some (iD most), some (crowdD cr), b, c, d, e]) ∧ M = M' ∧ (allThings.take i).findSome? (F cr) = none, ⟨⟨_, _, _, _, rfl⟩, rfl, rfl⟩, ?_, ?_⟩
      · rintro j d ρ' M' hd ⟨⟨b, c, d', e', rfl⟩, rfl, hno1⟩
        rw [List.getElem?_map] at hd
        obtain ⟨el, hel, rfl⟩ := Option.map_eq_some_iff.mp hd
        refine ⟨_, tg_name, ?_⟩
        have hce : (cr ++ [el]).length = many + 1 := by rw [List.length_append, hcm]; rfl
        have hce' : (cr ++ [el]).map thingD = cr.map thingD ++ [thingD el] := by rw [List.map_append]; rfl
        walk_at "evs"
        refine rcl_list (show SeqAt (.tup (cr.map thingD)) M (cr.map thingD) from rfl) ?_
        walk_at "evs"
        refine rop_or2 (rop_or2 ?_)
        refine rop_cat (ds := cr.map thingD) (es := [thingD el]) (show _ = _ from rfl) (show _ = _ from rfl) (by simp; omega) ?_
        rw [← hce']
        walk_at "evs"
        refine rcl_list (show SeqAt (.tup (cr.map thingD)) M (cr.map thingD) from rfl) ?_
        walk_at "evs"
        refine ⟨p, p.drop, cr ++ [el], cr, some el, none, .drop, rfl, hv.k3, ⟨hv.k3, fun _ => ⟨_, rfl⟩, fun h => absurd rfl h⟩, hv.st .drop, by omega, by omega, ?_⟩
        have hFe : F cr el = match firstLie p p.drop (cr ++ [el]) cr (some el) none with
          | some i => some (news (cr ++ [el]) ++ [.drop (cr.length + 1)], i)
          | none => allThings.findSome? (G cr el) := rfl
        cases hfl : firstLie p p.drop (cr ++ [el]) cr (some el) none with
        | some ix =>
          rw [hfl] at hFe
          walk_at "evs"
          refine ⟨_, cr ++ [el], rfl, .inl rfl, by omega, ?_⟩
          walk_at "evs"
          have hln : (((cr ++ [el]).map thingD).length : Int) = ((cr.length + 1 : Nat) : Int) := by simp
          rw [hln]
          refine rop_or2 (rop_or2 ?_)
          refine rop_cat (ds := (news (cr ++ [el])).map ddD) (es := [ddD (Dd.drop (cr.length + 1))]) (show _ = _ from rfl) (show _ = _ from rfl) (by simp [news]; omega) ?_
          walk_at "evs"
          rw [hF, findSome_hit hcr hno (findSome_hit hel hno1 hFe)] at hQ
          have hQ : Q (.tup [.lst ((news (cr ++ [el]) ++ [Dd.drop (cr.length + 1)]).map ddD), iD ix]) M := hQ
          rw [List.map_append] at hQ
          exact hQ
        | none =>
          rw [hfl] at hFe
          walk_at "evs"
          refine stp_for (js := [7]) (sr_seq ?_)
          walk_at "evs"
          refine ⟨rfl, ?_⟩
          refine ⟨_, .inl rfl, fun i ρ' M' => (∃ d e, ρ' = [some (progD (He.ga K "Program") p), some (iD many), some (iD most), some (crowdD cr), some (thingD el), some (.lst ((cr ++ [el]).map thingD)), d, e]) ∧ M = M' ∧ (allThings.take i).findSome? (G cr el) = none, ⟨⟨_, _, rfl⟩, rfl, rfl⟩, ?_, ?_⟩
          · rintro k d ρ' M' hd ⟨⟨d', e', rfl⟩, rfl, hno2⟩
            rw [List.getElem?_map] at hd
            obtain ⟨nw, hnw, rfl⟩ := Option.map_eq_some_iff.mp hd
            refine ⟨_, tg_name, ?_⟩
            walk_at "evs"
            refine rcl_list (show SeqAt (.tup (cr.map thingD)) M (cr.map thingD) from rfl) ?_
            walk_at "evs"
            refine rop_or2 (rop_or2 ?_)
            refine rop_cat (ds := cr.map thingD) (es := [thingD nw]) (show _ = _ from rfl) (show _ = _ from rfl) (by simp; omega) ?_
            walk_at "evs"
            have hcn : (cr ++ [nw]).map thingD = cr.map thingD ++ [thingD nw] := by rw [List.map_append]; rfl
            refine ⟨p, p.change, cr ++ [el], cr ++ [nw], some el, some nw, .change, by rw [hcn], hv.k3, ⟨hv.k3, fun _ => ⟨_, rfl⟩, fun _ => ⟨_, rfl⟩⟩, hv.st .change, by omega, by rw [List.length_append]; simp; omega, ?_⟩
            have hGe : G cr el nw = (firstLie p p.change (cr ++ [el]) (cr ++ [nw]) (some el) (some nw)).map fun i => (news (cr ++ [el]) ++ [.change (cr.length + 1) nw.1 nw.2], i) := rfl
            cases hfc : firstLie p p.change (cr ++ [el]) (cr ++ [nw]) (some el) (some nw) with
            | none =>
              rw [hfc] at hGe
              walk_at "evs"
              exact ⟨⟨_, _, rfl⟩, rfl, findSome_snoc hnw hno2 hGe⟩
            | some ix =>
              rw [hfc] at hGe
              walk_at "evs"
              refine ⟨_, cr ++ [el], rfl, .inl rfl, by omega, ?_⟩
              walk_at "evs"
              have hln : (((cr ++ [el]).map thingD).length : Int) = ((cr.length + 1 : Nat) : Int) := by simp
              rw [hln]
              refine rop_or2 (rop_or2 ?_)
              refine rop_cat (ds := (news (cr ++ [el])).map ddD) (es := [ddD (Dd.change (cr.length + 1) nw.1 nw.2)]) (show _ = _ from rfl) (show _ = _ from rfl) (by simp [news]; omega) ?_
              walk_at "evs"
              have hFe2 : F cr el = some (news (cr ++ [el]) ++ [.change (cr.length + 1) nw.1 nw.2], ix) := hFe.trans (findSome_hit hnw hno2 hGe)
              rw [hF, findSome_hit hcr hno (findSome_hit hel hno1 hFe2)] at hQ
              have hQ : Q (.tup [.lst ((news (cr ++ [el]) ++ [Dd.change (cr.length + 1) nw.1 nw.2]).map ddD), iD ix]) M := hQ
              rw [List.map_append] at hQ
              exact hQ
          · rintro ρ' M' ⟨⟨d', e', rfl⟩, rfl, hall⟩
            exact ⟨⟨_, _, _, _, rfl⟩, rfl, findSome_snoc hel hno1 (hFe.trans hall)⟩
      · rintro ρ' M' ⟨⟨b, c, d', e', rfl⟩, rfl, hall⟩
        refine ⟨⟨_, _, _, _, _, rfl⟩, rfl, findSome_snoc hcr hno ?_⟩
        exact hall
    · rintro ρ' M' ⟨⟨a, b, c, d', e', rfl⟩, rfl, hall⟩
      walk_at "evs"
      rw [List.length_map, List.take_length] at hall
      rw [hF, hall] at hQ
      exact hQ

theorem ok_lie_of_old {P : Program} {w : World} {K : PySem.W.Frag} {mg : Str → Option Value} {base : Heap} {f : Addr} {fd : FuncData} (F : FnP K "lie_of_old" "lie_of_old" (top 35) f fd) (g : mg "lie_of_old" = some (.ref f)) (T : Tx w K mg) (c_crowds : Cal P w K mg base 1 "crowds" ["many", "most"] (S_crowds)) (c_all_things : Cal P w K mg base 1 "all_things" ["numbers"] (S_all_things)) (c_first_lie : Cal P w K mg base 4 "first_lie" ["program", "steps", "before", "after", "elder", "newer"] (S_first_lie (He.ga K "Program"))) (c_news : Cal P w K mg base 1 "news" ["things"] (S_news))  : Cal P w K mg base 5 "lie_of_old" ["program", "many", "most"] (S_lie_of_old (He.ga K "Program")) :=
  cal_mk F g (fn_lie_of_old F T c_crowds c_all_things c_first_lie c_news) (F.bindsN fun _ _ _ _ _ _ us hl => match us, hl with | [_, _, _], _ => rfl)
end Kc
namespace Kc
open PySem L2 Dl
local macro_rules | `(tactic| walk_at "evE") => `(tactic| (first
  | ((with_reducible refine' ev_var ?evh ?_); (case evh => exact rfl))
  | with_reducible refine' ev_k (Tx.d_NAMES (by assumption)) ?_
  | with_reducible refine' ev_k (Tx.d_WHATS (by assumption)) ?_
  | with_reducible refine' ev_k (Tx.d_SOURCES (by assumption)) ?_
  | with_reducible refine' ev_k (Tx.d_NUMBERS (by assumption)) ?_
  | with_reducible refine' ev_c ?_
  | with_reducible refine' ev_op ?_
  | with_reducible refine' ev_call ?_
  | with_reducible refine' ev_cb ?_
  | with_reducible refine' ev_tup ?_
  | with_reducible refine' ev_lst ?_
  | with_reducible refine' ev_if ?_
  | with_reducible refine' ev_andV ?_
  | with_reducible refine' ev_orV ?_
  | with_reducible refine' ev_notV ?_
  | with_reducible refine' ev_chain ?_
  | with_reducible refine' ev_sl ?_
  | with_reducible refine' ev_dget ?_
  | with_reducible refine' ev_disp ?_
  | walk_at "evF"
  | with_reducible refine' ev_meth ?_
  | with_reducible refine' ev_make ?_
  | with_reducible refine' ev_bm ?_))
local macro_rules | `(tactic| walk_at "evR") => `(tactic| (first
  | with_reducible refine' rop_I0 ?_
  | ((with_reducible refine' rop_eq ?evs ?_); (case evs => exact rfl))
  | ((with_reducible refine' rop_ne ?evs ?_); (case evs => exact rfl))
  | ((with_reducible refine' rop_ix_T ?evs ?_); (case evs => (first | assumption | exact rfl)))
  | ((with_reducible refine' rop_ix_L ?evs ?_); (case evs => (first | assumption | exact rfl)))
  | ((with_reducible refine' rop_ix_M ?evh ?evs ?_); (case evh => (first | exact updM_same | assumption)); (case evs => (first | assumption | exact rfl)))
  | with_reducible refine' rop_or1 (rop_I0 ?_)
  | ((with_reducible refine' rop_or2 (rop_or1 (rop_catA ?evz ?_))); (case evz => (first | exact Nat.le_of_ble_eq_true rfl | omega | (simp; done) | (simp; omega))))
  | ((with_reducible refine' rop_or1 (rop_I ?evh ?_)); (case evh => (first | exact Or.inl ⟨by decide, by decide⟩ | exact Or.inr ⟨by decide, by decide⟩)))
  | ((with_reducible refine' rop_I ?evh ?_); (case evh => (first | (exact (show (0:Int) < _ by omega)) | exact ⟨by decide, by decide, by decide⟩)))
  | ((with_reducible refine' rop_or2 (rop_or1 (rop_rep ?evs ?eva ?evb ?evc ?_))); (case evs => exact rfl); (case eva => decide); (case evb => decide); (case evc => exact Nat.le_of_ble_eq_true rfl))
  | ((with_reducible refine' rop_or2 (rop_or2 (rop_cat ?evs ?evt ?evz ?_))); (case evs => exact rfl); (case evt => exact rfl); (case evz => exact Nat.le_of_ble_eq_true rfl))
  | with_reducible refine' rop_isN ?_
  | with_reducible refine' rop_notN ?_
  | ((with_reducible refine' rop_isN0 ?evs ?_); (case evs => intro _ h; cases h))
  | ((with_reducible refine' rop_notN0 ?evs ?_); (case evs => intro _ h; cases h))
  | ((with_reducible refine' rop_inT ?evs ?evt ?_); (case evs => exact rfl); (case evt => first | assumption | exact rfl))
  | ((with_reducible refine' rop_inS ?evs ?evt ?evu ?_); (case evs => exact rfl); (case evt => exact rfl); (case evu => exact rfl))))
local macro_rules | `(tactic| walk_at "evC") => `(tactic| (first
  | ((with_reducible refine' rcl_len ?evs ?_); (case evs => exact rfl))
  | ((with_reducible refine' rcl_isi ?evs ?evk ?_); (case evs => exact rfl); (case evk => (first | exact kit_int_int | exact kit_int_bool | exact kit_int_str | exact kit_int_tuple | exact kit_int_list | exact kit_bool_int | exact kit_bool_bool | exact kit_bool_str | exact kit_bool_tuple | exact kit_bool_list | exact kit_str_int | exact kit_str_bool | exact kit_str_str | exact kit_str_tuple | exact kit_str_list | exact kit_tuple_int | exact kit_tuple_bool | exact kit_tuple_str | exact kit_tuple_tuple | exact kit_tuple_list | exact kit_list_int | exact kit_list_bool | exact kit_list_str | exact kit_list_tuple | exact kit_list_list | exact kit_NoneType_int | exact kit_NoneType_bool | exact kit_NoneType_str | exact kit_NoneType_tuple | exact kit_NoneType_list)))
  | with_reducible refine' rcl_int ?_
  | with_reducible refine' rcl_intB ?_
  | with_reducible refine' rcl_max2 ?_
  | with_reducible refine' rcl_min2 ?_))
local macro_rules | `(tactic| walk_at "evT") => `(tactic| (first
  | with_reducible refine' tv_test ?_
  | with_reducible refine' tv_or ?_
  | with_reducible refine' tv_and ?_
  | with_reducible refine' tv_not ?_
  | with_reducible refine' tv_B ?_
  | with_reducible refine' tv_tru ?_
  | with_reducible refine' tv_yes ?_))
local macro_rules | `(tactic| walk_at "evA") => `(tactic| (first
  | with_reducible refine' av_cons ?_
  | with_reducible refine' av_nil ?_))
local macro_rules | `(tactic| walk_at "evS") => `(tactic| (first
  | with_reducible refine' stp_seq ?_
  | with_reducible refine' stp_if ?_
  | with_reducible refine' stp_ret ?_
  | with_reducible refine' stp_next ?_
  | with_reducible refine' stp_set ?_
  | with_reducible refine' stp_asg ?_
  | with_reducible refine' stp_drop ?_
  | with_reducible refine' stp_par ?_
  | with_reducible refine' stp_dput ?_
  | with_reducible refine' stp_augL ?_
  | with_reducible refine' stp_retN ?_
  | with_reducible refine' stp_brk ?_
  | with_reducible refine' stp_cont ?_))
local macro_rules | `(tactic| walk_at "evI") => `(tactic| (first
  | ((with_reducible refine' ifT ?evs ?_); (case evs => exact rfl))
  | ((with_reducible refine' ifF ?evs ?_); (case evs => exact rfl))))
local macro_rules | `(tactic| walk_at "ev") => `(tactic| (first
  | ((with_reducible show EvP _ _ _ _ _); walk_at "evE")
  | ((with_reducible show ROp _ _ _ _ _ _); walk_at "evR")
  | ((with_reducible show AvP _ _ _ _ _); walk_at "evA")
  | ((with_reducible show TvP _ _ _ _ _); walk_at "evT")
  | ((with_reducible show RCl _ _ _ _ _); walk_at "evC")
  | ((with_reducible show StP _ _ _ _ _); walk_at "evS")
  | ((with_reducible show ite _ _ _); walk_at "evI")
  | with_reducible refine' ov_none ?_
  | with_reducible refine' ov_some ?_
  | ((with_reducible show RSl _ _ _ _ _ _ _); (first | with_reducible refine' rsl_T ?_ | ((with_reducible refine' rsl_L ?evh ?_); (case evh => exact rfl))))
  | with_reducible refine' gv_name ?_
  | with_reducible refine' gv_sub ?_
  | ((with_reducible show RSet _ _ _ _ _ _ _); ((with_reducible refine' rset_L ?evh ?evs ?_); (case evh => (first | exact updM_same | assumption)); (case evs => exact rfl)))
  | with_reducible refine' pv_cons ?_
  | with_reducible refine' pv_nil ?_
  | ((with_reducible show Exists _); refine ⟨_, rfl, ?_⟩)
  | ((with_reducible show Exists _); refine ⟨_, _, rfl, ?_⟩)
  | ((with_reducible show Exists _); refine ⟨_, _, (by first | exact ⟨rfl, rfl, rfl⟩ | exact rfl | assumption), (by first | exact rfl | decide +kernel), ?_⟩)
  | ((with_reducible show And _ _); refine ⟨Nat.le_of_ble_eq_true rfl, ?_⟩)))
local macro_rules | `(tactic| walk_at "evs") => `(tactic| (repeat walk_at "ev"))
local macro_rules | `(tactic| walk_at "evF") => `(tactic| ((with_reducible refine' ev_fld (C := He.ga _ "Deed") (ns := deedN) (Tx.c_Deed (by assumption)) (Tx.n_Deed (by assumption) _ ?evm) ?_); (case evm => decide +kernel)))

theorem sc_Deed_does_hold : FnScope ["self", "test"] ["self", "test"] (defScope (inClass (top 25) 1)) := ⟨rfl, rfl, rfl, by decide +kernel, rfl, by decide +kernel, by decide +kernel⟩
theorem fn_Deed_does_hold {P : Program} {w : World} {K : PySem.W.Frag} {mg : Str → Option Value} {base : Heap} {f : Addr} {fd : FuncData} (F : FnP K "does_hold" "Deed.does_hold" (inClass (top 25) 1) f fd) (T : Tx w K mg)   : FnOk P w K mg base CX0 1 f fd ["self", "test"] (spOf K (S_does_hold (He.ga K "Deed"))) := by
  have sc := sc_Deed_does_hold
  refine ok_fn (k := 0) F sc (fun ds M Q h => ?_) (fun cdv A outer s H E hr => ?_)
  · obtain ⟨x, l, d, am, n, t, rfl, ⟨hx, hl, hxl⟩, hok, hty, ht, hQ⟩ := h; rfl
  · have hu6 : A.units + 64 < cLine := by have := hr.un; show A.units + 64 < cLine; simp only [Around.deeper] at this; omega
    have hu := hu_of hr
    refine ⟨_, (pss_cons (ps_if (pt_cmpR op_eq (pe_ix ix_seq (pv 1) pe_int (fun _ _ => rfl)) pe_str (nomark _)) (pss_one (ps_ret (pe_cmpR op_eq (pe_ix ix_seq (pe_fld (pv 0) rfl) pe_int (fun _ _ => rfl)) (pe_ix ix_seq (pv 1) pe_int (fun _ _ => rfl)) (nomark _)))) pss_nil) (pss_cons (ps_if (pt_cmpR op_eq (pe_ix ix_seq (pv 1) pe_int (fun _ _ => rfl)) pe_str (nomark _)) (pss_one (ps_ret (pe_cmpR op_eq (pe_ix ix_seq (pe_fld (pv 0) rfl) pe_int (fun _ _ => rfl)) (pe_ix ix_seq (pv 1) pe_int (fun _ _ => rfl)) (nomark _)))) pss_nil) (pss_cons (ps_if (pt_cmpR op_eq (pe_ix ix_seq (pv 1) pe_int (fun _ _ => rfl)) pe_str (nomark _)) (pss_one (ps_ret (pe_cmpR op_ne (pe_ix ix_seq (pe_fld (pv 0) rfl) pe_int (fun _ _ => rfl)) (pe_ix ix_seq (pe_fld (pv 0) rfl) pe_int (fun _ _ => rfl)) (nomark _)))) pss_nil) (pss_cons (ps_if (pt_cmpR op_eq (pe_ix ix_seq (pv 1) pe_int (fun _ _ => rfl)) pe_str (nomark _)) (pss_one (ps_ret (pe_cmpR op_eq (pe_ix ix_seq (pe_fld (pv 0) rfl) (pe_ix ix_seq (pv 1) pe_int (fun _ _ => rfl)) (fun _ _ => rfl)) pe_int (nomark _)))) pss_nil) (pss_one (ps_ret (pe_cmpR op_eq (pe_ix ix_seq (pe_fld (pv 0) rfl) (pe_ix ix_seq (pv 1) pe_int (fun _ _ => rfl)) (fun _ _ => rfl)) (pe_ix ix_seq (pe_fld (pv 0) rfl) pe_int (fun _ _ => rfl)) (nomark _)))))))), fun ds M Q h => ?_⟩
    obtain ⟨x, l, d, am, n, t, rfl, ⟨hx, hl, hxl⟩, hok, hty, ht, hQ⟩ := h
    try dsimp only [cxOf, Cx.nox]
    obtain ⟨ks, ar, el, nw⟩ := d
    obtain ⟨h3, hel, hnw⟩ := hok
    have el_ : n ≠ .new → ∃ t, el = some t := hel
    have nw_ : n ≠ .drop → ∃ t, nw = some t := hnw
    cases t with
    | elder c =>
      obtain ⟨z, rfl⟩ := el_ ht.1
      walk_at "evs"
      rw [decInt]
      exact hQ
    | newer c =>
      obtain ⟨z, rfl⟩ := nw_ ht.1
      walk_at "evs"
      rw [decInt]
      exact hQ
    | moved =>
      have hn : n = .change := ht
      subst hn
      obtain ⟨z, rfl⟩ := el_ (by decide)
      obtain ⟨y, rfl⟩ := nw_ (by decide)
      walk_at "evs"
      rw [decInt]
      exact hQ
    | none k =>
      obtain ⟨kp, hk, hw⟩ := ht
      obtain ⟨v, hv, tv⟩ := hty.at_ hk
      rw [hw] at tv
      obtain ⟨z, rfl⟩ := tv
      have hat : atI (am.map Da.sc) (k : Int) = some (iD z) := atI_nat (by rw [List.getElem?_map, hv] <;> rfl)
      walk_at "evs"
      try refine rop_ix_M hl hat ?_
      walk_at "evs"
      have e : holds ⟨ks, ar, el, nw⟩ am (.none k) = decide (V.int z = V.int 0) := by
        show decide (at_ am k = .int 0) = _
        rw [at_some hv]
      rw [e] at hQ
      exact hQ
    | top k =>
      obtain ⟨hn, kp, hk, hw⟩ := ht
      obtain ⟨y, rfl⟩ := el_ hn
      obtain ⟨v, hv, tv⟩ := hty.at_ hk
      rw [hw] at tv
      have hat : atI (am.map Da.sc) (k : Int) = some (.sc v) := atI_nat (by rw [List.getElem?_map, hv] <;> rfl)
      walk_at "evs"
      try refine rop_ix_M hl hat ?_
      walk_at "evs"
      have e : holds ⟨ks, ar, some y, nw⟩ am (.top k) = decide (v = V.int y.2) := by
        show decide (at_ am k = .int y.2) = _
        rw [at_some hv]
      rw [e] at hQ
      refine rop_eq ?_ hQ
      rcases tv with rfl | ⟨z, rfl⟩ <;> rfl


theorem sc_Deed_amount : FnScope ["self", "source"] ["self", "source"] (defScope (inClass (top 25) 2)) := ⟨rfl, rfl, rfl, by decide +kernel, rfl, by decide +kernel, by decide +kernel⟩
theorem fn_Deed_amount {P : Program} {w : World} {K : PySem.W.Frag} {mg : Str → Option Value} {base : Heap} {f : Addr} {fd : FuncData} (F : FnP K "amount" "Deed.amount" (inClass (top 25) 2) f fd) (T : Tx w K mg)   : FnOk P w K mg base CX0 1 f fd ["self", "source"] (spOf K (S_amount (He.ga K "Deed"))) := by
  have sc := sc_Deed_amount
  refine ok_fn (k := 0) F sc (fun ds M Q h => ?_) (fun cdv A outer s H E hr => ?_)
  · obtain ⟨x, l, d, am, n, s, rfl, ⟨hx, hl, hxl⟩, hok, hs, hQ⟩ := h; rfl
  · have hu6 : A.units + 64 < cLine := by have := hr.un; show A.units + 64 < cLine; simp only [Around.deeper] at this; omega
    have hu := hu_of hr
    refine ⟨_, (pss_cons (ps_if (pt_cmpR op_eq (pv 1) pe_str (nomark _)) (pss_one (ps_ret pe_int)) pss_nil) (pss_one (ps_ret (pe_ifExp (pt_cmpR op_eq (pv 1) pe_str (nomark _)) (pe_ix ix_seq (pe_fld (pv 0) rfl) pe_int (fun _ _ => rfl)) (pe_ix ix_seq (pe_fld (pv 0) rfl) pe_int (fun _ _ => rfl)))))), fun ds M Q h => ?_⟩
    obtain ⟨x, l, d, am, n, s, rfl, ⟨hx, hl, hxl⟩, hok, hs, hQ⟩ := h
    try dsimp only [cxOf, Cx.nox]
    obtain ⟨ks, ar, el, nw⟩ := d
    obtain ⟨h3, hel, hnw⟩ := hok
    have el_ : n ≠ .new → ∃ t, el = some t := hel
    have nw_ : n ≠ .drop → ∃ t, nw = some t := hnw
    cases s with
    | one =>
      walk_at "evs"
      exact hQ
    | elder =>
      obtain ⟨z, rfl⟩ := el_ (hs.1 rfl)
      walk_at "evs"
      exact hQ
    | newer =>
      obtain ⟨z, rfl⟩ := nw_ (hs.2 rfl)
      walk_at "evs"
      exact hQ


theorem sc_Deed_touch : FnScope ["self", "step", "word", "index"] ["self", "step"] (defScope (inClass (top 25) 3)) := ⟨rfl, rfl, rfl, by decide +kernel, rfl, by decide +kernel, by decide +kernel⟩
theorem fn_Deed_touch {P : Program} {w : World} {K : PySem.W.Frag} {mg : Str → Option Value} {base : Heap} {f : Addr} {fd : FuncData} (F : FnP K "touch" "Deed.touch" (inClass (top 25) 3) f fd) (T : Tx w K mg) (c_true_value : Cal P w K mg base 1 "true_value" ["keep", "things"] (S_true_value)) (m_amount : CalM P w K mg base (He.ga K "Deed") 1 "amount" ["self", "source"] (S_amount (He.ga K "Deed")))  : FnOk P w K mg base CX0 2 f fd ["self", "step"] (spOf K (S_touch (He.ga K "Deed"))) := by
  have sc := sc_Deed_touch
  refine ok_fn (k := 1) F sc (fun ds M Q h => ?_) (fun cdv A outer s H E hr => ?_)
  · obtain ⟨x, l, d, am, n, t, rfl, ⟨hx, hl, hxl⟩, hok, hty, ht, har, hQ⟩ := h; rfl
  · have hu6 : A.units + 64 < cLine := by have := hr.un; show A.units + 64 < cLine; simp only [Around.deeper] at this; omega
    have hu := hu_of hr
    obtain ⟨es_NOTHING, n_NOTHING, D_NOTHING⟩ := T.noth
    refine ⟨_, (pss_cons (ps_par (i := 2) (j := 3) (by rfl) sc.nd rfl rfl (by decide) rfl rfl (pa_cons (pe_ix ix_seq (pv 1) pe_int (fun _ _ => rfl)) (pa_cons (pe_ix ix_seq (pv 1) pe_int (fun _ _ => rfl)) pa_nil)) (by rfl)) (pss_one (ps_if (pt_cmpR op_eq (pv 2) pe_str (nomark _)) (pss_one (ps_augS (pe_fld (pv 0) rfl) (pv 3) pget_list (pe_metD m_amount (hr.mono (by first | decide | exact Nat.le_refl _)) (pv 0) (pa_cons (pe_ix ix_seq (pv 1) pe_int (fun _ _ => rfl)) pa_nil)) ip_add set_list)) (pss_one (ps_if (pt_cmpR op_eq (pv 2) pe_str (nomark _)) (pss_one (ps_augS (pe_fld (pv 0) rfl) (pv 3) pget_list (pe_metD m_amount (hr.mono (by first | decide | exact Nat.le_refl _)) (pv 0) (pa_cons (pe_ix ix_seq (pv 1) pe_int (fun _ _ => rfl)) pa_nil)) ip_sub set_list)) (pss_one (ps_if (pt_cmpR op_eq (pv 2) pe_str (nomark _)) (pss_one (ps_if (PW.pt (pw_or (pt_cmpR op_isN1 (pe_ix ix_seq (pe_fld (pv 0) rfl) (pv 3) (fun _ _ => rfl)) pe_non (nomark _)) (pw_or1 (pt_cmpR op_lt (pe_ix ix_seq (pe_fld (pv 0) rfl) (pv 3) (fun _ _ => rfl)) (pe_ix ix_seq (pe_fld (pv 0) rfl) pe_int (fun _ _ => rfl)) (nomark _))))) (pss_one (ps_asg (pe_ix ix_seq (pe_fld (pv 0) rfl) pe_int (fun _ _ => rfl)) (pg_sub (pe_fld (pv 0) rfl) (pv 3) set_list))) pss_nil)) (pss_one (ps_if (pt_cmpR op_eq (pv 2) pe_str (nomark _)) (pss_one (ps_asg pe_bl (pg_sub (pe_fld (pv 0) rfl) (pv 3) set_list))) (pss_one (ps_if (pt_cmpR op_eq (pv 2) pe_str (nomark _)) (pss_one (ps_asg (pe_ixTab D_NOTHING (pe_glob (v := .ref _) (by rfl) T.g_NOTHING rfl) (pe_ix ix_seq (pe_ix ix_seq (pe_fld (pv 0) rfl) (pv 3) (fun _ _ => rfl)) pe_int (fun _ _ => rfl)) (fun _ _ => rfl)) (pg_sub (pe_fld (pv 0) rfl) (pv 3) set_list))) (pss_one (ps_asg (pe_calD c_true_value (hr.mono (by first | decide | exact Nat.le_refl _)) (by rfl) (pa_cons (pe_ix ix_seq (pe_fld (pv 0) rfl) (pv 3) (fun _ _ => rfl)) (pa_cons (pe_fld (pv 0) rfl) pa_nil))) (pg_sub (pe_fld (pv 0) rfl) (pv 3) set_list)))))))))))))), fun ds M Q h => ?_⟩
    obtain ⟨x, l, d, am, n, t, rfl, ⟨hx, hl, hxl⟩, hok, hty, ht, har, hQ⟩ := h
    try dsimp only [cxOf, Cx.nox]
    have put : ∀ (k : Nat) (ti : TE) (v : Da) (kp : Keep) (ρ : Env') (D : DE), d.keeps[k]? = some kp → D.nx ρ (updM M l (.lst ((am.map Da.sc).set k v))) → RSet K rSetL (.sc (.ref l)) (iD k) v M fun M3 => D.nx ρ M3 := by
      intro k ti v kp ρ D hk q
      have hkl : k < am.length := by rw [hty.len]; exact (List.getElem?_eq_some_iff.mp hk).1
      refine rset_L (j := k) hl ?_ q
      unfold ixN
      rw [List.length_map, if_pos (by omega), if_pos (by omega), Int.toNat_natCast]
    cases t with
    | add k s =>
      obtain ⟨hs, kp, hk, hw⟩ := ht
      obtain ⟨v, hv, tv⟩ := hty.at_ hk
      have tv' : ∃ z, v = .int z := by
        rcases hw with hw | ⟨hw, _⟩ <;> rw [hw] at tv <;> exact tv
      obtain ⟨z, rfl⟩ := tv'
      walk_at "evs"
      refine ⟨l, _, k, z, rfl, rfl, hl, by rw [List.getElem?_map, hv] <;> rfl, ?_⟩
      walk_at "evs"
      refine ⟨x, l, d, am, n, s, rfl, ⟨hx, hl, hxl⟩, hok, hs, ?_⟩
      refine ⟨_, _, rfl, hl, rfl, ?_⟩
      have e : (touch d am (.add k s)).map Da.sc = (am.map Da.sc).set k (iD (z + amt d s)) := by
        show (am.set k (addV (at_ am k) (amt d s))).map Da.sc = _
        rw [at_some hv, List.map_set] <;> rfl
      rw [e] at hQ
      exact hQ
    | less k s =>
      obtain ⟨hs, kp, hk, hw⟩ := ht
      obtain ⟨v, hv, tv⟩ := hty.at_ hk
      have tv' : ∃ z, v = .int z := by
        rcases hw with hw | ⟨hw, _⟩ <;> rw [hw] at tv <;> exact tv
      obtain ⟨z, rfl⟩ := tv'
      walk_at "evs"
      refine ⟨l, _, k, z, rfl, rfl, hl, by rw [List.getElem?_map, hv] <;> rfl, ?_⟩
      walk_at "evs"
      refine ⟨x, l, d, am, n, s, rfl, ⟨hx, hl, hxl⟩, hok, hs, ?_⟩
      refine ⟨_, _, rfl, hl, rfl, ?_⟩
      have e : (touch d am (.less k s)).map Da.sc = (am.map Da.sc).set k (iD (z - amt d s)) := by
        show (am.set k (subV (at_ am k) (amt d s))).map Da.sc = _
        rw [at_some hv, List.map_set] <;> rfl
      rw [e] at hQ
      exact hQ
    | lift k =>
      obtain ⟨hn, kp, hk, hw⟩ := ht
      obtain ⟨v, hv, tv⟩ := hty.at_ hk
      obtain ⟨ks, ar, el, nw⟩ := d
      obtain ⟨h3, hel, hnw⟩ := hok
      obtain ⟨y, hy⟩ := hnw hn
      have hy : nw = some y := hy
      subst hy
      rw [hw] at tv
      have hat : atI (am.map Da.sc) (k : Int) = some (.sc v) := atI_nat (by rw [List.getElem?_map, hv] <;> rfl)
      have e : (touch ⟨ks, ar, el, some y⟩ am (.lift k)).map Da.sc = (am.map Da.sc).set k (.sc (liftV v y.2)) := by
        show (am.set k (liftV (at_ am k) y.2)).map Da.sc = _
        rw [at_some hv, List.map_set]
      rw [e] at hQ
      walk_at "evs"
      try refine rop_ix_M hl hat ?_
      walk_at "evs"
      rcases tv with rfl | ⟨z, rfl⟩
      · walk_at "evs"
        try refine gv_sub ?_
        walk_at "evs"
        exact put k (tVar 0) _ kp _ _ hk hQ
      · walk_at "evs"
        try refine rop_ix_M hl hat ?_
        walk_at "evs"
        have hQ' : Q (.sc .non) (updM M l (.lst ((am.map Da.sc).set k (.sc (if z < y.2 then V.int y.2 else V.int z))))) := hQ
        refine ifB (fun h => ?_) (fun h => ?_)
        · rw [if_pos (of_decide_eq_true h)] at hQ'
          walk_at "evs"
          try refine gv_sub ?_
          walk_at "evs"
          exact put k (tVar 0) _ kp _ _ hk hQ'
        · rw [if_neg (of_decide_eq_false h)] at hQ'
          walk_at "evs"
          have e2 : (am.map Da.sc).set k (.sc (.int z)) = am.map Da.sc := by
            rw [← List.map_set]
            congr 1
            exact set_same hv
          rw [e2, updM_id hl] at hQ'
          exact hQ'
    | mark k =>
      obtain ⟨kp, hk, hw⟩ := ht
      have e : (touch d am (.mark k)).map Da.sc = (am.map Da.sc).set k (.sc (.bl true)) := by
        rw [← List.map_set]
        rfl
      rw [e] at hQ
      walk_at "evs"
      try refine gv_sub ?_
      walk_at "evs"
      exact put k (tVar 0) _ kp _ _ hk hQ
    | empty k =>
      obtain ⟨kp, hk⟩ := ht
      have e : (touch d am (.empty k)).map Da.sc = (am.map Da.sc).set k (.sc (nothing (d.keep k).what)) := by
        rw [← List.map_set]
        rfl
      rw [e] at hQ
      rw [keep_at hk] at hQ
      have hat : atI (d.keeps.map keepD) (k : Int) = some (keepD kp) := atI_nat (by rw [List.getElem?_map, hk] <;> rfl)
      obtain ⟨u, hn, hv⟩ := T.v_NOTHING kp.what
      walk_at "evs"
      try refine rop_ix_T hat ?_
      walk_at "evs"
      refine rop_itemKD hn hv (fun F => rp_sc.mpr rfl) ?_
      walk_at "evs"
      try refine gv_sub ?_
      walk_at "evs"
      exact put k (tVar 0) _ kp _ _ hk hQ
    | again k =>
      obtain ⟨kp, hk⟩ := ht
      have e : (touch d am (.again k)).map Da.sc = (am.map Da.sc).set k (.sc (trueValue (d.keep k) d.around)) := by
        rw [← List.map_set]
        rfl
      rw [e] at hQ
      rw [keep_at hk] at hQ
      have hat : atI (d.keeps.map keepD) (k : Int) = some (keepD kp) := atI_nat (by rw [List.getElem?_map, hk] <;> rfl)
      walk_at "evs"
      try refine rop_ix_T hat ?_
      walk_at "evs"
      refine ⟨kp, d.around, rfl, har, ?_⟩
      try refine gv_sub ?_
      walk_at "evs"
      exact put k (tVar 0) _ kp _ _ hk hQ


theorem sc_Deed_steps : FnScope ["self", "some", "step"] ["self", "some"] (defScope (inClass (top 25) 4)) := ⟨rfl, rfl, rfl, by decide +kernel, rfl, by decide +kernel, by decide +kernel⟩
theorem fn_Deed_steps {P : Program} {w : World} {K : PySem.W.Frag} {mg : Str → Option Value} {base : Heap} {f : Addr} {fd : FuncData} (F : FnP K "steps" "Deed.steps" (inClass (top 25) 4) f fd) (T : Tx w K mg) (m_touch : CalM P w K mg base (He.ga K "Deed") 2 "touch" ["self", "step"] (S_touch (He.ga K "Deed"))) (m_does_hold : CalM P w K mg base (He.ga K "Deed") 1 "does_hold" ["self", "test"] (S_does_hold (He.ga K "Deed")))  : FnOk P w K mg base CX0 3 f fd ["self", "some"] (spOf K (S_steps (He.ga K "Deed"))) := by
  have sc := sc_Deed_steps
  refine ok_fn (k := 2) F sc (fun ds M Q h => ?_) (fun cdv A outer s H E hr => ?_)
  · obtain ⟨x, l, d, am, n, sd, ss, rfl, hs, ⟨hx, hl, hxl⟩, hok, hty, hst, har, hQ⟩ := h; rfl
  · have hu6 : A.units + 64 < cLine := by have := hr.un; show A.units + 64 < cLine; simp only [Around.deeper] at this; omega
    have hu := hu_of hr
    refine ⟨_, (pss_cons (ps_for PassesOwn.never (by rfl) (pi_seq (pv 1)) (pg_name (i := 2) sc.nd rfl (Or.inl rfl)) (pss_one (ps_if (pt_cmpR op_ne (pe_ix ix_seq (pv 2) pe_int (fun _ _ => rfl)) pe_str (nomark _)) (pss_one (ps_expr (pe_metD m_touch (hr.mono (by first | decide | exact Nat.le_refl _)) (pv 0) (pa_cons (pv 2) pa_nil)))) (pss_one (ps_if (pt_val (pe_metD m_does_hold (hr.mono (by first | decide | exact Nat.le_refl _)) (pv 0) (pa_cons (pe_ix ix_seq (pv 2) pe_int (fun _ _ => rfl)) pa_nil))) (pss_one (ps_expr (pe_metD m_touch (hr.mono (by first | decide | exact Nat.le_refl _)) (pv 0) (pa_cons (pe_ix ix_seq (pv 2) pe_int (fun _ _ => rfl)) pa_nil)))) pss_nil))))) (pss_one (ps_ret (pe_fld (pv 0) rfl)))), fun ds M Q h => ?_⟩
    obtain ⟨x, l, d, am, n, sd, ss, rfl, hs, ⟨hx, hl, hxl⟩, hok, hty, hst, har, hQ⟩ := h
    try dsimp only [cxOf, Cx.nox]
    refine stp_seq (stp_for (js := [2]) (sr_seq ?_))
    walk_at "evs"
    refine ⟨ss.map stepD, hs.elim (fun e => .inl (by rw [e])) (fun e => .inr (by rw [e])), fun i ρ' M' => (∃ a, ρ' = [some (.sc (.ref x)), some sd, a]) ∧ updM M l (.lst ((run d (ss.take i) am).map Da.sc)) = M', ⟨⟨none, rfl⟩, updM_id hl⟩, ?_, ?_⟩
    · rintro i e ρ' M' hd ⟨⟨a, rfl⟩, rfl⟩
      rw [List.getElem?_map] at hd
      obtain ⟨s, hss, rfl⟩ := Option.map_eq_some_iff.mp hd
      have hso := hst s (List.mem_of_getElem? hss)
      have hty' : TyA d.keeps (run d (ss.take i) am) := tyA_run hty fun z hz => hst z (List.mem_of_mem_take hz)
      have hx' : updM M l (.lst ((run d (ss.take i) am).map Da.sc)) x = some (.ins (He.ga K "Deed") deedN [.tup (d.keeps.map keepD), .sc (.ref l), .lst (d.around.map thingD), optD d.elder, optD d.newer]) := by
        rw [updM_ne hxl]
        exact hx
      have hat : DeedAt (He.ga K "Deed") (updM M l (.lst ((run d (ss.take i) am).map Da.sc))) x l d (run d (ss.take i) am) := ⟨hx', updM_same, hxl⟩
      have hrun : run d (ss.take (i + 1)) am = runStep d (run d (ss.take i) am) s := by
        rw [take_succ_some hss]
        unfold run
        rw [List.foldl_append]
        rfl
      refine ⟨_, tg_name, ?_⟩
      obtain ⟨te, tc⟩ := s
      obtain ⟨h1, h2⟩ := hso
      have fin : updM (updM M l (.lst ((run d (ss.take i) am).map Da.sc))) l (.lst ((runStep d (run d (ss.take i) am) ⟨te, tc⟩).map Da.sc)) = updM M l (.lst ((run d (ss.take (i + 1)) am).map Da.sc)) := by rw [updM_updM, hrun]
      cases te with
      | none =>
        cases tc <;> (walk_at "evs"; refine ⟨x, l, d, run d (ss.take i) am, n, _, rfl, hat, hok, hty', h1, har, ?_⟩; exact ⟨⟨_, rfl⟩, fin.symm⟩)
      | some t =>
        walk_at "evs"
        refine ⟨x, l, d, run d (ss.take i) am, n, t, rfl, hat, hok, hty', h2 t rfl, ?_⟩
        walk_at "evs"
        have fin : updM (updM M l (.lst ((run d (ss.take i) am).map Da.sc))) l (.lst ((if holds d (run d (ss.take i) am) t = true then touch d (run d (ss.take i) am) tc else run d (ss.take i) am).map Da.sc)) = updM M l (.lst ((run d (ss.take (i + 1)) am).map Da.sc)) := fin
        refine ifB (fun h => ?_) (fun h => ?_)
        · rw [if_pos h] at fin
          walk_at "evs"
          refine ⟨x, l, d, run d (ss.take i) am, n, tc, rfl, hat, hok, hty', h1, har, ?_⟩
          exact ⟨⟨_, rfl⟩, fin.symm⟩
        · rw [if_neg (by rw [h]; exact Bool.false_ne_true), updM_updM] at fin
          walk_at "evs"
          exact ⟨⟨_, rfl⟩, fin.symm⟩
    · rintro ρ' M' ⟨⟨a, rfl⟩, rfl⟩
      rw [List.length_map, List.take_length]
      have hx' : updM M l (.lst ((run d ss am).map Da.sc)) x = some (.ins (He.ga K "Deed") deedN [.tup (d.keeps.map keepD), .sc (.ref l), .lst (d.around.map thingD), optD d.elder, optD d.newer]) := by
        rw [updM_ne hxl]
        exact hx
      walk_at "evs"
      exact hQ

end Kc
set_option maxHeartbeats 0
namespace Kc
open PySem PySem.Spec PyProof.Rows L2 Dl
theorem rpA_sc_list {K : PySem.W.Frag} {F : Hp} (vs : List V) : RpA K F (vs.map Da.sc) vs := rpA_sc.mpr rfl
theorem rp_tupC {K : PySem.W.Frag} {F : Hp} {a : Addr} {vs : List V} (h : SqT K F a vs) : Rp K F (.tup (vs.map Da.sc)) (.ref a) := rp_tup.mpr ⟨a, vs, rfl, h, rpA_sc_list vs⟩
theorem hfacts {P : Program} {w : World} {K : PySem.W.Frag} {h : Heap} {mg : Str → Option Value} {f : Addr} (X : K.In h) (G : h.Ns mainGlobals mg) (hf : mg ("law" : Str) = some (.ref f)) (c : He.SaysX hfa hfn hts [] hex w h K) :
    ∃ fd : FuncData, (∀ (s : Shared) (v : Value), BindsTo s fd ⟨[v], []⟩ [("_law_script", v)]) ∧ ∀ base : Heap, K.In base → base.Ns mainGlobals mg → FnOk P w K mg base CX0 13 f fd ["_law_script"] (spOf K S_law) := by
  have cd := c.t.d
  have m := c.more
  unfold hex at m
  simp only [Bool.and_eq_true] at m
  obtain ⟨m1, m2, m3, m4, m5, m6, m7, m8, m9, m10, m11⟩ := m
  have T : Tx w K mg := {
    b_len := He.free_ok X G (cd.fact 48 (f := .free "len") rfl)
    b_isinstance := He.free_ok X G (cd.fact 49 (f := .free "isinstance") rfl)
    b_int := He.free_ok X G (cd.fact 50 (f := .free "int") rfl)
    b_str := He.free_ok X G (cd.fact 51 (f := .free "str") rfl)
    b_bool := He.free_ok X G (cd.fact 52 (f := .free "bool") rfl)
    b_tuple := He.free_ok X G (cd.fact 53 (f := .free "tuple") rfl)
    b_range := He.free_ok X G (cd.fact 54 (f := .free "range") rfl)
    b_enumerate := He.free_ok X G (cd.fact 55 (f := .free "enumerate") rfl)
    b_max := He.free_ok X G (cd.fact 56 (f := .free "max") rfl)
    b_min := He.free_ok X G (cd.fact 57 (f := .free "min") rfl)
    b_sum := He.free_ok X G (cd.fact 58 (f := .free "sum") rfl)
    b_any := He.free_ok X G (cd.fact 59 (f := .free "any") rfl)
    b_list := He.free_ok X G (cd.fact 60 (f := .free "list") rfl)
    b_sorted := He.free_ok X G (cd.fact 61 (f := .free "sorted") rfl)
    b_dict := He.free_ok X G (cd.fact 62 (f := .free "dict") rfl)
    g_NAMES := He.glo_ok X G (cd.fact 37 (f := .glo "NAMES") rfl)
    g_WHATS := He.glo_ok X G (cd.fact 38 (f := .glo "WHATS") rfl)
    g_SOURCES := He.glo_ok X G (cd.fact 39 (f := .glo "SOURCES") rfl)
    g_NUMBERS := He.glo_ok X G (cd.fact 40 (f := .glo "NUMBERS") rfl)
    d_NAMES := fun F => rp_tupC (He.tupB_ok m1 F)
    d_WHATS := fun F => rp_tupC (He.tupB_ok m3 F)
    d_SOURCES := fun F => rp_tupC (He.tupB_ok m4 F)
    d_NUMBERS := fun F => rp_tupC (He.tupB_ok m2 F)
    g_MOST_KEEPS := He.int_ok X G (cd.fact 45 (f := .int "MOST_KEEPS" 3) rfl)
    g_MOST_STEPS := He.int_ok X G (cd.fact 46 (f := .int "MOST_STEPS" 6) rfl)
    g_FITTING := He.glo_ok X G (cd.fact 41 (f := .glo "FITTING") rfl)
    fit := c.t.tab 0 (t := (fun K => He.ga K "FITTING", ["add", "less", "lift", "mark", "empty", "again"])) rfl
    v_FITTING := fun t => by
      have hv : ∀ (z : Str) (v : He.Dv), (z, v) ∈ fitV → ∃ u, PySem.W.nsIn K (He.ga K "FITTING") z = some (some u) ∧ RelV (v.v K) u := fun z v hm => He.valsB_ok m6 (q := (z, v)) hm
      cases t with
      | add k s => obtain ⟨u, h1, h2⟩ := hv "add" (.adr fun K => fitA K "add") (List.mem_cons_self); exact ⟨u, _, h1, h2, fun F => rp_tupC (tupAt_ok m7 F)⟩
      | less k s => obtain ⟨u, h1, h2⟩ := hv "less" (.adr fun K => fitA K "less") (List.mem_cons_of_mem _ List.mem_cons_self); exact ⟨u, _, h1, h2, fun F => rp_tupC (tupAt_ok m8 F)⟩
      | lift k => obtain ⟨u, h1, h2⟩ := hv "lift" (.adr fun K => fitA K "lift") (List.mem_cons_of_mem _ (List.mem_cons_of_mem _ List.mem_cons_self)); exact ⟨u, _, h1, h2, fun F => rp_tupC (tupAt_ok m9 F)⟩
      | mark k => obtain ⟨u, h1, h2⟩ := hv "mark" (.adr fun K => fitA K "mark") (List.mem_cons_of_mem _ (List.mem_cons_of_mem _ (List.mem_cons_of_mem _ List.mem_cons_self))); exact ⟨u, _, h1, h2, fun F => rp_tupC (tupAt_ok m10 F)⟩
      | empty k => obtain ⟨u, h1, h2⟩ := hv "empty" (.glo "WHATS") (List.mem_cons_of_mem _ (List.mem_cons_of_mem _ (List.mem_cons_of_mem _ (List.mem_cons_of_mem _ List.mem_cons_self)))); exact ⟨u, _, h1, h2, fun F => rp_tupC (He.tupB_ok m3 F)⟩
      | again k => obtain ⟨u, h1, h2⟩ := hv "again" (.glo "WHATS") (List.mem_cons_of_mem _ (List.mem_cons_of_mem _ (List.mem_cons_of_mem _ (List.mem_cons_of_mem _ (List.mem_cons_of_mem _ List.mem_cons_self))))); exact ⟨u, _, h1, h2, fun F => rp_tupC (He.tupB_ok m3 F)⟩
    g_NOTHING := He.glo_ok X G (cd.fact 42 (f := .glo "NOTHING") rfl)
    noth := c.t.tab 1 (t := (fun K => He.ga K "NOTHING", ["count", "sum", "most", "any"])) rfl
    v_NOTHING := fun x => by
      have hv : ∀ q : Str × He.Dv, q ∈ ([("count", .int 0), ("sum", .int 0), ("most", .non), ("any", .bl false)] : List (Str × He.Dv)) → ∃ u, PySem.W.nsIn K (He.ga K "NOTHING") q.1 = some (some u) ∧ RelV (q.2.v K) u := fun q hm => He.valsB_ok m5 hm
      cases x with
      | count => exact hv ("count", .int 0) List.mem_cons_self
      | sum => exact hv ("sum", .int 0) (List.mem_cons_of_mem _ List.mem_cons_self)
      | most => exact hv ("most", .non) (List.mem_cons_of_mem _ (List.mem_cons_of_mem _ List.mem_cons_self))
      | any => exact hv ("any", .bl false) (List.mem_cons_of_mem _ (List.mem_cons_of_mem _ (List.mem_cons_of_mem _ List.mem_cons_self)))
    c_Program := He.cls_ok (cd.fact 63 (f := .cls "Program") rfl)
    c_Deed := He.cls_ok (cd.fact 69 (f := .cls "Deed") rfl)
    n_Program := fun z hz => by
      unfold progN at hz
      rcases List.mem_cons.mp hz with e | hz
      · rw [e]; exact He.noat_ok (cd.fact 65 (f := .noat "Program" "keeps") rfl)
      rcases List.mem_cons.mp hz with e | hz
      · rw [e]; exact He.noat_ok (cd.fact 66 (f := .noat "Program" "new") rfl)
      rcases List.mem_cons.mp hz with e | hz
      · rw [e]; exact He.noat_ok (cd.fact 67 (f := .noat "Program" "change") rfl)
      rcases List.mem_cons.mp hz with e | hz
      · rw [e]; exact He.noat_ok (cd.fact 68 (f := .noat "Program" "drop") rfl)
      cases hz
    n_Deed := fun z hz => by
      unfold deedN at hz
      rcases List.mem_cons.mp hz with e | hz
      · rw [e]; exact He.noat_ok (cd.fact 71 (f := .noat "Deed" "keeps") rfl)
      rcases List.mem_cons.mp hz with e | hz
      · rw [e]; exact He.noat_ok (cd.fact 72 (f := .noat "Deed" "amounts") rfl)
      rcases List.mem_cons.mp hz with e | hz
      · rw [e]; exact He.noat_ok (cd.fact 73 (f := .noat "Deed" "around") rfl)
      rcases List.mem_cons.mp hz with e | hz
      · rw [e]; exact He.noat_ok (cd.fact 74 (f := .noat "Deed" "elder") rfl)
      rcases List.mem_cons.mp hz with e | hz
      · rw [e]; exact He.noat_ok (cd.fact 75 (f := .noat "Deed" "newer") rfl)
      cases hz
  }
  obtain ⟨fd34, F34⟩ := cd.def_ 34 (d := hd34) rfl
  obtain ⟨fd35, F35⟩ := cd.def_ 35 (d := hd35) rfl
  obtain ⟨fd36, F36⟩ := cd.def_ 36 (d := hd36) rfl
  obtain ⟨fd37, F37⟩ := cd.def_ 37 (d := hd37) rfl
  obtain ⟨fd38, F38⟩ := cd.def_ 38 (d := hd38) rfl
  obtain ⟨fd39, F39⟩ := cd.def_ 39 (d := hd39) rfl
  obtain ⟨fd40, F40⟩ := cd.def_ 40 (d := hd40) rfl
  obtain ⟨fd1, F1⟩ := cd.def_ 1 (d := hd1) rfl
  obtain ⟨fd2, F2⟩ := cd.def_ 2 (d := hd2) rfl
  obtain ⟨fd3, F3⟩ := cd.def_ 3 (d := hd3) rfl
  obtain ⟨fd6, F6⟩ := cd.def_ 6 (d := hd6) rfl
  obtain ⟨fd4, F4⟩ := cd.def_ 4 (d := hd4) rfl
  obtain ⟨fd5, F5⟩ := cd.def_ 5 (d := hd5) rfl
  obtain ⟨fd7, F7⟩ := cd.def_ 7 (d := hd7) rfl
  obtain ⟨fd8, F8⟩ := cd.def_ 8 (d := hd8) rfl
  obtain ⟨fd9, F9⟩ := cd.def_ 9 (d := hd9) rfl
  obtain ⟨fd41, F41⟩ := cd.def_ 41 (d := hd41) rfl
  obtain ⟨fd43, F43⟩ := cd.def_ 43 (d := hd43) rfl
  have b43 := F43.bindsN (ps := ["_law_things", "_law_many"]) (fun _ _ _ _ _ _ us hl => match us, hl with | [_, _], _ => rfl)
  obtain ⟨fd10, F10⟩ := cd.def_ 10 (d := hd10) rfl
  obtain ⟨fd11, F11⟩ := cd.def_ 11 (d := hd11) rfl
  obtain ⟨fd29, F29⟩ := cd.def_ 29 (d := hd29) rfl
  obtain ⟨fd0, F0⟩ := cd.def_ 0 (d := hd0) rfl
  obtain ⟨fd30, F30⟩ := cd.def_ 30 (d := hd30) rfl
  obtain ⟨fd20, F20⟩ := cd.def_ 20 (d := hd20) rfl
  obtain ⟨fd21, F21⟩ := cd.def_ 21 (d := hd21) rfl
  obtain ⟨fd22, F22⟩ := cd.def_ 22 (d := hd22) rfl
  obtain ⟨fd19, F19⟩ := cd.def_ 19 (d := hd19) rfl
  obtain ⟨fd12, F12⟩ := cd.def_ 12 (d := hd12) rfl
  obtain ⟨fd13, F13⟩ := cd.def_ 13 (d := hd13) rfl
  obtain ⟨fd16, F16⟩ := cd.def_ 16 (d := hd16) rfl
  obtain ⟨fd17, F17⟩ := cd.def_ 17 (d := hd17) rfl
  obtain ⟨fd15, F15⟩ := cd.def_ 15 (d := hd15) rfl
  obtain ⟨fd18, F18⟩ := cd.def_ 18 (d := hd18) rfl
  obtain ⟨fd14, F14⟩ := cd.def_ 14 (d := hd14) rfl
  obtain ⟨fd24, F24⟩ := cd.def_ 24 (d := hd24) rfl
  obtain ⟨fd23, F23⟩ := cd.def_ 23 (d := hd23) rfl
  obtain ⟨fd25, F25⟩ := cd.def_ 25 (d := hd25) rfl
  obtain ⟨fd26, F26⟩ := cd.def_ 26 (d := hd26) rfl
  obtain ⟨fd27, F27⟩ := cd.def_ 27 (d := hd27) rfl
  obtain ⟨fd28, F28⟩ := cd.def_ 28 (d := hd28) rfl
  obtain ⟨fd44, F44⟩ := cd.def_ 44 (d := hd44) rfl
  obtain ⟨fd42, F42⟩ := cd.def_ 42 (d := hd42) rfl
  have b42 := F42.bindsN (ps := ["_law_actual", "_law_due"]) (fun _ _ _ _ _ _ us hl => match us, hl with | [_, _], _ => rfl)
  obtain ⟨fd32, F32⟩ := cd.def_ 32 (d := hd32) rfl
  have b32 := F32.bindsN (ps := ["things", "many"]) (fun _ _ _ _ _ _ us hl => match us, hl with | [_, _], _ => rfl)
  obtain ⟨fd31, F31⟩ := cd.def_ 31 (d := hd31) rfl
  obtain ⟨fd33, F33⟩ := cd.def_ 33 (d := hd33) rfl
  obtain ⟨fd45, F45⟩ := cd.def_ 45 (d := hd45) rfl
  have e := hf.symm.trans (He.glo_ok X G (cd.fact 36 (f := .glo "law") rfl))
  cases e
  refine ⟨fd45, fun s v => FunD.bindsA (ps := ["_law_script"]) F45 (fun _ _ _ _ _ _ us hl => match us, hl with | [_], _ => rfl) s [v] rfl, fun base hb1 hb2 => ?_⟩
  have c__law_begin := ok__law_begin (P := P) (base := base) F34 (He.glo_ok X G (cd.fact 25 (f := .glo "_law_begin") rfl)) T 
  have c__law_draw := ok__law_draw (P := P) (base := base) F35 (He.glo_ok X G (cd.fact 26 (f := .glo "_law_draw") rfl)) T 
  have c__law_keep := ok__law_keep (P := P) (base := base) F36 (He.glo_ok X G (cd.fact 27 (f := .glo "_law_keep") rfl)) T c__law_draw
  have c__law_under := ok__law_under (P := P) (base := base) F37 (He.glo_ok X G (cd.fact 28 (f := .glo "_law_under") rfl)) T 
  have c__law_right := ok__law_right (P := P) (base := base) F38 (He.glo_ok X G (cd.fact 29 (f := .glo "_law_right") rfl)) T c__law_draw c__law_keep c__law_under
  have c__law_touch := ok__law_touch (P := P) (base := base) F39 (He.glo_ok X G (cd.fact 30 (f := .glo "_law_touch") rfl)) T c__law_draw
  have c__law_step := ok__law_step (P := P) (base := base) F40 (He.glo_ok X G (cd.fact 31 (f := .glo "_law_step") rfl)) T c__law_touch c__law_draw
  have c_is_index := ok_is_index (P := P) (base := base) F1 (He.glo_ok X G (cd.fact 0 (f := .glo "is_index") rfl)) T 
  have c_is_keep := ok_is_keep (P := P) (base := base) F2 (He.glo_ok X G (cd.fact 1 (f := .glo "is_keep") rfl)) T c_is_index
  have c_is_of := ok_is_of (P := P) (base := base) F3 (He.glo_ok X G (cd.fact 2 (f := .glo "is_of") rfl)) T c_is_index
  have c_is_test := ok_is_test (P := P) (base := base) F6 (He.glo_ok X G (cd.fact 5 (f := .glo "is_test") rfl)) T c_is_index c_is_of
  have c_is_source := ok_is_source (P := P) (base := base) F4 (He.glo_ok X G (cd.fact 3 (f := .glo "is_source") rfl)) T 
  have c_is_touch := ok_is_touch (P := P) (base := base) F5 (He.glo_ok X G (cd.fact 4 (f := .glo "is_touch") rfl)) T c_is_of c_is_source
  have c_is_step := ok_is_step (P := P) (base := base) F7 (He.glo_ok X G (cd.fact 6 (f := .glo "is_step") rfl)) T c_is_test c_is_touch
  have c_check_steps := ok_check_steps (P := P) (base := base) F8 (He.glo_ok X G (cd.fact 7 (f := .glo "check_steps") rfl)) T c_is_step
  have k_Program : CalC P w K mg base (He.ga K "Program") 6 "Program" ["self", "keeps", "new", "change", "drop"] (S_Program_init (He.ga K "Program")) := ⟨_, _, He.glo_ok X G (cd.fact 43 (f := .glo "Program") rfl), He.mkr_ok (cd.fact 64 (f := .mkr "Program") rfl), fn_Program___init__ F9 T c_is_keep c_check_steps, F9.bindsN (fun _ _ _ _ _ _ us hl => match us, hl with | [_, _, _, _, _], _ => rfl)⟩
  have c__law_made := ok__law_made (P := P) (base := base) F41 (He.glo_ok X G (cd.fact 32 (f := .glo "_law_made") rfl)) T k_Program
  have r0__law_choices : Cal P w K mg base 0 "_law_choices" ["_law_things", "_law_many"] (S_choices 0) := cal_never (qual := "_law_choices") (st := top 57) (by rintro ds M Q ⟨_, m, hm, _⟩; exact absurd hm (Nat.not_lt_zero m)) F43 (He.glo_ok X G (cd.fact 34 (f := .glo "_law_choices") rfl)) (F43.bindsN (fun _ _ _ _ _ _ us hl => match us, hl with | [_, _], _ => rfl)) 0
  have r1__law_choices := ok__law_choices (n := 0) (k := 0) F43 (He.glo_ok X G (cd.fact 34 (f := .glo "_law_choices") rfl)) T  r0__law_choices
  have r2__law_choices := ok__law_choices (n := 1) (k := 1) F43 (He.glo_ok X G (cd.fact 34 (f := .glo "_law_choices") rfl)) T  r1__law_choices
  have r3__law_choices := ok__law_choices (n := 2) (k := 2) F43 (He.glo_ok X G (cd.fact 34 (f := .glo "_law_choices") rfl)) T  r2__law_choices
  have c__law_choices := r3__law_choices
  have m_steps_of : CalM P w K mg base (He.ga K "Program") 1 "steps_of" ["self", "name"] (S_steps_of (He.ga K "Program")) := ⟨He.cls_ok (cd.fact 63 (f := .cls "Program") rfl), _, _, He.meth_ok (cd.fact 76 (f := .meth "Program" "steps_of") rfl), fn_Program_steps_of F10 T , F10.bindsN (fun _ _ _ _ _ _ us hl => match us, hl with | [_, _], _ => rfl)⟩
  have m_with_steps : CalM P w K mg base (He.ga K "Program") 8 "with_steps" ["self", "name", "steps"] (S_with_steps (He.ga K "Program")) := ⟨He.cls_ok (cd.fact 63 (f := .cls "Program") rfl), _, _, He.meth_ok (cd.fact 77 (f := .meth "Program" "with_steps") rfl), fn_Program_with_steps F11 T m_steps_of k_Program, F11.bindsN (fun _ _ _ _ _ _ us hl => match us, hl with | [_, _, _], _ => rfl)⟩
  have c_behind := ok_behind (P := P) (base := base) F29 (He.glo_ok X G (cd.fact 20 (f := .glo "behind") rfl)) T c_is_index m_steps_of m_with_steps
  have mB := He.meth_ok (cd.fact 83 (f := .meth "BadMend" "__init__") rfl)
  have oB : OexC K (He.ga K "BadMend") := oexB_ok m11
  have TB : TxB P w K mg base := {
    g := He.glo_ok X G (cd.fact 82 (f := .glo "BadMend") rfl)
    o := oB
    ex := He.exm_ok (cd.fact 85 (f := .exm "BadMend" "BadMend" true) rfl)
    most := He.int_ok X G (cd.fact 47 (f := .int "MOST" 2) rfl)
    ini := ⟨_, fd0, mB.at_, by have e := mB.fn; simpa [PySem.W.isFn] using e, fn_BadMend___init__ F0 oB (He.noat_ok (cd.fact 84 (f := .noat "BadMend" "index") rfl)), F0.bindsN (fun _ _ _ _ _ _ us hl => match us, hl with | [_, _], _ => rfl)⟩ }
  have c_mended : CalE P w K mg base (He.ga K "BadMend") 10 "mended" ["program", "mends"] (S_mended (He.ga K "Program")) := ⟨_, fd30, He.glo_ok X G (cd.fact 21 (f := .glo "mended") rfl), fn_mended F30 T c_behind TB, F30.kp, F30.bindsN (fun _ _ _ _ _ _ us hl => match us, hl with | [_, _], _ => rfl)⟩
  have c_asks_none := ok_asks_none (P := P) (base := base) F20 (He.glo_ok X G (cd.fact 11 (f := .glo "asks_none") rfl)) T m_steps_of
  have c_most_others := ok_most_others (P := P) (base := base) F21 (He.glo_ok X G (cd.fact 12 (f := .glo "most_others") rfl)) T c_asks_none m_steps_of
  have c_crowds := ok_crowds (P := P) (base := base) F22 (He.glo_ok X G (cd.fact 13 (f := .glo "crowds") rfl)) T 
  have c_all_things := ok_all_things (P := P) (base := base) F19 (He.glo_ok X G (cd.fact 10 (f := .glo "all_things") rfl)) T 
  have c_true_value := ok_true_value (P := P) (base := base) F12 (He.glo_ok X G (cd.fact 8 (f := .glo "true_value") rfl)) T 
  have c_true_values := ok_true_values (P := P) (base := base) F13 (He.glo_ok X G (cd.fact 9 (f := .glo "true_values") rfl)) T c_true_value
  have m_amount : CalM P w K mg base (He.ga K "Deed") 1 "amount" ["self", "source"] (S_amount (He.ga K "Deed")) := ⟨He.cls_ok (cd.fact 69 (f := .cls "Deed") rfl), _, _, He.meth_ok (cd.fact 79 (f := .meth "Deed" "amount") rfl), fn_Deed_amount F16 T , F16.bindsN (fun _ _ _ _ _ _ us hl => match us, hl with | [_, _], _ => rfl)⟩
  have m_touch : CalM P w K mg base (He.ga K "Deed") 2 "touch" ["self", "step"] (S_touch (He.ga K "Deed")) := ⟨He.cls_ok (cd.fact 69 (f := .cls "Deed") rfl), _, _, He.meth_ok (cd.fact 80 (f := .meth "Deed" "touch") rfl), fn_Deed_touch F17 T c_true_value m_amount, F17.bindsN (fun _ _ _ _ _ _ us hl => match us, hl with | [_, _], _ => rfl)⟩
  have m_does_hold : CalM P w K mg base (He.ga K "Deed") 1 "does_hold" ["self", "test"] (S_does_hold (He.ga K "Deed")) := ⟨He.cls_ok (cd.fact 69 (f := .cls "Deed") rfl), _, _, He.meth_ok (cd.fact 78 (f := .meth "Deed" "does_hold") rfl), fn_Deed_does_hold F15 T , F15.bindsN (fun _ _ _ _ _ _ us hl => match us, hl with | [_, _], _ => rfl)⟩
  have m_steps : CalM P w K mg base (He.ga K "Deed") 3 "steps" ["self", "some"] (S_steps (He.ga K "Deed")) := ⟨He.cls_ok (cd.fact 69 (f := .cls "Deed") rfl), _, _, He.meth_ok (cd.fact 81 (f := .meth "Deed" "steps") rfl), fn_Deed_steps F18 T m_touch m_does_hold, F18.bindsN (fun _ _ _ _ _ _ us hl => match us, hl with | [_, _], _ => rfl)⟩
  have k_Deed : CalC P w K mg base (He.ga K "Deed") 1 "Deed" ["self", "keeps", "kept", "things", "elder", "newer"] (S_Deed_init (He.ga K "Deed")) := ⟨_, _, He.glo_ok X G (cd.fact 44 (f := .glo "Deed") rfl), He.mkr_ok (cd.fact 70 (f := .mkr "Deed") rfl), fn_Deed___init__ F14 T , F14.bindsN (fun _ _ _ _ _ _ us hl => match us, hl with | [_, _, _, _, _, _], _ => rfl)⟩
  have c_first_lie := ok_first_lie (P := P) (base := base) F24 (He.glo_ok X G (cd.fact 15 (f := .glo "first_lie") rfl)) T c_true_values m_steps k_Deed
  have c_news := ok_news (P := P) (base := base) F23 (He.glo_ok X G (cd.fact 14 (f := .glo "news") rfl)) T 
  have c_lie_of_new := ok_lie_of_new (P := P) (base := base) F25 (He.glo_ok X G (cd.fact 16 (f := .glo "lie_of_new") rfl)) T c_crowds c_all_things c_first_lie c_news
  have c_lie_of_old := ok_lie_of_old (P := P) (base := base) F26 (He.glo_ok X G (cd.fact 17 (f := .glo "lie_of_old") rfl)) T c_crowds c_all_things c_first_lie c_news
  have c_lie := ok_lie (P := P) (base := base) F27 (He.glo_ok X G (cd.fact 18 (f := .glo "lie") rfl)) T c_most_others c_lie_of_new c_lie_of_old
  have c_is_right := ok_is_right (P := P) (base := base) F28 (He.glo_ok X G (cd.fact 19 (f := .glo "is_right") rfl)) T c_lie
  have c__law_helps := ok__law_helps (P := P) (base := base) F44 (He.glo_ok X G (cd.fact 35 (f := .glo "_law_helps") rfl)) T c_is_right TB c_mended
  have r0__law_like : Cal P w K mg base 0 "_law_like" ["_law_actual", "_law_due"] (S_law_like 0) := cal_never (qual := "_law_like") (st := top 56) (by rintro ds M Q ⟨d, _, h, _⟩; exact h) F42 (He.glo_ok X G (cd.fact 33 (f := .glo "_law_like") rfl)) (F42.bindsN (fun _ _ _ _ _ _ us hl => match us, hl with | [_, _], _ => rfl)) 0
  have r1__law_like := ok__law_like (n := 0) (k := 0) F42 (He.glo_ok X G (cd.fact 33 (f := .glo "_law_like") rfl)) T  r0__law_like
  have r2__law_like := ok__law_like (n := 1) (k := 1) F42 (He.glo_ok X G (cd.fact 33 (f := .glo "_law_like") rfl)) T  r1__law_like
  have r3__law_like := ok__law_like (n := 2) (k := 2) F42 (He.glo_ok X G (cd.fact 33 (f := .glo "_law_like") rfl)) T  r2__law_like
  have r4__law_like := ok__law_like (n := 3) (k := 3) F42 (He.glo_ok X G (cd.fact 33 (f := .glo "_law_like") rfl)) T  r3__law_like
  have c__law_like := r4__law_like
  have r0_choices : Cal P w K mg base 0 "choices" ["things", "many"] (S_choices 0) := cal_never (qual := "choices") (st := top 43) (by rintro ds M Q ⟨_, m, hm, _⟩; exact absurd hm (Nat.not_lt_zero m)) F32 (He.glo_ok X G (cd.fact 23 (f := .glo "choices") rfl)) (F32.bindsN (fun _ _ _ _ _ _ us hl => match us, hl with | [_, _], _ => rfl)) 0
  have r1_choices := ok_choices (n := 0) (k := 0) F32 (He.glo_ok X G (cd.fact 23 (f := .glo "choices") rfl)) T  r0_choices
  have r2_choices := ok_choices (n := 1) (k := 1) F32 (He.glo_ok X G (cd.fact 23 (f := .glo "choices") rfl)) T  r1_choices
  have r3_choices := ok_choices (n := 2) (k := 2) F32 (He.glo_ok X G (cd.fact 23 (f := .glo "choices") rfl)) T  r2_choices
  have c_choices := r3_choices
  have c_mended_or_none := ok_mended_or_none (P := P) (base := base) F31 (He.glo_ok X G (cd.fact 22 (f := .glo "mended_or_none") rfl)) T TB c_mended
  have c_mends := ok_mends (P := P) (base := base) F33 (He.glo_ok X G (cd.fact 24 (f := .glo "mends") rfl)) T c_choices c_mended_or_none c_is_right TB
  exact fn_law F45 T c__law_begin c__law_right c__law_draw c__law_step c__law_made c__law_choices c__law_helps c__law_like c_mends
theorem hstart {K : PySem.W.Frag} {H : Hp} {a : Addr} {ns : List Int} (hS : SqL K H a (ns.map V.int)) : spOf K S_law [.ref a] H (fun v _ => v = .bl true) fun _ _ _ => False := by
  refine ⟨fun b => if b = a then H a else none, fun _ => none, fun _ => none, [.ro (ns.map iD)], fun d _ => d = .sc (.bl true), RpA.cons_ (rp_ro.mpr ⟨a, ns.map V.int, rfl, ?_, ?_⟩) RpA.nil_, ⟨?_, ?_, ?_, ?_⟩, ⟨ns, rfl, rfl⟩, ?_⟩
  · rcases hS with hS | hS
    · refine .inl ?_
      rcases hS with hS | ⟨o, hS⟩
      · exact .inl ((if_pos rfl).trans hS)
      · exact .inr ⟨o, (if_pos rfl).trans hS⟩
    · exact .inr hS
  · have e : ns.map iD = (ns.map V.int).map Da.sc := by rw [List.map_map]; rfl
    rw [e]
    exact rpA_sc.mpr rfl
  · intro b o e
    have e : (if b = a then H a else none) = some o := e
    by_cases hb : b = a
    · rw [if_pos hb] at e
      rw [hb]
      exact e
    · rw [if_neg hb] at e
      cases e
  · intro b u e
    cases e
  · intro b u e
    cases e
  · intro b u e
    cases e
  · intro v d F' M' H' _ _ r e
    subst e
    exact rp_sc.mp r
end Kc
open PySem PySem.W PySem.Calls PyProof.Rows
theorem PySem.Challenge.cw_keptcounts_k10_whole_least_mends_holds : PySem.Challenge.rw_keptcounts_k10_whole_least_mends.Holds := by
  w_on; o_law
  refine HandSHeadRun.head_any (r := OpenLaw.row PySem.Challenge.rw_keptcounts_k10_whole_least_mends) (q := view (OpenLaw.row PySem.Challenge.rw_keptcounts_k10_whole_least_mends).prog [59]) (H := Kc.hhk) (ob := Kc.hob) (M := 4000) (loose := Kc.hloose) (d := HandSHeadRun.topDef (OpenLaw.row PySem.Challenge.rw_keptcounts_k10_whole_least_mends).prog 59) (kwd := []) Kc.hob_eq
    (by kernel_rfl) (fun s => by kernel_rfl) Kc.hrun (by kernel_rfl) (by kernel_rfl) (by kernel_rfl) (by rfl) (by first | assumption | decide +kernel) (by decide +kernel) ⟨rfl, rfl, rfl, rfl, rfl, by decide +kernel⟩ ?hw ?hc
  case hw => w_witness2
  case hc =>
    refine L2.walk_ofE (l := PySem.Challenge.rw_keptcounts_k10_whole_least_mends) (n := 63) (k := 13) (x := "_law_script") (CX := L2.CX0) rfl (by decide) (by kernel_rfl) ⟨rfl, by decide, by decide⟩ ?F (fun _ _ _ _ z => z)
    intro w mg fa h Y G hmg0
    obtain ⟨K, KX, c⟩ := Y
    have hmg : mg ("law" : PySem.Str) = some (.ref fa) := by
      have e : (HandSHeadRun.topDef (OpenLaw.row PySem.Challenge.rw_keptcounts_k10_whole_least_mends).prog 59).name = ("law" : PySem.Str) := by kernel_rfl
      rw [← e]
      exact hmg0
    obtain ⟨fd, hb, hF⟩ := Kc.hfacts (P := (PySem.Challenge.rw_keptcounts_k10_whole_least_mends).prog) (w := w) KX G hmg c
    exact ⟨K, fd, Dl.spOf K Kc.S_law, KX, hb, fun H a ns hl _ hS => Kc.hstart hS, hF⟩
