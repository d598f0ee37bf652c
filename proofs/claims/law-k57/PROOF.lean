import PyProof.Rows.All
import Wide.All
import OpenK.AllK
import Wide.FinOn
import KE.KStateDown
import Lean
import HandS.Base
import HandS.Call
import HandS.Ends
import HandS.More
import HandS.Words
import HandS.WordsExc
import HandS.Defaults
import HandS.Head0
import HandS.Head1
import HandS.Head2
import HandS.HeadEnd
import HandS.HeadHook1
import HandS.HeadHook2
import HandS.HeadHook3
import HandS.ExcInit
import PySem.Challenge.RW_thenbeside_k57_whole_grounds_for_droppin
import HandS.List
import HandS.Comp
import HandS.Dict
import HandS.Iter
import HandS.WordsList
import HandS.Wide
import HandS.IsInst
import HandS.Zip
import HandS.TupAny
import HandS.Conv
import HandS.Style
import HandS.CallLocal
import KE.SortKeyHeap
import HandS.SortKw
import HandS.Exc
import HandS.TupMul
import HandS.HotCalls
import HandS.ExcCtx
import HandS.TryMany
set_option Elab.async false
set_option linter.all false
set_option maxRecDepth 100000
set_option maxHeartbeats 0
namespace TbH
open PySem PySem.Spec PyProof.Rows L2
def top (i : Nat) : Stmt := PySem.Challenge.pw_thenbeside_k57_whole_grounds_for_droppin.main.body.getD i (.Pass ⟨0, 0, 0, 0⟩)
def d5 : He.DefD := ⟨("all_tasks", none), "all_tasks", "all_tasks", defArgs (top 5), defBody (top 5), defScope (top 5), [], []⟩
def d6 : He.DefD := ⟨("least_task", none), "least_task", "least_task", defArgs (top 6), defBody (top 6), defScope (top 6), [], []⟩
def d7 : He.DefD := ⟨("normal_of", none), "normal_of", "normal_of", defArgs (top 7), defBody (top 7), defScope (top 7), [], []⟩
def d10 : He.DefD := ⟨("opposite", none), "opposite", "opposite", defArgs (top 10), defBody (top 10), defScope (top 10), [], []⟩
def d15 : He.DefD := ⟨("is_integer", none), "is_integer", "is_integer", defArgs (top 15), defBody (top 15), defScope (top 15), [], []⟩
def d16 : He.DefD := ⟨("is_task_rules", none), "is_task", "is_task", defArgs (top 16), defBody (top 16), defScope (top 16), [], []⟩
def d18 : He.DefD := ⟨("is_allowed", none), "is_allowed", "is_allowed", defArgs (top 18), defBody (top 18), defScope (top 18), [], []⟩
def d19 : He.DefD := ⟨("is_rule", none), "is_rule", "is_rule", defArgs (top 19), defBody (top 19), defScope (top 19), [], []⟩
def d20 : He.DefD := ⟨("is_size", none), "is_size", "is_size", defArgs (top 20), defBody (top 20), defScope (top 20), [], []⟩
def d21 : He.DefD := ⟨("is_problem", none), "is_problem", "is_problem", defArgs (top 21), defBody (top 21), defScope (top 21), [], []⟩
def d22 : He.DefD := ⟨("check_problem", none), "check_problem", "check_problem", defArgs (top 22), defBody (top 22), defScope (top 22), [], []⟩
def d23 : He.DefD := ⟨("opposites", none), "opposites", "opposites", defArgs (top 23), defBody (top 23), defScope (top 23), [], []⟩
def d24 : He.DefD := ⟨("allowed_of", none), "allowed_of", "allowed_of", defArgs (top 24), defBody (top 24), defScope (top 24), [], []⟩
def d26 : He.DefD := ⟨("is_task_sticking", none), "is_task", "is_task", defArgs (top 26), defBody (top 26), defScope (top 26), [], []⟩
def d28 : He.DefD := ⟨("is_set", none), "is_set", "is_set", defArgs (top 28), defBody (top 28), defScope (top 28), [], []⟩
def d29 : He.DefD := ⟨("ties", none), "ties", "ties", defArgs (top 29), defBody (top 29), defScope (top 29), [], []⟩
def d30 : He.DefD := ⟨("bars", none), "bars", "bars", defArgs (top 30), defBody (top 30), defScope (top 30), [], []⟩
def d31 : He.DefD := ⟨("reach", none), "reach", "reach", defArgs (top 31), defBody (top 31), defScope (top 31), [], []⟩
def d32 : He.DefD := ⟨("told_split", none), "told_split", "told_split", defArgs (top 32), defBody (top 32), defScope (top 32), [], []⟩
def d33 : He.DefD := ⟨("stuck", none), "stuck", "stuck", defArgs (top 33), defBody (top 33), defScope (top 33), [], []⟩
def d35 : He.DefD := ⟨("joined", none), "joined", "joined", defArgs (top 35), defBody (top 35), defScope (top 35), [], []⟩
def d36 : He.DefD := ⟨("taken_apart", none), "taken_apart", "taken_apart", defArgs (top 36), defBody (top 36), defScope (top 36), [], []⟩
def d37 : He.DefD := ⟨("solved", none), "solved", "solved", defArgs (top 37), defBody (top 37), defScope (top 37), [], []⟩
def d39 : He.DefD := ⟨("is_collection", none), "is_collection", "is_collection", defArgs (top 39), defBody (top 39), defScope (top 39), [], []⟩
def d40 : He.DefD := ⟨("check_collection", none), "check_collection", "check_collection", defArgs (top 40), defBody (top 40), defScope (top 40), [], []⟩
def d41 : He.DefD := ⟨("check_index", none), "check_index", "check_index", defArgs (top 41), defBody (top 41), defScope (top 41), [], []⟩
def d42 : He.DefD := ⟨("problem_by", none), "problem_by", "problem_by", defArgs (top 42), defBody (top 42), defScope (top 42), [], []⟩
def d43 : He.DefD := ⟨("less", none), "less", "less", defArgs (top 43), defBody (top 43), defScope (top 43), [], []⟩
def d44 : He.DefD := ⟨("plan_by", none), "plan_by", "plan_by", defArgs (top 44), defBody (top 44), defScope (top 44), [], []⟩
def d45 : He.DefD := ⟨("can_be", none), "can_be", "can_be", defArgs (top 45), defBody (top 45), defScope (top 45), [], []⟩
def d46 : He.DefD := ⟨("problems_against", none), "problems_against", "problems_against", defArgs (top 46), defBody (top 46), defScope (top 46), [], []⟩
def d47 : He.DefD := ⟨("grounds_of", none), "grounds_of", "grounds_of", defArgs (top 47), defBody (top 47), defScope (top 47), [], []⟩
def d48 : He.DefD := ⟨("check_droppable", none), "check_droppable", "check_droppable", defArgs (top 48), defBody (top 48), defScope (top 48), [], []⟩
def d49 : He.DefD := ⟨("grounds_for", none), "grounds_for", "grounds_for", defArgs (top 49), defBody (top 49), defScope (top 49), [], []⟩
def d50 : He.DefD := ⟨("accepts_grounds", none), "accepts_grounds", "accepts_grounds", defArgs (top 50), defBody (top 50), defScope (top 50), [], []⟩
def d52 : He.DefD := ⟨("_law_stream", none), "_law_stream", "_law_stream", defArgs (top 52), defBody (top 52), defScope (top 52), [], []⟩
def d53 : He.DefD := ⟨("_law_next", none), "_law_next", "_law_next", defArgs (top 53), defBody (top 53), defScope (top 53), [], []⟩
def d54 : He.DefD := ⟨("_law_is_integer", none), "_law_is_integer", "_law_is_integer", defArgs (top 54), defBody (top 54), defScope (top 54), [], []⟩
def d55 : He.DefD := ⟨("_law_equal", none), "_law_equal", "_law_equal", defArgs (top 55), defBody (top 55), defScope (top 55), [], []⟩
def d56 : He.DefD := ⟨("_law_rows", none), "_law_rows", "_law_rows", defArgs (top 56), defBody (top 56), defScope (top 56), [], []⟩
def d57 : He.DefD := ⟨("_law_blocks", none), "_law_blocks", "_law_blocks", defArgs (top 57), defBody (top 57), defScope (top 57), [], []⟩
def d58 : He.DefD := ⟨("_law_heads", none), "_law_heads", "_law_heads", defArgs (top 58), defBody (top 58), defScope (top 58), [], []⟩
def d59 : He.DefD := ⟨("_law_plans", none), "_law_plans", "_law_plans", defArgs (top 59), defBody (top 59), defScope (top 59), [], []⟩
def d60 : He.DefD := ⟨("_law_tasks", none), "_law_tasks", "_law_tasks", defArgs (top 60), defBody (top 60), defScope (top 60), [], []⟩
def d61 : He.DefD := ⟨("_law_relation", none), "_law_relation", "_law_relation", defArgs (top 61), defBody (top 61), defScope (top 61), [], []⟩
def d62 : He.DefD := ⟨("_law_drawn_plan", none), "_law_drawn_plan", "_law_drawn_plan", defArgs (top 62), defBody (top 62), defScope (top 62), [], []⟩
def d63 : He.DefD := ⟨("_law_some_plan", none), "_law_some_plan", "_law_some_plan", defArgs (top 63), defBody (top 63), defScope (top 63), [], []⟩
def d64 : He.DefD := ⟨("_law_relations", none), "_law_relations", "_law_relations", defArgs (top 64), defBody (top 64), defScope (top 64), [], []⟩
def d65 : He.DefD := ⟨("_law_opposite", none), "_law_opposite", "_law_opposite", defArgs (top 65), defBody (top 65), defScope (top 65), [], []⟩
def d66 : He.DefD := ⟨("_law_rule", none), "_law_rule", "_law_rule", defArgs (top 66), defBody (top 66), defScope (top 66), [], []⟩
def d67 : He.DefD := ⟨("_law_problem", none), "_law_problem", "_law_problem", defArgs (top 67), defBody (top 67), defScope (top 67), [], []⟩
def d68 : He.DefD := ⟨("_law_allowed", none), "_law_allowed", "_law_allowed", defArgs (top 68), defBody (top 68), defScope (top 68), [], []⟩
def d69 : He.DefD := ⟨("_law_tables", none), "_law_tables", "_law_tables", defArgs (top 69), defBody (top 69), defScope (top 69), [], []⟩
def d70 : He.DefD := ⟨("_law_kept", none), "_law_kept", "_law_kept", defArgs (top 70), defBody (top 70), defScope (top 70), [], []⟩
def d71 : He.DefD := ⟨("_law_by", none), "_law_by", "_law_by", defArgs (top 71), defBody (top 71), defScope (top 71), [], []⟩
def d72 : He.DefD := ⟨("_law_less", none), "_law_less", "_law_less", defArgs (top 72), defBody (top 72), defScope (top 72), [], []⟩
def d73 : He.DefD := ⟨("_law_small", none), "_law_small", "_law_small", defArgs (top 73), defBody (top 73), defScope (top 73), [], []⟩
def d74 : He.DefD := ⟨("_law_reaches", none), "_law_reaches", "_law_reaches", defArgs (top 74), defBody (top 74), defScope (top 74), [], []⟩
def d75 : He.DefD := ⟨("_law_is_set", none), "_law_is_set", "_law_is_set", defArgs (top 75), defBody (top 75), defScope (top 75), [], []⟩
def d76 : He.DefD := ⟨("_law_is_stuck", none), "_law_is_stuck", "_law_is_stuck", defArgs (top 76), defBody (top 76), defScope (top 76), [], []⟩
def d77 : He.DefD := ⟨("_law_against", none), "_law_against", "_law_against", defArgs (top 77), defBody (top 77), defScope (top 77), [], []⟩
def d78 : He.DefD := ⟨("_law_are_grounds", none), "_law_are_grounds", "_law_are_grounds", defArgs (top 78), defBody (top 78), defScope (top 78), [], []⟩
def d79 : He.DefD := ⟨("_law_turned_set", none), "_law_turned_set", "_law_turned_set", defArgs (top 79), defBody (top 79), defScope (top 79), [], []⟩
def d80 : He.DefD := ⟨("_law_turned_sets", none), "_law_turned_sets", "_law_turned_sets", defArgs (top 80), defBody (top 80), defScope (top 80), [], []⟩
def d81 : He.DefD := ⟨("_law_told", none), "_law_told", "_law_told", defArgs (top 81), defBody (top 81), defScope (top 81), [], []⟩
def d82 : He.DefD := ⟨("law", none), "law", "law", defArgs (top 82), defBody (top 82), defScope (top 82), [], []⟩
def dI : He.DefD := ⟨("NotPossible", some "__init__"), "__init__", "NotPossible.__init__", defArgs (inClass (top 3) 0), defBody (inClass (top 3) 0), defScope (inClass (top 3) 0), [], []⟩
def fn : List He.DefD := [d5, d6, d7, d10, d15, d16, d18, d19, d20, d21, d22, d23, d24, d26, d28, d29, d30, d31, d32, d33, d35, d36, d37, d39, d40, d41, d42, d43, d44, d45, d46, d47, d48, d49, d50, d52, d53, d54, d55, d56, d57, d58, d59, d60, d61, d62, d63, d64, d65, d66, d67, d68, d69, d70, d71, d72, d73, d74, d75, d76, d77, d78, d79, d80, d81, d82, dI]
def fa : List He.Fa := [.glo "all_tasks", .glo "least_task", .glo "normal_of", .glo "opposite", .glo "is_integer", .glo "is_task_rules", .glo "is_allowed", .glo "is_rule", .glo "is_size", .glo "is_problem", .glo "check_problem", .glo "opposites", .glo "allowed_of", .glo "is_task_sticking", .glo "is_set", .glo "ties", .glo "bars", .glo "reach", .glo "told_split", .glo "stuck", .glo "joined", .glo "taken_apart", .glo "solved", .glo "is_collection", .glo "check_collection", .glo "check_index", .glo "problem_by", .glo "less", .glo "plan_by", .glo "can_be", .glo "problems_against", .glo "grounds_of", .glo "check_droppable", .glo "grounds_for", .glo "accepts_grounds", .glo "_law_stream", .glo "_law_next", .glo "_law_is_integer", .glo "_law_equal", .glo "_law_rows", .glo "_law_blocks", .glo "_law_heads", .glo "_law_plans", .glo "_law_tasks", .glo "_law_relation", .glo "_law_drawn_plan", .glo "_law_some_plan", .glo "_law_relations", .glo "_law_opposite", .glo "_law_rule", .glo "_law_problem", .glo "_law_allowed", .glo "_law_tables", .glo "_law_kept", .glo "_law_by", .glo "_law_less", .glo "_law_small", .glo "_law_reaches", .glo "_law_is_set", .glo "_law_is_stuck", .glo "_law_against", .glo "_law_are_grounds", .glo "_law_turned_set", .glo "_law_turned_sets", .glo "_law_told", .glo "law", .glo "NotPossible", .glo "RELATIONS", .glo "OPPOSITES", .free "isinstance", .free "int", .free "min", .free "tuple", .free "sorted", .free "bool", .free "all", .free "str", .free "len", .free "range", .free "zip", .free "list", .free "abs", .int "MOST_TASKS" 7, .int "MOST_RULES" 20]
def loose0 : List PySem.Str := ["PlanError", "BadValue", "NotPossible", "all_tasks", "least_task", "normal_of", "OPPOSITES", "opposite", "MOST_TASKS", "MOST_RULES", "RELATIONS", "is_integer", "is_task", "is_task_rules", "is_allowed", "is_rule", "is_size", "is_problem", "check_problem", "opposites", "allowed_of", "is_task_sticking", "is_set", "ties", "bars", "reach", "told_split", "stuck", "joined", "taken_apart"]
def loose1 : List PySem.Str := ["solved", "is_collection", "check_collection", "check_index", "problem_by", "less", "plan_by", "can_be", "problems_against", "grounds_of", "check_droppable", "grounds_for", "accepts_grounds", "_law_stream", "_law_next", "_law_is_integer", "_law_equal", "_law_rows", "_law_blocks", "_law_heads", "_law_plans", "_law_tasks", "_law_relation", "_law_drawn_plan", "_law_some_plan", "_law_relations", "_law_opposite", "_law_rule", "_law_problem", "_law_allowed"]
def loose2 : List PySem.Str := ["_law_tables", "_law_kept", "_law_by", "_law_less", "_law_small", "_law_reaches", "_law_is_set", "_law_is_stuck", "_law_against", "_law_are_grounds", "_law_turned_set", "_law_turned_sets", "_law_told"]
def loose : List PySem.Str := loose0 ++ loose1 ++ loose2
def ts : List He.Tab := [(fun K => He.ga K "OPPOSITES", ["before", "beside", "after", "same"])]
/-- the class NotPossible as it stands -/
def exB (K : PySem.W.Frag) : Bool := match K.lookup (He.ga K "NotPossible") with
  | some ⟨.type "type", _, .cls cd, sl⟩ => (match cd.mro, sl.toList with
    | .ref c :: bm, [_, _, _, _, some (.builtin n), _] => decide (c = He.ga K "NotPossible") && (n == "ValueError.__new__" && (!cd.hasDel && (cd.hasDict && PySem.HandSPX.refsVE bm)))
    | _, _ => false)
  | _ => false
theorem exB_ok {K : PySem.W.Frag} (h : exB K = true) : ∃ nm q N bs bm sn sub ab col dd k0 k1 k2 k3 k5, K.lookup (He.ga K "NotPossible") = some (excClassObj nm q (He.ga K "NotPossible") N bs bm true sn sub ab col dd k0 k1 k2 k3 k5 "ValueError.__new__") ∧ PySem.HandSPX.refsVE bm = true := by
  unfold exB at h
  generalize He.ga K "NotPossible" = C at h ⊢
  split at h
  · rename_i dd cd sl lC
    split at h
    · rename_i c bm k0 k1 k2 k3 n k5 hm hs
      simp only [Bool.and_eq_true, beq_iff_eq, Bool.not_eq_true', decide_eq_true_eq] at h
      obtain ⟨h1, h2, h3, h4, h5⟩ := h
      obtain ⟨nm, bs, mro, N, q, hd, sn, sub, ab, col, del⟩ := cd
      dsimp only at hm h3 h4
      subst hm h3 h4 h2
      obtain ⟨l⟩ := sl
      dsimp only at hs
      subst hs
      exact ⟨_, _, _, _, _, _, _, _, _, _, _, _, _, _, _, lC.trans (by rw [h1]), h5⟩
    · cases h
  · cases h
def clsB (K : PySem.W.Frag) : Bool := He.eqO (PySem.W.findIn K (.ref (He.ga K "NotPossible")) "__setattr__") (some (some (.builtin "object.__setattr__"))) &&
  (decide (PySem.W.subIn K (.ref (He.ga K "NotPossible")) (.type "BaseException") = some true) && (decide (PySem.W.typeIn K (.ref (He.ga K "NotPossible")) = some (.type "type")) && (PySem.W.keepIn K (.ref (He.ga K "NotPossible")) &&
  (He.eqO (PySem.W.findIn K (.ref (He.ga K "NotPossible")) "why") (some none) && (He.eqO (PySem.W.findIn K (.ref (He.ga K "NotPossible")) "__init__") (some (some (.ref (He.ma K (He.ga K "NotPossible") "__init__")))) &&
  (decide (PySem.W.typeIn K (.ref (He.ma K (He.ga K "NotPossible") "__init__")) = some (.type "function")) && decide (PySem.W.exmOne K (.ref (He.ga K "NotPossible")) (.ref (He.ga K "NotPossible")) = some true)))))))
def opp : List (PySem.Str × He.Dv) := [("before", .str "after"), ("beside", .str "beside"), ("after", .str "before"), ("same", .str "same")]
def ex (K : PySem.W.Frag) : Bool := exB K && (clsB K && (He.tupB K "RELATIONS" [.str "before", .str "beside", .str "after"] && He.valsB K (He.ga K "OPPOSITES") opp))
abbrev AlM : Type := He.AlT × Bool
def obsM (n : Nat) (g : Addr → Option Obj) : AlM := (He.obsTG n fa fn ts g, ex (He.frG g (He.asD g n)))
def valM (w : World) : AlM := (He.valT fn ts w, true)
def hookM (n : Nat) : PySem.W.Hook where
  α := AlM
  obs := fun s => obsM n s.heap.get?
  val := fun w => valM w
  says := fun w h => ∃ K : PySem.W.Frag, K.In h ∧ He.SaysT fa fn ts w K ∧ ex K = true
  of := fun _ _ e => ⟨_, He.frG_in, congrArg (fun z : AlM => z.1) e, congrArg (fun z : AlM => z.2) e⟩
  keeps := fun _ _ _ ⟨K, hK, c⟩ k => ⟨K, PySem.W.Frag.In.keeps hK k, c⟩
abbrev R : PySem.W.OpenRow := PySem.W.OpenLaw.row PySem.Challenge.rw_thenbeside_k57_whole_grounds_for_droppin
abbrev hk : PySem.W.Hook := hookM 5
def ob (s : PySem.W.SharedT) : AlM := obsM 5 (HandSHeadRun.getT s)
theorem ob_eq (s : PySem.W.SharedT) : ob s = hk.obs s.abs := by
  show obsM 5 (HandSHeadRun.getT s) = obsM 5 s.abs.heap.get?
  have e : HandSHeadRun.getT s = s.abs.heap.get? := funext (HandSHeadRun.getT_eq s)
  rw [e]
theorem run_f (w : World) : HandSHeadRun.RunEq R (PySem.W.view R.prog [82]) hk ob 4000 loose (w.withFollow "special-get-raises" false) := by
  intro os
  kernel_rfl
theorem run_t (w : World) : HandSHeadRun.RunEq R (PySem.W.view R.prog [82]) hk ob 4000 loose (w.withFollow "special-get-raises" true) := by
  intro os
  kernel_rfl
theorem run (w : World) : HandSHeadRun.RunEq R (PySem.W.view R.prog [82]) hk ob 4000 loose w := PySem.W.byRow2 (P := fun w => HandSHeadRun.RunEq R (PySem.W.view R.prog [82]) hk ob 4000 loose w) "special-get-raises" run_f run_t w
end TbH
set_option Elab.async false
set_option linter.all false
set_option maxRecDepth 100000
set_option maxHeartbeats 4000000
/-! ## The data layer: values of the abstract heap read as data, environments of data, what evaluates to what -/
namespace Tb
open PySem PySem.Spec PyProof.Rows L2

/-- addresses that data have to stay away from (objects that somebody owns and changes) -/
abbrev MS := Addr → Prop
def KTup (K : PySem.W.Frag) (a : Addr) (xs : List V) : Prop :=
  ∃ (o : Obj) (its : Array Value) (n : Nat), K.lookup a = some o ∧ o.cls = .type "tuple" ∧ o.data = .seq its n ∧ its.size ≤ sizeLine ∧ Vals xs its.toList
def TupAt (K : PySem.W.Frag) (M : MS) (H : Hp) (a : Addr) (xs : List V) : Prop := (¬ M a ∧ H a = some (.tup xs)) ∨ KTup K a xs
theorem TupAt.seq {K : PySem.W.Frag} {M : MS} {H : Hp} {a : Addr} {xs : List V} (h : TupAt K M H a xs) : SqT K H a xs := by
  rcases h with h | h
  · exact .inl (.inl h.2)
  · exact .inr h
/-- an entry of a table of relations: two tasks and a word -/
def dKey (e : Int × Int × Str) : List Key × V := ([.inl e.1, .inl e.2.1], .str e.2.2)
def dEnt (e : Int × Int × Str) : PyData × PyData := (.tuple [.int e.1, .int e.2.1], .str e.2.2)
mutual
inductive Rep (K : PySem.W.Frag) (M : MS) (H : Hp) : V → PyData → Prop
  | non : Rep K M H .non .none
  | bl (b : Bool) : Rep K M H (.bl b) (.bool b)
  | int (i : Int) : Rep K M H (.int i) (.int i)
  | str (x : Str) : Rep K M H (.str x) (.str x)
  | lst {a : Addr} {xs : List V} {ds : List PyData} : ¬ M a → H a = some (.lst xs) → RepL K M H xs ds → Rep K M H (.ref a) (.list ds)
  | tup {a : Addr} {xs : List V} {ds : List PyData} : TupAt K M H a xs → RepL K M H xs ds → Rep K M H (.ref a) (.tuple ds)
  | dct {a : Addr} (es : List (Int × Int × Str)) : ¬ M a → H a = some (.dT (es.map dKey)) → Rep K M H (.ref a) (.dict (es.map dEnt))
inductive RepL (K : PySem.W.Frag) (M : MS) (H : Hp) : List V → List PyData → Prop
  | nil : RepL K M H [] []
  | cons {v : V} {vs : List V} {d : PyData} {ds : List PyData} : Rep K M H v d → RepL K M H vs ds → RepL K M H (v :: vs) (d :: ds)
end
section
variable {K : PySem.W.Frag} {M M' : MS} {H H' : Hp}
mutual
theorem Rep.mono (hs : ∀ a o, ¬ M a → H a = some o → H' a = some o) (hm : ∀ a, M' a → M a ∨ H a = none) : ∀ {v : V} {d : PyData}, Rep K M H v d → Rep K M' H' v d
  | _, _, .non => .non
  | _, _, .bl b => .bl b
  | _, _, .int i => .int i
  | _, _, .str x => .str x
  | _, _, .lst n e r => .lst (fun z => (hm _ z).elim n fun q => by rw [q] at e; cases e) (hs _ _ n e) (RepL.mono hs hm r)
  | _, _, .tup (.inl ⟨n, e⟩) r => .tup (.inl ⟨(fun z => (hm _ z).elim n fun q => by rw [q] at e; cases e), hs _ _ n e⟩) (RepL.mono hs hm r)
  | _, _, .tup (.inr k) r => .tup (.inr k) (RepL.mono hs hm r)
  | _, _, .dct es n e => .dct es (fun z => (hm _ z).elim n fun q => by rw [q] at e; cases e) (hs _ _ n e)
theorem RepL.mono (hs : ∀ a o, ¬ M a → H a = some o → H' a = some o) (hm : ∀ a, M' a → M a ∨ H a = none) : ∀ {vs : List V} {ds : List PyData}, RepL K M H vs ds → RepL K M' H' vs ds
  | _, _, .nil => .nil
  | _, _, .cons r t => .cons (Rep.mono hs hm r) (RepL.mono hs hm t)
end
theorem Rep.same (s : Same H H') {v : V} {d : PyData} (r : Rep K M H v d) : Rep K M H' v d := r.mono (fun a o _ e => s a o e) fun a z => .inl z
theorem RepL.same (s : Same H H') {vs : List V} {ds : List PyData} (r : RepL K M H vs ds) : RepL K M H' vs ds := r.mono (fun a o _ e => s a o e) fun a z => .inl z
theorem Rep.less (hm : ∀ a, M' a → M a) {v : V} {d : PyData} (r : Rep K M H v d) : Rep K M' H v d := r.mono (fun a o _ e => e) fun a z => .inl (hm a z)
theorem RepL.less (hm : ∀ a, M' a → M a) {vs : List V} {ds : List PyData} (r : RepL K M H vs ds) : RepL K M' H vs ds := r.mono (fun a o _ e => e) fun a z => .inl (hm a z)
theorem RepL.length : ∀ {vs : List V} {ds : List PyData}, RepL K M H vs ds → vs.length = ds.length
  | _, _, .nil => rfl
  | _, _, .cons _ t => congrArg (· + 1) (RepL.length t)
theorem RepL.get : ∀ {vs : List V} {ds : List PyData} {i : Nat} {v : V}, RepL K M H vs ds → vs[i]? = some v → ∃ d, ds[i]? = some d ∧ Rep K M H v d
  | _, _, i, v, .nil, e => by simp at e
  | _, _, 0, v, .cons (d := d) r t, e => by
    have e2 := Option.some.inj (show some _ = some v from e)
    subst e2
    exact ⟨d, rfl, r⟩
  | _, _, i + 1, v, .cons r t, e => RepL.get (i := i) t e
theorem RepL.getD : ∀ {vs : List V} {ds : List PyData} {i : Nat} {d : PyData}, RepL K M H vs ds → ds[i]? = some d → ∃ v, vs[i]? = some v ∧ Rep K M H v d
  | _, _, i, d, .nil, e => by simp at e
  | _, _, 0, d, .cons (v := v) r t, e => by
    have e2 := Option.some.inj (show some _ = some d from e)
    subst e2
    exact ⟨v, rfl, r⟩
  | _, _, i + 1, d, .cons r t, e => RepL.getD (i := i) t e
theorem RepL.app : ∀ {vs us : List V} {ds es : List PyData}, RepL K M H vs ds → RepL K M H us es → RepL K M H (vs ++ us) (ds ++ es)
  | _, _, _, _, .nil, s => s
  | _, _, _, _, .cons r t, s => .cons r (RepL.app t s)
theorem RepL.take : ∀ {vs : List V} {ds : List PyData} (n : Nat), RepL K M H vs ds → RepL K M H (vs.take n) (ds.take n)
  | _, _, 0, _ => .nil
  | _, _, _ + 1, .nil => .nil
  | _, _, n + 1, .cons r t => .cons r (RepL.take n t)
theorem RepL.drop : ∀ {vs : List V} {ds : List PyData} (n : Nat), RepL K M H vs ds → RepL K M H (vs.drop n) (ds.drop n)
  | _, _, 0, r => r
  | _, _, _ + 1, .nil => .nil
  | _, _, n + 1, .cons _ t => RepL.drop n t
theorem RepL.mem : ∀ {vs : List V} {ds : List PyData} {d : PyData}, RepL K M H vs ds → d ∈ ds → ∃ v, v ∈ vs ∧ Rep K M H v d
  | _, _, d, .nil, h => by cases h
  | _, _, d, .cons (v := v) r t, h => by
    rcases List.mem_cons.mp h with e | h
    · subst e
      exact ⟨v, List.mem_cons_self, r⟩
    · obtain ⟨u, m, q⟩ := RepL.mem t h
      exact ⟨u, List.mem_cons_of_mem _ m, q⟩
theorem RepL.rev {vs : List V} {ds : List PyData} (r : RepL K M H vs ds) : RepL K M H vs.reverse ds.reverse := by
  induction vs generalizing ds with
  | nil => cases r; exact .nil
  | cons v vs ih =>
    cases r with
    | cons r t =>
      rw [List.reverse_cons, List.reverse_cons]
      exact (ih t).app (.cons r .nil)
/-- data that hold no object -/
def flat : PyData → Bool
  | .none => true
  | .bool _ => true
  | .int _ => true
  | .str _ => true
  | _ => false
def fV : PyData → V
  | .none => .non
  | .bool b => .bl b
  | .int i => .int i
  | .str x => .str x
  | _ => .non
theorem Rep.flatV {v : V} {d : PyData} (r : Rep K M H v d) (f : flat d = true) : v = fV d := by
  cases r with
  | non => rfl
  | bl b => rfl
  | int i => rfl
  | str x => rfl
  | lst _ _ _ => cases f
  | tup _ _ => cases f
  | dct _ _ _ => cases f
theorem rep_flat {d : PyData} (f : flat d = true) : Rep K M H (fV d) d := by
  cases d with
  | none => exact .non
  | bool b => exact .bl b
  | int i => exact .int i
  | str x => exact .str x
  | list _ => cases f
  | tuple _ => cases f
  | dict _ => cases f
theorem Rep.ofFlat {v : V} {d : PyData} (r : Rep K M H v d) (f : flat d = true) : Rep K M' H' v d := by
  have e := r.flatV f
  subst e
  exact rep_flat f
theorem RepL.flatV : ∀ {vs : List V} {ds : List PyData}, RepL K M H vs ds → (∀ d ∈ ds, flat d = true) → vs = ds.map fV
  | _, _, .nil, _ => rfl
  | _, _, .cons r t, f => by
    rw [List.map_cons, ← r.flatV (f _ List.mem_cons_self), ← RepL.flatV t fun d hd => f d (List.mem_cons_of_mem _ hd)]
theorem repL_flat : ∀ {ds : List PyData}, (∀ d ∈ ds, flat d = true) → RepL K M H (ds.map fV) ds
  | [], _ => .nil
  | d :: ds, f => .cons (rep_flat (f d List.mem_cons_self)) (repL_flat fun x hx => f x (List.mem_cons_of_mem _ hx))
theorem Rep.int_inv {v : V} {i : Int} (r : Rep K M H v (.int i)) : v = .int i := r.flatV rfl
theorem Rep.bool_inv {v : V} {b : Bool} (r : Rep K M H v (.bool b)) : v = .bl b := r.flatV rfl
theorem Rep.str_inv {v : V} {x : Str} (r : Rep K M H v (.str x)) : v = .str x := r.flatV rfl
theorem Rep.none_inv {v : V} (r : Rep K M H v .none) : v = .non := r.flatV rfl
theorem Rep.lst_inv {v : V} {ds : List PyData} (r : Rep K M H v (.list ds)) : ∃ a xs, v = .ref a ∧ ¬ M a ∧ H a = some (.lst xs) ∧ RepL K M H xs ds := by
  cases r with
  | lst n e r => exact ⟨_, _, rfl, n, e, r⟩
theorem Rep.tup_inv {v : V} {ds : List PyData} (r : Rep K M H v (.tuple ds)) : ∃ a xs, v = .ref a ∧ TupAt K M H a xs ∧ RepL K M H xs ds := by
  cases r with
  | tup e r => exact ⟨_, _, rfl, e, r⟩
theorem RepL.ints {vs : List V} {ns : List Int} (r : RepL K M H vs (ns.map PyData.int)) : vs = ns.map V.int := by
  have e := r.flatV fun d hd => by
    obtain ⟨n, _, rfl⟩ := List.mem_map.mp hd
    rfl
  rw [e, List.map_map]
  rfl
theorem RepL.bools {vs : List V} {ns : List Bool} (r : RepL K M H vs (ns.map PyData.bool)) : vs = ns.map V.bl := by
  have e := r.flatV fun d hd => by
    obtain ⟨n, _, rfl⟩ := List.mem_map.mp hd
    rfl
  rw [e, List.map_map]
  rfl
theorem repL_ints (ns : List Int) : RepL K M H (ns.map V.int) (ns.map PyData.int) := by
  induction ns with
  | nil => exact .nil
  | cons n ns ih => exact .cons (.int n) ih
end

/-! ### environments -/
/-- a slot holds data, or one value -/
inductive Sl where
  | d (x : PyData)
  | r (v : V)
def SlOk (K : PySem.W.Frag) (M : MS) (H : Hp) : Sl → V → Prop
  | .d x, v => Rep K M H v x
  | .r u, v => v = u
abbrev Gm := List (Option Sl)
def MOk (M : MS) (H : Hp) : Prop := ∀ a, M a → H a ≠ none
structure En (K : PySem.W.Frag) (M : MS) (H : Hp) (σ : L2.St) (G : Gm) : Prop where
  len : σ.length = G.length
  at_ : ∀ (i : Nat) (s : Sl), G[i]? = some (some s) → ∃ v, σ[i]? = some (some v) ∧ SlOk K M H s v
  mok : MOk M H
section
variable {K : PySem.W.Frag} {M M' : MS} {H H' H1 H2 : Hp} {σ : L2.St} {G : Gm}
theorem SlOk.mono {s : Sl} {v : V} (hs : ∀ a o, ¬ M a → H a = some o → H' a = some o) (hm : ∀ a, M' a → M a ∨ H a = none) (h : SlOk K M H s v) : SlOk K M' H' s v := by
  cases s with
  | d x => exact Rep.mono hs hm h
  | r u => exact h
theorem MOk.same (h : MOk M H) (s : Same H H') : MOk M H' := fun a m z => by
  cases q : H a with
  | none => exact h a m q
  | some o => rw [s a o q] at z; cases z
theorem En.same (e : En K M H σ G) (s : Same H H') : En K M H' σ G :=
  ⟨e.len, fun i x hx => by
    obtain ⟨v, h1, h2⟩ := e.at_ i x hx
    exact ⟨v, h1, h2.mono (fun a o _ q => s a o q) fun a z => .inl z⟩, e.mok.same s⟩
theorem En.set (e : En K M H σ G) {s : Sl} {v : V} (h : SlOk K M H s v) (i : Nat) : En K M H (σ.set i (some v)) (G.set i (some s)) := by
  refine ⟨by rw [List.length_set, List.length_set]; exact e.len, fun j x hx => ?_, e.mok⟩
  by_cases hj : j = i
  · subst hj
    by_cases hl : j < G.length
    · rw [List.getElem?_set_self hl] at hx
      have hx2 := Option.some.inj (Option.some.inj hx)
      subst hx2
      exact ⟨v, by rw [List.getElem?_set_self (by rw [e.len]; exact hl)], h⟩
    · rw [List.getElem?_eq_none (by rw [List.length_set]; omega)] at hx
      cases hx
  · rw [List.getElem?_set_ne (Ne.symm hj)] at hx
    obtain ⟨u, h1, h2⟩ := e.at_ j x hx
    exact ⟨u, by rw [List.getElem?_set_ne (Ne.symm hj)]; exact h1, h2⟩
/-- a slot read in another way -/
theorem En.view (e : En K M H σ G) {s : Sl} {v : V} {i : Nat} (hi : G[i]? = some (some (.r v))) (h : SlOk K M H s v) : En K M H σ (G.set i (some s)) := by
  refine ⟨by rw [List.length_set]; exact e.len, fun j x hx => ?_, e.mok⟩
  by_cases hj : j = i
  · subst hj
    have hl : j < G.length := (List.getElem?_eq_some_iff.mp hi).1
    rw [List.getElem?_set_self hl] at hx
    have hx2 := Option.some.inj (Option.some.inj hx)
    subst hx2
    obtain ⟨u, h1, h2⟩ := e.at_ j _ hi
    have h3 : u = v := h2
    subst h3
    exact ⟨u, h1, h⟩
  · rw [List.getElem?_set_ne (Ne.symm hj)] at hx
    exact e.at_ j x hx
theorem En.less (e : En K M H σ G) (hm : ∀ a, M' a → M a) : En K M' H σ G :=
  ⟨e.len, fun i x hx => by
    obtain ⟨v, h1, h2⟩ := e.at_ i x hx
    exact ⟨v, h1, h2.mono (fun a o _ q => q) fun a z => .inl (hm a z)⟩, fun a z => e.mok a (hm a z)⟩
/-- slots forgotten -/
def wipeG (G : Gm) : List Nat → Gm
  | [] => G
  | v :: vs => (wipeG G vs).set v none
theorem wipeG_len (G : Gm) : ∀ vs, (wipeG G vs).length = G.length
  | [] => rfl
  | v :: vs => by unfold wipeG; rw [List.length_set, wipeG_len G vs]
theorem En.wipe (e : En K M H σ G) : ∀ vs : List Nat, En K M H (L2.wipe σ vs) (wipeG G vs)
  | [] => e
  | v :: vs => by
    have ih := En.wipe e vs
    unfold L2.wipe wipeG
    refine ⟨by rw [List.length_set, List.length_set]; exact ih.len, fun j x hx => ?_, ih.mok⟩
    by_cases hj : j = v
    · subst hj
      by_cases hl : j < (wipeG G vs).length
      · rw [List.getElem?_set_self hl] at hx
        cases hx
      · rw [List.getElem?_eq_none (by rw [List.length_set]; omega)] at hx
        cases hx
    · rw [List.getElem?_set_ne (Ne.symm hj)] at hx
      obtain ⟨u, h1, h2⟩ := ih.at_ j x hx
      exact ⟨u, by rw [List.getElem?_set_ne (Ne.symm hj)]; exact h1, h2⟩
/-- a fresh object -/
theorem same_new {p : Addr} {o : HO} (h : H p = none) : Same H (upd H p o) := fun a u e => by
  rw [upd_ne (ne_of_none e h)]
  exact e
theorem MOk.fresh (h : MOk M H) {p : Addr} (n : H p = none) : ¬ M p := fun z => h p z n
theorem rep_newT {p : Addr} {xs : List V} {ds : List PyData} (h : MOk M H) (n : H p = none) (r : RepL K M H xs ds) : Rep K M (upd H p (.tup xs)) (.ref p) (.tuple ds) :=
  .tup (.inl ⟨h.fresh n, upd_same⟩) (r.same (same_new n))
theorem rep_newL {p : Addr} {xs : List V} {ds : List PyData} (h : MOk M H) (n : H p = none) (r : RepL K M H xs ds) : Rep K M (upd H p (.lst xs)) (.ref p) (.list ds) :=
  .lst (h.fresh n) upd_same (r.same (same_new n))
end

/-! ### what evaluates to what, at a state; under an environment -/
def At (K : PySem.W.Frag) (M : MS) (te : TE) (σ : L2.St) (H : Hp) (d : PyData) : Prop := ∀ Q : VK, (∀ v H2, Same H H2 → Rep K M H2 v d → Q v H2) → te σ H Q
def AtT (tt : TT) (σ : L2.St) (H : Hp) (b : Bool) : Prop := ∀ Q : Bool → Hp → Prop, (∀ H2, Same H H2 → Q b H2) → tt σ H Q
def AtA (K : PySem.W.Frag) (M : MS) (ta : TA) (σ : L2.St) (H : Hp) (ds : List PyData) : Prop := ∀ Q : List V → Hp → Prop, (∀ vs H2, Same H H2 → RepL K M H2 vs ds → Q vs H2) → ta σ H Q
def Ev (K : PySem.W.Frag) (te : TE) (G : Gm) (d : PyData) : Prop := ∀ M σ H, En K M H σ G → At K M te σ H d
def EvT (K : PySem.W.Frag) (tt : TT) (G : Gm) (b : Bool) : Prop := ∀ M σ H, En K M H σ G → AtT tt σ H b
def EvA (K : PySem.W.Frag) (ta : TA) (G : Gm) (ds : List PyData) : Prop := ∀ M σ H, En K M H σ G → AtA K M ta σ H ds
def EvO (K : PySem.W.Frag) (to : TO) (G : Gm) (o : Option Int) : Prop := ∀ M σ H, En K M H σ G → ∀ Q : Option Int → Hp → Prop, (∀ H2, Same H H2 → Q o H2) → to σ H Q
/-- an operator by data -/
def RV (K : PySem.W.Frag) (r : R2) (x y z : PyData) : Prop := ∀ M H v u, MOk M H → Rep K M H v x → Rep K M H u y → ∀ Q : VK, (∀ w H2, Same H H2 → Rep K M H2 w z → Q w H2) → r v u H Q
/-- a call by data -/
def RC (K : PySem.W.Frag) (r : List V → Hp → VK → Prop) (ds : List PyData) (z : PyData) : Prop := ∀ M H vs, MOk M H → RepL K M H vs ds → ∀ Q : VK, (∀ w H2, Same H H2 → Rep K M H2 w z → Q w H2) → r vs H Q
/-- a promise by data -/
def FnD (K : PySem.W.Frag) (sp : Sp) (ds : List PyData) (z : PyData) : Prop := ∀ M H vs, MOk M H → RepL K M H vs ds → ∀ (Q : VK) (E : XK), (∀ w H2, Same H H2 → Rep K M H2 w z → Q w H2) → sp vs H Q E
/-- the promise of a def that changes nothing: f tells the answer -/
def PSp (K : PySem.W.Frag) (f : List PyData → PyData → Prop) : Sp := fun vs H Q _ => ∃ (M : MS) (ds : List PyData) (d : PyData), MOk M H ∧ RepL K M H vs ds ∧ f ds d ∧ ∀ w H2, Same H H2 → Rep K M H2 w d → Q w H2
section
variable {K : PySem.W.Frag} {M : MS} {H H2 : Hp} {σ : L2.St} {G G2 : Gm} {te ta tb tc tx : TE} {t u : TT} {d x y z : PyData} {r : R2} {as : TA} {ds : List PyData} {b c : Bool}
theorem Ev.at (h : Ev K te G d) (e : En K M H σ G) : At K M te σ H d := h M σ H e
theorem EvT.at (h : EvT K t G b) (e : En K M H σ G) : AtT t σ H b := h M σ H e
theorem EvA.at (h : EvA K as G ds) (e : En K M H σ G) : AtA K M as σ H ds := h M σ H e
theorem ev_is {w : PyData} (h : Ev K te G d) (e : d = w) : Ev K te G w := e ▸ h
theorem et_is {c : Bool} (h : EvT K t G b) (e : b = c) : EvT K t G c := e ▸ h
theorem ev_var {i : Nat} (h : G[i]? = some (some (.d d))) : Ev K (tVar i) G d := fun M σ H e Q q => by
  obtain ⟨v, h1, h2⟩ := e.at_ i _ h
  exact ⟨v, h1, q v H (Same.refl H) h2⟩
theorem ev_c {v : V} (h : flat d = true) (e : v = fV d) : Ev K (tC v) G d := fun M σ H _ Q q => by
  subst e
  exact q _ H (Same.refl H) (rep_flat h)
theorem ev_int {i : Int} : Ev K (tC (.int i)) G (.int i) := ev_c rfl rfl
theorem ev_str {s : Str} : Ev K (tC (.str s)) G (.str s) := ev_c rfl rfl
theorem ev_bl {b : Bool} : Ev K (tC (.bl b)) G (.bool b) := ev_c rfl rfl
theorem ev_non : Ev K (tC .non) G .none := ev_c rfl rfl
/-- a tuple that stands in the written part -/
theorem ev_ktup {a : Addr} {xs : List V} {ds : List PyData} (h : KTup K a xs) (e : xs = ds.map fV) (f : ∀ d ∈ ds, flat d = true) : Ev K (tC (.ref a)) G (.tuple ds) := fun M σ H _ Q q => by
  subst e
  exact q _ H (Same.refl H) (.tup (.inr h) (repL_flat f))
theorem ev_op (ha : Ev K ta G x) (hb : Ev K tb G y) (hr : RV K r x y z) : Ev K (tOp r ta tb) G z := fun M σ H e Q q =>
  ha M σ H e _ fun v H1 s1 r1 => hb M σ H1 (e.same s1) _ fun u H2 s2 r2 => hr M H2 v u (e.mok.same (s1.trans s2)) (r1.same s2) r2 Q fun w H3 s3 r3 => q w H3 ((s1.trans s2).trans s3) r3
theorem ev_cb {r : List V → Hp → VK → Prop} (h : EvA K as G ds) (hr : RC K r ds z) : Ev K (tCB r as) G z := fun M σ H e Q q =>
  h M σ H e _ fun vs H1 s1 r1 => hr M H1 vs (e.mok.same s1) r1 Q fun w H2 s2 r2 => q w H2 (s1.trans s2) r2
theorem ev_call {sp : Sp} {E : XK} (h : EvA K as G ds) (hf : FnD K sp ds z) : Ev K (tCall sp [] E as) G z := fun M σ H e Q q =>
  h M σ H e _ fun vs H1 s1 r1 => by
    show sp (vs ++ []) H1 Q E
    rw [List.append_nil]
    exact hf M H1 vs (e.mok.same s1) r1 Q E fun w H2 s2 r2 => q w H2 (s1.trans s2) r2
theorem fnD {f : List PyData → PyData → Prop} (h : f ds z) : FnD K (PSp K f) ds z := fun M H vs m r Q _ q => ⟨M, ds, z, m, r, h, q⟩
theorem ea_nil : EvA K tNil G [] := fun M σ H e Q q => q [] H (Same.refl H) .nil
theorem ea_cons {tr : TA} (h : Ev K te G d) (hr : EvA K tr G ds) : EvA K (tCons te tr) G (d :: ds) := fun M σ H e Q q =>
  h M σ H e _ fun v H1 s1 r1 => hr M σ H1 (e.same s1) _ fun vs H2 s2 r2 => q _ H2 (s1.trans s2) (.cons (r1.same s2) r2)
theorem ev_tup (h : EvA K as G ds) (hl : ds.length ≤ 1000) : Ev K (tTup as) G (.tuple ds) := fun M σ H e Q q =>
  h M σ H e _ fun vs H1 s1 r1 => ⟨Nat.le_of_lt (small1000 (by rw [r1.length]; exact hl)), fun p hp => q _ _ (s1.trans (same_new hp)) (rep_newT (e.mok.same s1) hp r1)⟩
theorem ev_lst (h : EvA K as G ds) (hl : ds.length ≤ 1000) : Ev K (tLst as) G (.list ds) := fun M σ H e Q q =>
  h M σ H e _ fun vs H1 s1 r1 => ⟨Nat.le_of_lt (small1000 (by rw [r1.length]; exact hl)), fun p hp => q _ _ (s1.trans (same_new hp)) (rep_newL (e.mok.same s1) hp r1)⟩
/-! tests -/
theorem et_test (h : Ev K te G (.bool b)) : EvT K (tTest te) G b := fun M σ H e Q q => h M σ H e _ fun v H1 s1 r1 => ⟨b, r1.bool_inv, q H1 s1⟩
theorem et_B (h : Ev K te G (.bool b)) : EvT K (tB te) G b := fun M σ H e Q q => h M σ H e _ fun v H1 s1 r1 => ⟨b, r1.bool_inv, q H1 s1⟩
theorem et_and (h1 : EvT K t G b) (h2 : b = true → EvT K u G c) : EvT K (tAnd t u) G (b && c) := fun M σ H e Q q => h1 M σ H e _ fun H1 s1 => by
  cases b with
  | true =>
    show u σ H1 Q
    exact h2 rfl M σ H1 (e.same s1) Q fun H2 s2 => q H2 (s1.trans s2)
  | false => exact q H1 s1
theorem et_or (h1 : EvT K t G b) (h2 : b = false → EvT K u G c) : EvT K (tOr t u) G (b || c) := fun M σ H e Q q => h1 M σ H e _ fun H1 s1 => by
  cases b with
  | true => exact q H1 s1
  | false =>
    show u σ H1 Q
    exact h2 rfl M σ H1 (e.same s1) Q fun H2 s2 => q H2 (s1.trans s2)
theorem et_not (h : EvT K t G b) : EvT K (tNot t) G (!b) := fun M σ H e Q q => h M σ H e _ fun H1 s1 => q H1 s1
theorem ev_andV (h1 : Ev K ta G (.bool b)) (h2 : b = true → Ev K tb G (.bool c)) : Ev K (tAndV ta tb) G (.bool (b && c)) := fun M σ H e Q q => h1 M σ H e _ fun v H1 s1 r1 => ⟨b, r1.bool_inv, by
  cases b with
  | true =>
    show tb σ H1 Q
    exact h2 rfl M σ H1 (e.same s1) Q fun w H2 s2 r2 => q w H2 (s1.trans s2) r2
  | false => exact q _ H1 s1 (.bl false)⟩
theorem ev_orV (h1 : Ev K ta G (.bool b)) (h2 : b = false → Ev K tb G (.bool c)) : Ev K (tOrV ta tb) G (.bool (b || c)) := fun M σ H e Q q => h1 M σ H e _ fun v H1 s1 r1 => ⟨b, r1.bool_inv, by
  cases b with
  | true => exact q _ H1 s1 (.bl true)
  | false =>
    show tb σ H1 Q
    exact h2 rfl M σ H1 (e.same s1) Q fun w H2 s2 r2 => q w H2 (s1.trans s2) r2⟩
theorem ev_notV (h : Ev K ta G (.bool b)) : Ev K (tNotV ta) G (.bool (!b)) := fun M σ H e Q q => h M σ H e _ fun v H1 s1 r1 => ⟨b, r1.bool_inv, q _ H1 s1 (.bl _)⟩
theorem ev_if (h : EvT K t G b) (h1 : b = true → Ev K ta G d) (h2 : b = false → Ev K tb G d) : Ev K (tIf t ta tb) G d := fun M σ H e Q q => h M σ H e _ fun H1 s1 => by
  cases b with
  | true =>
    show ta σ H1 Q
    exact h1 rfl M σ H1 (e.same s1) Q fun w H2 s2 r2 => q w H2 (s1.trans s2) r2
  | false =>
    show tb σ H1 Q
    exact h2 rfl M σ H1 (e.same s1) Q fun w H2 s2 r2 => q w H2 (s1.trans s2) r2
end
end Tb
set_option Elab.async false
set_option linter.all false
set_option maxRecDepth 100000
set_option maxHeartbeats 4000000
/-! ## The data layer: the operators, the calls of what is built in, slices, what is walked, comprehensions -/
namespace Tb
open PySem PySem.Spec PyProof.Rows L2
section
variable {K : PySem.W.Frag} {M : MS} {H H2 : Hp} {σ : L2.St} {G G2 : Gm} {te ta tb tc tx : TE} {t u : TT} {d x y z : PyData} {r : R2} {as : TA} {ds es : List PyData} {b c : Bool}
/-! ### operators -/
theorem rv_I0 {g : Int → Int → V} {i j : Int} (f : flat z = true) (e : g i j = fV z) : RV K (rI0 g) (.int i) (.int j) z := fun M H v u m r1 r2 Q q =>
  ⟨i, j, r1.int_inv, r2.int_inv, by rw [e]; exact q _ H (Same.refl H) (rep_flat f)⟩
theorem rv_I {C : Int → Int → Prop} {g : Int → Int → V} {i j : Int} (hc : C i j) (f : flat z = true) (e : g i j = fV z) : RV K (rI C g) (.int i) (.int j) z := fun M H v u m r1 r2 Q q =>
  ⟨i, j, r1.int_inv, r2.int_inv, hc, by rw [e]; exact q _ H (Same.refl H) (rep_flat f)⟩
theorem rv_add {i j : Int} : RV K (rI0 fun i j => .int (i + j)) (.int i) (.int j) (.int (i + j)) := rv_I0 rfl rfl
theorem rv_sub {i j : Int} : RV K (rI0 fun i j => .int (i - j)) (.int i) (.int j) (.int (i - j)) := rv_I0 rfl rfl
theorem rv_lt {i j : Int} : RV K (rI0 fun i j => .bl (decide (i < j))) (.int i) (.int j) (.bool (decide (i < j))) := rv_I0 rfl rfl
theorem rv_le {i j : Int} : RV K (rI0 fun i j => .bl (decide (i ≤ j))) (.int i) (.int j) (.bool (decide (i ≤ j))) := rv_I0 rfl rfl
theorem rv_gt {i j : Int} : RV K (rI0 fun i j => .bl (decide (j < i))) (.int i) (.int j) (.bool (decide (j < i))) := rv_I0 rfl rfl
theorem rv_ge {i j : Int} : RV K (rI0 fun i j => .bl (decide (j ≤ i))) (.int i) (.int j) (.bool (decide (j ≤ i))) := rv_I0 rfl rfl
theorem rv_eqF (fx : flat x = true) (fy : flat y = true) (s : scal (fV x) (fV y) = true) (e : decide (fV x = fV y) = b) : RV K rEq x y (.bool b) := fun M H v u m r1 r2 Q q => by
  rw [r1.flatV fx, r2.flatV fy]
  exact ⟨s, by rw [e]; exact q _ H (Same.refl H) (.bl b)⟩
theorem rv_neF (fx : flat x = true) (fy : flat y = true) (s : scal (fV x) (fV y) = true) (e : (!decide (fV x = fV y)) = b) : RV K rNe x y (.bool b) := fun M H v u m r1 r2 Q q => by
  rw [r1.flatV fx, r2.flatV fy]
  exact ⟨s, by rw [e]; exact q _ H (Same.refl H) (.bl b)⟩
theorem dec_vint {i j : Int} : decide (V.int i = V.int j) = decide (i = j) := by
  by_cases h : i = j
  · subst h
    rw [decide_eq_true rfl, decide_eq_true rfl]
  · rw [decide_eq_false h, decide_eq_false fun e => h (V.int.inj e)]
theorem dec_vstr {i j : Str} : decide (V.str i = V.str j) = decide (i = j) := by
  by_cases h : i = j
  · subst h
    rw [decide_eq_true rfl, decide_eq_true rfl]
  · rw [decide_eq_false h, decide_eq_false fun e => h (V.str.inj e)]
theorem dec_vbl {i j : Bool} : decide (V.bl i = V.bl j) = decide (i = j) := by
  by_cases h : i = j
  · subst h
    rw [decide_eq_true rfl, decide_eq_true rfl]
  · rw [decide_eq_false h, decide_eq_false fun e => h (V.bl.inj e)]
theorem rv_eqI {i j : Int} : RV K rEq (.int i) (.int j) (.bool (decide (i = j))) := rv_eqF rfl rfl rfl dec_vint
theorem rv_neI {i j : Int} : RV K rNe (.int i) (.int j) (.bool (!decide (i = j))) := rv_neF rfl rfl rfl (congrArg _ dec_vint)
theorem rv_eqS {i j : Str} : RV K rEq (.str i) (.str j) (.bool (decide (i = j))) := rv_eqF rfl rfl rfl dec_vstr
theorem rv_neS {i j : Str} : RV K rNe (.str i) (.str j) (.bool (!decide (i = j))) := rv_neF rfl rfl rfl (congrArg _ dec_vstr)
theorem rv_eqB {i j : Bool} : RV K rEq (.bool i) (.bool j) (.bool (decide (i = j))) := rv_eqF rfl rfl rfl dec_vbl
/-- is None -/
def isNon : PyData → Bool
  | .none => true
  | _ => false
theorem Rep.non_iff {v : V} {d : PyData} (r : Rep K M H v d) : decide (v = .non) = isNon d := by
  cases r with
  | non => rfl
  | bl b => rfl
  | int i => rfl
  | str x => rfl
  | lst _ _ _ => rfl
  | tup _ _ => rfl
  | dct _ _ _ => rfl
theorem rv_isN : RV K (fun x y H Q => y = .non ∧ Q (.bl (decide (x = .non))) H) x .none (.bool (isNon x)) := fun M H v u m r1 r2 Q q =>
  ⟨r2.none_inv, by rw [r1.non_iff]; exact q _ H (Same.refl H) (.bl _)⟩
theorem rv_notN : RV K (fun x y H Q => y = .non ∧ Q (.bl (!decide (x = .non))) H) x .none (.bool (!isNon x)) := fun M H v u m r1 r2 Q q =>
  ⟨r2.none_inv, by rw [r1.non_iff]; exact q _ H (Same.refl H) (.bl _)⟩
theorem rv_notB {i j : Bool} : RV K rNotB (.bool i) (.bool j) (.bool (!decide (i = j))) := fun M H v u m r1 r2 Q q =>
  ⟨i, j, r1.bool_inv, r2.bool_inv, q _ H (Same.refl H) (.bl _)⟩
/-- in, not in -/
theorem flat_V {x : PyData} (f : flat x = true) : L2.flatV (fV x) = true := by
  cases x <;> first | rfl | cases f
theorem inL_rep {v : V} {xs : List V} (r1 : Rep K M H v x) (r2 : RepL K M H xs ds) (fx : flat x = true) (fs : ∀ d ∈ ds, flat d = true) : L2.flatV v = true ∧ xs.all L2.flatV = true ∧ inV v xs = inV (fV x) (ds.map fV) := by
  rw [r1.flatV fx, r2.flatV fs]
  refine ⟨flat_V fx, ?_, rfl⟩
  rw [List.all_eq_true]
  intro w hw
  obtain ⟨d, hd, rfl⟩ := List.mem_map.mp hw
  exact flat_V (fs d hd)
theorem rv_inL {neg : Bool} (fx : flat x = true) (fs : ∀ d ∈ ds, flat d = true) (e : (if neg then !inV (fV x) (ds.map fV) else inV (fV x) (ds.map fV)) = b) : RV K (rIn K neg) x (.list ds) (.bool b) := fun M H v u m r1 r2 Q q => by
  obtain ⟨a, xs, rfl, n, ha, rs⟩ := r2.lst_inv
  obtain ⟨f1, f2, f3⟩ := inL_rep r1 rs fx fs
  refine ⟨a, xs, rfl, .inl (.inl (.inl ha)), f1, f2, ?_⟩
  rw [f3, e]
  exact q _ H (Same.refl H) (.bl b)
theorem rv_inT {neg : Bool} (fx : flat x = true) (fs : ∀ d ∈ ds, flat d = true) (e : (if neg then !inV (fV x) (ds.map fV) else inV (fV x) (ds.map fV)) = b) : RV K (rIn K neg) x (.tuple ds) (.bool b) := fun M H v u m r1 r2 Q q => by
  obtain ⟨a, xs, rfl, ha, rs⟩ := r2.tup_inv
  obtain ⟨f1, f2, f3⟩ := inL_rep r1 rs fx fs
  refine ⟨a, xs, rfl, .inr ha.seq, f1, f2, ?_⟩
  rw [f3, e]
  exact q _ H (Same.refl H) (.bl b)
theorem inV_ints (i : Int) (ns : List Int) : inV (.int i) (ns.map V.int) = decide (i ∈ ns) := by
  induction ns with
  | nil => rfl
  | cons n ns ih =>
    have e : inV (.int i) ((n :: ns).map V.int) = ((n == i) || inV (.int i) (ns.map V.int)) := rfl
    rw [e, ih, Bool.eq_iff_iff]
    simp only [Bool.or_eq_true, beq_iff_eq, decide_eq_true_eq, List.mem_cons]
    exact or_congr eq_comm Iff.rfl
theorem inV_strs (i : Str) (ns : List Str) : inV (.str i) (ns.map V.str) = decide (i ∈ ns) := by
  induction ns with
  | nil => rfl
  | cons n ns ih =>
    have e : inV (.str i) ((n :: ns).map V.str) = ((n == i) || inV (.str i) (ns.map V.str)) := rfl
    rw [e, ih, Bool.eq_iff_iff]
    simp only [Bool.or_eq_true, beq_iff_eq, decide_eq_true_eq, List.mem_cons]
    exact or_congr eq_comm Iff.rfl
theorem flat_ints {ns : List Int} : ∀ d ∈ ns.map PyData.int, flat d = true := fun d hd => by
  obtain ⟨n, _, rfl⟩ := List.mem_map.mp hd
  rfl
theorem flat_strs {ns : List Str} : ∀ d ∈ ns.map PyData.str, flat d = true := fun d hd => by
  obtain ⟨n, _, rfl⟩ := List.mem_map.mp hd
  rfl
theorem map_ints (ns : List Int) : (ns.map PyData.int).map fV = ns.map V.int := by
  rw [List.map_map]
  rfl
theorem map_strs (ns : List Str) : (ns.map PyData.str).map fV = ns.map V.str := by
  rw [List.map_map]
  rfl
theorem rv_inIL {i : Int} {ns : List Int} : RV K (rIn K false) (.int i) (.list (ns.map .int)) (.bool (decide (i ∈ ns))) := rv_inL rfl flat_ints (by rw [map_ints]; exact inV_ints i ns)
theorem rv_niIL {i : Int} {ns : List Int} : RV K (rIn K true) (.int i) (.list (ns.map .int)) (.bool (!decide (i ∈ ns))) := rv_inL rfl flat_ints (by rw [map_ints]; show (!inV (V.int i) (ns.map V.int)) = _; rw [inV_ints])
theorem rv_inIT {i : Int} {ns : List Int} : RV K (rIn K false) (.int i) (.tuple (ns.map .int)) (.bool (decide (i ∈ ns))) := rv_inT rfl flat_ints (by rw [map_ints]; exact inV_ints i ns)
theorem rv_niIT {i : Int} {ns : List Int} : RV K (rIn K true) (.int i) (.tuple (ns.map .int)) (.bool (!decide (i ∈ ns))) := rv_inT rfl flat_ints (by rw [map_ints]; show (!inV (V.int i) (ns.map V.int)) = _; rw [inV_ints])
theorem rv_inSL {i : Str} {ns : List Str} : RV K (rIn K false) (.str i) (.list (ns.map .str)) (.bool (decide (i ∈ ns))) := rv_inL rfl flat_strs (by rw [map_strs]; exact inV_strs i ns)
theorem rv_niSL {i : Str} {ns : List Str} : RV K (rIn K true) (.str i) (.list (ns.map .str)) (.bool (!decide (i ∈ ns))) := rv_inL rfl flat_strs (by rw [map_strs]; show (!inV (V.str i) (ns.map V.str)) = _; rw [inV_strs])
theorem rv_inST {i : Str} {ns : List Str} : RV K (rIn K false) (.str i) (.tuple (ns.map .str)) (.bool (decide (i ∈ ns))) := rv_inT rfl flat_strs (by rw [map_strs]; exact inV_strs i ns)
theorem rv_niST {i : Str} {ns : List Str} : RV K (rIn K true) (.str i) (.tuple (ns.map .str)) (.bool (!decide (i ∈ ns))) := rv_inT rfl flat_strs (by rw [map_strs]; show (!inV (V.str i) (ns.map V.str)) = _; rw [inV_strs])
/-- items -/
theorem atI_rep {xs : List V} {i : Int} (r : RepL K M H xs ds) (h : atI ds i = some d) : ∃ v, atI xs i = some v ∧ Rep K M H v d := by
  have e : xs.length = ds.length := r.length
  unfold atI at h ⊢
  rw [e]
  cases q : ixN ds.length i with
  | none => rw [q] at h; cases h
  | some j =>
    rw [q] at h
    exact r.getD h
theorem rv_ixT {i : Int} (h : atI ds i = some d) : RV K (rIx K) (.tuple ds) (.int i) d := fun M H v u m r1 r2 Q q => by
  obtain ⟨a, xs, rfl, ha, rs⟩ := r1.tup_inv
  obtain ⟨w, h1, h2⟩ := atI_rep rs h
  exact .inr (.inl ⟨a, xs, i, w, rfl, r2.int_inv, ha.seq, h1, q w H (Same.refl H) h2⟩)
theorem rv_ixL {i : Int} (h : atI ds i = some d) : RV K (rIx K) (.list ds) (.int i) d := fun M H v u m r1 r2 Q q => by
  obtain ⟨a, xs, rfl, n, ha, rs⟩ := r1.lst_inv
  obtain ⟨w, h1, h2⟩ := atI_rep rs h
  exact .inl ⟨a, xs, i, w, rfl, r2.int_inv, .inl (.inl ha), h1, q w H (Same.refl H) h2⟩
/-- xs + ys -/
theorem rv_cat (hz : ds.length + es.length ≤ 100000) : RV K rCat (.list ds) (.list es) (.list (ds ++ es)) := fun M H v u m r1 r2 Q q => by
  obtain ⟨a, xs, rfl, n, ha, rs⟩ := r1.lst_inv
  obtain ⟨c, ys, rfl, n2, hc, rs2⟩ := r2.lst_inv
  refine ⟨a, c, xs, ys, rfl, rfl, ha, hc, ?_, fun p hp => q _ _ (same_new hp) (rep_newL m hp (rs.app rs2))⟩
  rw [rs.length, rs2.length]
  exact Nat.le_trans hz (by decide)
theorem rv_catA (hz : ds.length + es.length ≤ 100000) : RV K (rCatA K) (.tuple ds) (.tuple es) (.tuple (ds ++ es)) := fun M H v u m r1 r2 Q q => by
  obtain ⟨a, xs, rfl, ha, rs⟩ := r1.tup_inv
  obtain ⟨c, ys, rfl, hc, rs2⟩ := r2.tup_inv
  refine ⟨a, c, xs, ys, rfl, rfl, ha.seq, hc.seq, ?_, fun e => ?_, fun _ e => ?_, fun _ _ p hp => q _ _ (same_new hp) (rep_newT m hp (rs.app rs2))⟩
  · rw [rs.length, rs2.length]
    exact Nat.le_trans hz (by decide)
  · subst e
    cases rs
    exact q _ H (Same.refl H) r2
  · subst e
    cases rs2
    refine q _ H (Same.refl H) ?_
    rw [List.append_nil]
    exact r1
/-! == of data -/
mutual
def noDict : PyData → Bool
  | .none => true
  | .bool _ => true
  | .int _ => true
  | .str _ => true
  | .list ds => noDictL ds
  | .tuple ds => noDictL ds
  | .dict _ => false
def noDictL : List PyData → Bool
  | [] => true
  | d :: ds => noDict d && noDictL ds
end
mutual
theorem Rep.dp : ∀ {v : V} {d : PyData}, Rep K M H v d → noDict d = true → Dp K H v d
  | _, _, .non, _ => .non
  | _, _, .bl b, _ => .bl b
  | _, _, .int i, _ => .int i
  | _, _, .str x, _ => .str x
  | _, _, .lst n e r, f => .lst (.inl (.inl e)) (RepL.dp r (by simpa only [noDict] using f))
  | _, _, .tup e r, f => .tup e.seq (RepL.dp r (by simpa only [noDict] using f))
  | _, _, .dct es n e, f => by simp only [noDict] at f; cases f
theorem RepL.dp : ∀ {vs : List V} {ds : List PyData}, RepL K M H vs ds → noDictL ds = true → DpAll K H vs ds
  | _, _, .nil, _ => .nil
  | _, _, .cons r t, f => by
    simp only [noDictL, Bool.and_eq_true] at f
    exact .cons (Rep.dp r f.1) (RepL.dp t f.2)
end
theorem rv_eqD (nx : noDict x = true) (ny : noDict y = true) (sx : SeqAt.shaped x = true) (sy : SeqAt.shaped y = true) (e : PyData.eqv x y = b) : RV K (rEqD K) x y (.bool b) := fun M H v u m r1 r2 Q q =>
  ⟨x, y, r1.dp nx, r2.dp ny, sx, sy, by rw [e]; exact q _ H (Same.refl H) (.bl b)⟩
theorem rv_neD (nx : noDict x = true) (ny : noDict y = true) (sx : SeqAt.shaped x = true) (sy : SeqAt.shaped y = true) (e : (!PyData.eqv x y) = b) : RV K (rNeD K) x y (.bool b) := fun M H v u m r1 r2 Q q =>
  ⟨x, y, r1.dp nx, r2.dp ny, sx, sy, by rw [e]; exact q _ H (Same.refl H) (.bl b)⟩

/-! ### calls of what is built in -/
theorem rc_lenT : RC K (fun xs H Q => ∃ p ys, xs = [.ref p] ∧ (SqL K H p ys ∨ SqT K H p ys) ∧ Q (.int ys.length) H) [.tuple ds] (.int ds.length) := fun M H vs m r Q q => by
  cases r with
  | cons r t =>
    cases t
    obtain ⟨a, xs, rfl, ha, rs⟩ := r.tup_inv
    exact ⟨a, xs, rfl, .inr ha.seq, by rw [rs.length]; exact q _ H (Same.refl H) (.int _)⟩
theorem rc_lenL : RC K (fun xs H Q => ∃ p ys, xs = [.ref p] ∧ (SqL K H p ys ∨ SqT K H p ys) ∧ Q (.int ys.length) H) [.list ds] (.int ds.length) := fun M H vs m r Q q => by
  cases r with
  | cons r t =>
    cases t
    obtain ⟨a, xs, rfl, n, ha, rs⟩ := r.lst_inv
    exact ⟨a, xs, rfl, .inl (.inl (.inl ha)), by rw [rs.length]; exact q _ H (Same.refl H) (.int _)⟩
theorem rc_listT : RC K (fun xs H Q => ∃ p ys, xs = [.ref p] ∧ (SqL K H p ys ∨ SqT K H p ys) ∧ ∀ l, H l = none → Q (.ref l) (upd H l (.lst ys))) [.tuple ds] (.list ds) := fun M H vs m r Q q => by
  cases r with
  | cons r t =>
    cases t
    obtain ⟨a, xs, rfl, ha, rs⟩ := r.tup_inv
    exact ⟨a, xs, rfl, .inr ha.seq, fun l hl => q _ _ (same_new hl) (rep_newL m hl rs)⟩
theorem rc_listL : RC K (fun xs H Q => ∃ p ys, xs = [.ref p] ∧ (SqL K H p ys ∨ SqT K H p ys) ∧ ∀ l, H l = none → Q (.ref l) (upd H l (.lst ys))) [.list ds] (.list ds) := fun M H vs m r Q q => by
  cases r with
  | cons r t =>
    cases t
    obtain ⟨a, xs, rfl, n, ha, rs⟩ := r.lst_inv
    exact ⟨a, xs, rfl, .inl (.inl (.inl ha)), fun l hl => q _ _ (same_new hl) (rep_newL m hl rs)⟩
theorem rc_tupL : RC K (fun xs H Q => ∃ p ys, xs = [.ref p] ∧ ((SqL K H p ys ∧ ∀ l, H l = none → Q (.ref l) (upd H l (.tup ys))) ∨ (SqT K H p ys ∧ Q (.ref p) H))) [.list ds] (.tuple ds) := fun M H vs m r Q q => by
  cases r with
  | cons r t =>
    cases t
    obtain ⟨a, xs, rfl, n, ha, rs⟩ := r.lst_inv
    exact ⟨a, xs, rfl, .inl ⟨.inl (.inl ha), fun l hl => q _ _ (same_new hl) (rep_newT m hl rs)⟩⟩
theorem rc_tupT : RC K (fun xs H Q => ∃ p ys, xs = [.ref p] ∧ ((SqL K H p ys ∧ ∀ l, H l = none → Q (.ref l) (upd H l (.tup ys))) ∨ (SqT K H p ys ∧ Q (.ref p) H))) [.tuple ds] (.tuple ds) := fun M H vs m r Q q => by
  cases r with
  | cons r t =>
    cases t
    obtain ⟨a, xs, rfl, ha, rs⟩ := r.tup_inv
    exact ⟨a, xs, rfl, .inr ⟨ha.seq, q _ H (Same.refl H) r⟩⟩
theorem rc_all {bs : List Bool} (e : bs.all id = b) : RC K (rAll K) [.list (bs.map .bool)] (.bool b) := fun M H vs m r Q q => by
  cases r with
  | cons r t =>
    cases t
    obtain ⟨a, xs, rfl, n, ha, rs⟩ := r.lst_inv
    have e2 := rs.bools
    subst e2
    exact ⟨a, bs, rfl, .inl (.inl ha), by rw [e]; exact q _ H (Same.refl H) (.bl b)⟩
theorem rc_min {ns : List Int} {k : Int} (hn : 0 < ns.length) (hk : ∀ m, m ∈ ns → (∀ y, y ∈ ns → m ≤ y) → m = k) : RC K (rMin K) [.list (ns.map .int)] (.int k) := fun M H vs m r Q q => by
  cases r with
  | cons r t =>
    cases t
    obtain ⟨a, xs, rfl, n, ha, rs⟩ := r.lst_inv
    have e2 := rs.ints
    subst e2
    exact ⟨a, ns, rfl, .inl (.inl ha), hn, fun m h1 h2 => by rw [hk m h1 h2]; exact q _ H (Same.refl H) (.int k)⟩
theorem rc_intI {i : Int} : RC K (fun xs H Q => (∃ i, xs = [.int i] ∧ Q (.int i) H) ∨ ∃ k, xs = [.bl k] ∧ Q (.int (if k then 1 else 0)) H) [.int i] (.int i) := fun M H vs m r Q q => by
  cases r with
  | cons r t =>
    cases t
    exact .inl ⟨i, by rw [r.int_inv], q _ H (Same.refl H) (.int i)⟩
theorem rc_intB {k : Bool} : RC K (fun xs H Q => (∃ i, xs = [.int i] ∧ Q (.int i) H) ∨ ∃ k, xs = [.bl k] ∧ Q (.int (if k then 1 else 0)) H) [.bool k] (.int (if k then 1 else 0)) := fun M H vs m r Q q => by
  cases r with
  | cons r t =>
    cases t
    exact .inr ⟨k, by rw [r.bool_inv], q _ H (Same.refl H) (.int _)⟩
theorem rc_abs {i : Int} : RC K (fun xs H Q => ∃ i, xs = [.int i] ∧ Q (.int (if i < 0 then -i else i)) H) [.int i] (.int (if i < 0 then -i else i)) := fun M H vs m r Q q => by
  cases r with
  | cons r t =>
    cases t
    exact ⟨i, by rw [r.int_inv], q _ H (Same.refl H) (.int _)⟩
/-- isinstance -/
def tyD : PyData → String
  | .none => "NoneType"
  | .bool _ => "bool"
  | .int _ => "int"
  | .str _ => "str"
  | .list _ => "list"
  | .tuple _ => "tuple"
  | .dict _ => "dict"
theorem Rep.ty {v : V} (r : Rep K M H v d) : TyX K H v (.type (tyD d)) := by
  cases r with
  | non => exact .base .non
  | bl b => exact .base (.bl b)
  | int i => exact .base (.int i)
  | str x => exact .base (.str x)
  | lst _ e _ => exact .base (.lst e)
  | tup e _ =>
    rcases e with ⟨_, e⟩ | ⟨o, its, n, e, c, _⟩
    · exact .base (.tup e)
    · exact .kTuple e c
  | dct _ _ e => exact .base (.dT e)
theorem ev_isi {T : String} (h : Ev K te G d) (hk : kitB (tyD d) T = some b) : Ev K (tCB (rIsi K) (tCons te (tCons (tC (.ty T)) tNil))) G (.bool b) := fun M σ H e Q q =>
  h M σ H e _ fun v H1 s1 r1 => ⟨v, .ty T, _, .type T, b, rfl, .ty T, r1.ty, kit_ty hk, q _ H1 s1 (.bl b)⟩
/-! ### slices of tuples, truth -/
theorem eo_none : EvO K tNoPart G none := fun M σ H e Q q => q H (Same.refl H)
theorem eo_some {i : Int} (h : Ev K te G (.int i)) : EvO K (tPart te) G (some i) := fun M σ H e Q q => h M σ H e _ fun v H1 s1 r1 => ⟨i, r1.int_inv, q H1 s1⟩
/-- the items of xs[lo:hi], any items -/
def cutD {α : Type} (xs : List α) (lo hi : Option Int) : List α := (xs.drop (HT.sIx xs.length 0 lo)).take (HT.sIx xs.length xs.length hi - HT.sIx xs.length 0 lo)
theorem ev_slT {tl th : TO} {lo hi : Option Int} (h : Ev K te G (.tuple ds)) (h1 : EvO K tl G lo) (h2 : EvO K th G hi) : Ev K (tSl (rSlA K) te tl th) G (.tuple (cutD ds lo hi)) := fun M σ H e Q q =>
  h M σ H e _ fun v H1 s1 r1 => h1 M σ H1 (e.same s1) _ fun H2 s2 => h2 M σ H2 (e.same (s1.trans s2)) _ fun H3 s3 => by
    have s := (s1.trans s2).trans s3
    obtain ⟨a, xs, rfl, ha, rs⟩ := (r1.same (s2.trans s3)).tup_inv
    have el := rs.length
    refine ⟨a, xs, rfl, ha.seq, fun z => ?_, fun _ p hp => ?_⟩
    · refine q _ H3 s (.tup ha ?_)
      have e0 : cutD ds lo hi = ds := by
        unfold cutD
        rw [← el, z.1, z.2, List.drop_zero, Nat.sub_zero, el, List.take_length]
      rw [e0]
      exact rs
    · refine q _ _ (s.trans (same_new hp)) (rep_newT (e.mok.same s) hp ?_)
      unfold cutV cutD
      rw [← el]
      exact (rs.drop _).take _
def truD : PyData → Bool
  | .none => false
  | .bool b => b
  | .int i => i != 0
  | .list ds => !ds.isEmpty
  | .tuple ds => !ds.isEmpty
  | _ => false
def truOk : PyData → Bool
  | .str _ => false
  | .dict _ => false
  | _ => true
theorem RepL.empty {vs : List V} (r : RepL K M H vs ds) : vs.isEmpty = ds.isEmpty := by
  cases r <;> rfl
theorem Rep.tru {v : V} (r : Rep K M H v d) (o : truOk d = true) : TruV K v H (truD d) := by
  cases r with
  | non => exact rfl
  | bl b => exact rfl
  | int i => exact rfl
  | str x => cases o
  | lst _ e t => exact .inl ⟨_, .inl (.inl e), by rw [t.empty]; rfl⟩
  | tup e t => exact .inr (.inl ⟨_, e.seq, by rw [t.empty]; rfl⟩)
  | dct _ _ _ => cases o
theorem et_tru (h : Ev K te G d) (o : truOk d = true) (e : truD d = b) : EvT K (fun σ H Q => te σ H fun x H' => ∃ k, TruV K x H' k ∧ Q k H') G b := fun M σ H en Q q =>
  h M σ H en _ fun v H1 s1 r1 => ⟨truD d, r1.tru o, by rw [e]; exact q H1 s1⟩
/-- a < b < c -/
theorem ev_chain {r' : R2} {w : PyData} (ha : Ev K ta G x) (hb : Ev K tb G y) (hc : Ev K tc G w) (h1 : RV K r x y (.bool b)) (h2 : RV K r' y w (.bool c)) : Ev K (tChain r r' ta tb tc) G (.bool (b && c)) := fun M σ H e Q q =>
  ha M σ H e _ fun v1 H1 s1 r1 => hb M σ H1 (e.same s1) _ fun v2 H2 s2 r2 => h1 M H2 v1 v2 (e.mok.same (s1.trans s2)) (r1.same s2) r2 _ fun w3 H3 s3 r3 => ⟨b, r3.bool_inv, by
    have s := (s1.trans s2).trans s3
    cases b with
    | true =>
      show tc σ H3 _
      exact hc M σ H3 (e.same s) _ fun v4 H4 s4 r4 => h2 M H4 v2 v4 (e.mok.same (s.trans s4)) ((r2.same s3).same s4) r4 _ fun w5 H5 s5 r5 => q w5 H5 ((s.trans s4).trans s5) r5
    | false => exact q _ H3 s (.bl false)⟩
theorem et_chain {r' : R2} {w : PyData} (ha : Ev K ta G x) (hb : Ev K tb G y) (hc : Ev K tc G w) (h1 : RV K r x y (.bool b)) (h2 : RV K r' y w (.bool c)) : EvT K (tB (tChain r r' ta tb tc)) G (b && c) := et_B (ev_chain ha hb hc h1 h2)
/-! ### ranges as lists, as tuples -/
def rgD (n : Nat) : List PyData := (List.range n).map fun i => .int (i : Nat)
theorem repL_rg (n : Nat) : RepL K M H (rgV 0 n) (rgD n) := by
  have e : rgV 0 n = (rgD n).map fV := by
    unfold rgV rgD
    rw [List.map_map]
    have e1 : ((n : Int) - 0).toNat = n := by omega
    rw [e1]
    refine List.map_congr_left fun i _ => ?_
    show V.int (0 + (i : Nat)) = V.int (i : Nat)
    rw [Int.zero_add]
  rw [e]
  refine repL_flat fun d hd => ?_
  obtain ⟨i, _, rfl⟩ := List.mem_map.mp hd
  rfl
theorem ev_listRg {n : Nat} (h : Ev K te G (.int n)) (hn : n ≤ 100000) : Ev K (tLstRg (tRg1 te)) G (.list (rgD n)) := fun M σ H e Q q =>
  h M σ H e _ fun v H1 s1 r1 => ⟨n, r1.int_inv, .of_le (Int.le_refl 0) (by omega) (by decide) (by omega), fun p hp => q _ _ (s1.trans (same_new hp)) (rep_newL (e.mok.same s1) hp (repL_rg n))⟩
theorem ev_tupRg {n : Nat} (h : Ev K te G (.int n)) (hn : n ≤ 100000) : Ev K (tTupRg (tRg1 te)) G (.tuple (rgD n)) := fun M σ H e Q q =>
  h M σ H e _ fun v H1 s1 r1 => ⟨n, r1.int_inv, .of_le (Int.le_refl 0) (by omega) (by decide) (by omega), fun p hp => q _ _ (s1.trans (same_new hp)) (rep_newT (e.mok.same s1) hp (repL_rg n))⟩
end
end Tb
set_option Elab.async false
set_option linter.all false
set_option maxRecDepth 100000
set_option maxHeartbeats 4000000
/-! ## The data layer: what is walked, targets, comprehensions, statements -/
namespace Tb
open PySem PySem.Spec PyProof.Rows L2
section
variable {K : PySem.W.Frag} {M M' : MS} {H H2 H' : Hp} {σ : L2.St} {G G2 : Gm}
theorem En.mono (e : En K M H σ G) (hs : ∀ a o, ¬ M a → H a = some o → H' a = some o) (hm : ∀ a, M' a → M a ∨ H a = none) (mo : MOk M' H') : En K M' H' σ G :=
  ⟨e.len, fun i x hx => by
    obtain ⟨v, h1, h2⟩ := e.at_ i x hx
    exact ⟨v, h1, h2.mono hs hm⟩, mo⟩
/-! ### wiped slots -/
theorem wipe_set_out {x : Option V} {i : Nat} : ∀ {vs : List Nat} {σ : L2.St}, i ∉ vs → L2.wipe (σ.set i x) vs = (L2.wipe σ vs).set i x
  | [], _, _ => rfl
  | v :: r, σ, h => by
    have h1 : i ≠ v := fun e => h (e ▸ List.mem_cons_self)
    have h2 : i ∉ r := fun e => h (List.mem_cons_of_mem _ e)
    show (L2.wipe (σ.set i x) r).set v none = ((L2.wipe σ r).set v none).set i x
    rw [wipe_set_out h2, List.set_comm _ _ h1]
theorem wipe_set_in {x : Option V} {i : Nat} : ∀ {vs : List Nat} {σ : L2.St}, i ∈ vs → L2.wipe (σ.set i x) vs = L2.wipe σ vs
  | [], _, h => by cases h
  | v :: r, σ, h => by
    show (L2.wipe (σ.set i x) r).set v none = (L2.wipe σ r).set v none
    by_cases hr : i ∈ r
    · rw [wipe_set_in hr]
    · have e : i = v := by
        rcases List.mem_cons.mp h with e | e
        · exact e
        · exact absurd e hr
      subst e
      rw [wipe_set_out hr, List.set_set]
theorem wipe_wipe : ∀ {vs : List Nat} {σ : L2.St}, L2.wipe (L2.wipe σ vs) vs = L2.wipe σ vs
  | [], _ => rfl
  | v :: r, σ => by
    show L2.wipe ((L2.wipe σ r).set v none) (v :: r) = (L2.wipe σ r).set v none
    rw [wipe_set_in List.mem_cons_self]
    show (L2.wipe (L2.wipe σ r) r).set v none = (L2.wipe σ r).set v none
    rw [wipe_wipe]
end

/-! ### what is walked -/
structure JOk (K : PySem.W.Frag) (J : It) (ds : List PyData) (E : List (V × PyData)) : Prop where
  go : ∀ (M : MS) (H : Hp) (i : Nat), (∀ p ∈ E, Rep K M H p.1 p.2) → i < ds.length → J.go i H
  yld : ∀ (M : MS) (H : Hp) (i : Nat) (x : V) (H' : Hp), MOk M H → (∀ p ∈ E, Rep K M H p.1 p.2) → i < ds.length → J.yld i H x H' → Same H H' ∧ ∃ d, ds[i]? = some d ∧ Rep K M H' x d
  stop : ∀ (M : MS) (H : Hp), (∀ p ∈ E, Rep K M H p.1 p.2) → J.stop ds.length H
def AtI (K : PySem.W.Frag) (M : MS) (wi : TI) (σ : L2.St) (H : Hp) (ds : List PyData) : Prop :=
  ∀ R : It → Hp → Prop, (∀ J H2 E, Same H H2 → (∀ p ∈ E, Rep K M H2 p.1 p.2) → JOk K J ds E → R J H2) → wi σ H R
def EvI (K : PySem.W.Frag) (wi : TI) (G : Gm) (ds : List PyData) : Prop := ∀ M σ H, En K M H σ G → AtI K M wi σ H ds
/-- a target takes d: the environment behind it; is: the slots that it sets -/
def GEv (K : PySem.W.Frag) (g : TG) (G : Gm) (d : PyData) (is : List Nat) (G' : Gm) : Prop :=
  ∀ (M : MS) (σ : L2.St) (H : Hp) (v : V) (Q : L2.St → Hp → Prop), En K M H σ G → Rep K M H v d → (∀ σ', En K M H σ' G' → (∀ vs : List Nat, (∀ i ∈ is, i ∈ vs) → L2.wipe σ' vs = L2.wipe σ vs) → Q σ' H) → g v σ H Q
def GsEv (K : PySem.W.Frag) (g : TGs) (G : Gm) (ds : List PyData) (is : List Nat) (G' : Gm) : Prop :=
  ∀ (M : MS) (σ : L2.St) (H : Hp) (vs : List V) (Q : L2.St → Hp → Prop), En K M H σ G → RepL K M H vs ds → (∀ σ', En K M H σ' G' → (∀ vs : List Nat, (∀ i ∈ is, i ∈ vs) → L2.wipe σ' vs = L2.wipe σ vs) → Q σ' H) → g vs σ H Q
section
variable {K : PySem.W.Frag} {M : MS} {H H2 : Hp} {σ : L2.St} {G G1 G2 : Gm} {te : TE} {d : PyData} {as : TA} {ds es : List PyData} {g : TG} {gs : TGs} {is js : List Nat}
theorem ei_list (h : Ev K te G (.list ds)) : EvI K (iList K te) G ds := fun M σ H e R q =>
  h M σ H e _ fun v H1 s1 r1 => by
    obtain ⟨a, xs, rfl, n, ha, rs⟩ := r1.lst_inv
    refine ⟨a, rfl, ⟨xs, .inl (.inl ha)⟩, q (Itl K a) H1 [(.ref a, .list ds)] s1 (fun p hp => ?_) ⟨fun M2 H2 i hr hi => ?_, fun M2 H2 i x H3 mo hr hi hy => ?_, fun M2 H2 hr => ?_⟩⟩
    · rw [List.mem_singleton.mp hp]
      exact .lst n ha rs
    · obtain ⟨a2, ys, e2, _, hb, rs2⟩ := (hr _ List.mem_cons_self).lst_inv
      cases e2
      have hl : i < ys.length := by rw [rs2.length]; exact hi
      exact ⟨ys, ys[i], .inl (.inl hb), List.getElem?_eq_getElem hl⟩
    · obtain ⟨a2, ys, e2, _, hb, rs2⟩ := (hr _ List.mem_cons_self).lst_inv
      cases e2
      obtain ⟨rfl, f⟩ := hy
      obtain ⟨d, h1, h2⟩ := rs2.get (f ys (.inl (.inl hb)))
      exact ⟨Same.refl _, d, h1, h2⟩
    · obtain ⟨a2, ys, e2, _, hb, rs2⟩ := (hr _ List.mem_cons_self).lst_inv
      cases e2
      exact ⟨ys, .inl (.inl hb), Nat.le_of_eq rs2.length⟩
theorem ei_tup (h : Ev K te G (.tuple ds)) : EvI K (iTup K te) G ds := fun M σ H e R q =>
  h M σ H e _ fun v H1 s1 r1 => by
    obtain ⟨a, xs, rfl, ha, rs⟩ := r1.tup_inv
    refine ⟨a, rfl, ⟨xs, ha.seq⟩, q (Itt K a) H1 [(.ref a, .tuple ds)] s1 (fun p hp => ?_) ⟨fun M2 H2 i hr hi => ?_, fun M2 H2 i x H3 mo hr hi hy => ?_, fun M2 H2 hr => ?_⟩⟩
    · rw [List.mem_singleton.mp hp]
      exact .tup ha rs
    · obtain ⟨a2, ys, e2, hb, rs2⟩ := (hr _ List.mem_cons_self).tup_inv
      cases e2
      have hl : i < ys.length := by rw [rs2.length]; exact hi
      exact ⟨ys, ys[i], hb.seq, List.getElem?_eq_getElem hl⟩
    · obtain ⟨a2, ys, e2, hb, rs2⟩ := (hr _ List.mem_cons_self).tup_inv
      cases e2
      obtain ⟨rfl, f⟩ := hy
      obtain ⟨d, h1, h2⟩ := rs2.get (f ys hb.seq)
      exact ⟨Same.refl _, d, h1, h2⟩
    · obtain ⟨a2, ys, e2, hb, rs2⟩ := (hr _ List.mem_cons_self).tup_inv
      cases e2
      exact ⟨ys, hb.seq, Nat.le_of_eq rs2.length⟩
theorem rgD_len (n : Nat) : (rgD n).length = n := by
  unfold rgD
  rw [List.length_map, List.length_range]
theorem rgD_get {n i : Nat} (h : i < n) : (rgD n)[i]? = some (.int (i : Nat)) := by
  unfold rgD
  rw [List.getElem?_map, List.getElem?_range h]
  rfl
theorem ei_rng {n : Nat} (h : EvA K as G [.int n]) (hn : n ≤ 100000) : EvI K (iRng1 as) G (rgD n) := fun M σ H e R q =>
  h M σ H e _ fun vs H1 s1 r1 => by
    cases r1 with
    | cons r t =>
      cases t
      have e1 := r.int_inv
      subst e1
      refine ⟨n, rfl, by omega, by omega, q _ H1 [] s1 (fun p hp => by cases hp) ⟨fun M2 H2 i _ hi => ?_, fun M2 H2 i x H3 mo _ hi hy => ?_, fun M2 H2 _ => ?_⟩⟩
      · rw [rgD_len] at hi
        show i < (n : Int).toNat
        omega
      · obtain ⟨rfl, rfl⟩ := hy
        rw [rgD_len] at hi
        refine ⟨Same.refl _, .int (i : Nat), rgD_get hi, ?_⟩
        rw [Int.zero_add]
        exact .int _
      · show (n : Int).toNat ≤ (rgD n).length
        rw [rgD_len]
        omega
theorem zw_get {α β γ : Type} {f : α → β → γ} {xs : List α} {ys : List β} {i : Nat} {x : α} {y : β} (h1 : xs[i]? = some x) (h2 : ys[i]? = some y) : (List.zipWith f xs ys)[i]? = some (f x y) := by
  rw [List.getElem?_zipWith, h1, h2]
/-- zip of two tuples -/
theorem ei_zipT (h : EvA K as G [.tuple ds, .tuple es]) : EvI K (RZ.iZipA K as) G (List.zipWith (fun a b => .tuple [a, b]) ds es) := fun M σ H e R q =>
  h M σ H e _ fun vs H1 s1 r1 => by
    cases r1 with
    | cons r t =>
      cases t with
      | cons r' t =>
        cases t
        obtain ⟨a, xs, rfl, ha, rs⟩ := r.tup_inv
        obtain ⟨b, ys, rfl, hb, rs2⟩ := r'.tup_inv
        refine ⟨a, b, xs, ys, rfl, .inr ⟨ha.seq, hb.seq, q (RZ.ItzT K a b) H1 [(.ref a, .tuple ds), (.ref b, .tuple es)] s1 (fun p hp => ?_) ⟨fun M2 H2 i hr hi => ?_, fun M2 H2 i x H3 mo hr hi hy => ?_, fun M2 H2 hr => ?_⟩⟩⟩
        · rcases List.mem_cons.mp hp with e | hp
          · rw [e]
            exact .tup ha rs
          · rw [List.mem_singleton.mp hp]
            exact .tup hb rs2
        · obtain ⟨a2, ys1, e2, hb1, rs1⟩ := (hr _ List.mem_cons_self).tup_inv
          cases e2
          obtain ⟨a3, ys3, e3, hb3, rs3⟩ := (hr _ (List.mem_cons_of_mem _ List.mem_cons_self)).tup_inv
          cases e3
          rw [List.length_zipWith] at hi
          have l1 : i < ys1.length := by rw [rs1.length]; omega
          have l3 : i < ys3.length := by rw [rs3.length]; omega
          exact ⟨ys1, ys3, ys1[i], ys3[i], hb1.seq, hb3.seq, List.getElem?_eq_getElem l1, List.getElem?_eq_getElem l3⟩
        · obtain ⟨a2, ys1, e2, hb1, rs1⟩ := (hr _ List.mem_cons_self).tup_inv
          cases e2
          obtain ⟨a3, ys3, e3, hb3, rs3⟩ := (hr _ (List.mem_cons_of_mem _ List.mem_cons_self)).tup_inv
          cases e3
          obtain ⟨T, u, w, rfl, nT, rfl, f1, f2⟩ := hy
          obtain ⟨d1, h1, g1⟩ := rs1.get (f1 _ hb1.seq)
          obtain ⟨d2, h2, g2⟩ := rs3.get (f2 _ hb3.seq)
          exact ⟨same_new nT, _, zw_get h1 h2, rep_newT mo nT (.cons g1 (.cons g2 .nil))⟩
        · obtain ⟨a2, ys1, e2, hb1, rs1⟩ := (hr _ List.mem_cons_self).tup_inv
          cases e2
          obtain ⟨a3, ys3, e3, hb3, rs3⟩ := (hr _ (List.mem_cons_of_mem _ List.mem_cons_self)).tup_inv
          cases e3
          refine ⟨ys1, ys3, hb1.seq, hb3.seq, ?_⟩
          rw [List.length_zipWith, rs1.length, rs3.length]
          omega
/-! ### targets -/
theorem g_name {i : Nat} : GEv K (gName i) G d [i] (G.set i (some (.d d))) := fun M σ H v Q e r q =>
  q _ (e.set (s := .d d) r i) fun vs h => wipe_set_in (h i List.mem_cons_self)
theorem gs_nil : GsEv K gNil G [] [] G := fun M σ H vs Q e r q => by
  cases r
  exact ⟨rfl, q σ e fun _ _ => rfl⟩
theorem gs_cons (h1 : GEv K g G d is G1) (h2 : GsEv K gs G1 ds js G2) : GsEv K (gCons g gs) G (d :: ds) (is ++ js) G2 := fun M σ H vs Q e r q => by
  cases r with
  | cons r t =>
    refine ⟨_, _, rfl, h1 M σ H _ _ e r fun σ1 e1 w1 => h2 M σ1 H _ Q e1 t fun σ2 e2 w2 => q σ2 e2 fun vs hv => ?_⟩
    rw [w2 vs fun i hi => hv i (List.mem_append_right _ hi), w1 vs fun i hi => hv i (List.mem_append_left _ hi)]
theorem g_tup {n : Nat} (h : GsEv K gs G ds is G2) (hn : ds.length = n) : GEv K (gTup K n gs) G (.tuple ds) is G2 := fun M σ H v Q e r q => by
  obtain ⟨a, xs, rfl, ha, rs⟩ := r.tup_inv
  exact ⟨a, xs, rfl, ha.seq, rs.length.trans hn, h M σ H xs Q e rs q⟩
/-! ### comprehensions -/
theorem et_yes : EvT K tYes G true := fun M σ H e Q q => q H (Same.refl H)
theorem ev_lc {α : Type} {wi : TI} {tt : TT} {vs : List Nat} (xs : List α) (enc : α → PyData) (p : α → Bool) (f : α → PyData) (hi : EvI K wi G (xs.map enc)) (hv : ∀ i ∈ is, i ∈ vs)
    (hb : ∀ x, x ∈ xs → ∃ G', GEv K g (wipeG G vs) (enc x) is G' ∧ EvT K tt G' (p x) ∧ (p x = true → Ev K te G' (f x))) (hl : xs.length ≤ 100000) : Ev K (tLc wi g tt te vs) G (.list ((xs.filter p).map f)) := fun M σ H e Q q =>
  hi M σ H e _ fun J H1 E s1 hE hJ D hD => by
    have mo1 : MOk M H1 := e.mok.same s1
    have nD : H D = none := s1.free hD
    have key : ∀ {H' : Hp}, Same H1 H' → (∃ acc, H' D = some (.lst acc)) → MOk (fun a => M a ∨ a = D) H' := fun {H'} s hD' a ha z => by
      rcases ha with ha | ha
      · exact mo1.same s a ha z
      · obtain ⟨acc, h⟩ := hD'
        rw [ha, h] at z
        cases z
    have e1 : En K M H1 σ G := e.same s1
    have low : ∀ {H' : Hp}, Same H1 H' → ∀ {v : V} {d : PyData}, Rep K M H1 v d → Rep K (fun a => M a ∨ a = D) H' v d := fun {H'} s {v d} r =>
      r.mono (fun a o _ h => s a o h) fun a ha => ha.elim .inl fun h => .inr (h ▸ hD)
    refine ⟨fun i m H' => m = xs.length - i ∧ i ≤ xs.length ∧ Same H1 H' ∧ ∃ acc, H' D = some (.lst acc) ∧ RepL K (fun a => M a ∨ a = D) H' acc (((xs.take i).filter p).map f), ⟨xs.length, rfl, Nat.zero_le _, same_new hD, [], upd_same, .nil⟩, ?_⟩
    rintro i m H' ⟨rfl, hi, s2, acc, hacc, racc⟩
    have hE2 : ∀ p ∈ E, Rep K (fun a => M a ∨ a = D) H' p.1 p.2 := fun p hp => low s2 (hE p hp)
    by_cases hlt : i < xs.length
    · have hlt2 : i < (xs.map enc).length := by rw [List.length_map]; exact hlt
      refine .inr ⟨hJ.go _ _ i hE2 hlt2, fun H3 => Same H1 H3 ∧ ∃ acc, H3 D = some (.lst acc) ∧ RepL K (fun a => M a ∨ a = D) H3 acc (((xs.take (i + 1)).filter p).map f), fun H3 h3 => ⟨xs.length - (i + 1), by omega, rfl, hlt, h3⟩, fun x H3 hy => ?_⟩
      obtain ⟨s3, d, hd, rd⟩ := hJ.yld _ _ i x H3 (key s2 ⟨acc, hacc⟩) hE2 hlt2 hy
      rw [List.getElem?_map, List.getElem?_eq_getElem hlt] at hd
      have hd2 : enc xs[i] = d := Option.some.inj hd
      subst hd2
      obtain ⟨G', hg, ht, he⟩ := hb xs[i] (List.getElem_mem hlt)
      have hD3 : H3 D = some (.lst acc) := s3 _ _ hacc
      have eW : En K (fun a => M a ∨ a = D) H3 (L2.wipe σ vs) (wipeG G vs) := (e1.mono (fun a o _ h => (s2.trans s3) a o h) (fun a ha => ha.elim .inl fun h => .inr (h ▸ hD)) (key (s2.trans s3) ⟨acc, hD3⟩)).wipe vs
      refine hg _ _ _ _ _ eW rd fun σ2 e2 w2 => ⟨by rw [w2 vs hv, wipe_wipe], ?_⟩
      refine ht _ _ _ e2 _ fun H4 s4 => ?_
      have tk : xs.take (i + 1) = xs.take i ++ [xs[i]] := by rw [List.take_add_one, List.getElem?_eq_getElem hlt]; rfl
      have hD4 : H4 D = some (.lst acc) := s4 _ _ hD3
      cases hp : p xs[i] with
      | false =>
        show Same H1 H4 ∧ _
        refine ⟨(s2.trans s3).trans s4, acc, hD4, ?_⟩
        rw [tk, List.filter_append, List.map_append]
        have e0 : ([xs[i]].filter p) = [] := by rw [List.filter_cons, hp]; rfl
        rw [e0, List.map_nil, List.append_nil]
        exact racc.same (s3.trans s4)
      | true =>
        show te σ2 H4 _
        refine he hp _ _ _ (e2.same s4) _ fun y H5 s5 r5 => ?_
        have hD5 : H5 D = some (.lst acc) := s5 _ _ hD4
        have sAll : Same H1 H5 := ((s2.trans s3).trans s4).trans s5
        have hlen : acc.length ≤ 100000 := by
          have h1 := racc.length
          rw [List.length_map] at h1
          have h2 : ((xs.take i).filter p).length ≤ (xs.take i).length := List.length_filter_le _ _
          rw [List.length_take] at h2
          omega
        refine ⟨acc, hD5, Nat.lt_of_le_of_lt hlen (by decide), fun a o ha => ?_, acc ++ [y], upd_same, ?_⟩
        · rw [upd_ne (ne_of_none ha hD)]
          exact sAll a o ha
        · have up : ∀ a o, ¬ (M a ∨ a = D) → H5 a = some o → upd H5 D (.lst (acc ++ [y])) a = some o := fun a o na h => by
            rw [upd_ne fun z => na (.inr z)]
            exact h
          rw [tk, List.filter_append, List.map_append]
          have e0 : ([xs[i]].filter p) = [xs[i]] := by rw [List.filter_cons, hp]; rfl
          rw [e0]
          exact ((racc.same ((s3.trans s4).trans s5)).app (.cons r5 .nil)).mono up fun a ha => .inl ha
    · have e0 : i = xs.length := by omega
      subst e0
      refine .inl ⟨?_, ?_⟩
      · have := hJ.stop _ _ hE2
        rw [List.length_map] at this
        exact this
      · rw [List.take_length] at racc
        exact q _ _ (s1.trans s2) (.lst (e.mok.fresh nD) hacc (racc.less fun a ha => .inl ha))
/-- without a test -/
theorem ev_lc1 {α : Type} {wi : TI} {vs : List Nat} (xs : List α) (enc : α → PyData) (f : α → PyData) (hi : EvI K wi G (xs.map enc)) (hv : ∀ i ∈ is, i ∈ vs)
    (hb : ∀ x, x ∈ xs → ∃ G', GEv K g (wipeG G vs) (enc x) is G' ∧ Ev K te G' (f x)) (hl : xs.length ≤ 100000) : Ev K (tLc wi g tYes te vs) G (.list (xs.map f)) := by
  have h := ev_lc (K := K) (te := te) (tt := tYes) xs enc (fun _ => true) f hi hv (fun x hx => by
    obtain ⟨G', h1, h2⟩ := hb x hx
    exact ⟨G', h1, et_yes, fun _ => h2⟩) hl
  rw [List.filter_eq_self.mpr fun _ _ => rfl] at h
  exact h
end

/-! ### statements -/
inductive OD where
  | lst (ds : List PyData)
  | raw (o : HO)
def ODOk (K : PySem.W.Frag) (M : MS) (H : Hp) (a : Addr) : OD → Prop
  | .lst ds => ∃ xs, H a = some (.lst xs) ∧ RepL K M H xs ds
  | .raw o => H a = some o
abbrev Ow := List (Addr × OD)
def MM (M0 : MS) (O : Ow) : MS := fun a => M0 a ∨ a ∈ O.map (·.1)
/-- the state of a def's body: M0: what the caller's data stay away from; W: what of the caller's may be changed; H0: the heap at the entry; O: what is owned here; E: further data -/
structure S (K : PySem.W.Frag) (M0 W : MS) (H0 : Hp) (O : Ow) (G : Gm) (E : List (V × PyData)) (σ : L2.St) (H : Hp) : Prop where
  en : En K (MM M0 O) H σ G
  mo : MOk M0 H0
  sm : ∀ a o, ¬ W a → H0 a = some o → H a = some o
  ow : ∀ p ∈ O, (W p.1 ∨ H0 p.1 = none) ∧ ODOk K (MM M0 O) H p.1 p.2
  nd : (O.map (·.1)).Nodup
  wo : ∀ a, W a → a ∈ O.map (·.1)
  ex : ∀ p ∈ E, Rep K (MM M0 O) H p.1 p.2
section
variable {K : PySem.W.Frag} {M0 W M1 : MS} {H0 H H2 : Hp} {O : Ow} {σ : L2.St} {G G1 G2 : Gm} {E : List (V × PyData)} {te : TE} {tt : TT} {d : PyData} {ds es : List PyData} {D : Ends} {ta tb : TS} {b : Bool} {i : Nat} {a p : Addr}
theorem ODOk.same {x : OD} {M : MS} (h : ODOk K M H a x) (s : Same H H2) : ODOk K M H2 a x := by
  cases x with
  | lst ds =>
    obtain ⟨xs, h1, h2⟩ := h
    exact ⟨xs, s _ _ h1, h2.same s⟩
  | raw o => exact s _ _ h
theorem ODOk.there {x : OD} {M : MS} (h : ODOk K M H a x) : H a ≠ none := by
  cases x with
  | lst ds =>
    obtain ⟨xs, h1, h2⟩ := h
    rw [h1]
    exact fun z => nomatch z
  | raw o =>
    have h1 : H a = some o := h
    rw [h1]
    exact fun z => nomatch z
theorem S.same (C : S K M0 W H0 O G E σ H) (s : Same H H2) : S K M0 W H0 O G E σ H2 :=
  ⟨C.en.same s, C.mo, fun a o w e => s a o (C.sm a o w e), fun p hp => ⟨(C.ow p hp).1, (C.ow p hp).2.same s⟩, C.nd, C.wo, fun p hp => (C.ex p hp).same s⟩
theorem S.set {s : Sl} {v : V} (C : S K M0 W H0 O G E σ H) (h : SlOk K (MM M0 O) H s v) (i : Nat) : S K M0 W H0 O (G.set i (some s)) E (σ.set i (some v)) H :=
  ⟨C.en.set h i, C.mo, C.sm, C.ow, C.nd, C.wo, C.ex⟩
theorem S.env (C : S K M0 W H0 O G E σ H) {σ' : L2.St} {G' : Gm} (e : En K (MM M0 O) H σ' G') : S K M0 W H0 O G' E σ' H := ⟨e, C.mo, C.sm, C.ow, C.nd, C.wo, C.ex⟩
theorem S.exs (C : S K M0 W H0 O G E σ H) {E' : List (V × PyData)} (e : ∀ p ∈ E', Rep K (MM M0 O) H p.1 p.2) : S K M0 W H0 O G E' σ H := ⟨C.en, C.mo, C.sm, C.ow, C.nd, C.wo, e⟩
theorem S.start (m : MOk M0 H) (e : En K M0 H σ G) : S K M0 (fun _ => False) H [] G [] σ H := by
  have e1 : ∀ a, MM M0 [] a → M0 a := fun a h => h.elim id fun z => by cases z
  exact ⟨e.less e1, m, fun _ _ _ h => h, (fun p hp => by cases hp), List.nodup_nil, fun a z => z.elim, fun p hp => by cases hp⟩
theorem mm_low (a : Addr) (h : M0 a) : MM M0 O a := .inl h
/-- the environment as the caller's data see it, an owned list read as data -/
theorem S.low (C : S K M0 W H0 O G E σ H) : En K M0 H σ G := C.en.less fun a h => .inl h
theorem S.free (C : S K M0 W H0 O G E σ H) {x : OD} (h : (a, x) ∈ O) (nW : ¬ W a) : ¬ M0 a := fun z => by
  rcases (C.ow _ h).1 with w | w
  · exact nW w
  · exact C.mo a z w
theorem S.rdL (C : S K M0 W H0 O G E σ H) (h : (a, .lst ds) ∈ O) (nW : ¬ W a) : Rep K M0 H (.ref a) (.list ds) := by
  obtain ⟨xs, h1, h2⟩ := (C.ow _ h).2
  exact .lst (C.free h nW) h1 (h2.less fun a h => .inl h)
/-- .. with the owned list in slot i told -/
theorem S.view (C : S K M0 W H0 O G E σ H) (hi : G[i]? = some (some (.r (.ref a)))) (h : (a, .lst ds) ∈ O) (nW : ¬ W a) : En K M0 H σ (G.set i (some (.d (.list ds)))) :=
  C.low.view hi (C.rdL h nW)
theorem s_seq (h : ta { D with nx := tb D } σ H) : tSeq ta tb D σ H := h
theorem s_next (h : D.nx σ H) : tNext D σ H := h
theorem s_set (C : S K M0 W H0 O G E σ H) (h : At K (MM M0 O) te σ H d) (k : ∀ σ' H', S K M0 W H0 O (G.set i (some (.d d))) E σ' H' → D.nx σ' H') : tAsg te (gName i) D σ H :=
  h _ fun v H2 s r => k _ _ ((C.same s).set (s := .d d) r i)
/-- a flat value, read through a view -/
theorem s_setF (C : S K M0 W H0 O G E σ H) (h : At K M1 te σ H d) (f : flat d = true) (k : ∀ σ' H', S K M0 W H0 O (G.set i (some (.d d))) E σ' H' → D.nx σ' H') : tAsg te (gName i) D σ H :=
  h _ fun v H2 s r => k _ _ ((C.same s).set (show SlOk K (MM M0 O) H2 (.d d) v from r.ofFlat f) i)
theorem s_asg {g : TG} {is : List Nat} (C : S K M0 W H0 O G E σ H) (h : At K (MM M0 O) te σ H d) (hg : GEv K g G d is G1) (k : ∀ σ' H', S K M0 W H0 O G1 E σ' H' → D.nx σ' H') : tAsg te g D σ H :=
  h _ fun v H2 s r => hg _ _ _ _ _ (C.same s).en r fun σ' e w => k _ _ ((C.same s).env e)
theorem s_ret (C : S K M0 W H0 O G E σ H) (hM : ∀ a, M0 a → M1 a) (h : At K M1 te σ H d) (k : ∀ v H', Same H H' → S K M0 W H0 O G E σ H' → Rep K M0 H' v d → D.rt v H') : tRet te D σ H :=
  h _ fun v H2 s r => k v H2 s (C.same s) (r.less hM)
theorem s_if (C : S K M0 W H0 O G E σ H) (h : AtT tt σ H b) (h1 : b = true → ∀ H', S K M0 W H0 O G E σ H' → ta D σ H') (h2 : b = false → ∀ H', S K M0 W H0 O G E σ H' → tb D σ H') : tIfS tt ta tb D σ H :=
  h _ fun H' s => by
    cases b with
    | true =>
      show ta D σ H'
      exact h1 rfl H' (C.same s)
    | false =>
      show tb D σ H'
      exact h2 rfl H' (C.same s)
/-- if t: a, with nothing else; the rest behind it -/
theorem s_if1 (C : S K M0 W H0 O G E σ H) (h : AtT tt σ H b) (h1 : b = true → ∀ H', S K M0 W H0 O G E σ H' → ta { D with nx := tb D } σ H') (h2 : b = false → ∀ H', S K M0 W H0 O G E σ H' → tb D σ H') : tSeq (tIfS tt ta tNext) tb D σ H :=
  h _ fun H' s => by
    cases b with
    | true =>
      show ta { D with nx := tb D } σ H'
      exact h1 rfl H' (C.same s)
    | false =>
      show tb D σ H'
      exact h2 rfl H' (C.same s)
theorem S.np (C : S K M0 W H0 O G E σ H) (hp : H p = none) : H0 p = none ∧ p ∉ O.map (·.1) := by
  have no : p ∉ O.map (·.1) := fun z => by
    obtain ⟨q, hq, e⟩ := List.mem_map.mp z
    have t := (C.ow q hq).2.there
    rw [e] at t
    exact t hp
  refine ⟨?_, no⟩
  cases q : H0 p with
  | none => rfl
  | some o =>
    by_cases w : W p
    · exact absurd (C.wo p w) no
    · rw [C.sm p o w q] at hp
      cases hp
/-- what an owned object holds, behind a change of others -/
theorem ODOk.mono {M M' : MS} {x : OD} (hs : ∀ a o, ¬ M a → H a = some o → H2 a = some o) (hm : ∀ a, M' a → M a ∨ H a = none) (h : ODOk K M H a x) (e : ∀ o, H a = some o → H2 a = some o) : ODOk K M' H2 a x := by
  cases x with
  | lst ds =>
    obtain ⟨xs, h1, h2⟩ := h
    exact ⟨xs, e _ h1, h2.mono hs hm⟩
  | raw o => exact e _ h
/-- a new list of one's own, in slot i -/
theorem S.new (C : S K M0 W H0 O G E σ H) (hp : H p = none) {ds : List PyData} {xs : List V} (r : RepL K (MM M0 O) H xs ds) (i : Nat) : S K M0 W H0 ((p, .lst ds) :: O) (G.set i (some (.r (.ref p)))) E (σ.set i (some (.ref p))) (upd H p (.lst xs)) := by
  have s := same_new (o := .lst xs) hp
  have hm : ∀ a, MM M0 ((p, OD.lst ds) :: O) a → MM M0 O a ∨ H a = none := fun a h => by
    rcases h with h | h
    · exact .inl (.inl h)
    · rcases List.mem_cons.mp h with h | h
      · exact .inr (by rw [show a = p from h]; exact hp)
      · exact .inl (.inr h)
  have mo : MOk (MM M0 ((p, OD.lst ds) :: O)) (upd H p (.lst xs)) := fun a h z => by
    by_cases e : a = p
    · rw [e, upd_same] at z
      cases z
    · rw [upd_ne e] at z
      rcases h with h | h
      · exact C.en.mok a (.inl h) z
      · rcases List.mem_cons.mp h with h | h
        · exact e h
        · exact C.en.mok a (.inr h) z
  have hs : ∀ a o, ¬ MM M0 O a → H a = some o → upd H p (.lst xs) a = some o := fun a o _ h => s a o h
  have e1 : En K (MM M0 ((p, OD.lst ds) :: O)) (upd H p (.lst xs)) σ G := C.en.mono hs hm mo
  obtain ⟨np, no⟩ := C.np hp
  refine ⟨e1.set (s := .r (.ref p)) rfl i, C.mo, fun a o w e => s a o (C.sm a o w e), fun q hq => ?_, List.nodup_cons.mpr ⟨no, C.nd⟩, fun a w => List.mem_cons_of_mem _ (C.wo a w), fun q hq => (C.ex q hq).mono hs hm⟩
  rcases List.mem_cons.mp hq with e | hq
  · subst e
    exact ⟨.inr np, xs, upd_same, r.mono hs hm⟩
  · exact ⟨(C.ow q hq).1, (C.ow q hq).2.mono hs hm fun o h => s _ o h⟩
/-- the head of what is owned, a list, is changed -/
theorem S.put {x : OD} (C : S K M0 W H0 ((a, x) :: O) G E σ H) {xs : List V} (r : RepL K (MM M0 ((a, x) :: O)) H xs ds) : S K M0 W H0 ((a, .lst ds) :: O) G E σ (upd H a (.lst xs)) := by
  have hM : ∀ b, MM M0 ((a, OD.lst ds) :: O) b → MM M0 ((a, x) :: O) b := fun b h => h
  have na : ∀ b, ¬ MM M0 ((a, x) :: O) b → b ≠ a := fun b h e => h (.inr (e ▸ List.mem_cons_self))
  have hs : ∀ b o, ¬ MM M0 ((a, x) :: O) b → H b = some o → upd H a (.lst xs) b = some o := fun b o n h => by
    rw [upd_ne (na b n)]
    exact h
  have hm : ∀ b, MM M0 ((a, OD.lst ds) :: O) b → MM M0 ((a, x) :: O) b ∨ H b = none := fun b h => .inl (hM b h)
  have mo : MOk (MM M0 ((a, OD.lst ds) :: O)) (upd H a (.lst xs)) := fun b h z => by
    by_cases e : b = a
    · rw [e, upd_same] at z
      cases z
    · rw [upd_ne e] at z
      exact C.en.mok b (hM b h) z
  have hno := (List.nodup_cons.mp C.nd).1
  refine ⟨C.en.mono hs hm mo, C.mo, fun b o w e => ?_, fun q hq => ?_, C.nd, C.wo, fun q hq => (C.ex q hq).mono hs hm⟩
  · have hb : b ≠ a := fun z => by
      rcases (C.ow _ List.mem_cons_self).1 with h | h
      · exact w (z ▸ h)
      · have h2 : H0 a = none := h
        rw [← z, e] at h2
        cases h2
    rw [upd_ne hb]
    exact C.sm b o w e
  · rcases List.mem_cons.mp hq with e | hq
    · subst e
      exact ⟨(C.ow _ List.mem_cons_self).1, xs, upd_same, r.mono hs hm⟩
    · have hb : q.1 ≠ a := fun z => hno (z ▸ List.mem_map.mpr ⟨q, hq, rfl⟩)
      refine ⟨(C.ow q (List.mem_cons_of_mem _ hq)).1, (C.ow q (List.mem_cons_of_mem _ hq)).2.mono hs hm fun o h => ?_⟩
      rw [upd_ne hb]
      exact h
theorem s_new (C : S K M0 W H0 O G E σ H) (k : ∀ p σ' H', S K M0 W H0 ((p, .lst []) :: O) (G.set i (some (.r (.ref p)))) E σ' H' → D.nx σ' H') : tAsg (tLst tNil) (gName i) D σ H :=
  ⟨Nat.zero_le _, fun p hp => k p _ _ (C.new hp .nil i)⟩
theorem s_append (C : S K M0 W H0 ((a, .lst ds) :: O) G E σ H) (hi : G[i]? = some (some (.r (.ref a)))) (hl : ds.length < 100000) (h : At K (MM M0 ((a, .lst ds) :: O)) te σ H d) (k : ∀ H', S K M0 W H0 ((a, .lst (ds ++ [d])) :: O) G E σ H' → D.nx σ H') :
    tDrop (tBM K "list" rAppend (tVar i) (tCons te tNil)) D σ H := by
  obtain ⟨v, h1, h2⟩ := C.en.at_ i _ hi
  have h3 : v = .ref a := h2
  subst h3
  obtain ⟨xs, hx, rx⟩ := (C.ow _ List.mem_cons_self).2
  refine ⟨.ref a, h1, .inl ⟨rfl, xs, .inl (.inl hx)⟩, ?_⟩
  refine h _ fun w H2 s r => ?_
  have C2 := C.same s
  have hx2 : H2 a = some (.lst xs) := s _ _ hx
  refine ⟨a, xs, w, rfl, rfl, hx2, ?_, ?_⟩
  · rw [rx.length]
    exact Nat.lt_trans hl (by decide)
  · exact k _ (C2.put ((rx.same s).app (.cons r .nil)))
theorem s_extend (C : S K M0 W H0 ((a, .lst ds) :: O) G E σ H) (hi : G[i]? = some (some (.r (.ref a)))) (hl : ds.length + es.length ≤ 100000) (h : At K (MM M0 ((a, .lst ds) :: O)) te σ H (.list es)) (k : ∀ H', S K M0 W H0 ((a, .lst (ds ++ es)) :: O) G E σ H' → D.nx σ H') :
    tDrop (tBM K "list" rExtend (tVar i) (tCons te tNil)) D σ H := by
  obtain ⟨v, h1, h2⟩ := C.en.at_ i _ hi
  have h3 : v = .ref a := h2
  subst h3
  obtain ⟨xs, hx, rx⟩ := (C.ow _ List.mem_cons_self).2
  refine ⟨.ref a, h1, .inl ⟨rfl, xs, .inl (.inl hx)⟩, ?_⟩
  refine h _ fun w H2 s r => ?_
  have C2 := C.same s
  have hx2 : H2 a = some (.lst xs) := s _ _ hx
  obtain ⟨c, zs, rfl, n, hc, rs⟩ := r.lst_inv
  refine ⟨a, c, xs, zs, rfl, rfl, hx2, hc, ?_, ?_⟩
  · rw [rx.length, rs.length]
    exact Nat.le_trans hl (by decide)
  · exact k _ (C2.put ((rx.same s).app rs))
/-- for: the invariant by the turn -/
theorem s_for {wi : TI} {g : TG} {is : List Nat} (C : S K M0 W H0 O G E σ H) (hi : AtI K (MM M0 O) wi σ H ds) (I : Nat → Ow → Gm → Prop) (h0 : I 0 O G) (hO : ∀ i O' G', I i O' G' → O'.map (·.1) = O.map (·.1))
    (step : ∀ (E1 : List (V × PyData)) (i : Nat) (d : PyData) (O' : Ow) (G' : Gm), ds[i]? = some d → I i O' G' → ∃ G2, GEv K g G' d is G2 ∧ ∀ σ' H', S K M0 W H0 O' G2 (E1 ++ E) σ' H' →
      tb { D with nx := fun σ H => ∃ O'' G'', I (i + 1) O'' G'' ∧ S K M0 W H0 O'' G'' (E1 ++ E) σ H, ct := fun σ H => ∃ O'' G'', I (i + 1) O'' G'' ∧ S K M0 W H0 O'' G'' (E1 ++ E) σ H, bk := D.nx } σ' H')
    (done : ∀ O' G', I ds.length O' G' → ∀ σ' H', S K M0 W H0 O' G' E σ' H' → D.nx σ' H') : tFor wi g tb D σ H := by
  refine hi _ fun J H1 E1 s1 hE hJ => ?_
  have C1 : S K M0 W H0 O G (E1 ++ E) σ H1 := (C.same s1).exs fun p hp => by
    rcases List.mem_append.mp hp with h | h
    · exact hE p h
    · exact (C.ex p h).same s1
  refine ⟨fun i m σ' H' => m = ds.length - i ∧ i ≤ ds.length ∧ ∃ O' G', I i O' G' ∧ S K M0 W H0 O' G' (E1 ++ E) σ' H', ⟨ds.length, rfl, Nat.zero_le _, O, G, h0, C1⟩, ?_⟩
  rintro i m σ' H' ⟨rfl, hle, O', G', hI, C'⟩
  have hE2 : ∀ p ∈ E1, Rep K (MM M0 O') H' p.1 p.2 := fun p hp => C'.ex p (List.mem_append_left _ hp)
  by_cases hlt : i < ds.length
  · refine .inr ⟨hJ.go _ _ i hE2 hlt, fun σ H => ∃ O'' G'', I (i + 1) O'' G'' ∧ S K M0 W H0 O'' G'' (E1 ++ E) σ H, fun σ2 H2 h2 => ⟨ds.length - (i + 1), by omega, rfl, hlt, h2⟩, fun x H2 hy => ?_⟩
    obtain ⟨s2, d, hd, rd⟩ := hJ.yld _ _ i x H2 C'.en.mok hE2 hlt hy
    obtain ⟨G2, hg, hb⟩ := step E1 i d O' G' hd hI
    have C2 := C'.same s2
    exact hg _ _ _ _ _ C2.en rd fun σ3 e3 w3 => hb σ3 H2 (C2.env e3)
  · have e0 : i = ds.length := by omega
    subst e0
    exact .inl ⟨hJ.stop _ _ hE2, done O' G' hI σ' H' (C'.exs fun p hp => C'.ex p (List.mem_append_right _ hp))⟩
/-! the same with the rest behind it -/
theorem s_setq (C : S K M0 W H0 O G E σ H) (h : At K (MM M0 O) te σ H d) (k : ∀ σ' H', S K M0 W H0 O (G.set i (some (.d d))) E σ' H' → tb D σ' H') : tSeq (tAsg te (gName i)) tb D σ H := s_seq (s_set C h k)
theorem s_setFq (C : S K M0 W H0 O G E σ H) (h : At K M1 te σ H d) (f : flat d = true) (k : ∀ σ' H', S K M0 W H0 O (G.set i (some (.d d))) E σ' H' → tb D σ' H') : tSeq (tAsg te (gName i)) tb D σ H := s_seq (s_setF C h f k)
theorem s_asgq {g : TG} {is : List Nat} (C : S K M0 W H0 O G E σ H) (h : At K (MM M0 O) te σ H d) (hg : GEv K g G d is G1) (k : ∀ σ' H', S K M0 W H0 O G1 E σ' H' → tb D σ' H') : tSeq (tAsg te g) tb D σ H := s_seq (s_asg C h hg k)
theorem s_newq (C : S K M0 W H0 O G E σ H) (k : ∀ p σ' H', S K M0 W H0 ((p, .lst []) :: O) (G.set i (some (.r (.ref p)))) E σ' H' → tb D σ' H') : tSeq (tAsg (tLst tNil) (gName i)) tb D σ H := s_seq (s_new C k)
theorem s_ifq {tx : TS} (C : S K M0 W H0 O G E σ H) (h : AtT tt σ H b) (h1 : b = true → ∀ H', S K M0 W H0 O G E σ H' → ta { D with nx := tx D } σ H') (h2 : b = false → ∀ H', S K M0 W H0 O G E σ H' → tb { D with nx := tx D } σ H') : tSeq (tIfS tt ta tb) tx D σ H := s_seq (s_if C h h1 h2)
theorem s_appendq (C : S K M0 W H0 ((a, .lst ds) :: O) G E σ H) (hi : G[i]? = some (some (.r (.ref a)))) (hl : ds.length < 100000) (h : At K (MM M0 ((a, .lst ds) :: O)) te σ H d) (k : ∀ H', S K M0 W H0 ((a, .lst (ds ++ [d])) :: O) G E σ H' → tb D σ H') :
    tSeq (tDrop (tBM K "list" rAppend (tVar i) (tCons te tNil))) tb D σ H := s_seq (s_append C hi hl h k)
theorem s_forq {wi : TI} {g : TG} {is : List Nat} {tx : TS} (C : S K M0 W H0 O G E σ H) (hi : AtI K (MM M0 O) wi σ H ds) (I : Nat → Ow → Gm → Prop) (h0 : I 0 O G) (hO : ∀ i O' G', I i O' G' → O'.map (·.1) = O.map (·.1))
    (step : ∀ (E1 : List (V × PyData)) (i : Nat) (d : PyData) (O' : Ow) (G' : Gm), ds[i]? = some d → I i O' G' → ∃ G2, GEv K g G' d is G2 ∧ ∀ σ' H', S K M0 W H0 O' G2 (E1 ++ E) σ' H' →
      tb { nx := fun σ H => ∃ O'' G'', I (i + 1) O'' G'' ∧ S K M0 W H0 O'' G'' (E1 ++ E) σ H, rt := D.rt, ct := fun σ H => ∃ O'' G'', I (i + 1) O'' G'' ∧ S K M0 W H0 O'' G'' (E1 ++ E) σ H, bk := tx D } σ' H')
    (done : ∀ O' G', I ds.length O' G' → ∀ σ' H', S K M0 W H0 O' G' E σ' H' → tx D σ' H') : tSeq (tFor wi g tb) tx D σ H := s_seq (s_for C hi I h0 hO step done)
end
end Tb
set_option Elab.async false
set_option linter.all false
set_option maxRecDepth 100000
set_option maxHeartbeats 4000000
/-! ## The text; a def as it stands; a def that may be called -/
namespace Tb
open PySem PySem.Spec PyProof.Rows L2
def top (i : Nat) : Stmt := PySem.Challenge.pw_thenbeside_k57_whole_grounds_for_droppin.main.body.getD i (.Pass ⟨0, 0, 0, 0⟩)
/-- the built-in names are the built-in ones -/
structure Bi (mg : Str → Option Value) : Prop where
  isinstance_ : mg "isinstance" = none
  int_ : mg "int" = none
  bool_ : mg "bool" = none
  str_ : mg "str" = none
  tuple_ : mg "tuple" = none
  list_ : mg "list" = none
  len_ : mg "len" = none
  all_ : mg "all" = none
  min_ : mg "min" = none
  sorted_ : mg "sorted" = none
  range_ : mg "range" = none
  zip_ : mg "zip" = none
  abs_ : mg "abs" = none
/-- the def st stands at the module's name x -/
structure DefAt (K : PySem.W.Frag) (mg : Str → Option Value) (x name : Str) (st : Stmt) (f : Addr) : Prop where
  g : mg x = some (.ref f)
  f : ∃ fd, FunD K name name (defArgs st) (defBody st) (defScope st) [] [] f fd
/-- the module's name x may be called by the promise sp, at most k deep -/
structure Callee (P : Program) (w : World) (K : PySem.W.Frag) (mg : Str → Option Value) (base : Heap) (x : Str) (k : Nat) (ps : List Str) (sp : Sp) : Prop where
  ex : ∃ (f : Addr) (fd : FuncData), mg x = some (.ref f) ∧ PySem.W.keepIn K (.ref f) = true ∧ Binds K fd ps [] ∧ FnOk P w K mg base CX0 k f fd ps sp
section
variable {P : Program} {w : World} {K : PySem.W.Frag} {mg : Str → Option Value} {base : Heap} {x name : Str} {j k : Nat} {ps N : List Str} {sp : Sp} {st : Stmt} {f : Addr}
theorem Callee.mono (C : Callee P w K mg base x j ps sp) (h : j ≤ k) : Callee P w K mg base x k ps sp := by
  obtain ⟨f, fd, h1, h2, h3, h4⟩ := C.ex
  exact ⟨f, fd, h1, h2, h3, h4.mono h⟩
theorem mkC (D : DefAt K mg x name st f) (sc : FnScope N ps (defScope st))
    (hb : ∀ (kV doc pm : Value) (an : Option Addr) (cdv ct : Value) (us : List Value), us.length = ps.length → bindArgs (PySem.W.fnOf name name (defArgs st) (defBody st) (defScope st) .none kV doc pm an cdv ct) ⟨us, []⟩ = pure (ps.zip us))
    (len : ∀ vs H Q E, sp vs H Q E → vs.length = ps.length)
    (hbody : ∀ (cdv : Value) (A : Around) (outer : List Env) (s : Shared) (H : Hp) (vs : List V) (Q : VK) (E : XK), Room k (A.deeper (envOfC name (defScope st) s.heap.objs.size f cdv)) → sp vs H Q E →
      ∃ t, PSs (cxOf CX0 P w K mg base N name (defScope st) f cdv A outer s H E).nox (defBody st) t ∧ t { nx := fun _ H' => Q .non H', rt := Q } (L2.start N vs) H) : Callee P w K mg base x (k + 1) ps sp := by
  obtain ⟨fd, F⟩ := D.f
  refine ⟨f, fd, D.g, F.kp, F.bindsN hb, F.ok sc len fun cdv A outer s H vs Q E hr h => ?_⟩
  obtain ⟨t, h1, h2⟩ := hbody cdv A outer s H vs Q E hr h
  exact ⟨t, h1.nox, h2⟩
theorem pe_cc {X : Cx} {e : Expr} {es : List Expr} {t : TA} {p pos : Pos} (C : Callee X.prog X.w X.K X.mg X.base x k ps sp) (hr : Room k X.A) (hg : Gl X x) (ha : PA X (e :: es) t) (hdb : (x == ("__debug__" : Str)) = false := by decide)
    (he : starEach (e :: es) X.env = (false, eval e X.env) :: starEach es X.env := by rfl) (hpl : (backTo pos (starEach es X.env)).any (·.1) = false := by rfl) : PE X (.Call (.Name x p) (e :: es) [] pos) (tCall sp [] E0 t) := by
  obtain ⟨f, fd, h1, h2, h3, h4⟩ := C.ex
  exact pe_call h4 hr hg h1 h2 h3 .nil pass0 ha hdb he hpl
theorem pe_cc0 {X : Cx} {p pos : Pos} (C : Callee X.prog X.w X.K X.mg X.base x k ps sp) (hr : Room k X.A) (hg : Gl X x) (hdb : (x == ("__debug__" : Str)) = false := by decide) : PE X (.Call (.Name x p) [] [] pos) (tCall sp [] E0 tNil) := by
  obtain ⟨f, fd, h1, h2, h3, h4⟩ := C.ex
  exact pe_call0 h4 hr hg h1 h2 h3 .nil pass0 hdb
end
def isInt : PyData → Bool
  | .int _ => true
  | .bool _ => true
  | _ => false
def isBool : PyData → Bool
  | .bool _ => true
  | _ => false
def isStr : PyData → Bool
  | .str _ => true
  | _ => false
def isTup : PyData → Bool
  | .tuple _ => true
  | _ => false
def isLst : PyData → Bool
  | .list _ => true
  | _ => false
/-- a whole number, no truth value -/
def isI : PyData → Bool
  | .int _ => true
  | _ => false
section
variable {K : PySem.W.Frag} {G : Gm} {te : TE} {d : PyData}
theorem ev_isInt (h : Ev K te G d) : Ev K (tCB (rIsi K) (tCons te (tCons (tC (.ty "int")) tNil))) G (.bool (isInt d)) := ev_isi h (by cases d <;> rfl)
theorem ev_isBool (h : Ev K te G d) : Ev K (tCB (rIsi K) (tCons te (tCons (tC (.ty "bool")) tNil))) G (.bool (isBool d)) := ev_isi h (by cases d <;> rfl)
theorem ev_isStr (h : Ev K te G d) : Ev K (tCB (rIsi K) (tCons te (tCons (tC (.ty "str")) tNil))) G (.bool (isStr d)) := ev_isi h (by cases d <;> rfl)
theorem ev_isTup (h : Ev K te G d) : Ev K (tCB (rIsi K) (tCons te (tCons (tC (.ty "tuple")) tNil))) G (.bool (isTup d)) := ev_isi h (by cases d <;> rfl)
theorem ev_isLst (h : Ev K te G d) : Ev K (tCB (rIsi K) (tCons te (tCons (tC (.ty "list")) tNil))) G (.bool (isLst d)) := ev_isi h (by cases d <;> rfl)
end
/-- the promise of one place, two, three .. by data; the slots behind are empty -/
theorem psp_len {K : PySem.W.Frag} {f : List PyData → PyData → Prop} {n : Nat} (h : ∀ ds d, f ds d → ds.length = n) (vs : List V) (H : Hp) (Q : VK) (E : XK) (q : PSp K f vs H Q E) : vs.length = n := by
  obtain ⟨M, ds, d, m, r, hf, _⟩ := q
  rw [r.length]
  exact h ds d hf
/-- the slots at the start -/
def gStart (n : Nat) (ds : List PyData) : Gm := ds.map (fun d => some (.d d)) ++ List.replicate (n - ds.length) none
theorem start_en {K : PySem.W.Frag} {M : MS} {H : Hp} {N : List Str} {vs : List V} {ds : List PyData} (m : MOk M H) (r : RepL K M H vs ds) : En K M H (L2.start N vs) (gStart N.length ds) := by
  have el := r.length
  refine ⟨?_, fun i s hs => ?_, m⟩
  · unfold L2.start gStart
    rw [List.length_append, List.length_append, List.length_map, List.length_map, List.length_replicate, List.length_replicate, el]
  · unfold gStart at hs
    unfold L2.start
    by_cases hi : i < ds.length
    · rw [List.getElem?_append_left (by rw [List.length_map]; exact hi), List.getElem?_map] at hs
      rw [List.getElem?_append_left (by rw [List.length_map, el]; exact hi), List.getElem?_map]
      cases q : ds[i]? with
      | none => rw [q] at hs; cases hs
      | some d =>
        rw [q] at hs
        have e := Option.some.inj (Option.some.inj hs)
        subst e
        obtain ⟨v, h1, h2⟩ := r.getD q
        rw [h1]
        exact ⟨v, rfl, h2⟩
    · rw [List.getElem?_append_right (by rw [List.length_map]; omega)] at hs
      obtain ⟨h1, h2⟩ := List.getElem?_eq_some_iff.mp hs
      rw [List.getElem_replicate] at h2
      cases h2
/-- the state at the start of a def that changes nothing -/
theorem S.begin0 {K : PySem.W.Frag} {M : MS} {H : Hp} {N : List Str} {vs : List V} {ds : List PyData} (m : MOk M H) (r : RepL K M H vs ds) : S K M (fun _ => False) H [] (gStart N.length ds) [] (L2.start N vs) H := S.start m (start_en m r)
/-- the end of such a def -/
theorem s_end {K : PySem.W.Frag} {M M1 : MS} {H0 H : Hp} {O : Ow} {σ : L2.St} {G : Gm} {E : List (V × PyData)} {te : TE} {d : PyData} {D : Ends} (C : S K M (fun _ => False) H0 O G E σ H) (hM : ∀ a, M a → M1 a) (h : At K M1 te σ H d)
    (q : ∀ v H', Same H0 H' → Rep K M H' v d → D.rt v H') : tRet te D σ H :=
  s_ret C hM h fun v H' _ C' r => q v H' (fun a o e => C'.sm a o (fun z => z) e) r
end Tb
set_option Elab.async false
set_option linter.all false
set_option maxRecDepth 100000
set_option maxHeartbeats 4000000
/-! ## The mathematics: relations, rules, what may be, stuck sets, splits, plans; no program here -/
namespace Tb
open PySem
inductive R3 where
  | b | e | a
  deriving DecidableEq
def R3.s : R3 → Str
  | .b => "before"
  | .e => "beside"
  | .a => "after"
def R3.opp : R3 → R3
  | .b => .a
  | .e => .e
  | .a => .b
theorem R3.opp_opp (r : R3) : r.opp.opp = r := by cases r <;> rfl
def R3.all : List R3 := [.b, .e, .a]
theorem R3.mem_all (r : R3) : r ∈ R3.all := by cases r <;> decide
theorem R3.s_inj {r q : R3} (h : r.s = q.s) : r = q := by
  cases r <;> cases q <;> first | rfl | (exact absurd h (by decide +kernel))
structure Rule where
  x : Int
  al : List R3
  y : Int
structure Prob where
  n : Nat
  rs : List Rule
/-- r is allowed to x over against y -/
def alR (rs : List Rule) (x y : Int) (r : R3) : Bool := rs.all fun q => (!(decide (q.x = x) && decide (q.y = y)) || decide (r ∈ q.al)) && (!(decide (q.x = y) && decide (q.y = x)) || decide (r.opp ∈ q.al))
theorem alR_opp (rs : List Rule) (x y : Int) (r : R3) : alR rs y x r.opp = alR rs x y r := by
  unfold alR
  congr 1
  funext q
  rw [R3.opp_opp, Bool.and_comm]
def alw (rs : List Rule) (x y : Int) : List R3 := R3.all.filter (alR rs x y)
def tied (p : Prob) (x y : Int) : Bool := !alR p.rs x y .e
def bar (p : Prob) (x y : Int) : Bool := !alR p.rs x y .b
theorem mem_alw {rs : List Rule} {x y : Int} {r : R3} : r ∈ alw rs x y ↔ alR rs x y r = true := by
  unfold alw
  rw [List.mem_filter]
  exact ⟨fun h => h.2, fun h => ⟨r.mem_all, h⟩⟩
/-! ### reach -/
/-- y is in all that hold t and are closed within s -/
def Rch (l : Int → Int → Bool) (s : List Int) (t y : Int) : Prop := ∀ q : Int → Prop, q t → (∀ u, u ∈ s → ∀ v, v ∈ s → q u → l u v = true → q v) → q y
theorem Rch.self (l : Int → Int → Bool) (s : List Int) (t : Int) : Rch l s t t := fun q h _ => h
theorem Rch.step {l : Int → Int → Bool} {s : List Int} {t u v : Int} (h : Rch l s t u) (hu : u ∈ s) (hv : v ∈ s) (e : l u v = true) : Rch l s t v := fun q h0 hc => hc u hu v hv (h q h0 hc) e
open Classical in
noncomputable def rch (l : Int → Int → Bool) (s : List Int) (t : Int) : List Int := s.filter fun y => decide (Rch l s t y)
open Classical in
theorem mem_rch {l : Int → Int → Bool} {s : List Int} {t y : Int} : y ∈ rch l s t ↔ y ∈ s ∧ Rch l s t y := by
  unfold rch
  rw [List.mem_filter, decide_eq_true_iff]
theorem filter_full {α : Type} {p : α → Bool} : ∀ {s : List α}, ¬ (s.filter p).length < s.length → ∀ y, y ∈ s → p y = true
  | [], _, y, h => by cases h
  | x :: s, h, y, hy => by
    by_cases hx : p x = true
    · rw [List.filter_cons, if_pos hx, List.length_cons, List.length_cons] at h
      rcases List.mem_cons.mp hy with e | hy
      · rw [e]
        exact hx
      · exact filter_full (by omega) y hy
    · rw [List.filter_cons, if_neg hx, List.length_cons] at h
      have := List.length_filter_le p s
      omega
open Classical in
theorem rch_full {l : Int → Int → Bool} {s : List Int} {t : Int} (h : ¬ (rch l s t).length < s.length) : ∀ y, y ∈ s → Rch l s t y := fun y hy => of_decide_eq_true (filter_full h y hy)
open Classical in
theorem rch_not {l : Int → Int → Bool} {s : List Int} {t : Int} (h : ∀ y, y ∈ s → Rch l s t y) : ¬ (rch l s t).length < s.length := by
  have e : rch l s t = s := List.filter_eq_self.mpr fun y hy => decide_eq_true (h y hy)
  rw [e]
  exact Nat.lt_irrefl _
/-- a set is stuck -/
def Stuck (p : Prob) (s : List Int) : Prop := 1 < s.length ∧ (∀ t, s[0]? = some t → ∀ y, y ∈ s → Rch (tied p) s t y) ∧ ∀ t, t ∈ s → ∀ y, y ∈ s → Rch (bar p) s t y
open Classical in
noncomputable def stuckB (p : Prob) (s : List Int) : Bool := decide (Stuck p s)
/-- the told split: then?, the part, the rest -/
noncomputable def split (p : Prob) (s : List Int) : Option (Bool × List Int × List Int) :=
  if (rch (tied p) s (s.headD 0)).length < s.length then some (false, rch (tied p) s (s.headD 0), s.filter fun y => !decide (y ∈ rch (tied p) s (s.headD 0)))
  else (s.find? fun t => decide ((rch (bar p) s t).length < s.length)).map fun t => (true, rch (bar p) s t, s.filter fun y => !decide (y ∈ rch (bar p) s t))
theorem split_none {p : Prob} {s : List Int} (h : split p s = none) (h1 : 1 < s.length) : Stuck p s := by
  unfold split at h
  by_cases h2 : (rch (tied p) s (s.headD 0)).length < s.length
  · rw [if_pos h2] at h
    cases h
  · rw [if_neg h2, Option.map_eq_none_iff, List.find?_eq_none] at h
    refine ⟨h1, fun t ht => ?_, fun t ht => ?_⟩
    · have e : s.headD 0 = t := by
        cases s with
        | nil => cases ht
        | cons x s => exact Option.some.inj ht
      rw [e] at h2
      exact rch_full h2
    · exact rch_full fun z => h t ht (decide_eq_true z)
theorem split_stuck {p : Prob} {s : List Int} (h : Stuck p s) : split p s = none := by
  unfold split
  obtain ⟨h1, h2, h3⟩ := h
  have e : s[0]? = some (s.headD 0) := by
    cases s with
    | nil => exact absurd h1 (by decide)
    | cons x s => rfl
  rw [if_neg (rch_not (h2 _ e)), Option.map_eq_none_iff, List.find?_eq_none]
  intro t ht z
  exact rch_not (h3 t ht) (of_decide_eq_true z)
open Classical in
theorem stuckB_split (p : Prob) (s : List Int) : stuckB p s = (decide (1 < s.length) && (split p s).isNone) := by
  unfold stuckB
  by_cases h : Stuck p s
  · rw [decide_eq_true h, split_stuck h, decide_eq_true h.1]
    rfl
  · rw [decide_eq_false h]
    by_cases h1 : 1 < s.length
    · cases e : split p s with
      | none => exact absurd (split_none e h1) h
      | some z => rw [decide_eq_true h1]; rfl
    · rw [decide_eq_false h1]
      rfl
/-! ### trees of splits -/
inductive Tr where
  | leaf (i : Int)
  | node (w : Bool) (a b : Tr)
def Tr.leaves : Tr → List Int
  | .leaf i => [i]
  | .node _ a b => a.leaves ++ b.leaves
def Tr.rel : Tr → Int → Int → R3
  | .leaf _, _, _ => .e
  | .node w a b, x, y =>
    if x ∈ a.leaves then (if y ∈ a.leaves then a.rel x y else if w then .b else .e)
    else (if y ∈ a.leaves then (if w then .a else .e) else b.rel x y)
inductive TrOf : List Int → Tr → Prop
  | leaf (i : Int) : TrOf [i] (.leaf i)
  | node {s : List Int} (w : Bool) (q : Int → Bool) {a b : Tr} : s.filter q ≠ [] → s.filter (fun y => !q y) ≠ [] → TrOf (s.filter q) a → TrOf (s.filter fun y => !q y) b → TrOf s (.node w a b)
theorem TrOf.mem {s : List Int} {t : Tr} (h : TrOf s t) : ∀ x, x ∈ t.leaves ↔ x ∈ s := by
  induction h with
  | leaf i => exact fun x => Iff.rfl
  | node w q _ _ _ _ iha ihb =>
    intro x
    show x ∈ _ ++ _ ↔ _
    rw [List.mem_append, iha, ihb, List.mem_filter, List.mem_filter]
    constructor
    · rintro (h | h)
      · exact h.1
      · exact h.1
    · intro h
      cases e : q x with
      | true => exact .inl ⟨h, rfl⟩
      | false => exact .inr ⟨h, rfl⟩
/-- an answer: a set, or a tree -/
noncomputable def taken (p : Prob) : Nat → List Int → Sum (List Int) Tr
  | 0, s => .inl s
  | f + 1, s => if s.length = 1 then .inr (.leaf (s.headD 0)) else match split p s with
    | none => .inl s
    | some (w, a, b) => match taken p f a with
      | .inl c => .inl c
      | .inr x => match taken p f b with
        | .inl c => .inl c
        | .inr y => .inr (.node w x y)
/-- what a split is -/
structure IsSplit (p : Prob) (s : List Int) (w : Bool) (a b : List Int) : Prop where
  q : ∃ q : Int → Bool, a = s.filter q ∧ b = s.filter fun y => !q y
  ne : a ≠ [] ∧ b ≠ []
  lt : a.length < s.length ∧ b.length < s.length
  ok : ∀ x, x ∈ a → ∀ y, y ∈ b → alR p.rs x y (if w then .b else .e) = true
open Classical in
theorem rch_split {l : Int → Int → Bool} {s : List Int} {t : Int} (ht : t ∈ s) (h : (rch l s t).length < s.length) : (rch l s t ≠ [] ∧ (s.filter fun y => !decide (y ∈ rch l s t)) ≠ []) ∧
    ((rch l s t).length < s.length ∧ (s.filter fun y => !decide (y ∈ rch l s t)).length < s.length) ∧ ∀ x, x ∈ rch l s t → ∀ y, y ∈ (s.filter fun y => !decide (y ∈ rch l s t)) → l x y = false := by
  have m : t ∈ rch l s t := mem_rch.mpr ⟨ht, Rch.self l s t⟩
  have len : ∀ {α : Type} (q : α → Bool) (s : List α), (s.filter q).length + (s.filter fun y => !q y).length = s.length := fun q s => by
    induction s with
    | nil => rfl
    | cons x s ih =>
      rw [List.filter_cons, List.filter_cons]
      cases q x with
      | true => simp only [if_true, Bool.not_true, Bool.false_eq_true, if_false, List.length_cons]; omega
      | false => simp only [Bool.false_eq_true, if_false, Bool.not_false, if_true, List.length_cons]; omega
  have e : (s.filter fun y => decide (y ∈ rch l s t)) = rch l s t := by
    have e1 : ∀ y, y ∈ s → decide (y ∈ rch l s t) = decide (Rch l s t y) := fun y hy => by
      rw [Bool.eq_iff_iff, decide_eq_true_iff, decide_eq_true_iff, mem_rch]
      exact ⟨fun z => z.2, fun z => ⟨hy, z⟩⟩
    exact List.filter_congr e1
  have l1 := len (fun y => decide (y ∈ rch l s t)) s
  rw [e] at l1
  refine ⟨⟨(fun z => by rw [z] at m; cases m), fun z => ?_⟩, ⟨h, ?_⟩, fun x hx y hy => ?_⟩
  · rw [z] at l1
    simp only [List.length_nil] at l1
    omega
  · have : 0 < (rch l s t).length := List.length_pos_of_mem m
    omega
  · obtain ⟨hx1, hx2⟩ := mem_rch.mp hx
    obtain ⟨hy1, hy2⟩ := List.mem_filter.mp hy
    cases q : l x y with
    | false => rfl
    | true =>
      have := mem_rch.mpr ⟨hy1, hx2.step hx1 hy1 q⟩
      rw [decide_eq_true this] at hy2
      cases hy2
open Classical in
theorem rch_filter (l : Int → Int → Bool) (s : List Int) (t : Int) : rch l s t = s.filter fun y => decide (y ∈ rch l s t) := by
  refine (List.filter_congr fun y hy => ?_)
  rw [Bool.eq_iff_iff, decide_eq_true_iff, decide_eq_true_iff, mem_rch]
  exact ⟨fun z => ⟨hy, z⟩, fun z => z.2⟩
theorem split_is {p : Prob} {s : List Int} {w : Bool} {a b : List Int} (h : split p s = some (w, a, b)) (ne : s ≠ []) : IsSplit p s w a b := by
  unfold split at h
  by_cases h2 : (rch (tied p) s (s.headD 0)).length < s.length
  · rw [if_pos h2] at h
    obtain ⟨rfl, rfl, rfl⟩ : false = w ∧ _ = a ∧ _ = b := by
      have := Option.some.inj h
      exact ⟨congrArg Prod.fst this, congrArg (fun z => z.2.1) this, congrArg (fun z => z.2.2) this⟩
    have m : s.headD 0 ∈ s := by
      cases s with
      | nil => exact absurd rfl ne
      | cons x s => exact List.mem_cons_self
    obtain ⟨r1, r2, r3⟩ := rch_split m h2
    refine ⟨⟨fun y => decide (y ∈ rch (tied p) s (s.headD 0)), rch_filter _ _ _, rfl⟩, r1, r2, fun x hx y hy => ?_⟩
    have := r3 x hx y hy
    unfold tied at this
    rw [Bool.not_eq_false'] at this
    exact this
  · rw [if_neg h2] at h
    cases q : s.find? fun t => decide ((rch (bar p) s t).length < s.length) with
    | none =>
      rw [q] at h
      cases h
    | some t =>
      rw [q] at h
      obtain ⟨rfl, rfl, rfl⟩ : true = w ∧ _ = a ∧ _ = b := by
        have := Option.some.inj h
        exact ⟨congrArg Prod.fst this, congrArg (fun z => z.2.1) this, congrArg (fun z => z.2.2) this⟩
      have m : t ∈ s := List.mem_of_find?_eq_some q
      have ht : (rch (bar p) s t).length < s.length := of_decide_eq_true (p := (rch (bar p) s t).length < s.length) (List.find?_some (p := fun t => decide ((rch (bar p) s t).length < s.length)) q)
      obtain ⟨r1, r2, r3⟩ := rch_split m ht
      refine ⟨⟨fun y => decide (y ∈ rch (bar p) s t), rch_filter _ _ _, rfl⟩, r1, r2, fun x hx y hy => ?_⟩
      have := r3 x hx y hy
      unfold bar at this
      rw [Bool.not_eq_false'] at this
      exact this
theorem taken_set {p : Prob} : ∀ {f : Nat} {s c : List Int}, s ≠ [] → s.length ≤ f → taken p f s = .inl c → Stuck p c ∧ ∃ q : Int → Bool, c = s.filter q
  | 0, s, c, ne, hl, h => by
    cases s with
    | nil => exact absurd rfl ne
    | cons x s => simp only [List.length_cons] at hl; omega
  | f + 1, s, c, ne, hl, h => by
    unfold taken at h
    by_cases h1 : s.length = 1
    · rw [if_pos h1] at h
      cases h
    · rw [if_neg h1] at h
      have h2 : 1 < s.length := by
        cases s with
        | nil => exact absurd rfl ne
        | cons x s => simp only [List.length_cons] at h1 ⊢; omega
      cases e : split p s with
      | none =>
        rw [e] at h
        have ec : s = c := Sum.inl.inj h
        subst ec
        exact ⟨split_none e h2, fun _ => true, (List.filter_eq_self.mpr fun _ _ => rfl).symm⟩
      | some z =>
        obtain ⟨w, a, b⟩ := z
        rw [e] at h
        have sp := split_is e ne
        obtain ⟨q, ea, eb⟩ := sp.q
        dsimp only at h
        cases e1 : taken p f a with
        | inl c1 =>
          rw [e1] at h
          have ec : c1 = c := Sum.inl.inj h
          subst ec
          obtain ⟨s1, q1, e2⟩ := taken_set sp.ne.1 (by have := sp.lt.1; omega) e1
          exact ⟨s1, fun y => q y && q1 y, by rw [e2, ea, List.filter_filter]; exact List.filter_congr fun y _ => Bool.and_comm _ _⟩
        | inr x =>
          rw [e1] at h
          dsimp only at h
          cases e3 : taken p f b with
          | inl c1 =>
            rw [e3] at h
            have ec : c1 = c := Sum.inl.inj h
            subst ec
            obtain ⟨s1, q1, e2⟩ := taken_set sp.ne.2 (by have := sp.lt.2; omega) e3
            exact ⟨s1, fun y => !q y && q1 y, by rw [e2, eb, List.filter_filter]; exact List.filter_congr fun y _ => Bool.and_comm _ _⟩
          | inr y =>
            rw [e3] at h
            cases h
theorem taken_tree {p : Prob} : ∀ {f : Nat} {s : List Int} {t : Tr}, s ≠ [] → taken p f s = .inr t → TrOf s t ∧ ∀ x, x ∈ s → ∀ y, y ∈ s → x ≠ y → alR p.rs x y (t.rel x y) = true
  | 0, s, t, ne, h => by cases h
  | f + 1, s, t, ne, h => by
    unfold taken at h
    by_cases h1 : s.length = 1
    · rw [if_pos h1] at h
      have et := Sum.inr.inj h
      obtain ⟨i, ei⟩ := List.length_eq_one_iff.mp h1
      subst ei
      subst et
      refine ⟨.leaf i, fun x hx y hy n => ?_⟩
      rw [List.mem_singleton] at hx hy
      exact absurd (hx.trans hy.symm) n
    · rw [if_neg h1] at h
      cases e : split p s with
      | none => rw [e] at h; cases h
      | some z =>
        obtain ⟨w, a, b⟩ := z
        rw [e] at h
        have sp := split_is e ne
        obtain ⟨q, ea, eb⟩ := sp.q
        dsimp only at h
        cases e1 : taken p f a with
        | inl c1 => rw [e1] at h; cases h
        | inr x =>
          rw [e1] at h
          dsimp only at h
          cases e3 : taken p f b with
          | inl c1 => rw [e3] at h; cases h
          | inr y =>
            rw [e3] at h
            have et := Sum.inr.inj h
            subst et
            obtain ⟨t1, k1⟩ := taken_tree sp.ne.1 e1
            obtain ⟨t2, k2⟩ := taken_tree sp.ne.2 e3
            refine ⟨?_, fun u hu v hv n => ?_⟩
            · have n1 := sp.ne.1
              have n2 := sp.ne.2
              rw [ea] at t1 n1
              rw [eb] at t2 n2
              exact .node w q n1 n2 t1 t2
            · have inb : ∀ u, u ∈ s → ¬ u ∈ a → u ∈ b := fun u hu na => by
                rw [eb, List.mem_filter]
                refine ⟨hu, ?_⟩
                cases qu : q u with
                | false => rfl
                | true => exact absurd (by rw [ea, List.mem_filter]; exact ⟨hu, qu⟩) na
              show alR p.rs u v (Tr.rel (.node w x y) u v) = true
              unfold Tr.rel
              have m1 : ∀ z, z ∈ x.leaves ↔ z ∈ a := t1.mem
              by_cases ua : u ∈ a
              · rw [if_pos ((m1 u).mpr ua)]
                by_cases va : v ∈ a
                · rw [if_pos ((m1 v).mpr va)]
                  exact k1 u ua v va n
                · rw [if_neg fun z => va ((m1 v).mp z)]
                  exact sp.ok u ua v (inb v hv va)
              · rw [if_neg fun z => ua ((m1 u).mp z)]
                by_cases va : v ∈ a
                · rw [if_pos ((m1 v).mpr va)]
                  have := sp.ok v va u (inb u hu ua)
                  rw [← alR_opp]
                  cases w with
                  | true => exact this
                  | false => exact this
                · rw [if_neg fun z => va ((m1 v).mp z)]
                  exact k2 u (inb u hu ua) v (inb v hv va) n
end Tb
set_option Elab.async false
set_option linter.all false
set_option maxRecDepth 100000
set_option maxHeartbeats 4000000
/-! ## The plans of two, three, four tasks: all of them, by the kernel -/
namespace Tb
open PySem
/-- a plan: a task; then (true) or beside of parts -/
inductive Pl where
  | t (i : Int)
  | n (w : Bool) (ps : List Pl)
mutual
def tasks : Pl → List Int
  | .t i => [i]
  | .n _ ps => tasksL ps
def tasksL : List Pl → List Int
  | [] => []
  | p :: ps => tasks p ++ tasksL ps
end
mutual
def depth : Pl → Nat
  | .t _ => 0
  | .n _ ps => depthL ps + 1
def depthL : List Pl → Nat
  | [] => 0
  | p :: ps => max (depth p) (depthL ps)
end
/-- the first part that holds x -/
def idx (x : Int) : List Pl → Nat
  | [] => 0
  | p :: ps => if x ∈ tasks p then 0 else idx x ps + 1
mutual
def relPl : Pl → Int → Int → Option R3
  | .t _, _, _ => none
  | .n w ps, x, y => if idx x ps = idx y ps then relAt ps (idx x ps) x y else if w then (if idx x ps < idx y ps then some .b else some .a) else some .e
def relAt : List Pl → Nat → Int → Int → Option R3
  | [], _, _, _ => none
  | p :: _, 0, x, y => relPl p x y
  | _ :: ps, i + 1, x, y => relAt ps i x y
end
/-! ### the law's list of all plans -/
def blocks0 (T : List Int) : List (List Int) := T.foldl (fun f t => f ++ f.map fun b => b ++ [t]) [[]]
def blocks (T : List Int) (w : Bool) : List (List Int) := if w then (blocks0 T).filter (fun b => !b.isEmpty) else (blocks0 T).filter fun b => decide (T.headD 0 ∈ b)
def rows : Nat → List Int → Bool → Bool → List (List Pl)
  | 0, _, _, _ => []
  | f + 1, T, w, whole => (blocks T w).flatMap fun B =>
    if (T.filter fun t => !decide (t ∈ B)).isEmpty then
      (if whole then ((if B.length = 1 then [.t (B.headD 0)] else (rows f B (!w) false).map (Pl.n (!w))).map fun h => [h]) else [])
    else (if B.length = 1 then [.t (B.headD 0)] else (rows f B (!w) false).map (Pl.n (!w))).flatMap fun h => (rows f (T.filter fun t => !decide (t ∈ B)) w true).map fun r => h :: r
def heads (f : Nat) (B : List Int) (w : Bool) : List Pl := if B.length = 1 then [.t (B.headD 0)] else (rows f B (!w) false).map (Pl.n (!w))
def rg (n : Nat) : List Int := (List.range n).map fun (i : Nat) => (i : Int)
def plans (n : Nat) : List Pl := heads 12 (rg n) false ++ heads 12 (rg n) true
/-! ### all trees of splits -/
def splits {α : Type} : List α → List (List α × List α)
  | [] => [([], [])]
  | x :: r => (splits r).flatMap fun z => [(x :: z.1, z.2), (z.1, x :: z.2)]
def subs {α : Type} (s : List α) : List (List α) := (splits s).map (·.1)
def allTr : Nat → List Int → List Tr
  | 0, _ => []
  | f + 1, s => match s with
    | [] => []
    | [i] => [.leaf i]
    | _ => (splits s).flatMap fun z => if z.1.isEmpty || z.2.isEmpty then [] else (allTr f z.1).flatMap fun x => (allTr f z.2).flatMap fun y => [.node true x y, .node false x y]
theorem mem_splits {α : Type} (q : α → Bool) : ∀ s : List α, (s.filter q, s.filter fun y => !q y) ∈ splits s
  | [] => List.mem_cons_self
  | x :: r => by
    have ih := mem_splits q r
    unfold splits
    refine List.mem_flatMap.mpr ⟨_, ih, ?_⟩
    rw [List.filter_cons, List.filter_cons]
    cases q x with
    | true => exact List.mem_cons_self
    | false => exact List.mem_cons_of_mem _ List.mem_cons_self
theorem filter_len {α : Type} (q : α → Bool) (s : List α) : (s.filter q).length + (s.filter fun y => !q y).length = s.length := by
  induction s with
  | nil => rfl
  | cons x s ih =>
    rw [List.filter_cons, List.filter_cons]
    cases q x with
    | true => simp only [if_true, Bool.not_true, Bool.false_eq_true, if_false, List.length_cons]; omega
    | false => simp only [Bool.false_eq_true, if_false, Bool.not_false, if_true, List.length_cons]; omega
theorem mem_allTr {f : Nat} {s : List Int} {t : Tr} (hl : s.length ≤ f) (h : TrOf s t) : t ∈ allTr f s := by
  induction h generalizing f with
  | leaf i =>
    cases f with
    | zero => simp only [List.length_cons] at hl; omega
    | succ f => exact List.mem_cons_self
  | @node s w q a b n1 n2 h1 h2 ih1 ih2 =>
    have l := filter_len q s
    have p1 : 0 < (s.filter q).length := List.length_pos_iff.mpr n1
    have p2 : 0 < (s.filter fun y => !q y).length := List.length_pos_iff.mpr n2
    cases f with
    | zero => omega
    | succ f =>
      have m1 := ih1 (f := f) (by omega)
      have m2 := ih2 (f := f) (by omega)
      have key : Tr.node w a b ∈ (splits s).flatMap fun z => if z.1.isEmpty || z.2.isEmpty then [] else (allTr f z.1).flatMap fun x => (allTr f z.2).flatMap fun y => [.node true x y, .node false x y] := by
        refine List.mem_flatMap.mpr ⟨_, mem_splits q s, ?_⟩
        dsimp only
        rw [if_neg]
        · refine List.mem_flatMap.mpr ⟨_, m1, List.mem_flatMap.mpr ⟨_, m2, ?_⟩⟩
          cases w with
          | true => exact List.mem_cons_self
          | false => exact List.mem_cons_of_mem _ List.mem_cons_self
        · rw [Bool.or_eq_true, List.isEmpty_iff, List.isEmpty_iff]
          exact fun z => z.elim n1 n2
      match s, l, p1, p2, key with
      | [], l, p1, _, _ => simp at p1
      | [i], l, p1, p2, _ => simp only [List.length_cons, List.length_nil] at l; omega
      | _ :: _ :: _, _, _, _, key => exact key
/-! ### tables -/
/-- the pairs of tasks below n -/
def prs (n : Nat) : List (Int × Int) := (rg n).flatMap fun x => (rg n).map fun y => (x, y)
def tabP (n : Nat) (p : Pl) : List (Option R3) := (prs n).map fun z => if z.1 = z.2 then none else relPl p z.1 z.2
def tabT (n : Nat) (t : Tr) : List (Option R3) := (prs n).map fun z => if z.1 = z.2 then none else some (t.rel z.1 z.2)
/-- a look into a table -/
def lookT (n : Nat) (T : List (Option R3)) (x y : Int) : Option R3 := (T[x.toNat * n + y.toNat]?).getD none
/-- a split of s by a table, in one of the two words -/
def splitT (n : Nat) (T : List (Option R3)) (s : List Int) : Bool := (splits s).any fun z => !z.1.isEmpty && !z.2.isEmpty && ((z.1.all fun x => z.2.all fun y => decide (lookT n T x y = some .e)) || (z.1.all fun x => z.2.all fun y => decide (lookT n T x y = some .b)))
def soundT (n : Nat) (T : List (Option R3)) : Bool := ((subs (rg n)).all fun s => decide (s.length < 2) || splitT n T s) && ((prs n).all fun z => decide (z.1 = z.2) || (match lookT n T z.1 z.2, lookT n T z.2 z.1 with
  | some r, some q => decide (q = r.opp)
  | _, _ => false))
def relQ (p : Pl) (x y : Int) : Option R3 := if x = y then none else relPl p x y
def lookOk (n : Nat) (p : Pl) : Bool := (prs n).all fun z => decide (lookT n (tabP n p) z.1 z.2 = relQ p z.1 z.2)
theorem tab2 : ((plans 2).all fun p => soundT 2 (tabP 2 p) && lookOk 2 p) = true := by decide +kernel
theorem tab3 : ((plans 3).all fun p => soundT 3 (tabP 3 p) && lookOk 3 p) = true := by decide +kernel
theorem tab4 : ((plans 4).all fun p => soundT 4 (tabP 4 p) && lookOk 4 p) = true := by decide +kernel
theorem tr2 : ((allTr 2 (rg 2)).all fun t => ((plans 2).map (tabP 2)).any fun T => decide (T = tabT 2 t)) = true := by decide +kernel
theorem tr3 : ((allTr 3 (rg 3)).all fun t => ((plans 3).map (tabP 3)).any fun T => decide (T = tabT 3 t)) = true := by decide +kernel
/-- a table as one number: a figure of base four for each entry -/
def figR : Option R3 → Nat
  | none => 0
  | some .b => 1
  | some .e => 2
  | some .a => 3
def codeR : List (Option R3) → Nat
  | [] => 0
  | x :: xs => codeR xs * 4 + figR x
theorem figR_inj : ∀ {x y : Option R3}, figR x = figR y → x = y
  | none, none, _ => rfl
  | some .b, some .b, _ => rfl
  | some .e, some .e, _ => rfl
  | some .a, some .a, _ => rfl
  | none, some .b, h => by cases h
  | none, some .e, h => by cases h
  | none, some .a, h => by cases h
  | some .b, none, h => by cases h
  | some .b, some .e, h => by cases h
  | some .b, some .a, h => by cases h
  | some .e, none, h => by cases h
  | some .e, some .b, h => by cases h
  | some .e, some .a, h => by cases h
  | some .a, none, h => by cases h
  | some .a, some .b, h => by cases h
  | some .a, some .e, h => by cases h
theorem figR_lt (x : Option R3) : figR x < 4 := by
  match x with
  | none => decide
  | some .b => decide
  | some .e => decide
  | some .a => decide
theorem codeR_inj : ∀ {T U : List (Option R3)}, T.length = U.length → codeR T = codeR U → T = U
  | [], [], _, _ => rfl
  | [], _ :: _, h, _ => by cases h
  | _ :: _, [], h, _ => by cases h
  | x :: T, y :: U, h, e => by
    have h1 : codeR T * 4 + figR x = codeR U * 4 + figR y := e
    have := figR_lt x
    have := figR_lt y
    have e1 : figR x = figR y := by omega
    have e2 : codeR T = codeR U := by omega
    rw [figR_inj e1, codeR_inj (Nat.succ.inj h) e2]
def codes4 : List Nat := [
  1062163284, 533680980, 797922132, 1061647188, 927462228, 994554708, 1061905236, 399496020, 398979924, 399237972, 466588500, 663221076, 730571604,
  994812756, 466330452, 730829652, 730313556, 797664084, 663479124, 1062162780, 533680476, 797921628, 1062031740, 1028477436, 1045254588, 1062097260,
  500126172, 499995132, 500060652, 516903324, 764236284, 781078956, 1045320108, 516837804, 781144476, 781013436, 797856108, 764301804, 1062163032,
  533680728, 797921880, 1061516148, 927331188, 994423668, 1061515644, 1027961340, 1044738492, 1061515896, 893776884, 893776380, 893776632, 910554036,
  960868860, 977646264, 1044738744, 910553784, 977646516, 977646012, 994423416, 960869112, 1061581668, 927396708, 994489188, 1061773692, 1028219388,
  1044996540, 1061839464, 1062097512, 1061581416, 1061839716, 1061839212, 1061904984, 1061773944, 365941716, 365425620, 365683668, 365941212, 365810172,
  365875692, 365941464, 365294580, 365294076, 365294328, 365360100, 365552124, 365617896, 365875944, 365359848, 365618148, 365617644, 365683416,
  365552376, 382718868, 382202772, 382460820, 433033692, 432902652, 432968172, 449811096, 516903576, 382718616, 449811348, 449810844, 466588248,
  433033944, 629535732, 629535228, 629535480, 646378404, 910619556, 382137252, 646443924, 646312884, 663155556, 629601252, 696885756, 961126908,
  432644604, 697143804, 696627708, 763978236, 629793276, 713728680, 977969832, 449487528, 713986728, 713470632, 780821160, 646636200, 1045320360,
  516838056, 781079208, 1044804264, 910619304, 977711784, 1045062312, 382653096, 382137000, 382395048, 449745576, 646378152, 713728932, 977970084,
  449487780, 713728428, 977969580, 449487276, 713794200, 780886680, 646701720, 713663160, 780755640, 646570680, 714052500, 713536404, 713794452,
  714051996, 713920956, 713986476, 714052248, 713405364, 713404860, 713405112, 713470884, 713662908, 730505832, 730763880, 730247784, 696951528,
  697209576, 696693480, 797598564, 663413604, 730506084, 797598060, 764043756, 780820908, 797598312, 629859300, 629858796, 629859048, 646636452,
  696951276, 994812504, 466330200, 730571352, 994681464, 961127160, 977904312, 994746984, 432775896, 432644856, 432710376, 449553048, 696886008]
theorem codes4_eq : (plans 4).map (fun p => codeR (tabP 4 p)) = codes4 := by decide +kernel
theorem tr4c : ((allTr 4 (rg 4)).all fun t => codes4.any fun c => Nat.beq c (codeR (tabT 4 t))) = true := by decide +kernel
theorem tr4 : ((allTr 4 (rg 4)).all fun t => ((plans 4).map (tabP 4)).any fun T => decide (T = tabT 4 t)) = true := by
  refine List.all_eq_true.mpr fun t ht => ?_
  have h := List.all_eq_true.mp tr4c t ht
  rw [← codes4_eq] at h
  obtain ⟨c, hc, e⟩ := List.any_eq_true.mp h
  obtain ⟨p, hp, rfl⟩ := List.mem_map.mp hc
  have e := codeR_inj (by unfold tabP tabT; rw [List.length_map, List.length_map]) (Nat.eq_of_beq_eq_true e)
  exact List.any_eq_true.mpr ⟨_, List.mem_map.mpr ⟨p, hp, rfl⟩, decide_eq_true e⟩
end Tb
set_option Elab.async false
set_option linter.all false
set_option maxRecDepth 100000
set_option maxHeartbeats 4000000
/-! ## What the law asks, in plain Lean -/
namespace Tb
open PySem
theorem mem_rg {n : Nat} {x : Int} : x ∈ rg n ↔ 0 ≤ x ∧ x < n := by
  unfold rg
  rw [List.mem_map]
  constructor
  · rintro ⟨i, hi, rfl⟩
    rw [List.mem_range] at hi
    omega
  · rintro ⟨h1, h2⟩
    exact ⟨x.toNat, by rw [List.mem_range]; omega, by omega⟩
theorem mem_prs {n : Nat} {x y : Int} (hx : x ∈ rg n) (hy : y ∈ rg n) : (x, y) ∈ prs n := List.mem_flatMap.mpr ⟨x, hx, List.mem_map.mpr ⟨y, hy, rfl⟩⟩
theorem splits_mem {α : Type} : ∀ {s : List α} {z : List α × List α}, z ∈ splits s → ∀ x, x ∈ s ↔ x ∈ z.1 ∨ x ∈ z.2
  | [], z, h, x => by
    rw [List.mem_singleton.mp h]
    exact ⟨(fun h => by cases h), fun h => h.elim (fun h => by cases h) fun h => by cases h⟩
  | u :: r, z, h, x => by
    unfold splits at h
    obtain ⟨y, hy, hz⟩ := List.mem_flatMap.mp h
    have ih := splits_mem hy x
    rcases List.mem_cons.mp hz with e | hz
    · subst e
      rw [List.mem_cons, ih, List.mem_cons, or_assoc]
    · rw [List.mem_singleton.mp hz, List.mem_cons, ih, List.mem_cons]
      constructor
      · rintro (h | h | h)
        · exact .inr (.inl h)
        · exact .inl h
        · exact .inr (.inr h)
      · rintro (h | h | h)
        · exact .inr (.inl h)
        · exact .inl h
        · exact .inr (.inr h)
/-- two, three, four tasks -/
def Few (n : Nat) : Prop := n = 2 ∨ n = 3 ∨ n = 4
theorem tabs {n : Nat} (hn : Few n) {P : Pl} (h : P ∈ plans n) : soundT n (tabP n P) = true ∧ lookOk n P = true := by
  have key : ((plans n).all fun p => soundT n (tabP n p) && lookOk n p) = true := by
    rcases hn with rfl | rfl | rfl
    · exact tab2
    · exact tab3
    · exact tab4
  have := List.all_eq_true.mp key P h
  rw [Bool.and_eq_true] at this
  exact this
theorem look {n : Nat} (hn : Few n) {P : Pl} (h : P ∈ plans n) {x y : Int} (hx : x ∈ rg n) (hy : y ∈ rg n) : lookT n (tabP n P) x y = relQ P x y :=
  of_decide_eq_true (List.all_eq_true.mp (tabs hn h).2 (x, y) (mem_prs hx hy))
theorem anti {n : Nat} (hn : Few n) {P : Pl} (h : P ∈ plans n) {x y : Int} (hx : x ∈ rg n) (hy : y ∈ rg n) (ne : x ≠ y) : ∃ r, relPl P x y = some r ∧ relPl P y x = some r.opp := by
  have h1 := (tabs hn h).1
  unfold soundT at h1
  rw [Bool.and_eq_true] at h1
  have h2 := List.all_eq_true.mp h1.2 (x, y) (mem_prs hx hy)
  dsimp only at h2
  rw [decide_eq_false ne, Bool.false_or, look hn h hx hy, look hn h hy hx] at h2
  unfold relQ at h2
  rw [if_neg ne, if_neg (Ne.symm ne)] at h2
  cases e1 : relPl P x y with
  | none => rw [e1] at h2; cases h2
  | some r =>
    cases e2 : relPl P y x with
    | none => rw [e1, e2] at h2; cases h2
    | some q =>
      rw [e1, e2] at h2
      have e3 : q = r.opp := of_decide_eq_true h2
      exact ⟨r, rfl, by rw [e3]⟩
theorem spl {n : Nat} (hn : Few n) {P : Pl} (h : P ∈ plans n) {s : List Int} (hs : s ∈ subs (rg n)) (h2 : 1 < s.length) : ∃ a b : List Int, (∀ x, x ∈ s ↔ x ∈ a ∨ x ∈ b) ∧ a ≠ [] ∧ b ≠ [] ∧
    ((∀ x, x ∈ a → ∀ y, y ∈ b → relQ P x y = some .e) ∨ ∀ x, x ∈ a → ∀ y, y ∈ b → relQ P x y = some .b) := by
  have h1 := (tabs hn h).1
  unfold soundT at h1
  rw [Bool.and_eq_true] at h1
  have h3 := List.all_eq_true.mp h1.1 s hs
  rw [Bool.or_eq_true] at h3
  rcases h3 with h3 | h3
  · have := of_decide_eq_true h3
    omega
  · unfold splitT at h3
    obtain ⟨z, hz, h4⟩ := List.any_eq_true.mp h3
    simp only [Bool.and_eq_true, Bool.not_eq_true', Bool.or_eq_true] at h4
    have sub : ∀ x, x ∈ s → x ∈ rg n := by
      obtain ⟨y, hy, e⟩ := List.mem_map.mp hs
      subst e
      exact fun x hx => (splits_mem hy x).mpr (.inl hx)
    have ms := splits_mem hz
    refine ⟨z.1, z.2, ms, fun e => ?_, fun e => ?_, ?_⟩
    · rw [e] at h4
      exact absurd h4.1.1 (by decide)
    · rw [e] at h4
      exact absurd h4.1.2 (by decide)
    · rcases h4.2 with h5 | h5
      · refine .inl fun x hx y hy => ?_
        rw [← look hn h (sub x ((ms x).mpr (.inl hx))) (sub y ((ms y).mpr (.inr hy)))]
        exact of_decide_eq_true (List.all_eq_true.mp (List.all_eq_true.mp h5 x hx) y hy)
      · refine .inr fun x hx y hy => ?_
        rw [← look hn h (sub x ((ms x).mpr (.inl hx))) (sub y ((ms y).mpr (.inr hy)))]
        exact of_decide_eq_true (List.all_eq_true.mp (List.all_eq_true.mp h5 x hx) y hy)
/-- a plan keeps a rule -/
def keepsR (P : Pl) (q : Rule) : Bool := match relPl P q.x q.y with
  | some r => decide (r ∈ q.al)
  | none => false
def keeps (P : Pl) (rs : List Rule) : Bool := rs.all (keepsR P)
/-- a rule's tasks -/
def RuleIn (n : Nat) (q : Rule) : Prop := q.x ∈ rg n ∧ q.y ∈ rg n ∧ q.x ≠ q.y
theorem keeps_al {n : Nat} (hn : Few n) {P : Pl} (h : P ∈ plans n) {rs : List Rule} (hk : keeps P rs = true) {x y : Int} (hx : x ∈ rg n) (hy : y ∈ rg n) {r : R3} (hr : relQ P x y = some r) : alR rs x y r = true := by
  have ne : x ≠ y := fun e => by
    unfold relQ at hr
    rw [if_pos e] at hr
    cases hr
  unfold relQ at hr
  rw [if_neg ne] at hr
  obtain ⟨r', e1, e2⟩ := anti hn h hx hy ne
  rw [hr] at e1
  have er := Option.some.inj e1
  subst er
  unfold alR
  rw [List.all_eq_true]
  intro q hq
  have hk2 := List.all_eq_true.mp hk q hq
  unfold keepsR at hk2
  rw [Bool.and_eq_true]
  constructor
  · by_cases e : q.x = x ∧ q.y = y
    · rw [e.1, e.2, hr] at hk2
      rw [show decide (r ∈ q.al) = true from hk2, Bool.or_true]
    · have e3 : (decide (q.x = x) && decide (q.y = y)) = false := by
        rw [Bool.and_eq_false_iff, decide_eq_false_iff_not, decide_eq_false_iff_not]
        exact Decidable.not_and_iff_or_not.mp e
      rw [e3]
      rfl
  · by_cases e : q.x = y ∧ q.y = x
    · rw [e.1, e.2, e2] at hk2
      rw [show decide (r.opp ∈ q.al) = true from hk2, Bool.or_true]
    · have e3 : (decide (q.x = y) && decide (q.y = x)) = false := by
        rw [Bool.and_eq_false_iff, decide_eq_false_iff_not, decide_eq_false_iff_not]
        exact Decidable.not_and_iff_or_not.mp e
      rw [e3]
      rfl
/-- no plan keeps a problem with a stuck set -/
theorem stuck_no {n : Nat} (hn : Few n) {p : Prob} {P : Pl} (h : P ∈ plans n) (hk : keeps P p.rs = true) {s : List Int} (hs : s ∈ subs (rg n)) (st : Stuck p s) : False := by
  obtain ⟨h2, c1, c2⟩ := st
  obtain ⟨a, b, ms, na, nb, hw⟩ := spl hn h hs h2
  have sub : ∀ x, x ∈ s → x ∈ rg n := by
    obtain ⟨y, hy, e⟩ := List.mem_map.mp hs
    subst e
    exact fun x hx => (splits_mem hy x).mpr (.inl hx)
  have sa : ∀ x, x ∈ a → x ∈ s := fun x hx => (ms x).mpr (.inl hx)
  have sb : ∀ x, x ∈ b → x ∈ s := fun x hx => (ms x).mpr (.inr hx)
  obtain ⟨a0, ha0⟩ := List.exists_mem_of_ne_nil a na
  obtain ⟨b0, hb0⟩ := List.exists_mem_of_ne_nil b nb
  rcases hw with hw | hw
  · have al : ∀ u, u ∈ a → ∀ v, v ∈ b → alR p.rs u v .e = true := fun u hu v hv => keeps_al hn h hk (sub u (sa u hu)) (sub v (sb v hv)) (hw u hu v hv)
    obtain ⟨t, ht⟩ : ∃ t, s[0]? = some t := ⟨s[0], List.getElem?_eq_getElem (by omega)⟩
    have mt : t ∈ s := List.mem_of_getElem? ht
    rcases (ms t).mp mt with h3 | h3
    · have := c1 t ht b0 (sb b0 hb0) (fun u => u ∈ a) h3 fun u hu v hv hua e => by
        rcases (ms v).mp hv with z | z
        · exact z
        · unfold tied at e
          rw [al u hua v z] at e
          cases e
      have e := hw b0 this b0 hb0
      unfold relQ at e
      rw [if_pos rfl] at e
      cases e
    · have := c1 t ht a0 (sa a0 ha0) (fun u => u ∈ b) h3 fun u hu v hv hub e => by
        rcases (ms v).mp hv with z | z
        · unfold tied at e
          have e2 := al v z u hub
          rw [← alR_opp] at e2
          have e3 : alR p.rs u v .e = true := e2
          rw [e3] at e
          cases e
        · exact z
      have e := hw a0 ha0 a0 this
      unfold relQ at e
      rw [if_pos rfl] at e
      cases e
  · have al : ∀ u, u ∈ a → ∀ v, v ∈ b → alR p.rs u v .b = true := fun u hu v hv => keeps_al hn h hk (sub u (sa u hu)) (sub v (sb v hv)) (hw u hu v hv)
    have := c2 a0 (sa a0 ha0) b0 (sb b0 hb0) (fun u => u ∈ a) ha0 fun u hu v hv hua e => by
      rcases (ms v).mp hv with z | z
      · exact z
      · unfold bar at e
        rw [al u hua v z] at e
        cases e
    have e := hw b0 this b0 hb0
    unfold relQ at e
    rw [if_pos rfl] at e
    cases e
/-- a tree's relations are those of a plan -/
theorem tree_plan {n : Nat} (hn : Few n) {t : Tr} (h : TrOf (rg n) t) : ∃ P, P ∈ plans n ∧ ∀ x, x ∈ rg n → ∀ y, y ∈ rg n → x ≠ y → relPl P x y = some (t.rel x y) := by
  have key : ((allTr n (rg n)).all fun t => ((plans n).map (tabP n)).any fun T => decide (T = tabT n t)) = true := by
    rcases hn with rfl | rfl | rfl
    · exact tr2
    · exact tr3
    · exact tr4
  have len : (rg n).length ≤ n := by
    unfold rg
    rw [List.length_map, List.length_range]
    exact Nat.le_refl n
  have h1 := List.all_eq_true.mp key t (mem_allTr len h)
  obtain ⟨T, hT, e⟩ := List.any_eq_true.mp h1
  obtain ⟨P, hP, e2⟩ := List.mem_map.mp hT
  have e3 : tabP n P = tabT n t := e2.trans (of_decide_eq_true e)
  refine ⟨P, hP, fun x hx y hy ne => ?_⟩
  have e4 := List.map_inj_left.mp e3 (x, y) (mem_prs hx hy)
  dsimp only at e4
  rw [if_neg ne, if_neg ne] at e4
  exact e4
theorem rg_ne {n : Nat} (hn : Few n) : rg n ≠ [] := by
  rcases hn with rfl | rfl | rfl <;> decide
theorem taken_keeps {n : Nat} (hn : Few n) {p : Prob} (hr : ∀ q, q ∈ p.rs → RuleIn n q) {t : Tr} (h : taken p n (rg n) = .inr t) : ∃ P, P ∈ plans n ∧ keeps P p.rs = true := by
  obtain ⟨h1, h2⟩ := taken_tree (rg_ne hn) h
  obtain ⟨P, hP, hrel⟩ := tree_plan hn h1
  refine ⟨P, hP, ?_⟩
  unfold keeps
  rw [List.all_eq_true]
  intro q hq
  obtain ⟨hx, hy, ne⟩ := hr q hq
  have h3 := h2 q.x hx q.y hy ne
  unfold keepsR
  rw [hrel q.x hx q.y hy ne]
  have h4 := List.all_eq_true.mp h3 q hq
  rw [Bool.and_eq_true] at h4
  have h5 := h4.1
  rw [decide_eq_true rfl, decide_eq_true rfl] at h5
  exact h5
theorem filter_subs {α : Type} (q : α → Bool) (s : List α) : s.filter q ∈ subs s := List.mem_map.mpr ⟨_, mem_splits q s, rfl⟩
theorem taken_stuck {n : Nat} (hn : Few n) {p : Prob} {c : List Int} (h : taken p n (rg n) = .inl c) : Stuck p c ∧ c ∈ subs (rg n) := by
  have len : (rg n).length ≤ n := by
    unfold rg
    rw [List.length_map, List.length_range]
    exact Nat.le_refl n
  obtain ⟨h1, q, rfl⟩ := taken_set (rg_ne hn) len h
  exact ⟨h1, filter_subs q _⟩
/-- some plan keeps it, exactly if a tree is found -/
theorem taken_iff {n : Nat} (hn : Few n) {p : Prob} (hr : ∀ q, q ∈ p.rs → RuleIn n q) : (∃ t, taken p n (rg n) = .inr t) ↔ ∃ P, P ∈ plans n ∧ keeps P p.rs = true := by
  constructor
  · rintro ⟨t, h⟩
    exact taken_keeps hn hr h
  · rintro ⟨P, hP, hk⟩
    cases e : taken p n (rg n) with
    | inl c =>
      obtain ⟨h1, h2⟩ := taken_stuck hn e
      exact (stuck_no hn hP hk h2 h1).elim
    | inr t => exact ⟨t, rfl⟩
/-! ### rules that can be dropped -/
def keptL (n : Nat) (rs : List Rule) : List Pl := (plans n).filter fun P => keeps P rs
/-- the rules but the i-th -/
def lessR (rs : List Rule) (i : Nat) : List Rule := rs.eraseIdx i
/-- the rules that a rule does not list, each with the others -/
def agst (rs : List Rule) (i : Nat) (q : Rule) : List (List Rule) := (R3.all.filter fun r => !decide (r ∈ q.al)).map fun r => rs.eraseIdx i ++ [⟨q.x, [r], q.y⟩]
theorem keeps_split {P : Pl} {rs : List Rule} {i : Nat} {q : Rule} (h : rs[i]? = some q) : keeps P rs = (keeps P (rs.eraseIdx i) && keepsR P q) := by
  unfold keeps
  induction rs generalizing i with
  | nil => cases h
  | cons r rs ih =>
    cases i with
    | zero =>
      have e := Option.some.inj h
      subst e
      rw [List.all_cons, List.eraseIdx_cons_zero, Bool.and_comm]
    | succ i =>
      rw [List.all_cons, List.eraseIdx_cons_succ, List.all_cons, ih (i := i) h, Bool.and_assoc]
theorem filter_len_eq {α : Type} {p q : α → Bool} : ∀ {l : List α}, (∀ x, x ∈ l → q x = true → p x = true) → ((l.filter p).length = (l.filter q).length ↔ ∀ x, x ∈ l → p x = true → q x = true)
  | [], _ => ⟨(fun _ x h => by cases h), fun _ => rfl⟩
  | x :: l, h => by
    have ih := filter_len_eq (p := p) (q := q) (l := l) fun y hy => h y (List.mem_cons_of_mem _ hy)
    have le : (l.filter q).length ≤ (l.filter p).length := by
      have e : l.filter q = (l.filter p).filter q := by
        rw [List.filter_filter]
        refine (List.filter_congr fun y hy => ?_)
        cases e : q y with
        | true => rw [h y (List.mem_cons_of_mem _ hy) e]; rfl
        | false => rfl
      rw [e]
      exact List.length_filter_le _ _
    rw [List.filter_cons, List.filter_cons]
    cases ep : p x with
    | true =>
      cases eq : q x with
      | true =>
        simp only [if_true, List.length_cons, Nat.add_right_cancel_iff, ih, List.mem_cons]
        constructor
        · rintro h2 y (rfl | hy)
          · exact fun _ => eq
          · exact h2 y hy
        · exact fun h2 y hy => h2 y (.inr hy)
      | false =>
        simp only [if_true, Bool.false_eq_true, if_false, List.length_cons]
        constructor
        · intro h2
          omega
        · intro h2
          have := h2 x List.mem_cons_self ep
          rw [eq] at this
          cases this
    | false =>
      cases eq : q x with
      | true =>
        have := h x List.mem_cons_self eq
        rw [ep] at this
        cases this
      | false =>
        simp only [Bool.false_eq_true, if_false, ih, List.mem_cons]
        constructor
        · rintro h2 y (rfl | hy)
          · intro h3
            rw [ep] at h3
            cases h3
          · exact h2 y hy
        · exact fun h2 y hy => h2 y (.inr hy)
/-- the law's word: as many plans keep the others as keep all -/
def implied (n : Nat) (rs : List Rule) (i : Nat) : Bool := decide ((keptL n (rs.eraseIdx i)).length = (keptL n rs).length)
theorem implied_iff {n : Nat} (hn : Few n) {rs : List Rule} {i : Nat} {q : Rule} (h : rs[i]? = some q) (hq : RuleIn n q) : implied n rs i = true ↔ ∀ rs', rs' ∈ agst rs i q → ¬ ∃ P, P ∈ plans n ∧ keeps P rs' = true := by
  unfold implied keptL
  rw [decide_eq_true_iff, filter_len_eq (fun P _ hk => by
    rw [keeps_split h, Bool.and_eq_true] at hk
    exact hk.1)]
  unfold agst
  constructor
  · rintro h1 rs' hrs ⟨P, hP, hk⟩
    obtain ⟨r, hr, rfl⟩ := List.mem_map.mp hrs
    rw [List.mem_filter, Bool.not_eq_true', decide_eq_false_iff_not] at hr
    unfold keeps at hk
    rw [List.all_append, Bool.and_eq_true] at hk
    have h2 := h1 P hP hk.1
    rw [keeps_split h, Bool.and_eq_true] at h2
    have h3 := h2.2
    have h4 := hk.2
    rw [List.all_cons, Bool.and_eq_true] at h4
    have h5 := h4.1
    unfold keepsR at h3 h5
    dsimp only at h5
    cases e : relPl P q.x q.y with
    | none => rw [e] at h3; cases h3
    | some r' =>
      rw [e] at h3 h5
      have e1 : r' ∈ q.al := of_decide_eq_true h3
      have e2 : r' ∈ [r] := of_decide_eq_true h5
      rw [List.mem_singleton] at e2
      rw [e2] at e1
      exact hr.2 e1
  · intro h1 P hP hk
    rw [keeps_split h, hk, Bool.true_and]
    obtain ⟨r, e1, _⟩ := anti hn hP hq.1 hq.2.1 hq.2.2
    cases e : keepsR P q with
    | true => rfl
    | false =>
      exfalso
      unfold keepsR at e
      rw [e1] at e
      have nr : ¬ r ∈ q.al := of_decide_eq_false e
      refine h1 _ (List.mem_map.mpr ⟨r, List.mem_filter.mpr ⟨r.mem_all, by rw [decide_eq_false nr]; rfl⟩, rfl⟩) ⟨P, hP, ?_⟩
      unfold keeps
      rw [List.all_append]
      have hk2 : (rs.eraseIdx i).all (keepsR P) = true := hk
      rw [hk2, Bool.true_and, List.all_cons, List.all_nil, Bool.and_true]
      unfold keepsR
      dsimp only
      rw [e1]
      exact decide_eq_true List.mem_cons_self
/-- a rule with the same tasks -/
theorem agst_in {n : Nat} {rs : List Rule} {i : Nat} {q : Rule} (hr : ∀ q, q ∈ rs → RuleIn n q) (hq : RuleIn n q) : ∀ rs', rs' ∈ agst rs i q → ∀ z, z ∈ rs' → RuleIn n z := by
  intro rs' h z hz
  obtain ⟨r, _, rfl⟩ := List.mem_map.mp h
  rcases List.mem_append.mp hz with hz | hz
  · exact hr z ((List.eraseIdx_subset) hz)
  · rw [List.mem_singleton.mp hz]
    exact hq
/-- the grounds: none, if some problem against has a tree; else the sets -/
noncomputable def grounds (n : Nat) : List (List Rule) → Option (List (List Int))
  | [] => some []
  | rs :: l => match taken ⟨n, rs⟩ n (rg n) with
    | .inl c => (grounds n l).map fun z => c :: z
    | .inr _ => none
theorem grounds_none {n : Nat} : ∀ {l : List (List Rule)}, grounds n l = none ↔ ∃ rs, rs ∈ l ∧ ∃ t, taken ⟨n, rs⟩ n (rg n) = .inr t
  | [] => ⟨fun h => (by cases h), fun ⟨_, h, _⟩ => by cases h⟩
  | rs :: l => by
    have ih := grounds_none (n := n) (l := l)
    unfold grounds
    cases e : taken ⟨n, rs⟩ n (rg n) with
    | inl c =>
      dsimp only
      rw [Option.map_eq_none_iff, ih]
      constructor
      · rintro ⟨z, hz, ht⟩
        exact ⟨z, List.mem_cons_of_mem _ hz, ht⟩
      · rintro ⟨z, hz, t, ht⟩
        rcases List.mem_cons.mp hz with h | hz
        · subst h
          rw [e] at ht
          cases ht
        · exact ⟨z, hz, t, ht⟩
    | inr t => exact ⟨fun _ => ⟨rs, List.mem_cons_self, t, e⟩, fun _ => rfl⟩
/-- each set is stuck in its problem -/
inductive StuckL (n : Nat) : List (List Rule) → List (List Int) → Prop
  | nil : StuckL n [] []
  | cons {rs : List Rule} {c : List Int} {l : List (List Rule)} {z : List (List Int)} : Stuck ⟨n, rs⟩ c → c ∈ subs (rg n) → StuckL n l z → StuckL n (rs :: l) (c :: z)
theorem grounds_some {n : Nat} (hn : Few n) : ∀ {l : List (List Rule)} {z : List (List Int)}, grounds n l = some z → StuckL n l z
  | [], z, h => by
    rw [← Option.some.inj h]
    exact .nil
  | rs :: l, z, h => by
    unfold grounds at h
    cases e : taken ⟨n, rs⟩ n (rg n) with
    | inl c =>
      rw [e] at h
      dsimp only at h
      cases e2 : grounds n l with
      | none => rw [e2] at h; cases h
      | some z2 =>
        rw [e2] at h
        rw [← Option.some.inj h]
        obtain ⟨h1, h2⟩ := taken_stuck hn e
        exact .cons h1 h2 (grounds_some hn e2)
    | inr t => rw [e] at h; cases h
theorem stuckL_no {n : Nat} (hn : Few n) : ∀ {l : List (List Rule)} {z : List (List Int)}, StuckL n l z → ∀ rs, rs ∈ l → ¬ ∃ P, P ∈ plans n ∧ keeps P rs = true
  | _, _, .nil, rs, h => by cases h
  | _, _, .cons h1 h2 h3, rs, h => by
    rcases List.mem_cons.mp h with e | h
    · subst e
      rintro ⟨P, hP, hk⟩
      exact stuck_no hn hP hk h2 h1
    · exact stuckL_no hn h3 rs h
/-- what the program tells is what the law asks -/
theorem grounds_law {n : Nat} (hn : Few n) {rs : List Rule} {i : Nat} {q : Rule} (h : rs[i]? = some q) (hr : ∀ q, q ∈ rs → RuleIn n q) : (grounds n (agst rs i q)).isSome = implied n rs i := by
  have hq : RuleIn n q := hr q (List.mem_of_getElem? h)
  rw [Bool.eq_iff_iff, implied_iff hn h hq]
  constructor
  · intro h1 rs' hrs
    cases e : grounds n (agst rs i q) with
    | none => rw [e] at h1; cases h1
    | some z => exact stuckL_no hn (grounds_some hn e) rs' hrs
  · intro h1
    cases e : grounds n (agst rs i q) with
    | some z => rfl
    | none =>
      obtain ⟨rs', h2, h3⟩ := grounds_none.mp e
      exact (h1 rs' h2 ((taken_iff hn (agst_in hr hq rs' h2)).mp h3)).elim
/-- grounds that somebody wrote: the rule is implied -/
theorem stuckL_implied {n : Nat} (hn : Few n) {rs : List Rule} {i : Nat} {q : Rule} (h : rs[i]? = some q) (hq : RuleIn n q) {z : List (List Int)} (hs : StuckL n (agst rs i q) z) : implied n rs i = true :=
  (implied_iff hn h hq).mpr fun rs' hrs => stuckL_no hn hs rs' hrs
end Tb
set_option Elab.async false
set_option linter.all false
set_option maxRecDepth 100000
set_option maxHeartbeats 4000000
/-! ## How the mathematics stands in data; promises by functions -/
namespace Tb
open PySem PySem.Spec PyProof.Rows L2
/-- arguments enc x with pre x give res x -/
def FSpec {α : Type} (pre : α → Prop) (enc : α → List PyData) (res : α → PyData) : List PyData → PyData → Prop := fun ds d => ∃ x, pre x ∧ ds = enc x ∧ d = res x
theorem fsp {α : Type} {pre : α → Prop} {enc : α → List PyData} {res : α → PyData} {K : PySem.W.Frag} (x : α) (h : pre x) : FnD K (PSp K (FSpec pre enc res)) (enc x) (res x) := fnD ⟨x, h, rfl, rfl⟩
theorem ev_callF {α : Type} {pre : α → Prop} {enc : α → List PyData} {res : α → PyData} {K : PySem.W.Frag} {G : Gm} {E : XK} {as : TA} (x : α) (hp : pre x) (h : EvA K as G (enc x)) : Ev K (tCall (PSp K (FSpec pre enc res)) [] E as) G (res x) := ev_call h (fsp x hp)
theorem EvI.at {K : PySem.W.Frag} {wi : TI} {G : Gm} {ds : List PyData} {M : MS} {σ : L2.St} {H : Hp} (h : EvI K wi G ds) (e : En K M H σ G) : AtI K M wi σ H ds := h M σ H e
section
variable {P : Program} {w : World} {K : PySem.W.Frag} {mg : Str → Option Value} {base : Heap} {x name : Str} {j k : Nat} {ps N : List Str} {st : Stmt} {f : Addr}
theorem mkF {α : Type} {pre : α → Prop} {enc : α → List PyData} {res : α → PyData} (D : DefAt K mg x name st f) (sc : FnScope N ps (defScope st))
    (hb : ∀ (kV doc pm : Value) (an : Option Addr) (cdv ct : Value) (us : List Value), us.length = ps.length → bindArgs (PySem.W.fnOf name name (defArgs st) (defBody st) (defScope st) .none kV doc pm an cdv ct) ⟨us, []⟩ = pure (ps.zip us))
    (len : ∀ z, (enc z).length = ps.length)
    (hbody : ∀ (cdv : Value) (A : Around) (outer : List Env) (s : Shared) (H : Hp) (vs : List V) (Q : VK) (E : XK) (M : MS) (z : α), Room k (A.deeper (envOfC name (defScope st) s.heap.objs.size f cdv)) → pre z →
      S K M (fun _ => False) H [] (gStart N.length (enc z)) [] (L2.start N vs) H → (∀ w H2, Same H H2 → Rep K M H2 w (res z) → Q w H2) →
      ∃ t, PSs (cxOf CX0 P w K mg base N name (defScope st) f cdv A outer s H E).nox (defBody st) t ∧ t { nx := fun _ H' => Q .non H', rt := Q } (L2.start N vs) H) : Callee P w K mg base x (k + 1) ps (PSp K (FSpec pre enc res)) := by
  refine mkC D sc hb (psp_len fun ds d h => ?_) fun cdv A outer s H vs Q E hr h => ?_
  · obtain ⟨z, _, rfl, _⟩ := h
    exact len z
  · obtain ⟨M, ds, d, m, r, ⟨z, hp, rfl, rfl⟩, q⟩ := h
    exact hbody cdv A outer s H vs Q E M z hr hp (S.begin0 m r) q
end
/-! ### data -/
def wds (al : List R3) : List PyData := (al.map R3.s).map PyData.str
def rlD (q : Rule) : PyData := .tuple [.int q.x, .tuple (wds q.al), .int q.y]
def pbD (p : Prob) : PyData := .tuple [.int p.n, .tuple (p.rs.map rlD)]
def setD (s : List Int) : PyData := .tuple (s.map PyData.int)
/-- a rule of n tasks -/
structure RuleOk (n : Nat) (q : Rule) : Prop where
  tk : RuleIn n q
  al : q.al = R3.all.filter fun r => decide (r ∈ q.al)
  ne : q.al ≠ []
structure ProbOk (p : Prob) : Prop where
  lo : 1 ≤ p.n
  hi : p.n ≤ 7
  len : p.rs.length ≤ 20
  rs : ∀ q, q ∈ p.rs → RuleOk p.n q
/-- the module's constants -/
structure Cs (K : PySem.W.Frag) (w : World) (mg : Str → Option Value) (aR aO : Addr) : Prop where
  gR : mg "RELATIONS" = some (.ref aR)
  kR : KTup K aR [.str "before", .str "beside", .str "after"]
  gO : mg "OPPOSITES" = some (.ref aO)
  kO : ∀ r : R3, KDct K w aO r.s (.str r.opp.s)
  gT : ∃ t, mg "MOST_TASKS" = some (.int 7 t)
  gU : ∃ t, mg "MOST_RULES" = some (.int 20 t)
section
variable {K : PySem.W.Frag} {w : World} {mg : Str → Option Value} {aR aO : Addr} {G : Gm} {te : TE}
theorem ev_rels (c : Cs K w mg aR aO) : Ev K (tC (.ref aR)) G (.tuple (wds R3.all)) := ev_ktup c.kR rfl fun d hd => by
  obtain ⟨x, _, rfl⟩ := List.mem_map.mp hd
  rfl
theorem wds_len (al : List R3) : (wds al).length = al.length := by
  unfold wds
  rw [List.length_map, List.length_map]
theorem mem_wds {r : R3} {al : List R3} : r.s ∈ al.map R3.s ↔ r ∈ al := by
  rw [List.mem_map]
  constructor
  · rintro ⟨q, hq, e⟩
    rw [← R3.s_inj e]
    exact hq
  · exact fun h => ⟨r, h, rfl⟩
theorem dec_wds (r : R3) (al : List R3) : decide (r.s ∈ al.map R3.s) = decide (r ∈ al) := by
  rw [Bool.eq_iff_iff, decide_eq_true_iff, decide_eq_true_iff, mem_wds]
/-- r in al, not in -/
theorem rv_inRT {r : R3} {al : List R3} : RV K (rIn K false) (.str r.s) (.tuple (wds al)) (.bool (decide (r ∈ al))) := by
  rw [← dec_wds]
  exact rv_inST
theorem rv_niRT {r : R3} {al : List R3} : RV K (rIn K true) (.str r.s) (.tuple (wds al)) (.bool (!decide (r ∈ al))) := by
  rw [← dec_wds]
  exact rv_niST
theorem rv_inRL {r : R3} {al : List R3} : RV K (rIn K false) (.str r.s) (.list (wds al)) (.bool (decide (r ∈ al))) := by
  rw [← dec_wds]
  exact rv_inSL
theorem rv_niRL {r : R3} {al : List R3} : RV K (rIn K true) (.str r.s) (.list (wds al)) (.bool (!decide (r ∈ al))) := by
  rw [← dec_wds]
  exact rv_niSL
theorem wds_eq (al : List R3) : wds al = al.map fun r => PyData.str r.s := by
  unfold wds
  rw [List.map_map]
  rfl
theorem R3.all_len (p : R3 → Bool) : (R3.all.filter p).length ≤ 3 := List.length_filter_le _ _
end
/-- an item by its place -/
theorem atI_0 {α : Type} {x : α} {xs : List α} : atI (x :: xs) 0 = some x := atI_nat (j := 0) rfl
theorem atI_1 {α : Type} {x y : α} {xs : List α} : atI (x :: y :: xs) 1 = some y := atI_nat (j := 1) rfl
theorem atI_2 {α : Type} {x y z : α} {xs : List α} : atI (x :: y :: z :: xs) 2 = some z := atI_nat (j := 2) rfl
end Tb
set_option Elab.async false
set_option linter.all false
set_option maxRecDepth 100000
set_option maxHeartbeats 4000000
/-! ## The layer's rules with the written part K told (within a comprehension's block the readings must not speak of the block) -/
namespace Tb
open PySem PySem.Spec PyProof.Rows L2
section
variable {X : Cx} {a b l : Expr} {ta tb tl : TE} {pos : Pos}
theorem kIn (K : PySem.W.Frag) (h : X.K = K) : OpR X (compareOp .In) (rIn K false) := h ▸ op_in_seq
theorem kNi (K : PySem.W.Frag) (h : X.K = K) : OpR X (compareOp .NotIn) (rIn K true) := h ▸ op_notIn_seq
theorem kIx (K : PySem.W.Frag) (h : X.K = K) : IxR X (rIx K) := h ▸ ix_seq
theorem kOpp (K : PySem.W.Frag) (w : World) (h : X.K = K) (hw : X.w = w) : IxR X (rIxD K w) := by
  subst h hw
  exact ix_kdict
theorem kIsi (K : PySem.W.Frag) (h : X.K = K) : CallR X (.builtin "isinstance") (rIsi K) := h ▸ call_isi
theorem kLen (K : PySem.W.Frag) (h : X.K = K) : CallR X (.builtin "len") (fun xs H Q => ∃ p ys, xs = [.ref p] ∧ (SqL K H p ys ∨ SqT K H p ys) ∧ Q (.int ys.length) H) := by
  subst h
  exact call_len_seq
theorem kLst (K : PySem.W.Frag) (h : X.K = K) : CallR X (.type "list") (fun xs H Q => ∃ p ys, xs = [.ref p] ∧ (SqL K H p ys ∨ SqT K H p ys) ∧ ∀ l, H l = none → Q (.ref l) (upd H l (.lst ys))) := by
  subst h
  exact call_list_of
theorem kTupC (K : PySem.W.Frag) (h : X.K = K) : CallR X (.type "tuple") (fun xs H Q => ∃ p ys, xs = [.ref p] ∧ ((SqL K H p ys ∧ ∀ l, H l = none → Q (.ref l) (upd H l (.tup ys))) ∨ (SqT K H p ys ∧ Q (.ref p) H))) := by
  subst h
  exact call_tuple_of
theorem kAll (K : PySem.W.Frag) (h : X.K = K) (hc : X.calm = true) : CallR X (.builtin "all") (rAll K) := h ▸ cr_all hc
theorem kMin (K : PySem.W.Frag) (h : X.K = K) (hc : X.calm = true) : CallR X (.builtin "min") (rMin K) := h ▸ cr_min hc
theorem kEqD (K : PySem.W.Frag) (h : X.K = K) (hu : X.A.units + 64 < cLine) : OpR X (compareOp .Eq) (rEqD K) := h ▸ op_eqD hu
theorem kNeD (K : PySem.W.Frag) (h : X.K = K) (hu : X.A.units + 64 < cLine) : OpR X (compareOp .NotEq) (rNeD K) := h ▸ op_neD hu
theorem kCatA (K : PySem.W.Frag) (h : X.K = K) : OpR X (binaryOp .Add) (rCatA K) := h ▸ op_catA
theorem kSlA (K : PySem.W.Frag) (h : X.K = K) : SlR X (rSlA K) := h ▸ sl_tupA
theorem kpL {tg : Expr} (K : PySem.W.Frag) (h : X.K = K) (hl : PE X l tl) : PI X tg l (iList K tl) := h ▸ pi_list hl
theorem kpT {tg : Expr} (K : PySem.W.Frag) (h : X.K = K) (hl : PE X l tl) : PI X tg l (iTup K tl) := h ▸ pi_tup hl
theorem kpZ {e e2 : Expr} {as : TA} {p pos tpos : Pos} {elts : List Expr} {kk : Nat} (K : PySem.W.Frag) (h : X.K = K) (hg : Gl X "zip") (hm : X.mg "zip" = none) (ha : PA X [e, e2] as)
    (hs : starEach [e, e2] X.env = (false, eval e X.env) :: starEach [e2] X.env := by rfl) (hpl : (backTo pos (starEach [e2] X.env)).any (·.1) = false := by rfl) :
    PI X (.Tuple elts kk tpos) (.Call (.Name "zip" p) [e, e2] [] pos) (RZ.iZipA K as) := h ▸ RZ.pi_zipA hg hm ha hs hpl
theorem kgT {es : List Expr} {k : Nat} {t : TGs} (n : Nat) (K : PySem.W.Frag) (h : X.K = K) (hc : X.calm = true) (hg : PGs X es t)
    (hn : (assignEach es X.env).length = n := by rfl) (hst : (assignEach es X.env).findIdx? (·.1) = none := by rfl) : PG X (.Tuple es k pos) (gTup K n t) := by
  subst h
  exact pg_tup hc hg hn hst
theorem kBM {o e : Expr} {es : List Expr} {to : TE} {t : TA} {name : Str} {apos cpos : Pos} {T id : String} {r : V → List V → Hp → VK → Prop} (K : PySem.W.Frag) (h : X.K = K)
    (pa : PlainAttrs T) (slot : Slot T name id) (hty : typeOf (.builtin id) = pure (.type "method_descriptor")) (hm : MtR X id r) (ho : PE X o to) (ha : PA X (e :: es) t)
    (hbase : attributeBase o name X.env (eval o X.env) = eval o X.env := by rfl)
    (hfew : ((backTo cpos (starEach (e :: es) X.env)).all (fun x => !x.1) && (backToKw cpos (keywordEach [] X.env)).all (fun x => x.1.isSome)
      && decide ((e :: es).length + ([] : List Keyword).length + (if ([] : List Keyword).isEmpty then 0 else 1) < 30)) = true := by rfl)
    (hline : (apos.endLine == cpos.line) = true := by rfl) (hs : starEach (e :: es) X.env = (false, eval e X.env) :: starEach es X.env := by rfl) (hplain : (backTo cpos (starEach es X.env)).any (·.1) = false := by rfl) :
    PE X (.Call (.Attribute o name apos) (e :: es) [] cpos) (tBM K T r to t) := by
  subst h
  exact pe_bm pa slot hty hm ho ha hbase hfew hline hs hplain
theorem kIdx (K : PySem.W.Frag) (h : X.K = K) : MtR X "list.index" (rIndex K) := h ▸ mt_index
theorem kTru (K : PySem.W.Frag) (h : X.K = K) (ha : PE X a ta) (he : ∀ whole, isTrue a X.env whole = (do let v ← whole; standAt a.pos; holding [v] (truthy v))) : PT X a (fun σ H Q => ta σ H fun x H' => ∃ k, TruV K x H' k ∧ Q k H') := by
  subst h
  exact pt_truth ha he
end
end Tb
set_option Elab.async false
set_option linter.all false
set_option maxRecDepth 100000
set_option maxHeartbeats 4000000
/-! ## thenbeside.rules -/
namespace Tb
open PySem PySem.Spec PyProof.Rows L2
abbrev s_10 : Stmt := top 10
theorem sc_10 : FnScope ["relation"] ["relation"] (defScope s_10) := ⟨rfl, rfl, rfl, by decide +kernel, rfl, by decide +kernel, by decide +kernel⟩
abbrev s_15 : Stmt := top 15
theorem sc_15 : FnScope ["value"] ["value"] (defScope s_15) := ⟨rfl, rfl, rfl, by decide +kernel, rfl, by decide +kernel, by decide +kernel⟩
abbrev s_16 : Stmt := top 16
theorem sc_16 : FnScope ["value", "size"] ["value", "size"] (defScope s_16) := ⟨rfl, rfl, rfl, by decide +kernel, rfl, by decide +kernel, by decide +kernel⟩
abbrev s_26 : Stmt := top 26
theorem sc_26 : FnScope ["value", "size"] ["value", "size"] (defScope s_26) := ⟨rfl, rfl, rfl, by decide +kernel, rfl, by decide +kernel, by decide +kernel⟩
abbrev s_18 : Stmt := top 18
theorem sc_18 : FnScope ["value", "one"] ["value"] (defScope s_18) := ⟨rfl, rfl, rfl, by decide +kernel, rfl, by decide +kernel, by decide +kernel⟩
abbrev s_19 : Stmt := top 19
theorem sc_19 : FnScope ["value", "size"] ["value", "size"] (defScope s_19) := ⟨rfl, rfl, rfl, by decide +kernel, rfl, by decide +kernel, by decide +kernel⟩
abbrev s_20 : Stmt := top 20
theorem sc_20 : FnScope ["value"] ["value"] (defScope s_20) := ⟨rfl, rfl, rfl, by decide +kernel, rfl, by decide +kernel, by decide +kernel⟩
abbrev s_21 : Stmt := top 21
theorem sc_21 : FnScope ["value", "rule"] ["value"] (defScope s_21) := ⟨rfl, rfl, rfl, by decide +kernel, rfl, by decide +kernel, by decide +kernel⟩
abbrev s_22 : Stmt := top 22
theorem sc_22 : FnScope ["problem"] ["problem"] (defScope s_22) := ⟨rfl, rfl, rfl, by decide +kernel, rfl, by decide +kernel, by decide +kernel⟩
abbrev s_23 : Stmt := top 23
theorem sc_23 : FnScope ["relations", "found", "one"] ["relations"] (defScope s_23) := ⟨rfl, rfl, rfl, by decide +kernel, rfl, by decide +kernel, by decide +kernel⟩
abbrev s_24 : Stmt := top 24
theorem sc_24 : FnScope ["problem", "first", "second", "found", "rule", "one"] ["problem", "first", "second"] (defScope s_24) := ⟨rfl, rfl, rfl, by decide +kernel, rfl, by decide +kernel, by decide +kernel⟩
abbrev s_29 : Stmt := top 29
theorem sc_29 : FnScope ["problem", "first", "second"] ["problem", "first", "second"] (defScope s_29) := ⟨rfl, rfl, rfl, by decide +kernel, rfl, by decide +kernel, by decide +kernel⟩
abbrev s_30 : Stmt := top 30
theorem sc_30 : FnScope ["problem", "first", "second"] ["problem", "first", "second"] (defScope s_30) := ⟨rfl, rfl, rfl, by decide +kernel, rfl, by decide +kernel, by decide +kernel⟩
/-- a whole number from 0 on, below n -/
def isT (n : Int) : PyData → Bool
  | .int i => decide (0 ≤ i) && decide (i < n)
  | _ => false
section
variable {P : Program} {w : World} {K : PySem.W.Frag} {mg : Str → Option Value} {base : Heap} {k : Nat} {f aR aO : Addr}
abbrev fIsInteger := FSpec (α := PyData) (fun _ => True) (fun x => [x]) (fun x => .bool (isI x))
theorem c_is_integer (D : DefAt K mg "is_integer" "is_integer" s_15 f) (B : Bi mg) : Callee P w K mg base "is_integer" (k + 1) ["value"] (PSp K fIsInteger) := by
  refine mkF D sc_15 (fun _ _ _ _ _ _ us hl => match us, hl with | [_], _ => rfl) (fun _ => rfl) fun cdv A outer s H vs Q E M x hr _ C q => ?_
  refine ⟨_, (pss_one (ps_ret (pe_and (pe_callB (kIsi K rfl) (by rfl) B.isinstance_ (by decide +kernel) (pa_cons (pv 0) (pa_cons (pe_bltn (v := .ty "int") (by rfl) B.int_ (by decide +kernel) rfl) pa_nil))) (pe_one (pe_not (pe_callB (kIsi K rfl) (by rfl) B.isinstance_ (by decide +kernel) (pa_cons (pv 0) (pa_cons (pe_bltn (v := .ty "bool") (by rfl) B.bool_ (by decide +kernel) rfl) pa_nil)))))))), ?_⟩
  refine s_end C (fun _ h => h) (Ev.at ?_ C.low) q
  exact ev_is (ev_andV (ev_isInt (ev_var rfl)) (fun _ => ev_notV (ev_isBool (ev_var rfl)))) (by cases x <;> rfl)
abbrev fIsTask := FSpec (α := PyData × Int) (fun _ => True) (fun z => [z.1, .int z.2]) (fun z => .bool (isT z.2 z.1))
theorem c_is_task (D : DefAt K mg "is_task_rules" "is_task" s_16 f) (c_is_integer : Callee P w K mg base "is_integer" k ["value"] (PSp K fIsInteger)) : Callee P w K mg base "is_task_rules" (k + 1) ["value", "size"] (PSp K fIsTask) := by
  refine mkF D sc_16 (fun _ _ _ _ _ _ us hl => match us, hl with | [_, _], _ => rfl) (fun _ => rfl) fun cdv A outer s H vs Q E M x hr _ C q => ?_
  obtain ⟨x, n⟩ := x
  refine ⟨_, (pss_one (ps_ret (pe_and (pe_cc c_is_integer hr (by rfl) (pa_cons (pv 0) pa_nil)) (pe_one (pe_chain op_le op_lt pe_int (pv 0) (pv 1)))))), ?_⟩
  refine s_end C (fun _ h => h) (Ev.at ?_ C.low) q
  cases x with
  | int i => exact ev_is (ev_andV (ev_callF (PyData.int i) trivial (ea_cons (ev_var rfl) ea_nil)) fun _ => ev_chain ev_int (ev_var rfl) (ev_var rfl) rv_le rv_lt) rfl
  | none => exact ev_andV (b := false) (c := false) (ev_callF PyData.none trivial (ea_cons (ev_var rfl) ea_nil)) fun h => nomatch h
  | bool b => exact ev_andV (b := false) (c := false) (ev_callF (PyData.bool b) trivial (ea_cons (ev_var rfl) ea_nil)) fun h => nomatch h
  | str b => exact ev_andV (b := false) (c := false) (ev_callF (PyData.str b) trivial (ea_cons (ev_var rfl) ea_nil)) fun h => nomatch h
  | list b => exact ev_andV (b := false) (c := false) (ev_callF (PyData.list b) trivial (ea_cons (ev_var rfl) ea_nil)) fun h => nomatch h
  | tuple b => exact ev_andV (b := false) (c := false) (ev_callF (PyData.tuple b) trivial (ea_cons (ev_var rfl) ea_nil)) fun h => nomatch h
  | dict b => exact ev_andV (b := false) (c := false) (ev_callF (PyData.dict b) trivial (ea_cons (ev_var rfl) ea_nil)) fun h => nomatch h
theorem c_is_task2 (D : DefAt K mg "is_task_sticking" "is_task" s_26 f) (B : Bi mg) : Callee P w K mg base "is_task_sticking" (k + 1) ["value", "size"] (PSp K fIsTask) := by
  refine mkF D sc_26 (fun _ _ _ _ _ _ us hl => match us, hl with | [_, _], _ => rfl) (fun _ => rfl) fun cdv A outer s H vs Q E M x hr _ C q => ?_
  obtain ⟨x, n⟩ := x
  refine ⟨_, (pss_one (ps_ret (pe_and (pe_callB (kIsi K rfl) (by rfl) B.isinstance_ (by decide +kernel) (pa_cons (pv 0) (pa_cons (pe_bltn (v := .ty "int") (by rfl) B.int_ (by decide +kernel) rfl) pa_nil))) (pe_and (pe_not (pe_callB (kIsi K rfl) (by rfl) B.isinstance_ (by decide +kernel) (pa_cons (pv 0) (pa_cons (pe_bltn (v := .ty "bool") (by rfl) B.bool_ (by decide +kernel) rfl) pa_nil)))) (pe_one (pe_chain op_le op_lt pe_int (pv 0) (pv 1))))))), ?_⟩
  refine s_end C (fun _ h => h) (Ev.at ?_ C.low) q
  cases x with
  | int i => exact ev_is (ev_andV (ev_isInt (ev_var rfl)) fun _ => ev_andV (ev_notV (ev_isBool (ev_var rfl))) fun _ => ev_chain ev_int (ev_var rfl) (ev_var rfl) rv_le rv_lt) rfl
  | none => exact ev_is (ev_andV (c := false) (ev_isInt (ev_var rfl)) fun h => nomatch h) rfl
  | bool b => exact ev_is (ev_andV (ev_isInt (ev_var rfl)) fun _ => ev_andV (c := false) (ev_notV (ev_isBool (ev_var rfl))) fun h => nomatch h) rfl
  | str b => exact ev_is (ev_andV (c := false) (ev_isInt (ev_var rfl)) fun h => nomatch h) rfl
  | list b => exact ev_is (ev_andV (c := false) (ev_isInt (ev_var rfl)) fun h => nomatch h) rfl
  | tuple b => exact ev_is (ev_andV (c := false) (ev_isInt (ev_var rfl)) fun h => nomatch h) rfl
  | dict b => exact ev_is (ev_andV (c := false) (ev_isInt (ev_var rfl)) fun h => nomatch h) rfl
/-! opposite -/
abbrev fOpposite := FSpec (α := R3) (fun _ => True) (fun r => [.str r.s]) (fun r => .str r.opp.s)
theorem ev_opp (c : Cs K w mg aR aO) {G : Gm} {te : TE} {r : R3} (h : Ev K te G (.str r.s)) : Ev K (tOp (rIxD K w) (tC (.ref aO)) te) G (.str r.opp.s) := fun M σ H e Q q =>
  h M σ H e _ fun v H1 s1 r1 => ⟨aO, r.s, .str r.opp.s, rfl, r1.str_inv, c.kO r, q _ H1 s1 (.str _)⟩
theorem c_opposite (D : DefAt K mg "opposite" "opposite" s_10 f) (c : Cs K w mg aR aO) : Callee P w K mg base "opposite" (k + 1) ["relation"] (PSp K fOpposite) := by
  have g_OPPOSITES := c.gO
  refine mkF D sc_10 (fun _ _ _ _ _ _ us hl => match us, hl with | [_], _ => rfl) (fun _ => rfl) fun cdv A outer s H vs Q E M x hr _ C q => ?_
  refine ⟨_, (pss_one (ps_ret (pe_ix (kOpp K w rfl rfl) (pe_glob (v := .ref _) (by rfl) g_OPPOSITES rfl) (pv 0) (fun _ _ => rfl)))), ?_⟩
  exact s_end C (fun _ h => h) ((ev_opp c (ev_var rfl)).at C.low) q
/-! is_allowed, is_rule, is_size, is_problem: of what is one -/
abbrev fIsAllowed := FSpec (α := List R3) (fun al => al = R3.all.filter (fun r => decide (r ∈ al)) ∧ al ≠ []) (fun al => [.tuple (wds al)]) (fun _ => .bool true)
theorem noDict_wds (al : List R3) : noDict (.tuple (wds al)) = true := by
  have key : ∀ al : List R3, noDictL (wds al) = true := fun al => by
    induction al with
    | nil => rfl
    | cons r al ih =>
      show (noDict (.str r.s) && noDictL (wds al)) = true
      rw [ih]
      rfl
  exact key al
theorem shaped_wds (al : List R3) : SeqAt.shaped (.tuple (wds al)) = true := by
  have k1 : ∀ al : List R3, PyData.canLayAll0 (wds al) = true := fun al => by
    induction al with
    | nil => rfl
    | cons r al ih =>
      show (PyData.canLay0 (.str r.s) && PyData.canLayAll0 (wds al)) = true
      rw [ih]
      cases r <;> decide +kernel
  have k2 : ∀ al : List R3, PyData.depthAll (wds al) = 0 := fun al => by
    induction al with
    | nil => rfl
    | cons r al ih =>
      show max (PyData.depth (.str r.s)) (PyData.depthAll (wds al)) = 0
      rw [ih]
      rfl
  show (PyData.canLayAll0 (wds al) && decide (PyData.depthAll (wds al) + 1 ≤ 64)) = true
  rw [k1, k2]
  rfl
theorem all_true {α : Type} : ∀ l : List α, ((l.map fun _ => true).all id) = true
  | [] => rfl
  | x :: l => by rw [List.map_cons, List.all_cons, all_true l]; rfl
theorem c_is_allowed (D : DefAt K mg "is_allowed" "is_allowed" s_18 f) (B : Bi mg) (c : Cs K w mg aR aO) : Callee P w K mg base "is_allowed" (k + 1) ["value"] (PSp K fIsAllowed) := by
  have g_RELATIONS := c.gR
  refine mkF D sc_18 (fun _ _ _ _ _ _ us hl => match us, hl with | [_], _ => rfl) (fun _ => rfl) fun cdv A outer s H vs Q E M al hr ⟨h1, h2⟩ C q => ?_
  refine ⟨_, (pss_cons (ps_if (PW.pt (pw_or (pt_not (pt_val (pe_callB (kIsi K rfl) (by rfl) B.isinstance_ (by decide +kernel) (pa_cons (pv 0) (pa_cons (pe_bltn (v := .ty "tuple") (by rfl) B.tuple_ (by decide +kernel) rfl) pa_nil))))) (pw_or (pt_not (kTru K rfl (pv 0) (by intro _; rfl))) (pw_or1 (pt_not (pt_val (pe_callB (kAll K rfl (by rfl)) (by rfl) B.all_ (by decide +kernel) (pa_cons (pe_lc (own := [("one", 1)]) (by rfl) sc_18.nd (kpT K rfl (pv 0)) (blkOk_by (own := [("one", 1)]) (N := ["value", "one"]) (sc := defScope s_18) (by decide +kernel)) (fun _ _ _ _ _ => (pg_name (i := 1) sc_18.nd rfl (.inl rfl))) (fun _ _ _ _ _ => pts_nil) (fun _ _ _ _ _ => (pe_callB (kIsi K rfl) (by rfl) B.isinstance_ (by decide +kernel) (pa_cons (pv 1) (pa_cons (pe_bltn (v := .ty "str") (by rfl) B.str_ (by decide +kernel) rfl) pa_nil))))) pa_nil)))))))) (pss_one (ps_ret pe_bl)) pss_nil)
      (pss_one (ps_ret (pe_cmpR (kEqD K rfl hr.units) (pv 0) (pe_callTy (kTupC K rfl) (by rfl) B.tuple_ (by decide +kernel) (pa_cons (pe_lc (own := [("one", 1)]) (by rfl) sc_18.nd (kpT K rfl (pe_glob (v := .ref _) (by rfl) g_RELATIONS rfl)) (blkOk_by (own := [("one", 1)]) (N := ["value", "one"]) (sc := defScope s_18) (by decide +kernel)) (fun _ _ _ _ _ => (pg_name (i := 1) sc_18.nd rfl (.inl rfl))) (fun _ _ _ _ _ => (pts_one (pt_cmpR (kIn K rfl) (pv 1) (pv 0) (by rfl)))) (fun _ _ _ _ _ => (pv 1))) pa_nil)) (by rfl))))), ?_⟩
  have l3 : al.length ≤ 3 := by rw [h1]; exact R3.all_len _
  refine s_if1 (b := false) C (EvT.at ?_ C.low) (fun h => nomatch h) fun _ H1 C1 => ?_
  · refine et_is (et_or (et_not (et_B (ev_isTup (ev_var rfl)))) fun _ => et_or (et_not (et_tru (ev_var rfl) rfl (b := true) ?_)) fun _ => et_not (et_B (b := true) (ev_cb (ea_cons (ev_lc1 (is := [1]) al (fun r => .str r.s) (fun _ => .bool true) (ei_tup (ev_var ?_)) (fun i h => h) (fun r hr => ⟨_, g_name, ev_is (ev_isStr (ev_var rfl)) rfl⟩) (by omega)) ea_nil) ?_))) rfl
    · cases al with
      | nil => exact absurd rfl h2
      | cons r al => rfl
    · rw [← wds_eq]
      rfl
    · have e : (al.map fun _ => PyData.bool true) = (al.map fun _ => true).map PyData.bool := by rw [List.map_map]; rfl
      rw [e]
      exact rc_all (all_true al)
  · refine s_end C1 (fun _ h => h) (Ev.at ?_ C1.low) q
    refine ev_op (ev_var rfl) (ev_cb (ea_cons (ev_lc (is := [1]) R3.all (fun r => .str r.s) (fun r => decide (r ∈ al)) (fun r => .str r.s) (ei_tup ?_) (fun i h => h) (fun r hr => ⟨_, g_name, et_test (ev_op (ev_var rfl) (ev_var rfl) rv_inRT), fun _ => ev_var rfl⟩) (by decide)) ea_nil) rc_tupL) ?_
    · rw [← wds_eq]
      exact ev_rels c
    · rw [← h1, ← wds_eq]
      have sh := shaped_wds al
      refine rv_eqD ?_ ?_ sh sh ?_
      · exact noDict_wds al
      · exact noDict_wds al
      · exact SeqAt.eqv_refl _ (SeqAt.canLay_of_shaped sh)
abbrev fIsRule := FSpec (α := Rule × Nat) (fun z => RuleOk z.2 z.1) (fun z => [rlD z.1, .int z.2]) (fun _ => .bool true)
theorem isT_in {n : Nat} {x : Int} (h : x ∈ rg n) : isT n (.int x) = true := by
  obtain ⟨h1, h2⟩ := mem_rg.mp h
  show (decide (0 ≤ x) && decide (x < n)) = true
  rw [decide_eq_true h1, decide_eq_true h2]
  rfl
theorem c_is_rule (D : DefAt K mg "is_rule" "is_rule" s_19 f) (B : Bi mg) (c_is_task_rules : Callee P w K mg base "is_task_rules" k ["value", "size"] (PSp K fIsTask)) (c_is_allowed : Callee P w K mg base "is_allowed" k ["value"] (PSp K fIsAllowed)) : Callee P w K mg base "is_rule" (k + 1) ["value", "size"] (PSp K fIsRule) := by
  refine mkF D sc_19 (fun _ _ _ _ _ _ us hl => match us, hl with | [_, _], _ => rfl) (fun _ => rfl) fun cdv A outer s H vs Q E M z hr hp C q => ?_
  obtain ⟨⟨x, al, y⟩, n⟩ := z
  obtain ⟨⟨hx, hy, hxy⟩, ha, hn⟩ := hp
  dsimp only at hx hy hxy ha hn
  refine ⟨_, (pss_cons (ps_if (PW.pt (pw_or (pt_not (pt_val (pe_callB (kIsi K rfl) (by rfl) B.isinstance_ (by decide +kernel) (pa_cons (pv 0) (pa_cons (pe_bltn (v := .ty "tuple") (by rfl) B.tuple_ (by decide +kernel) rfl) pa_nil))))) (pw_or (pt_cmpR op_ne (pe_callB (kLen K rfl) (by rfl) B.len_ (by decide +kernel) (pa_cons (pv 0) pa_nil)) pe_int (by rfl)) (pw_or (pt_not (pt_val (pe_cc c_is_task_rules hr (by rfl) (pa_cons (pe_ix (kIx K rfl) (pv 0) pe_int (fun _ _ => rfl)) (pa_cons (pv 1) pa_nil))))) (pw_or1 (pt_not (pt_val (pe_cc c_is_task_rules hr (by rfl) (pa_cons (pe_ix (kIx K rfl) (pv 0) pe_int (fun _ _ => rfl)) (pa_cons (pv 1) pa_nil)))))))))) (pss_one (ps_ret pe_bl)) pss_nil)
      (pss_one (ps_ret (pe_and (pe_cmpR op_ne (pe_ix (kIx K rfl) (pv 0) pe_int (fun _ _ => rfl)) (pe_ix (kIx K rfl) (pv 0) pe_int (fun _ _ => rfl)) (by rfl)) (pe_one (pe_cc c_is_allowed hr (by rfl) (pa_cons (pe_ix (kIx K rfl) (pv 0) pe_int (fun _ _ => rfl)) pa_nil))))))), ?_⟩
  refine s_if1 (b := false) C (EvT.at ?_ C.low) (fun h => nomatch h) fun _ H1 C1 => ?_
  · refine et_is (et_or (et_not (et_B (ev_isTup (ev_var rfl)))) fun _ => et_or (et_test (ev_op (ev_cb (ea_cons (ev_var rfl) ea_nil) rc_lenT) ev_int rv_neI)) fun _ => et_or (et_not (et_B (ev_callF (PyData.int x, (n : Int)) trivial (ea_cons (ev_op (ev_var rfl) ev_int (rv_ixT atI_0)) (ea_cons (ev_var rfl) ea_nil))))) fun _ =>
      et_not (et_B (ev_callF (PyData.int y, (n : Int)) trivial (ea_cons (ev_op (ev_var rfl) ev_int (rv_ixT atI_2)) (ea_cons (ev_var rfl) ea_nil))))) ?_
    show (false || (false || (!isT n (.int x) || !isT n (.int y)))) = false
    rw [isT_in hx, isT_in hy]
    rfl
  · refine s_end C1 (fun _ h => h) (Ev.at ?_ C1.low) q
    refine ev_is (ev_andV (ev_op (ev_op (ev_var rfl) ev_int (rv_ixT atI_0)) (ev_op (ev_var rfl) ev_int (rv_ixT atI_2)) rv_neI) fun _ => ev_callF al ⟨ha, hn⟩ (ea_cons (ev_op (ev_var rfl) ev_int (rv_ixT atI_1)) ea_nil)) ?_
    show PyData.bool ((!decide (x = y)) && true) = .bool true
    rw [decide_eq_false hxy]
    rfl
abbrev fIsSize := FSpec (α := Nat) (fun n => 1 ≤ n ∧ n ≤ 7) (fun n => [.int n]) (fun _ => .bool true)
theorem ev_glI {G : Gm} {x : Str} {i : Int} : Ev K (tC (.int i)) G (.int i) := ev_int
theorem c_is_size (D : DefAt K mg "is_size" "is_size" s_20 f) (c : Cs K w mg aR aO) (c_is_integer : Callee P w K mg base "is_integer" k ["value"] (PSp K fIsInteger)) : Callee P w K mg base "is_size" (k + 1) ["value"] (PSp K fIsSize) := by
  have g_MOST_TASKS := c.gT
  refine mkF D sc_20 (fun _ _ _ _ _ _ us hl => match us, hl with | [_], _ => rfl) (fun _ => rfl) fun cdv A outer s H vs Q E M n hr ⟨h1, h2⟩ C q => ?_
  refine ⟨_, (pss_one (ps_ret (pe_and (pe_cc c_is_integer hr (by rfl) (pa_cons (pv 0) pa_nil)) (pe_one (pe_chain op_le op_le pe_int (pv 0) (pe_glob (v := .int 7) (by rfl) g_MOST_TASKS.choose_spec ⟨_, rfl⟩)))))), ?_⟩
  refine s_end C (fun _ h => h) (Ev.at ?_ C.low) q
  refine ev_is (ev_andV (ev_callF (PyData.int n) trivial (ea_cons (ev_var rfl) ea_nil)) fun _ => ev_chain ev_int (ev_var rfl) ev_int rv_le rv_le) ?_
  show PyData.bool (true && (decide ((1 : Int) ≤ n) && decide ((n : Int) ≤ 7))) = .bool true
  rw [decide_eq_true (by omega : (1 : Int) ≤ n), decide_eq_true (by omega : (n : Int) ≤ 7)]
  rfl
abbrev fIsProblem := FSpec (α := Prob) ProbOk (fun p => [pbD p]) (fun _ => .bool true)
theorem c_is_problem (D : DefAt K mg "is_problem" "is_problem" s_21 f) (B : Bi mg) (c : Cs K w mg aR aO) (c_is_size : Callee P w K mg base "is_size" k ["value"] (PSp K fIsSize)) (c_is_rule : Callee P w K mg base "is_rule" k ["value", "size"] (PSp K fIsRule)) : Callee P w K mg base "is_problem" (k + 1) ["value"] (PSp K fIsProblem) := by
  have g_MOST_RULES := c.gU
  refine mkF D sc_21 (fun _ _ _ _ _ _ us hl => match us, hl with | [_], _ => rfl) (fun _ => rfl) fun cdv A outer s H vs Q E M p hr hp C q => ?_
  refine ⟨_, (pss_cons (ps_if (PW.pt (pw_or (pt_not (pt_val (pe_callB (kIsi K rfl) (by rfl) B.isinstance_ (by decide +kernel) (pa_cons (pv 0) (pa_cons (pe_bltn (v := .ty "tuple") (by rfl) B.tuple_ (by decide +kernel) rfl) pa_nil))))) (pw_or (pt_cmpR op_ne (pe_callB (kLen K rfl) (by rfl) B.len_ (by decide +kernel) (pa_cons (pv 0) pa_nil)) pe_int (by rfl)) (pw_or (pt_not (pt_val (pe_cc c_is_size hr (by rfl) (pa_cons (pe_ix (kIx K rfl) (pv 0) pe_int (fun _ _ => rfl)) pa_nil)))) (pw_or1 (pt_not (pt_val (pe_callB (kIsi K rfl) (by rfl) B.isinstance_ (by decide +kernel) (pa_cons (pe_ix (kIx K rfl) (pv 0) pe_int (fun _ _ => rfl)) (pa_cons (pe_bltn (v := .ty "tuple") (by rfl) B.tuple_ (by decide +kernel) rfl) pa_nil)))))))))) (pss_one (ps_ret pe_bl)) pss_nil)
      (pss_one (ps_ret (pe_and (pe_cmpR op_le (pe_callB (kLen K rfl) (by rfl) B.len_ (by decide +kernel) (pa_cons (pe_ix (kIx K rfl) (pv 0) pe_int (fun _ _ => rfl)) pa_nil)) (pe_glob (v := .int 20) (by rfl) g_MOST_RULES.choose_spec ⟨_, rfl⟩) (by rfl)) (pe_one (pe_callB (kAll K rfl (by rfl)) (by rfl) B.all_ (by decide +kernel) (pa_cons (pe_lc (own := [("rule", 1)]) (by rfl) sc_21.nd (kpT K rfl (pe_ix (kIx K rfl) (pv 0) pe_int (fun _ _ => rfl))) (blkOk_by (own := [("rule", 1)]) (N := ["value", "rule"]) (sc := defScope s_21) (by decide +kernel)) (fun _ _ _ _ _ => (pg_name (i := 1) sc_21.nd rfl (.inl rfl))) (fun _ _ _ _ _ => pts_nil) (fun _ _ _ _ _ => (pe_cc c_is_rule hr (by rfl) (pa_cons (pv 1) (pa_cons (pe_ix (kIx K rfl) (pv 0) pe_int (fun _ _ => rfl)) pa_nil))))) pa_nil))))))), ?_⟩
  refine s_if1 (b := false) C (EvT.at ?_ C.low) (fun h => nomatch h) fun _ H1 C1 => ?_
  · exact et_is (et_or (et_not (et_B (ev_isTup (ev_var rfl)))) fun _ => et_or (et_test (ev_op (ev_cb (ea_cons (ev_var rfl) ea_nil) rc_lenT) ev_int rv_neI)) fun _ => et_or (et_not (et_B (ev_callF p.n ⟨hp.lo, hp.hi⟩ (ea_cons (ev_op (ev_var rfl) ev_int (rv_ixT atI_0)) ea_nil)))) fun _ =>
      et_not (et_B (ev_isTup (ev_op (ev_var rfl) ev_int (rv_ixT atI_1))))) rfl
  · refine s_end C1 (fun _ h => h) (Ev.at ?_ C1.low) q
    refine ev_is (ev_andV (ev_op (ev_cb (ea_cons (ev_op (ev_var rfl) ev_int (rv_ixT atI_1)) ea_nil) rc_lenT) ev_int rv_le) fun _ => ev_cb (ea_cons (ev_lc1 (is := [1]) p.rs rlD (fun _ => .bool true) (ei_tup (ev_op (ev_var rfl) ev_int (rv_ixT atI_1))) (fun i h => h) (fun r hr => ⟨_, g_name, ev_callF (r, p.n) (hp.rs r hr) (ea_cons (ev_var rfl) (ea_cons (ev_op (ev_var rfl) ev_int (rv_ixT atI_0)) ea_nil))⟩) (by have := hp.len; omega)) ea_nil) (z := .bool true) ?_) ?_
    · have e : (p.rs.map fun _ => PyData.bool true) = (p.rs.map fun _ => true).map PyData.bool := by rw [List.map_map]; rfl
      rw [e]
      exact rc_all (all_true _)
    · rw [List.length_map, decide_eq_true (by have := hp.len; omega : ((p.rs.length : Nat) : Int) ≤ 20)]
      rfl
abbrev fCheckProblem := FSpec (α := Prob) ProbOk (fun p => [pbD p]) (fun _ => .none)
theorem c_check_problem (D : DefAt K mg "check_problem" "check_problem" s_22 f) (c_is_problem : Callee P w K mg base "is_problem" k ["value"] (PSp K fIsProblem)) : Callee P w K mg base "check_problem" (k + 1) ["problem"] (PSp K fCheckProblem) := by
  refine mkF D sc_22 (fun _ _ _ _ _ _ us hl => match us, hl with | [_], _ => rfl) (fun _ => rfl) fun cdv A outer s H vs Q E M p hr hp C q => ?_
  refine ⟨_, (pss_one (ps_if (pt_not (pt_val (pe_cc c_is_problem hr (by rfl) (pa_cons (pv 0) pa_nil)))) pss_never pss_nil)), ?_⟩
  refine s_if (b := false) C (EvT.at ?_ C.low) (fun h => nomatch h) fun _ H1 C1 => ?_
  · exact et_is (et_not (et_B (ev_callF p hp (ea_cons (ev_var rfl) ea_nil)))) rfl
  · exact q _ _ (fun a o e => C1.sm a o (fun z => z) e) .non
/-! opposites, allowed_of, ties, bars -/
abbrev fOpposites := FSpec (α := List R3) (fun al => al.length ≤ 3) (fun al => [.tuple (wds al)]) (fun al => .tuple (wds (R3.all.filter fun r => decide (r.opp ∈ al))))
theorem c_opposites (D : DefAt K mg "opposites" "opposites" s_23 f) (B : Bi mg) (c : Cs K w mg aR aO) (c_opposite : Callee P w K mg base "opposite" k ["relation"] (PSp K fOpposite)) : Callee P w K mg base "opposites" (k + 1) ["relations"] (PSp K fOpposites) := by
  have g_RELATIONS := c.gR
  refine mkF D sc_23 (fun _ _ _ _ _ _ us hl => match us, hl with | [_], _ => rfl) (fun _ => rfl) fun cdv A outer s H vs Q E M al hr hl C q => ?_
  refine ⟨_, (pss_cons (ps_set (i := 1) sc_23.nd rfl (.inr rfl) (pe_lc (own := [("one", 2)]) (by rfl) sc_23.nd (kpT K rfl (pv 0)) (blkOk_by (own := [("one", 2)]) (N := ["relations", "found", "one"]) (sc := defScope s_23) (by decide +kernel)) (fun _ _ _ _ _ => (pg_name (i := 2) sc_23.nd rfl (.inl rfl))) (fun _ _ _ _ _ => pts_nil) (fun _ _ _ _ _ => (pe_cc c_opposite hr (by rfl) (pa_cons (pv 2) pa_nil)))))
      (pss_one (ps_ret (pe_callTy (kTupC K rfl) (by rfl) B.tuple_ (by decide +kernel) (pa_cons (pe_lc (own := [("one", 2)]) (by rfl) sc_23.nd (kpT K rfl (pe_glob (v := .ref _) (by rfl) g_RELATIONS rfl)) (blkOk_by (own := [("one", 2)]) (N := ["relations", "found", "one"]) (sc := defScope s_23) (by decide +kernel)) (fun _ _ _ _ _ => (pg_name (i := 2) sc_23.nd rfl (.inl rfl))) (fun _ _ _ _ _ => (pts_one (pt_cmpR (kIn K rfl) (pv 2) (pv 1) (by rfl)))) (fun _ _ _ _ _ => (pv 2))) pa_nil))))), ?_⟩
  have ea : Ev K (tVar 0) (gStart 3 [PyData.tuple (wds al)]) (.tuple (al.map fun r => .str r.s)) := by
    rw [← wds_eq]
    exact ev_var rfl
  refine s_setq (d := .list (wds (al.map R3.opp))) C (Ev.at ?_ C.en) fun σ1 H1 C1 => ?_
  · refine ev_is (ev_lc1 (is := [2]) al (fun r => .str r.s) (fun r => .str r.opp.s) (ei_tup ea) (fun i h => h) (fun r hr => ⟨_, g_name, ev_callF r trivial (ea_cons (ev_var rfl) ea_nil)⟩) (by omega)) ?_
    rw [wds_eq, List.map_map]
    rfl
  · refine s_end C1 (fun _ h => h) (Ev.at ?_ C1.low) q
    refine ev_is (ev_cb (ea_cons (ev_lc (is := [2]) R3.all (fun r => .str r.s) (fun r => decide (r ∈ al.map R3.opp)) (fun r => .str r.s) (ei_tup ?_) (fun i h => h) (fun r hr => ⟨_, g_name, et_test (ev_op (ev_var rfl) (ev_var rfl) rv_inRL), fun _ => ev_var rfl⟩) (by decide)) ea_nil) rc_tupL) ?_
    · rw [← wds_eq]
      exact ev_rels c
    · rw [← wds_eq]
      have e : (fun r => decide (r ∈ al.map R3.opp)) = fun r => decide (r.opp ∈ al) := by
        funext r
        rw [Bool.eq_iff_iff, decide_eq_true_iff, decide_eq_true_iff, List.mem_map]
        constructor
        · rintro ⟨q, hq, rfl⟩
          rw [R3.opp_opp]
          exact hq
        · exact fun h => ⟨_, h, R3.opp_opp r⟩
      rw [e]
abbrev fAllowedOf := FSpec (α := Prob × Int × Int) (fun z => ProbOk z.1) (fun z => [pbD z.1, .int z.2.1, .int z.2.2]) (fun z => .tuple (wds (alw z.1.rs z.2.1 z.2.2)))
/-- one rule's word on x, y -/
def alQ (q : Rule) (x y : Int) (r : R3) : Bool := (!(decide (q.x = x) && decide (q.y = y)) || decide (r ∈ q.al)) && (!(decide (q.x = y) && decide (q.y = x)) || decide (r.opp ∈ q.al))
theorem alR_take {rs : List Rule} {i : Nat} {q : Rule} (h : rs[i]? = some q) (x y : Int) (r : R3) : alR (rs.take (i + 1)) x y r = (alR (rs.take i) x y r && alQ q x y r) := by
  unfold alR
  rw [List.take_add_one, h, List.all_append]
  show _ = _
  congr 1
  exact Bool.and_true _
theorem c_allowed_of (D : DefAt K mg "allowed_of" "allowed_of" s_24 f) (B : Bi mg) (c : Cs K w mg aR aO) (c_opposites : Callee P w K mg base "opposites" k ["relations"] (PSp K fOpposites)) : Callee P w K mg base "allowed_of" (k + 1) ["problem", "first", "second"] (PSp K fAllowedOf) := by
  have g_RELATIONS := c.gR
  refine mkF D sc_24 (fun _ _ _ _ _ _ us hl => match us, hl with | [_, _, _], _ => rfl) (fun _ => rfl) fun cdv A outer s H vs Q E M z hr hp C q => ?_
  obtain ⟨p, x, y⟩ := z
  refine ⟨_, (pss_cons (ps_set (i := 3) sc_24.nd rfl (.inl rfl) (pe_glob (v := .ref _) (by rfl) g_RELATIONS rfl))
      (pss_cons (ps_for PassesOwn.never (by rfl) (kpT K rfl (pe_ix (kIx K rfl) (pv 0) pe_int (fun _ _ => rfl))) (pg_name (i := 4) sc_24.nd rfl (.inr rfl)) (pss_cons (ps_if (PW.pt (pw_and (pt_cmpR op_eq (pe_ix (kIx K rfl) (pv 4) pe_int (fun _ _ => rfl)) (pv 1) (by rfl)) (pw_and1 (pt_cmpR op_eq (pe_ix (kIx K rfl) (pv 4) pe_int (fun _ _ => rfl)) (pv 2) (by rfl))))) (pss_one (ps_set (i := 3) sc_24.nd rfl (.inl rfl) (pe_callTy (kTupC K rfl) (by rfl) B.tuple_ (by decide +kernel) (pa_cons (pe_lc (own := [("one", 5)]) (by rfl) sc_24.nd (kpT K rfl (pv 3)) (blkOk_by (own := [("one", 5)]) (N := ["problem", "first", "second", "found", "rule", "one"]) (sc := defScope s_24) (by decide +kernel)) (fun _ _ _ _ _ => (pg_name (i := 5) sc_24.nd rfl (.inl rfl))) (fun _ _ _ _ _ => (pts_one (pt_cmpR (kIn K rfl) (pv 5) (pe_ix (kIx K rfl) (pv 4) pe_int (fun _ _ => rfl)) (by rfl)))) (fun _ _ _ _ _ => (pv 5))) pa_nil)))) pss_nil)
      (pss_one (ps_if (PW.pt (pw_and (pt_cmpR op_eq (pe_ix (kIx K rfl) (pv 4) pe_int (fun _ _ => rfl)) (pv 2) (by rfl)) (pw_and1 (pt_cmpR op_eq (pe_ix (kIx K rfl) (pv 4) pe_int (fun _ _ => rfl)) (pv 1) (by rfl))))) (pss_one (ps_set (i := 3) sc_24.nd rfl (.inl rfl) (pe_callTy (kTupC K rfl) (by rfl) B.tuple_ (by decide +kernel) (pa_cons (pe_lc (own := [("one", 5)]) (by rfl) sc_24.nd (kpT K rfl (pv 3)) (blkOk_by (own := [("one", 5)]) (N := ["problem", "first", "second", "found", "rule", "one"]) (sc := defScope s_24) (by decide +kernel)) (fun _ _ _ _ _ => (pg_name (i := 5) sc_24.nd rfl (.inl rfl))) (fun _ _ _ _ _ => (pts_one (pt_cmpR (kIn K rfl) (pv 5) (pe_cc c_opposites hr (by rfl) (pa_cons (pe_ix (kIx K rfl) (pv 4) pe_int (fun _ _ => rfl)) pa_nil)) (by rfl)))) (fun _ _ _ _ _ => (pv 5))) pa_nil)))) pss_nil))))
      (pss_one (ps_ret (pv 3))))), ?_⟩
  refine s_seq (s_set C ((ev_rels c).at C.en) fun σ1 H1 C1 => ?_)
  refine s_seq (s_for (is := [4]) (ds := p.rs.map rlD) C1 (EvI.at (ei_tup (ev_op (ev_var rfl) ev_int (rv_ixT atI_1))) C1.en)
    (fun i O G => O = [] ∧ ∃ z, G = [some (.d (pbD p)), some (.d (.int x)), some (.d (.int y)), some (.d (.tuple (wds (R3.all.filter (alR (p.rs.take i) x y))))), z, none]) ⟨rfl, none, ?_⟩ (fun _ O' _ h => by rw [h.1]) ?_ ?_)
  · rw [List.take_zero]
    rfl
  · rintro E1 i d O' G' hd ⟨rfl, z, rfl⟩
    rw [List.getElem?_map] at hd
    cases hq : p.rs[i]? with
    | none => rw [hq] at hd; cases hd
    | some rl =>
    rw [hq] at hd
    have ed := Option.some.inj hd
    subst ed
    refine ⟨_, g_name, fun σ2 H2 C2 => ?_⟩
    have hrl : RuleOk p.n rl := hp.rs rl (List.mem_of_getElem? hq)
    have l3 : rl.al.length ≤ 3 := by rw [hrl.al]; exact R3.all_len _
    -- the filter of what stands at 3 by a test
    have cm : ∀ (G : Gm) (al : List R3) (pr : R3 → Bool) (tt : TT), al.length ≤ 3 → G[3]? = some (some (.d (.tuple (wds al)))) → (∀ r, EvT K tt ((wipeG G [5]).set 5 (some (.d (.str r.s)))) (pr r)) → G.length = 6 →
        Ev K (tCB (fun xs H Q => ∃ p ys, xs = [.ref p] ∧ ((SqL K H p ys ∧ ∀ l, H l = none → Q (.ref l) (upd H l (.tup ys))) ∨ (SqT K H p ys ∧ Q (.ref p) H))) (tCons (tLc (iTup K (tVar 3)) (gName 5) tt (tVar 5) [5]) tNil)) G (.tuple (wds (al.filter pr))) := fun G al pr tt hl hg ht hl6 => by
      refine ev_cb (ea_cons (ev_is (ev_lc (is := [5]) al (fun r => .str r.s) pr (fun r => .str r.s) (ei_tup ?_) (fun i h => h) (fun r hr => ⟨_, g_name, ht r, fun _ => ev_var ?_⟩) (by omega)) (by rw [← wds_eq])) ea_nil) rc_tupL
      · rw [← wds_eq]
        exact ev_var hg
      · rw [List.getElem?_set_self]
        rw [wipeG_len, hl6]
        decide
    have fl : ∀ pr : R3 → Bool, (R3.all.filter pr).length ≤ 3 := fun pr => R3.all_len pr
    have fl2 : ∀ pr qr : R3 → Bool, ((R3.all.filter pr).filter qr).length ≤ 3 := fun pr qr => Nat.le_trans (List.length_filter_le _ _) (R3.all_len pr)
    have fin : ∀ pr : R3 → Bool, (∀ r, pr r = alQ rl x y r) → (R3.all.filter (alR (p.rs.take i) x y)).filter pr = R3.all.filter (alR (p.rs.take (i + 1)) x y) := fun pr h => by
      rw [List.filter_filter]
      refine List.filter_congr fun r _ => ?_
      rw [alR_take hq, h r, Bool.and_comm]
    have op : ∀ r : R3, decide (r ∈ R3.all.filter fun r => decide (r.opp ∈ rl.al)) = decide (r.opp ∈ rl.al) := fun r => by
      rw [Bool.eq_iff_iff, decide_eq_true_iff, decide_eq_true_iff, List.mem_filter, decide_eq_true_iff]
      exact ⟨fun h => h.2, fun h => ⟨r.mem_all, h⟩⟩
    have out : ∀ {al : List R3} {σ : L2.St} {H5 : Hp} {G5 : Gm}, S K M (fun _ => False) H [] G5 (E1 ++ []) σ H5 → G5 = [some (.d (pbD p)), some (.d (.int x)), some (.d (.int y)), some (.d (.tuple (wds al))), some (.d (rlD rl)), none] → al = R3.all.filter (alR (p.rs.take (i + 1)) x y) →
        ∃ (O'' : Ow) (G'' : Gm), (O'' = [] ∧ ∃ z, G'' = [some (.d (pbD p)), some (.d (.int x)), some (.d (.int y)), some (.d (.tuple (wds (R3.all.filter (alR (p.rs.take (i + 1)) x y))))), z, none]) ∧ S K M (fun _ => False) H O'' G'' (E1 ++ []) σ H5 := fun {al σ H5 G5} C5 e1 e2 => by
      subst e1 e2
      exact ⟨_, _, ⟨rfl, _, rfl⟩, C5⟩
    -- the second if
    have two : ∀ {al : List R3} {σ : L2.St} {H3 : Hp} {G3 : Gm}, S K M (fun _ => False) H [] G3 (E1 ++ []) σ H3 → G3 = [some (.d (pbD p)), some (.d (.int x)), some (.d (.int y)), some (.d (.tuple (wds al))), some (.d (rlD rl)), none] → al.length ≤ 3 →
        ∀ (Dn : Ends), (∀ {σ5 : L2.St} {H5 : Hp} {G5 : Gm} {al5 : List R3}, S K M (fun _ => False) H [] G5 (E1 ++ []) σ5 H5 → G5 = [some (.d (pbD p)), some (.d (.int x)), some (.d (.int y)), some (.d (.tuple (wds al5))), some (.d (rlD rl)), none] →
          al5 = al.filter (fun r => !(decide (rl.x = y) && decide (rl.y = x)) || decide (r.opp ∈ rl.al)) → Dn.nx σ5 H5) →
        tIfS (tAnd (tTest (tOp rEq (tOp (rIx K) (tVar 4) (tC (.int 0))) (tVar 2))) (tTest (tOp rEq (tOp (rIx K) (tVar 4) (tC (.int 2))) (tVar 1))))
          (tAsg (tCB (fun xs H Q => ∃ p ys, xs = [.ref p] ∧ ((SqL K H p ys ∧ ∀ l, H l = none → Q (.ref l) (upd H l (.tup ys))) ∨ (SqT K H p ys ∧ Q (.ref p) H)))
            (tCons (tLc (iTup K (tVar 3)) (gName 5) (tTest (tOp (rIn K false) (tVar 5) (tCall (PSp K fOpposites) [] E0 (tCons (tOp (rIx K) (tVar 4) (tC (.int 1))) tNil)))) (tVar 5) [5]) tNil)) (gName 3)) tNext Dn σ H3 := fun {al σ H3 G3} C3 eg hl Dn k => by
      subst eg
      refine s_if C3 (EvT.at (et_and (et_test (ev_op (ev_op (ev_var rfl) ev_int (rv_ixT atI_0)) (ev_var rfl) rv_eqI)) fun _ => et_test (ev_op (ev_op (ev_var rfl) ev_int (rv_ixT atI_2)) (ev_var rfl) rv_eqI)) C3.en) (fun b2 H5 C5 => ?_) fun b2 H5 C5 => ?_
      · refine s_set C5 ((cm _ al (fun r => decide (r.opp ∈ rl.al)) _ hl rfl (fun r => et_is (et_test (ev_op (ev_var rfl) (ev_callF rl.al l3 (ea_cons (ev_op (ev_var rfl) ev_int (rv_ixT atI_1)) ea_nil)) rv_inRT)) (op r)) rfl).at C5.en) fun σ6 H6 C6 => ?_
        refine k C6 rfl ?_
        refine List.filter_congr fun r _ => ?_
        rw [b2]
        rfl
      · refine k (al5 := al) C5 rfl ?_
        rw [b2]
        exact (List.filter_eq_self.mpr fun _ _ => rfl).symm
    refine s_seq (s_if C2 (EvT.at (et_and (et_test (ev_op (ev_op (ev_var rfl) ev_int (rv_ixT atI_0)) (ev_var rfl) rv_eqI)) fun _ => et_test (ev_op (ev_op (ev_var rfl) ev_int (rv_ixT atI_2)) (ev_var rfl) rv_eqI)) C2.en) (fun b1 H3 C3 => ?_) fun b1 H3 C3 => ?_)
    · refine s_set C3 ((cm _ _ (fun r => decide (r ∈ rl.al)) _ (R3.all_len _) rfl (fun r => et_test (ev_op (ev_var rfl) (ev_op (ev_var rfl) ev_int (rv_ixT atI_1)) rv_inRT)) rfl).at C3.en) fun σ4 H4 C4 => ?_
      refine two C4 rfl (fl2 _ _) _ fun C5 eg e5 => out C5 eg ?_
      rw [e5, List.filter_filter]
      refine fin _ fun r => ?_
      unfold alQ
      rw [b1, Bool.and_comm]
      rfl
    · refine two C3 rfl (fl _) _ fun C5 eg e5 => out C5 eg ?_
      rw [e5]
      refine fin _ fun r => ?_
      unfold alQ
      rw [b1]
      rfl
  · rintro O' G' ⟨rfl, z, rfl⟩ σ2 H2 C2
    refine s_end C2 (fun _ h => h) (Ev.at (ev_var ?_) C2.low) q
    rw [List.length_map, List.take_length]
    rfl
abbrev fTies := FSpec (α := Prob × Int × Int) (fun z => ProbOk z.1) (fun z => [pbD z.1, .int z.2.1, .int z.2.2]) (fun z => .bool (tied z.1 z.2.1 z.2.2))
abbrev fBars := FSpec (α := Prob × Int × Int) (fun z => ProbOk z.1) (fun z => [pbD z.1, .int z.2.1, .int z.2.2]) (fun z => .bool (bar z.1 z.2.1 z.2.2))
theorem dec_alw (rs : List Rule) (x y : Int) (r : R3) : decide (r ∈ alw rs x y) = alR rs x y r := by
  rw [Bool.eq_iff_iff, decide_eq_true_iff, mem_alw]
theorem c_ties (D : DefAt K mg "ties" "ties" s_29 f) (c_allowed_of : Callee P w K mg base "allowed_of" k ["problem", "first", "second"] (PSp K fAllowedOf)) : Callee P w K mg base "ties" (k + 1) ["problem", "first", "second"] (PSp K fTies) := by
  refine mkF D sc_29 (fun _ _ _ _ _ _ us hl => match us, hl with | [_, _, _], _ => rfl) (fun _ => rfl) fun cdv A outer s H vs Q E M z hr hp C q => ?_
  obtain ⟨p, x, y⟩ := z
  refine ⟨_, (pss_one (ps_ret (pe_cmpR (kNi K rfl) pe_str (pe_cc c_allowed_of hr (by rfl) (pa_cons (pv 0) (pa_cons (pv 1) (pa_cons (pv 2) pa_nil)))) (by rfl)))), ?_⟩
  refine s_end C (fun _ h => h) (Ev.at ?_ C.low) q
  refine ev_is (ev_op (x := .str R3.e.s) ev_str (ev_callF (p, x, y) hp (ea_cons (ev_var rfl) (ea_cons (ev_var rfl) (ea_cons (ev_var rfl) ea_nil)))) rv_niRT) ?_
  rw [dec_alw]
  rfl
theorem c_bars (D : DefAt K mg "bars" "bars" s_30 f) (c_allowed_of : Callee P w K mg base "allowed_of" k ["problem", "first", "second"] (PSp K fAllowedOf)) : Callee P w K mg base "bars" (k + 1) ["problem", "first", "second"] (PSp K fBars) := by
  refine mkF D sc_30 (fun _ _ _ _ _ _ us hl => match us, hl with | [_, _, _], _ => rfl) (fun _ => rfl) fun cdv A outer s H vs Q E M z hr hp C q => ?_
  obtain ⟨p, x, y⟩ := z
  refine ⟨_, (pss_one (ps_ret (pe_cmpR (kNi K rfl) pe_str (pe_cc c_allowed_of hr (by rfl) (pa_cons (pv 0) (pa_cons (pv 1) (pa_cons (pv 2) pa_nil)))) (by rfl)))), ?_⟩
  refine s_end C (fun _ h => h) (Ev.at ?_ C.low) q
  refine ev_is (ev_op (x := .str R3.b.s) ev_str (ev_callF (p, x, y) hp (ea_cons (ev_var rfl) (ea_cons (ev_var rfl) (ea_cons (ev_var rfl) ea_nil)))) rv_niRT) ?_
  rw [dec_alw]
  rfl
end
end Tb
set_option Elab.async false
set_option linter.all false
set_option maxRecDepth 100000
set_option maxHeartbeats 4000000
/-! ## More of the statements: owned objects of other kinds, a local that holds a def -/
namespace Tb
open PySem PySem.Spec PyProof.Rows L2
section
variable {K : PySem.W.Frag} {M0 W M1 : MS} {H0 H H2 : Hp} {O O' : Ow} {σ : L2.St} {G G1 G2 : Gm} {E : List (V × PyData)} {te : TE} {tt : TT} {d : PyData} {ds es : List PyData} {D : Ends} {ta tb : TS} {b : Bool} {i : Nat} {a p : Addr}
theorem mm_perm (h : O.Perm O') (a : Addr) : MM M0 O' a → MM M0 O a := fun z => z.elim .inl fun m => .inr ((h.map (·.1)).mem_iff.mpr m)
theorem ODOk.less {M M' : MS} {x : OD} (hm : ∀ a, M' a → M a) (h : ODOk K M H a x) : ODOk K M' H a x := h.mono (fun _ _ _ e => e) (fun a z => .inl (hm a z)) fun _ e => e
/-- what is owned, in another order -/
theorem S.perm (C : S K M0 W H0 O G E σ H) (h : O.Perm O') : S K M0 W H0 O' G E σ H :=
  ⟨C.en.less (mm_perm h), C.mo, C.sm, fun q hq => ⟨(C.ow q (h.mem_iff.mpr hq)).1, (C.ow q (h.mem_iff.mpr hq)).2.less (mm_perm h)⟩, (h.map (·.1)).nodup_iff.mp C.nd, fun a w => (h.map (·.1)).mem_iff.mp (C.wo a w), fun q hq => (C.ex q hq).less (mm_perm h)⟩
theorem S.swap {x y : Addr × OD} (C : S K M0 W H0 (x :: y :: O) G E σ H) : S K M0 W H0 (y :: x :: O) G E σ H := C.perm (List.Perm.swap _ _ _)
/-- the head of what is owned is changed -/
theorem S.putR {x : OD} (C : S K M0 W H0 ((a, x) :: O) G E σ H) (o : HO) : S K M0 W H0 ((a, .raw o) :: O) G E σ (upd H a o) := by
  have hM : ∀ b, MM M0 ((a, OD.raw o) :: O) b → MM M0 ((a, x) :: O) b := fun b h => h
  have na : ∀ b, ¬ MM M0 ((a, x) :: O) b → b ≠ a := fun b h e => h (.inr (e ▸ List.mem_cons_self))
  have hs : ∀ b u, ¬ MM M0 ((a, x) :: O) b → H b = some u → upd H a o b = some u := fun b u n h => by
    rw [upd_ne (na b n)]
    exact h
  have hm : ∀ b, MM M0 ((a, OD.raw o) :: O) b → MM M0 ((a, x) :: O) b ∨ H b = none := fun b h => .inl (hM b h)
  have mo : MOk (MM M0 ((a, OD.raw o) :: O)) (upd H a o) := fun b h z => by
    by_cases e : b = a
    · rw [e, upd_same] at z
      cases z
    · rw [upd_ne e] at z
      exact C.en.mok b (hM b h) z
  have hno := (List.nodup_cons.mp C.nd).1
  refine ⟨C.en.mono hs hm mo, C.mo, fun b u w e => ?_, fun q hq => ?_, C.nd, C.wo, fun q hq => (C.ex q hq).mono hs hm⟩
  · have hb : b ≠ a := fun z => by
      rcases (C.ow _ List.mem_cons_self).1 with h | h
      · exact w (z ▸ h)
      · have h2 : H0 a = none := h
        rw [← z, e] at h2
        cases h2
    rw [upd_ne hb]
    exact C.sm b u w e
  · rcases List.mem_cons.mp hq with e | hq
    · subst e
      exact ⟨(C.ow _ List.mem_cons_self).1, upd_same⟩
    · have hb : q.1 ≠ a := fun z => hno (z ▸ List.mem_map.mpr ⟨q, hq, rfl⟩)
      refine ⟨(C.ow q (List.mem_cons_of_mem _ hq)).1, (C.ow q (List.mem_cons_of_mem _ hq)).2.mono hs hm fun u h => ?_⟩
      rw [upd_ne hb]
      exact h
/-- an owned list read at its address -/
theorem S.rd (C : S K M0 W H0 O G E σ H) (h : (a, .lst ds) ∈ O) : ∃ xs, H a = some (.lst xs) ∧ RepL K (MM M0 O) H xs ds := (C.ow _ h).2
theorem S.rdR {o : HO} (C : S K M0 W H0 O G E σ H) (h : (a, .raw o) ∈ O) : H a = some o := (C.ow _ h).2
/-- a new object of one's own of any kind, in slot i -/
theorem S.newR (C : S K M0 W H0 O G E σ H) (hp : H p = none) (o : HO) (i : Nat) : S K M0 W H0 ((p, .raw o) :: O) (G.set i (some (.r (.ref p)))) E (σ.set i (some (.ref p))) (upd H p o) := by
  have C1 := C.new hp (.nil (K := K) (M := MM M0 O) (H := H)) i
  have C2 := C1.putR o
  rw [upd_upd] at C2
  exact C2
/-- a slot's raw value -/
theorem S.raw {v : V} (C : S K M0 W H0 O G E σ H) (hi : G[i]? = some (some (.r v))) : σ[i]? = some (some v) := by
  obtain ⟨u, h1, h2⟩ := C.en.at_ i _ hi
  have h3 : u = v := h2
  subst h3
  exact h1
theorem S.dat (C : S K M0 W H0 O G E σ H) (hi : G[i]? = some (some (.d d))) : ∃ v, σ[i]? = some (some v) ∧ Rep K (MM M0 O) H v d := C.en.at_ i _ hi
end
theorem s_whileq {c : TT} {tb tx : TS} {D : Ends} {σ : L2.St} {H : Hp} (W : Nat → L2.St → Hp → Prop) (h0 : ∃ m, W m σ H)
    (step : ∀ m σ H, W m σ H → ∃ b, AtT c σ H b ∧ (b = true → ∀ H1, Same H H1 → tb { nx := fun σ' H' => ∃ m', m' < m ∧ W m' σ' H', ct := fun σ' H' => ∃ m', m' < m ∧ W m' σ' H', bk := tx D, rt := D.rt } σ H1) ∧ (b = false → ∀ H1, Same H H1 → tx D σ H1)) : tSeq (tWhile c tb) tx D σ H :=
  s_seq ⟨W, h0, fun m σ H hW => by
    obtain ⟨b, h1, h2, h3⟩ := step m σ H hW
    refine h1 _ fun H1 s1 => ?_
    cases b with
    | true => exact ⟨fun σ' H' => ∃ m', m' < m ∧ W m' σ' H', fun σ' H' h => h, h2 rfl H1 s1⟩
    | false => exact h3 rfl H1 s1⟩
/-- x = [e, ..], a list of one's own -/
theorem s_newLq {K : PySem.W.Frag} {M0 W : MS} {H0 H : Hp} {O : Ow} {σ : L2.St} {G : Gm} {E : List (V × PyData)} {as : TA} {ds : List PyData} {D : Ends} {tx : TS} {i : Nat} (C : S K M0 W H0 O G E σ H) (h : AtA K (MM M0 O) as σ H ds) (hl : ds.length ≤ 1000)
    (k : ∀ p σ' H', S K M0 W H0 ((p, .lst ds) :: O) (G.set i (some (.r (.ref p)))) E σ' H' → tx D σ' H') : tSeq (tAsg (tLst as) (gName i)) tx D σ H :=
  s_seq (h _ fun vs H1 s1 r1 => ⟨Nat.le_of_lt (small1000 (by rw [r1.length]; exact hl)), fun p hp => k p _ _ ((C.same s1).new hp r1 i)⟩)
/-- a call of the def that slot i holds: its promise goes with its address -/
def tCallH (P : Program) (w : World) (K : PySem.W.Frag) (mg : Str → Option Value) (base : Heap) (k i : Nat) (t : TA) : TE := fun σ H Q => ∃ f sp, σ[i]? = some (some (.ref f)) ∧ Held P w K mg base k f sp ∧ t σ H fun vs H1 => sp vs H1 Q E0
theorem pe_callH {X : Cx} {k i : Nat} {x : Str} {p pos : Pos} {e : Expr} {es : List Expr} {t : TA} (hr : Room k X.A) (hN : X.N[i]? = some x) (hv : Vis X.env.scope x) (ha : PA X (e :: es) t)
    (hdb : (x == ("__debug__" : Str)) = false := by decide) (hcd : (x == ("__classdict__" : Str)) = false := by decide)
    (he : starEach (e :: es) X.env = (false, eval e X.env) :: starEach es X.env := by rfl) (hpl : (backTo pos (starEach es X.env)).any (·.1) = false := by rfl) : PE X (.Call (.Name x p) (e :: es) [] pos) (tCallH X.prog X.w X.K X.mg X.base k i t) := by
  refine ⟨fun pins s σ H Q I h => ?_⟩
  obtain ⟨f, sp, hs, A, ht⟩ := h
  obtain ⟨fd, ps, F, hk, hb⟩ := A.ex
  refine (pe_callL (i := i) (f := f) (sp := sp) (dvs := []) (E := E0) F hr hN hv hk hb .nil (fun _ _ _ _ _ _ _ z => z.elim) ha hdb hcd he hpl).run pins s σ H Q I ⟨hs, ?_⟩
  have e0 : (fun (vs : List V) (H1 : Hp) => sp (vs ++ []) H1 Q E0) = fun vs H1 => sp vs H1 Q E0 := by
    funext vs H1
    rw [List.append_nil]
  show t σ H (fun vs H1 => sp (vs ++ []) H1 Q E0)
  rw [e0]
  exact ht
theorem Callee.held {P : Program} {w : World} {K : PySem.W.Frag} {mg : Str → Option Value} {base : Heap} {x : Str} {k : Nat} {ps : List Str} {sp : Sp} (C : Callee P w K mg base x k ps sp) : ∃ f, mg x = some (.ref f) ∧ Held P w K mg base k f sp := by
  obtain ⟨f, fd, h1, h2, h3, h4⟩ := C.ex
  exact ⟨f, h1, ⟨fd, ps, h4, h2, h3⟩⟩
end Tb
set_option Elab.async false
set_option linter.all false
set_option maxRecDepth 100000
set_option maxHeartbeats 4000000
/-! ## thenbeside.sticking -/
namespace Tb
open PySem PySem.Spec PyProof.Rows L2
abbrev s_28 : Stmt := top 28
theorem sc_28 : FnScope ["value", "size", "task", "one", "other"] ["value", "size"] (defScope s_28) := ⟨rfl, rfl, rfl, by decide +kernel, rfl, by decide +kernel, by decide +kernel⟩
abbrev s_31 : Stmt := top 31
theorem sc_31 : FnScope ["problem", "chosen", "task", "leads", "found", "waiting", "here", "other"] ["problem", "chosen", "task", "leads"] (defScope s_31) := ⟨rfl, rfl, rfl, by decide +kernel, rfl, by decide +kernel, by decide +kernel⟩
abbrev s_32 : Stmt := top 32
theorem sc_32 : FnScope ["problem", "chosen", "part", "task", "other"] ["problem", "chosen"] (defScope s_32) := ⟨rfl, rfl, rfl, by decide +kernel, rfl, by decide +kernel, by decide +kernel⟩
abbrev s_33 : Stmt := top 33
theorem sc_33 : FnScope ["problem", "chosen"] ["problem", "chosen"] (defScope s_33) := ⟨rfl, rfl, rfl, by decide +kernel, rfl, by decide +kernel, by decide +kernel⟩
/-- the whole number that it is -/
def iD : PyData → Int
  | .int i => i
  | _ => 0
/-- each less than the next -/
def asc (ns : List Int) : Bool := (List.zipWith (fun a b => decide (a < b)) ns (ns.drop 1)).all id
/-- all items are tasks below n -/
def allV (n : Int) : PyData → Bool
  | .tuple ds => ds.all (isT n)
  | _ => true
/-- a set of tasks below n -/
def isSet (n : Int) : PyData → Bool
  | .tuple ds => ds.all (isT n) && asc (ds.map iD)
  | _ => false
theorem allT {n : Int} : ∀ {ds : List PyData}, ds.all (isT n) = true → ds = (ds.map iD).map PyData.int
  | [], _ => rfl
  | d :: ds, h => by
    rw [List.all_cons, Bool.and_eq_true] at h
    have ih := allT h.2
    cases d with
    | int i =>
      show PyData.int i :: ds = PyData.int i :: _
      rw [← ih]
    | none => exact absurd h.1 (by simp [isT])
    | bool b => exact absurd h.1 (by simp [isT])
    | str b => exact absurd h.1 (by simp [isT])
    | list b => exact absurd h.1 (by simp [isT])
    | tuple b => exact absurd h.1 (by simp [isT])
    | dict b => exact absurd h.1 (by simp [isT])
theorem asc_sorted : ∀ {ns : List Int}, asc ns = true → ns.Pairwise (· < ·)
  | [], _ => .nil
  | [x], _ => List.pairwise_singleton _ _
  | x :: y :: r, h => by
    have h1 : (decide (x < y) && asc (y :: r)) = true := h
    rw [Bool.and_eq_true] at h1
    have ih := asc_sorted h1.2
    refine List.pairwise_cons.mpr ⟨fun z hz => ?_, ih⟩
    have hxy : x < y := of_decide_eq_true h1.1
    rcases List.mem_cons.mp hz with e | hz
    · rw [e]
      exact hxy
    · have := (List.pairwise_cons.mp ih).1 z hz
      omega
section
variable {P : Program} {w : World} {K : PySem.W.Frag} {mg : Str → Option Value} {base : Heap} {k : Nat} {f aR aO : Addr}
abbrev fIsSet := FSpec (α := PyData × Int) (fun z => (match z.1 with | .tuple ds => ds.length ≤ 1000 | _ => True)) (fun z => [z.1, .int z.2]) (fun z => .bool (isSet z.2 z.1))
theorem wipe2 {G : Gm} {i j : Nat} : (wipeG G [i, j]).length = G.length := wipeG_len G _
theorem sIx_1 (n : Nat) : HT.sIx n 0 (some (1 : Int)) = min 1 n := HT.sIx_nat n 0 1
theorem cut1D {α : Type} (xs : List α) : cutD xs (some 1) none = xs.drop 1 := by
  unfold cutD
  rw [sIx_1, HT.sIx_none]
  cases xs with
  | nil => rfl
  | cons x r =>
    have e : min 1 (x :: r).length = 1 := by rw [List.length_cons]; omega
    rw [e]
    refine List.take_of_length_le ?_
    rw [List.length_drop]
    exact Nat.le_refl _
theorem zw_map (ns ms : List Int) : List.zipWith (fun a b => PyData.tuple [a, b]) (ns.map PyData.int) (ms.map PyData.int) = (ns.zip ms).map fun z => .tuple [.int z.1, .int z.2] := by
  induction ns generalizing ms with
  | nil => rfl
  | cons n ns ih =>
    cases ms with
    | nil => rfl
    | cons m ms =>
      rw [List.map_cons, List.map_cons, List.zipWith_cons_cons, ih, List.zip_cons_cons, List.map_cons]
theorem c_is_set (D : DefAt K mg "is_set" "is_set" s_28 f) (B : Bi mg) (c_is_task_sticking : Callee P w K mg base "is_task_sticking" k ["value", "size"] (PSp K fIsTask)) : Callee P w K mg base "is_set" (k + 1) ["value", "size"] (PSp K fIsSet) := by
  refine mkF D sc_28 (fun _ _ _ _ _ _ us hl => match us, hl with | [_, _], _ => rfl) (fun _ => rfl) fun cdv A outer s H vs Q E M z hr hp C q => ?_
  obtain ⟨v, n⟩ := z
  refine ⟨_, (pss_cons (ps_if (PW.pt (pw_or (pt_not (pt_val (pe_callB (kIsi K rfl) (by rfl) B.isinstance_ (by decide +kernel) (pa_cons (pv 0) (pa_cons (pe_bltn (v := .ty "tuple") (by rfl) B.tuple_ (by decide +kernel) rfl) pa_nil))))) (pw_or1 (pt_not (pt_val (pe_callB (kAll K rfl (by rfl)) (by rfl) B.all_ (by decide +kernel) (pa_cons (pe_lc (own := [("task", 2)]) (by rfl) sc_28.nd (kpT K rfl (pv 0)) (blkOk_by (own := [("task", 2)]) (N := ["value", "size", "task", "one", "other"]) (sc := defScope s_28) (by decide +kernel)) (fun _ _ _ _ _ => (pg_name (i := 2) sc_28.nd rfl (.inl rfl))) (fun _ _ _ _ _ => pts_nil) (fun _ _ _ _ _ => (pe_cc c_is_task_sticking hr (by rfl) (pa_cons (pv 2) (pa_cons (pv 1) pa_nil))))) pa_nil))))))) (pss_one (ps_ret pe_bl)) pss_nil)
      (pss_one (ps_ret (pe_callB (kAll K rfl (by rfl)) (by rfl) B.all_ (by decide +kernel) (pa_cons (pe_lc (own := [("one", 3), ("other", 4)]) (by rfl) sc_28.nd (kpZ K rfl (by rfl) B.zip_ (pa_cons (pv 0) (pa_cons (pe_slice (kSlA K rfl) (pv 0) (po_some pe_int) po_none) pa_nil))) (blkOk_by (own := [("one", 3), ("other", 4)]) (N := ["value", "size", "task", "one", "other"]) (sc := defScope s_28) (by decide +kernel)) (fun _ _ _ _ _ => (kgT 2 K rfl (by rfl) (pgs_cons (pg_name (i := 3) sc_28.nd rfl (.inl rfl)) (pgs_cons (pg_name (i := 4) sc_28.nd rfl (.inl rfl)) pgs_nil)))) (fun _ _ _ _ _ => pts_nil) (fun _ _ _ _ _ => (pe_cmpR op_lt (pv 3) (pv 4) (by rfl)))) pa_nil))))), ?_⟩
  refine s_if1 (b := !(isTup v && allV n v)) C (EvT.at ?_ C.low) (fun hb H1 C1 => ?_) fun hb H1 C1 => ?_
  · refine et_is (et_or (c := !allV n v) (et_not (et_B (ev_isTup (ev_var rfl)))) fun h => ?_) (by cases isTup v <;> rfl)
    cases v with
    | tuple ds =>
      have hl : ds.length ≤ 1000 := hp
      refine et_not (et_B (ev_cb (ea_cons (ev_lc1 (is := [2]) ds id (fun d => .bool (isT n d)) (ei_tup (ev_var (by rw [List.map_id]; rfl))) (fun i h => h) (fun d hd => ⟨_, g_name, ev_callF (d, n) trivial (ea_cons (ev_var rfl) (ea_cons (ev_var rfl) ea_nil))⟩) (by omega)) ea_nil) ?_))
      have e : (ds.map fun d => PyData.bool (isT n d)) = (ds.map (isT n)).map PyData.bool := by rw [List.map_map]; rfl
      rw [e]
      refine rc_all ?_
      rw [List.all_map]
      rfl
    | _ => cases h
  · refine s_end C1 (fun _ h => h) (Ev.at ev_bl C1.low) ?_
    have e : isSet n v = false := by
      cases v with
      | tuple ds =>
        have hb2 : (!(true && ds.all (isT n))) = true := hb
        show (ds.all (isT n) && asc (ds.map iD)) = false
        cases q : ds.all (isT n) with
        | false => rfl
        | true => rw [q] at hb2; cases hb2
      | _ => rfl
    rw [← e]
    exact q
  · cases v with
    | tuple ds =>
      have hl : ds.length ≤ 1000 := hp
      have ha : ds.all (isT n) = true := by
        have hb2 : (!(true && ds.all (isT n))) = false := hb
        cases q : ds.all (isT n) with
        | true => rfl
        | false => rw [q] at hb2; cases hb2
      have hd := allT ha
      generalize hns : ds.map iD = ns at hd
      subst hd
      have hl2 : ns.length ≤ 1000 := by rw [List.length_map] at hl; exact hl
      have e1 : isSet n (.tuple (ns.map PyData.int)) = asc ns := by
        show ((ns.map PyData.int).all (isT n) && asc ((ns.map PyData.int).map iD)) = asc ns
        rw [ha, Bool.true_and, hns]
      refine s_end C1 (fun _ h => h) (Ev.at ?_ C1.low) q
      show Ev K _ _ (.bool (isSet n (.tuple (ns.map PyData.int))))
      rw [e1]
      refine ev_cb (ea_cons (ev_lc1 (is := [3, 4]) (ns.zip (ns.drop 1)) (fun z => .tuple [.int z.1, .int z.2]) (fun z => .bool (decide (z.1 < z.2))) ?_ (fun i h => h) (fun z hz => ⟨_, g_tup (gs_cons g_name (gs_cons g_name gs_nil)) rfl, ev_op (ev_var rfl) (ev_var rfl) rv_lt⟩) ?_) ea_nil) ?_
      · rw [← zw_map]
        refine ei_zipT (ea_cons (ev_var rfl) (ea_cons (ev_is (ev_slT (ev_var rfl) (eo_some ev_int) eo_none) ?_) ea_nil))
        rw [cut1D, List.map_drop]
      · rw [List.length_zip]
        omega
      · have e : ((ns.zip (ns.drop 1)).map fun z => PyData.bool (decide (z.1 < z.2))) = (List.zipWith (fun a b => decide (a < b)) ns (ns.drop 1)).map PyData.bool := by
          rw [List.zip, List.map_zipWith, List.map_zipWith]
        rw [e]
        exact rc_all rfl
    | _ => cases hb
/-! reach -/
/-- what a lead is: a def that answers l -/
abbrev fLead (l : Prob → Int → Int → Bool) := FSpec (α := Prob × Int × Int) (fun z => ProbOk z.1) (fun z => [pbD z.1, .int z.2.1, .int z.2.2]) (fun z => .bool (l z.1 z.2.1 z.2.2))
def spReach (P : Program) (w : World) (K : PySem.W.Frag) (mg : Str → Option Value) (base : Heap) (k : Nat) : Sp := fun vs H Q _ => ∃ (M : MS) (p : Prob) (s : List Int) (t : Int) (l : Prob → Int → Int → Bool) (a : Addr) (v0 v1 : V),
  vs = [v0, v1, .int t, .ref a] ∧ MOk M H ∧ Rep K M H v0 (pbD p) ∧ Rep K M H v1 (setD s) ∧ ProbOk p ∧ t ∈ s ∧ s.Pairwise (· < ·) ∧ s.length ≤ 7 ∧ Held P w K mg base k a (PSp K (fLead l)) ∧ ∀ u H2, Same H H2 → Rep K M H2 u (setD (rch (l p) s t)) → Q u H2
/-- what the loops of reach keep: ws waiting, fs found; within the inner loop c is the task at hand and d those gone through -/
structure RInv (l : Int → Int → Bool) (s : List Int) (t : Int) (ws fs : List Int) (c : Option Int) (d : List Int) : Prop where
  nd : fs.Nodup
  sub : ∀ x, x ∈ fs → x ∈ s
  tin : t ∈ fs
  wf : ∀ x, x ∈ ws → x ∈ fs
  r : ∀ x, x ∈ fs → Rch l s t x
  cl : ∀ x, x ∈ fs → x ∉ ws → c ≠ some x → ∀ y, y ∈ s → l x y = true → y ∈ fs
  cd : ∀ x, c = some x → x ∈ fs ∧ ∀ y, y ∈ d → l x y = true → y ∈ fs
theorem RInv.push {l : Int → Int → Bool} {s : List Int} {t h y : Int} {ws fs d : List Int} (I : RInv l s t ws fs (some h) d) (ys : y ∈ s) (nf : y ∉ fs) (e : l h y = true) : RInv l s t (ws ++ [y]) (fs ++ [y]) (some h) (d ++ [y]) where
  nd := by
    rw [List.nodup_append]
    refine ⟨I.nd, by simp, fun a ha b hb => ?_⟩
    rw [List.mem_singleton.mp hb]
    exact fun z => nf (z ▸ ha)
  sub := fun x hx => by
    rcases List.mem_append.mp hx with hx | hx
    · exact I.sub x hx
    · rw [List.mem_singleton.mp hx]
      exact ys
  tin := List.mem_append_left _ I.tin
  wf := fun x hx => by
    rcases List.mem_append.mp hx with hx | hx
    · exact List.mem_append_left _ (I.wf x hx)
    · exact List.mem_append_right _ hx
  r := fun x hx => by
    rcases List.mem_append.mp hx with hx | hx
    · exact I.r x hx
    · rw [List.mem_singleton.mp hx]
      have hh := (I.cd h rfl).1
      exact (I.r h hh).step (I.sub h hh) ys e
  cl := fun x hx hn hc z hz e2 => by
    rcases List.mem_append.mp hx with hx | hx
    · exact List.mem_append_left _ (I.cl x hx (fun q => hn (List.mem_append_left _ q)) hc z hz e2)
    · exact absurd (List.mem_append_right _ hx) hn
  cd := fun x hx => by
    refine ⟨List.mem_append_left _ (I.cd x hx).1, fun z hz e2 => ?_⟩
    rcases List.mem_append.mp hz with hz | hz
    · exact List.mem_append_left _ ((I.cd x hx).2 z hz e2)
    · exact List.mem_append_right _ hz
theorem RInv.skip {l : Int → Int → Bool} {s : List Int} {t h y : Int} {ws fs d : List Int} (I : RInv l s t ws fs (some h) d) (e : l h y = true → y ∈ fs) : RInv l s t ws fs (some h) (d ++ [y]) :=
  ⟨I.nd, I.sub, I.tin, I.wf, I.r, I.cl, fun x hx => ⟨(I.cd x hx).1, fun z hz e2 => by
    rcases List.mem_append.mp hz with hz | hz
    · exact (I.cd x hx).2 z hz e2
    · rw [List.mem_singleton.mp hz] at e2 ⊢
      rw [← Option.some.inj hx] at e2
      exact e e2⟩⟩
theorem RInv.done {l : Int → Int → Bool} {s : List Int} {t h : Int} {ws fs : List Int} (I : RInv l s t ws fs (some h) s) : RInv l s t ws fs none [] :=
  ⟨I.nd, I.sub, I.tin, I.wf, I.r, fun x hx hn _ y hy e => by
    by_cases hxh : h = x
    · exact (I.cd h rfl).2 y hy (hxh ▸ e)
    · exact I.cl x hx hn (fun z => hxh (Option.some.inj z)) y hy e, fun x hx => by cases hx⟩
def kvF (fs : List Int) : List (Key × V) := fs.map fun i => (Sum.inl i, V.bl true)
theorem kvF_val (fs : List Int) (i : Int) : (valV (kvF fs) (Sum.inl i)).isSome = decide (i ∈ fs) := by
  induction fs with
  | nil => rfl
  | cons x fs ih =>
    show (Option.map _ (List.find? _ ((Sum.inl x, V.bl true) :: kvF fs))).isSome = _
    rw [List.find?_cons]
    by_cases h : x = i
    · subst h
      rw [decide_eq_true rfl, decide_eq_true List.mem_cons_self]
      rfl
    · have e : decide ((Sum.inl x : Key) = Sum.inl i) = false := decide_eq_false fun z => h (Sum.inl.inj z)
      rw [e]
      have e2 : decide (i ∈ x :: fs) = decide (i ∈ fs) := by
        rw [Bool.eq_iff_iff, decide_eq_true_iff, decide_eq_true_iff, List.mem_cons]
        exact ⟨fun z => z.resolve_left fun z => h z.symm, .inr⟩
      rw [e2]
      exact ih
theorem kvF_put (fs : List Int) (i : Int) (h : i ∉ fs) : putK (kvF fs) (Sum.inl i) (.bl true) = kvF (fs ++ [i]) := by
  unfold putK
  rw [if_neg]
  · unfold kvF
    rw [List.map_append]
    rfl
  · rw [List.any_eq_true]
    rintro ⟨q, hq, e⟩
    obtain ⟨x, hx, rfl⟩ := List.mem_map.mp hq
    have e2 : (Sum.inl x : Key) = Sum.inl i := of_decide_eq_true e
    rw [Sum.inl.inj e2] at hx
    exact h hx
theorem kvF_keys (fs : List Int) : (kvF fs).map (·.1) = fs.map Sum.inl := by
  unfold kvF
  rw [List.map_map]
  rfl
theorem sub_len {fs s : List Int} (h : fs.Nodup) (hs : ∀ x, x ∈ fs → x ∈ s) : fs.length ≤ s.length := by
  induction fs generalizing s with
  | nil => exact Nat.zero_le _
  | cons x fs ih =>
    obtain ⟨h1, h2⟩ := List.nodup_cons.mp h
    have hx : x ∈ s := hs x List.mem_cons_self
    have ih2 := ih (s := s.erase x) h2 fun y hy => by
      have hne : y ≠ x := fun e => h1 (e ▸ hy)
      exact (List.mem_erase_of_ne hne).mpr (hs y (List.mem_cons_of_mem _ hy))
    rw [List.length_erase_of_mem hx] at ih2
    have := List.length_pos_of_mem hx
    rw [List.length_cons]
    omega
theorem nodup_lt {s : List Int} (h : s.Pairwise (· < ·)) : s.Nodup := h.imp fun h e => by rw [e] at h; exact absurd h (Int.lt_irrefl _)
/-- at the end: the sorted found ones are those that are reached -/
theorem reach_end {l : Int → Int → Bool} {s : List Int} {t : Int} {fs ys : List Int} (hs : s.Pairwise (· < ·)) (I : RInv l s t [] fs none []) (hp : ys.Perm fs) (ho : ys.Pairwise (· ≤ ·)) : ys = rch l s t := by
  have m : ∀ y, y ∈ ys ↔ y ∈ rch l s t := fun y => by
    rw [hp.mem_iff, mem_rch]
    constructor
    · exact fun h => ⟨I.sub y h, I.r y h⟩
    · rintro ⟨h1, h2⟩
      exact h2 (fun z => z ∈ fs) I.tin fun u hu v hv hq e => I.cl u hq (by simp) (by simp) v hv e
  have n1 : ys.Nodup := hp.nodup_iff.mpr I.nd
  have s2 : (rch l s t).Pairwise (· < ·) := hs.filter _
  have n2 : (rch l s t).Nodup := nodup_lt s2
  have p2 : ys.Perm (rch l s t) := (List.perm_ext_iff_of_nodup n1 n2).mpr m
  exact List.Perm.eq_of_pairwise (le := fun a b : Int => a ≤ b) (fun a b _ _ h1 h2 => Int.le_antisymm h1 h2) ho (s2.imp fun h => Int.le_of_lt h) p2
theorem c_reach {aT : Addr} (D : DefAt K mg "reach" "reach" s_31 f) (B : Bi mg) : Callee P w K mg base "reach" (k + 1) ["problem", "chosen", "task", "leads"] (spReach P w K mg base k) := by
  refine mkC D sc_31 (fun _ _ _ _ _ _ us hl => match us, hl with | [_, _, _, _], _ => rfl) (fun vs H Q E h => ?_) (fun cdv A outer s0 H vs Q E hr h => ?_)
  · obtain ⟨M, p, s, t, l, a, v0, v1, rfl, _⟩ := h
    rfl
  · obtain ⟨M, p, s, t, l, a, v0, v1, rfl, m, r0, r1, hp, ht, hs, hl, hA, q⟩ := h
    refine ⟨_, (pss_cons (ps_set (i := 4) sc_31.nd rfl (.inl rfl) (pe_disp (pps_cons (pv 2) pe_bl pps_nil) (by rfl) (by rfl) (fun z => by cases z) (by decide)))
      (pss_cons (ps_set (i := 5) sc_31.nd rfl (.inl rfl) (pe_lst (pa_cons (pv 2) pa_nil)))
      (pss_cons (ps_while PassesOwn.never (kTru K rfl (pv 5) (by intro _; rfl)) (pss_cons (ps_set (i := 6) sc_31.nd rfl (.inl rfl) (pe_bm0 PySem.F.plainAttrs_list PySem.F.slot_list_pop PySem.F.type_list_pop mt_pop (pv 5)))
      (pss_one (ps_for PassesOwn.never (by rfl) (kpT K rfl (pv 1)) (pg_name (i := 7) sc_31.nd rfl (.inl rfl)) (pss_one (ps_if (PW.pt (pw_and (pt_cmp (pc_dnotin (hu_of hr) (pv 7) (pv 4))) (pw_and1 (pt_val (pe_callH (i := 3) hr rfl (.inl rfl) (pa_cons (pv 0) (pa_cons (pv 6) (pa_cons (pv 7) pa_nil)))))))) (pss_cons (ps_dput (hu_of hr) (pv 4) (pv 7) pe_bl rfl)
      (pss_one (ps_expr (kBM K rfl PySem.F.plainAttrs_list PySem.F.slot_list_append PySem.F.type_list_append mt_append (pv 5) (pa_cons (pv 7) pa_nil))))) pss_nil))))))
      (pss_one (ps_ret (pe_callTy (kTupC K rfl) (by rfl) B.tuple_ (by decide +kernel) (pa_cons (pe_callB (call_sortedDI (by rfl)) (by rfl) B.sorted_ (by decide +kernel) (pa_cons (pv 4) pa_nil)) pa_nil))))))), ?_⟩
    have en0 : En K M H (L2.start ["problem", "chosen", "task", "leads", "found", "waiting", "here", "other"] [v0, v1, .int t, .ref a]) [some (.d (pbD p)), some (.d (setD s)), some (.d (.int t)), some (.r (.ref a)), none, none, none, none] := by
      have e := start_en (N := ["problem", "chosen", "task", "leads", "found", "waiting", "here", "other"]) m (.cons r0 (.cons r1 (.cons (.int t) (.cons (d := .none) (v := .non) .non .nil))))
      refine ⟨rfl, fun i x hx => ?_, m⟩
      match i, hx with
      | 0, hx => cases hx; exact ⟨v0, rfl, r0⟩
      | 1, hx => cases hx; exact ⟨v1, rfl, r1⟩
      | 2, hx => cases hx; exact ⟨.int t, rfl, .int t⟩
      | 3, hx => cases hx; exact ⟨.ref a, rfl, rfl⟩
      | i + 8, hx => cases hx
    have C : S K M (fun _ => False) H [] [some (.d (pbD p)), some (.d (setD s)), some (.d (.int t)), some (.r (.ref a)), none, none, none, none] [] _ H := S.start m en0
    -- found = {task: True}
    refine s_seq fun pf hpf => ?_
    refine ⟨.int t, rfl, ?_⟩
    refine ⟨upd_same, [(Sum.inl t, .bl true)], rfl, (show 1 ≤ 15 by decide), ?_⟩
    have C1 := C.newR hpf (.dK (kvF [t])) 4
    have eu : upd (upd H pf (.dK [])) pf (.dK (mergeK [] [(Sum.inl t, V.bl true)])) = upd H pf (.dK (kvF [t])) := by
      rw [upd_upd]
      rfl
    rw [eu]
    clear eu
    -- waiting = [task]
    show tSeq _ _ _ _ _
    refine s_newLq (ds := [.int t]) C1 ((ea_cons (ev_var rfl) ea_nil).at C1.en) (show 1 ≤ 1000 by decide) fun pw σ2 H2 C2 => ?_
    -- while waiting
    refine s_whileq (fun n σ H1 => ∃ (ws fs : List Int) (y6 y7 : Option Sl), S K M (fun _ => False) H [(pw, .lst (ws.map PyData.int)), (pf, .raw (.dK (kvF fs)))] [some (.d (pbD p)), some (.d (setD s)), some (.d (.int t)), some (.r (.ref a)), some (.r (.ref pf)), some (.r (.ref pw)), y6, y7] [] σ H1 ∧
      RInv (l p) s t ws fs none [] ∧ n = 2 * (s.length - fs.length) + ws.length ∧ n ≤ 14) ⟨_, [t], [t], none, none, C2, ⟨by simp, fun x hx => by rw [List.mem_singleton.mp hx]; exact ht, List.mem_cons_self, fun x hx => hx, fun x hx => by rw [List.mem_singleton.mp hx]; exact Rch.self _ _ _, fun x hx hn => absurd hx hn, fun x hx => by cases hx⟩, rfl, by rw [List.length_singleton]; omega⟩ ?_
    rintro n σ H1 ⟨ws, fs, y6, y7, C3', I, rfl, hb14⟩
    refine ⟨!ws.isEmpty, (et_tru (ev_var (i := 5) rfl) rfl (by cases ws <;> rfl)).at (C3'.view (i := 5) rfl List.mem_cons_self (fun z => z)), fun hb H2 s2 => ?_, fun hb H2 s2 => ?_⟩
    · have C3 := C3'.same s2
      obtain ⟨xs, hx, rx⟩ := C3.rd List.mem_cons_self
      have ex := rx.ints
      subst ex
      have hne : ws ≠ [] := fun z => by rw [z] at hb; cases hb
      obtain ⟨wr, here, ew⟩ : ∃ wr here, ws = wr ++ [here] := ⟨_, _, (List.dropLast_concat_getLast hne).symm⟩
      clear hb C3' hne
      subst ew
      have hin : here ∈ fs := I.wf here (by simp)
      -- here = waiting.pop()
      refine s_seq ⟨.ref pw, C3.raw rfl, .inl ⟨rfl, _, .inl (.inl hx)⟩, pw, _, .int here, rfl, rfl, hx, by rw [List.map_append, List.length_append]; simp, ?_⟩
      have ed : ((wr ++ [here]).map V.int).dropLast = wr.map V.int := by
        rw [List.map_append]
        exact List.dropLast_concat
      rw [ed]
      have C4 := (C3.put (repL_ints (K := K) (M := MM M [(pw, .lst ((wr ++ [here]).map PyData.int)), (pf, .raw (.dK (kvF fs)))]) (H := H2) wr)).set (s := .d (.int here)) (.int here) 6
      -- for other in chosen
      refine s_for (is := [7]) (ds := s.map PyData.int) C4 (EvI.at (ei_tup (ev_var rfl)) C4.en) (fun i O G => ∃ (ws2 fs2 : List Int) (y7 : Option Sl), O = [(pw, .lst (ws2.map PyData.int)), (pf, .raw (.dK (kvF fs2)))] ∧ G = [some (.d (pbD p)), some (.d (setD s)), some (.d (.int t)), some (.r (.ref a)), some (.r (.ref pf)), some (.r (.ref pw)), some (.d (.int here)), y7] ∧
        RInv (l p) s t ws2 fs2 (some here) (s.take i) ∧ 2 * (s.length - fs2.length) + ws2.length < 2 * (s.length - fs.length) + (wr ++ [here]).length) ⟨wr, fs, y7, rfl, rfl, ⟨I.nd, I.sub, I.tin, fun x hx => I.wf x (List.mem_append_left _ hx), I.r, fun x hx hn hc y hy e => ?_, fun x hx => ?_⟩, ?_⟩ (fun i O' G' h => ?_) ?_ ?_
      · refine I.cl x hx (fun z => ?_) (by simp) y hy e
        rcases List.mem_append.mp z with z | z
        · exact hn z
        · exact hc (by rw [List.mem_singleton.mp z])
      · have e := Option.some.inj hx
        subst e
        exact ⟨hin, fun y hy => by cases hy⟩
      · rw [List.length_append, List.length_singleton]
        omega
      · obtain ⟨ws2, fs2, z7, rfl, _⟩ := h
        rfl
      · rintro E1 i d O' G' hd ⟨ws2, fs2, z7, rfl, rfl, I2, hm⟩
        rw [List.getElem?_map] at hd
        cases hy : s[i]? with
        | none => rw [hy] at hd; cases hd
        | some y =>
        rw [hy] at hd
        have ed2 := Option.some.inj hd
        subst ed2
        have ys : y ∈ s := List.mem_of_getElem? hy
        have tk : s.take (i + 1) = s.take i ++ [y] := by rw [List.take_add_one, hy]; rfl
        refine ⟨_, g_name, fun σ5 H5 C5 => ?_⟩
        -- other not in found and leads(problem, here, other)
        have test : AtT (tAnd (tB (tDNotIn (tVar 7) (tVar 4))) (tB (tCallH P w K mg base k 3 (tCons (tVar 0) (tCons (tVar 6) (tCons (tVar 7) tNil)))))) σ5 H5 (!decide (y ∈ fs2) && l p here y) := fun Q2 q2 => by
          obtain ⟨v7, h7, r7⟩ := C5.dat (i := 7) rfl
          have e7 := r7.int_inv
          subst e7
          have hf : H5 pf = some (.dK (kvF fs2)) := C5.rdR (List.mem_cons_of_mem _ List.mem_cons_self)
          refine ⟨.int y, h7, .ref pf, C5.raw rfl, pf, _, rfl, DGet.k (k := Sum.inl y) hf, _, rfl, ?_⟩
          rw [kvF_val]
          by_cases hyf : y ∈ fs2
          · rw [decide_eq_true hyf] at q2 ⊢
            exact iteF (q2 _ (Same.refl _))
          · rw [decide_eq_false hyf] at q2 ⊢
            refine iteT ⟨a, _, C5.raw rfl, hA, ?_⟩
            refine (EvA.at (ea_cons (ev_var rfl) (ea_cons (ev_var rfl) (ea_cons (ev_var rfl) ea_nil))) C5.en) _ fun us H6 s6 r6 => ?_
            refine fsp (K := K) (pre := fun z : Prob × Int × Int => ProbOk z.1) (enc := fun z => [pbD z.1, .int z.2.1, .int z.2.2]) (res := fun z => .bool (l z.1 z.2.1 z.2.2)) (p, here, y) hp _ _ _ (C5.en.mok.same s6) r6 _ _ fun u H7 s7 r7 => ⟨l p here y, r7.bool_inv, q2 H7 (s6.trans s7)⟩
        refine s_if C5 test (fun hb2 H6 C6 => ?_) fun hb2 H6 C6 => ?_
        · rw [Bool.and_eq_true, Bool.not_eq_true', decide_eq_false_iff_not] at hb2
          obtain ⟨nf, hl2⟩ := hb2
          have flen := sub_len I2.nd I2.sub
          -- found[other] = True
          obtain ⟨v7, h7, r7⟩ := C6.dat (i := 7) rfl
          have e7 := r7.int_inv
          subst e7
          have hf : H6 pf = some (.dK (kvF fs2)) := C6.rdR (List.mem_cons_of_mem _ List.mem_cons_self)
          refine s_seq ⟨.ref pf, C6.raw rfl, .int y, h7, pf, _, rfl, DPut.k (k := Sum.inl y) hf (by unfold kvF; rw [List.length_map]; exact Nat.lt_of_le_of_lt flen (Nat.lt_of_le_of_lt hl (by decide))), ?_⟩
          rw [kvF_put fs2 y nf]
          have C7 := (C6.swap.putR (.dK (kvF (fs2 ++ [y])))).swap
          -- waiting.append(other)
          refine s_append (d := .int y) C7 rfl ?_ (Ev.at (ev_var rfl) C7.en) fun H8 C8 => ?_
          · rw [List.length_map]
            omega
          · have I3 : RInv (l p) s t (ws2 ++ [y]) (fs2 ++ [y]) (some here) (s.take (i + 1)) := by
              rw [tk]
              exact I2.push ys nf hl2
            have flen2 := sub_len I3.nd I3.sub
            rw [List.length_append, List.length_singleton] at flen2
            refine ⟨_, _, ⟨ws2 ++ [y], fs2 ++ [y], _, by rw [List.map_append]; rfl, rfl, I3, ?_⟩, C8⟩
            have e1 : (ws2 ++ [y]).length = ws2.length + 1 := List.length_append
            have e2 : (fs2 ++ [y]).length = fs2.length + 1 := List.length_append
            omega
        · refine ⟨_, _, ⟨ws2, fs2, _, rfl, rfl, ?_, hm⟩, C6⟩
          rw [tk]
          refine I2.skip ?_
          intro hl2
          rw [hl2, Bool.and_true, Bool.not_eq_false', decide_eq_true_iff] at hb2
          exact hb2
      · rintro O' G' ⟨ws2, fs2, z7, rfl, rfl, I2, hm⟩ σ5 H5 C5
        refine ⟨_, hm, ws2, fs2, _, _, C5, ?_, rfl, by omega⟩
        rw [List.length_map, List.take_length] at I2
        exact I2.done
    · have C3 := C3'.same s2
      have ew : ws = [] := by
        cases ws with
        | nil => rfl
        | cons x r => cases hb
      subst ew
      -- return tuple(sorted(found))
      have hf : H2 pf = some (.dK (kvF fs)) := C3.rdR (List.mem_cons_of_mem _ List.mem_cons_self)
      have flen := sub_len I.nd I.sub
      refine ⟨.ref pf, C3.raw rfl, pf, kvF fs, fs, rfl, .inl hf, kvF_keys fs, by omega, fun ys u hperm hord hu => ?_⟩
      refine ⟨u, ys.map V.int, rfl, .inl ⟨.inl (.inl upd_same), fun u2 hu2 => ?_⟩⟩
      have ey := reach_end hs I hperm hord
      have s1 : Same H (upd (upd H2 u (.lst (ys.map V.int))) u2 (.tup (ys.map V.int))) := fun b o e => (same_new hu2) _ _ ((same_new hu) _ _ (C3.sm b o (fun z => z) e))
      refine q _ _ s1 ?_
      rw [← ey]
      have nM : ¬ M u2 := fun z => by
        cases q1 : H u2 with
        | none => exact m u2 z q1
        | some o =>
          have := (same_new (o := .lst (ys.map V.int)) hu) _ _ (C3.sm u2 o (fun z => z) q1)
          rw [hu2] at this
          cases this
      exact .tup (.inl ⟨nM, upd_same⟩) (repL_ints ys)
/-! told_split, stuck -/
def splD : Option (Bool × List Int × List Int) → PyData
  | none => .none
  | some (w, a, b) => .tuple [.str (if w then "then" else "beside"), setD a, setD b]
/-- a set of tasks as the program has it -/
structure SetOk (s : List Int) : Prop where
  ne : s ≠ []
  lt : s.Pairwise (· < ·)
  len : s.length ≤ 7
abbrev fTold := FSpec (α := Prob × List Int) (fun z => ProbOk z.1 ∧ SetOk z.2) (fun z => [pbD z.1, setD z.2]) (fun z => splD (split z.1 z.2))
theorem rch_len (l : Int → Int → Bool) (s : List Int) (t : Int) : (rch l s t).length ≤ s.length := List.length_filter_le _ _
theorem ev_reach {G : Gm} {te tp ts : TE} {p : Prob} {s : List Int} {t : Int} {l : Prob → Int → Int → Bool} {a : Addr} {E : XK} (hp : Ev K tp G (pbD p)) (hs : Ev K ts G (setD s)) (ht : Ev K te G (.int t)) (po : ProbOk p) (so : SetOk s) (hm : t ∈ s) (hA : Held P w K mg base k a (PSp K (fLead l))) :
    Ev K (tCall (spReach P w K mg base k) [] E (tCons tp (tCons ts (tCons te (tCons (tC (.ref a)) tNil))))) G (setD (rch (l p) s t)) := fun M σ H e Q q =>
  hp M σ H e _ fun v0 H1 s1 r1 => hs M σ H1 (e.same s1) _ fun v1 H2 s2 r2 => ht M σ H2 (e.same (s1.trans s2)) _ fun v2 H3 s3 r3 =>
    ⟨M, p, s, t, l, a, v0, v1, by rw [r3.int_inv]; rfl, e.mok.same ((s1.trans s2).trans s3), r1.same (s2.trans s3), r2.same s3, po, hm, so.lt, so.len, hA, fun u H4 s4 r4 => q u H4 (((s1.trans s2).trans s3).trans s4) r4⟩
theorem ev_lenS {G : Gm} {te : TE} {s : List Int} (h : Ev K te G (setD s)) : Ev K (tCB (fun xs H Q => ∃ p ys, xs = [.ref p] ∧ (SqL K H p ys ∨ SqT K H p ys) ∧ Q (.int ys.length) H) (tCons te tNil)) G (.int s.length) :=
  ev_is (ev_cb (ea_cons h ea_nil) rc_lenT) (by rw [List.length_map])
theorem dec_lt (a b : Nat) : decide ((a : Int) < (b : Int)) = decide (a < b) := by
  rw [Bool.eq_iff_iff, decide_eq_true_iff, decide_eq_true_iff]
  exact Int.ofNat_lt
theorem c_told_split {aT aB : Addr} {i : Nat} (D : DefAt K mg "told_split" "told_split" s_32 f) (B : Bi mg) (c_reach : Callee P w K mg base "reach" i ["problem", "chosen", "task", "leads"] (spReach P w K mg base k)) (g_ties : mg "ties" = some (.ref aT)) (hT : Held P w K mg base k aT (PSp K fTies)) (g_bars : mg "bars" = some (.ref aB)) (hB : Held P w K mg base k aB (PSp K fBars)) : Callee P w K mg base "told_split" (i + 1) ["problem", "chosen"] (PSp K fTold) := by
  refine mkF D sc_32 (fun _ _ _ _ _ _ us hl => match us, hl with | [_, _], _ => rfl) (fun _ => rfl) fun cdv A outer s0 H vs Q E M z hr hp C q => ?_
  obtain ⟨p, s⟩ := z
  obtain ⟨po, so⟩ := hp
  refine ⟨_, (pss_cons (ps_set (i := 2) sc_32.nd rfl (.inr rfl) (pe_cc c_reach hr (by rfl) (pa_cons (pv 0) (pa_cons (pv 1) (pa_cons (pe_ix (kIx K rfl) (pv 1) pe_int (fun _ _ => rfl)) (pa_cons (pe_glob (v := .ref _) (by rfl) g_ties rfl) pa_nil))))))
      (pss_cons (ps_if (pt_cmpR op_lt (pe_callB (kLen K rfl) (by rfl) B.len_ (by decide +kernel) (pa_cons (pv 2) pa_nil)) (pe_callB (kLen K rfl) (by rfl) B.len_ (by decide +kernel) (pa_cons (pv 1) pa_nil)) (by rfl)) (pss_one (ps_ret (pe_tup (pa_cons pe_str (pa_cons (pv 2) (pa_cons (pe_callTy (kTupC K rfl) (by rfl) B.tuple_ (by decide +kernel) (pa_cons (pe_lc (own := [("task", 3)]) (by rfl) sc_32.nd (kpT K rfl (pv 1)) (blkOk_by (own := [("task", 3)]) (N := ["problem", "chosen", "part", "task", "other"]) (sc := defScope s_32) (by decide +kernel)) (fun _ _ _ _ _ => (pg_name (i := 3) sc_32.nd rfl (.inl rfl))) (fun _ _ _ _ _ => (pts_one (pt_cmpR (kNi K rfl) (pv 3) (pv 2) (by rfl)))) (fun _ _ _ _ _ => (pv 3))) pa_nil)) pa_nil)))))) pss_nil)
      (pss_cons (ps_for PassesOwn.never (by rfl) (kpT K rfl (pv 1)) (pg_name (i := 3) sc_32.nd rfl (.inl rfl)) (pss_cons (ps_set (i := 2) sc_32.nd rfl (.inr rfl) (pe_cc c_reach hr (by rfl) (pa_cons (pv 0) (pa_cons (pv 1) (pa_cons (pv 3) (pa_cons (pe_glob (v := .ref _) (by rfl) g_bars rfl) pa_nil))))))
      (pss_one (ps_if (pt_cmpR op_lt (pe_callB (kLen K rfl) (by rfl) B.len_ (by decide +kernel) (pa_cons (pv 2) pa_nil)) (pe_callB (kLen K rfl) (by rfl) B.len_ (by decide +kernel) (pa_cons (pv 1) pa_nil)) (by rfl)) (pss_one (ps_ret (pe_tup (pa_cons pe_str (pa_cons (pv 2) (pa_cons (pe_callTy (kTupC K rfl) (by rfl) B.tuple_ (by decide +kernel) (pa_cons (pe_lc (own := [("other", 4)]) (by rfl) sc_32.nd (kpT K rfl (pv 1)) (blkOk_by (own := [("other", 4)]) (N := ["problem", "chosen", "part", "task", "other"]) (sc := defScope s_32) (by decide +kernel)) (fun _ _ _ _ _ => (pg_name (i := 4) sc_32.nd rfl (.inl rfl))) (fun _ _ _ _ _ => (pts_one (pt_cmpR (kNi K rfl) (pv 4) (pv 2) (by rfl)))) (fun _ _ _ _ _ => (pv 4))) pa_nil)) pa_nil)))))) pss_nil))))
      (pss_one (ps_ret pe_non))))), ?_⟩
  have g1 : ∀ t, t ∈ s → ∀ l : Prob → Int → Int → Bool, (rch (l p) s t).length ≤ 7 := fun t _ l => Nat.le_trans (rch_len _ _ _) so.len
  -- the answer from what stands at 2
  have ans : ∀ {G : Gm} (w : Str) (c : List Int) (j : Nat), G[1]? = some (some (.d (setD s))) → G[2]? = some (some (.d (setD c))) → G.length = 5 → j = 3 ∨ j = 4 → c.length ≤ 7 →
      Ev K (tTup (tCons (tC (.str w)) (tCons (tVar 2) (tCons (tCB (fun xs H Q => ∃ p ys, xs = [.ref p] ∧ ((SqL K H p ys ∧ ∀ l, H l = none → Q (.ref l) (upd H l (.tup ys))) ∨ (SqT K H p ys ∧ Q (.ref p) H))) (tCons (tLc (iTup K (tVar 1)) (gName j) (tTest (tOp (rIn K true) (tVar j) (tVar 2))) (tVar j) [j]) tNil)) tNil)))) G
        (.tuple [.str w, setD c, setD (s.filter fun y => !decide (y ∈ c))]) := fun {G} w c j h1 h2 h5 hj hc => by
    have hj2 : ∀ x : Option Sl, (((wipeG G [j]).set j x)[j]?) = some x := fun x => by
      rw [List.getElem?_set_self]
      rw [wipeG_len, h5]
      omega
    have h22 : ∀ x : Option Sl, (((wipeG G [j]).set j x)[2]?) = some (some (.d (setD c))) := fun x => by
      show ((((wipeG G []).set j none).set j x)[2]?) = _
      rw [List.set_set, List.getElem?_set_ne (by omega)]
      exact h2
    refine ev_tup (ea_cons ev_str (ea_cons (ev_var h2) (ea_cons (ev_cb (ea_cons (ev_lc (is := [j]) s (fun y => .int y) (fun y => !decide (y ∈ c)) (fun y => .int y) (ei_tup (ev_var h1)) (fun i h => h) (fun y hy => ⟨_, g_name, et_test (ev_op (ev_var (hj2 _)) (ev_var (h22 _)) rv_niIT), fun _ => ev_var (hj2 _)⟩) (Nat.le_trans so.len (by decide))) ea_nil) rc_tupL) ea_nil))) (show 3 ≤ 1000 by decide)
  obtain ⟨t0, r0, es⟩ : ∃ t0 r0, s = t0 :: r0 := by
    cases s with
    | nil => exact absurd rfl so.ne
    | cons x r => exact ⟨x, r, rfl⟩
  have m0 : t0 ∈ s := by rw [es]; exact List.mem_cons_self
  have ix0 : atI (s.map PyData.int) 0 = some (.int t0) := by rw [es]; exact atI_0
  have hd : s.headD 0 = t0 := by rw [es]; rfl
  refine s_setq C (Ev.at (ev_reach (ev_var rfl) (ev_var rfl) (ev_op (ev_var rfl) ev_int (rv_ixT ix0)) po so m0 hT) C.en) fun σ1 H1 C1 => ?_
  refine s_if1 (b := decide ((rch (tied p) s t0).length < s.length)) C1 (EvT.at (et_test (ev_op (ev_lenS (ev_var rfl)) (ev_lenS (ev_var rfl)) (by rw [← dec_lt]; exact rv_lt))) C1.en) (fun hb H2 C2 => ?_) fun hb H2 C2 => ?_
  · refine s_end C2 (fun _ h => h) (Ev.at (ans "beside" _ 3 rfl rfl rfl (.inl rfl) (g1 t0 m0 tied)) C2.low) ?_
    have e : split p s = some (false, rch (tied p) s t0, s.filter fun y => !decide (y ∈ rch (tied p) s t0)) := by
      unfold split
      rw [hd, if_pos (of_decide_eq_true hb)]
    show ∀ w H2, Same H H2 → Rep K M H2 w (PyData.tuple [.str (if false then "then" else "beside"), _, _]) → Q w H2
    have q2 := q
    dsimp only at q2
    rw [e] at q2
    exact q2
  · refine s_forq (is := [3]) (ds := s.map PyData.int) C2 (EvI.at (ei_tup (ev_var rfl)) C2.en) (fun i O G => O = [] ∧ (∀ t, t ∈ s.take i → ¬ (rch (bar p) s t).length < s.length) ∧ ∃ z2 z3, G = [some (.d (pbD p)), some (.d (setD s)), z2, z3, none]) ⟨rfl, (fun t h => by cases h), _, _, rfl⟩ (fun i O' G' h => by rw [h.1]) ?_ ?_
    · rintro E1 i d O' G' hdd ⟨rfl, hno, z2, z3, rfl⟩
      rw [List.getElem?_map] at hdd
      cases hy : s[i]? with
      | none => rw [hy] at hdd; cases hdd
      | some t =>
      rw [hy] at hdd
      have ed := Option.some.inj hdd
      subst ed
      have mt : t ∈ s := List.mem_of_getElem? hy
      refine ⟨_, g_name, fun σ3 H3 C3 => ?_⟩
      refine s_setq C3 (Ev.at (ev_reach (ev_var rfl) (ev_var rfl) (ev_var rfl) po so mt hB) C3.en) fun σ4 H4 C4 => ?_
      refine s_if (b := decide ((rch (bar p) s t).length < s.length)) C4 (EvT.at (et_test (ev_op (ev_lenS (ev_var rfl)) (ev_lenS (ev_var rfl)) (by rw [← dec_lt]; exact rv_lt))) C4.en) (fun hb2 H5 C5 => ?_) fun hb2 H5 C5 => ?_
      · refine s_end C5 (fun _ h => h) (Ev.at (ans "then" _ 4 rfl rfl rfl (.inr rfl) (g1 t mt bar)) C5.low) ?_
        have e : split p s = some (true, rch (bar p) s t, s.filter fun y => !decide (y ∈ rch (bar p) s t)) := by
          unfold split
          rw [hd, if_neg (of_decide_eq_false hb)]
          have ef : s.find? (fun t => decide ((rch (bar p) s t).length < s.length)) = some t := by
            rw [List.find?_eq_some_iff_getElem]
            obtain ⟨hi, e⟩ := List.getElem?_eq_some_iff.mp hy
            refine ⟨hb2, i, hi, e, fun j hj => ?_⟩
            have := hno s[j] (List.mem_take_iff_getElem.mpr ⟨j, by omega, rfl⟩)
            rw [Bool.not_eq_true', decide_eq_false_iff_not]
            exact this
          rw [ef]
          rfl
        have q2 := q
        dsimp only at q2
        rw [e] at q2
        exact q2
      · refine ⟨[], _, ⟨rfl, fun t2 h2 => ?_, _, _, rfl⟩, C5⟩
        rw [List.take_add_one, hy] at h2
        rcases List.mem_append.mp h2 with h2 | h2
        · exact hno t2 h2
        · rw [List.mem_singleton.mp h2]
          exact of_decide_eq_false hb2
    · rintro O' G' ⟨rfl, hno, z2, z3, rfl⟩ σ3 H3 C3
      rw [List.length_map, List.take_length] at hno
      refine s_end C3 (fun _ h => h) (Ev.at ev_non C3.low) ?_
      have e : split p s = none := by
        unfold split
        rw [hd, if_neg (of_decide_eq_false hb), Option.map_eq_none_iff, List.find?_eq_none]
        exact fun t ht z => hno t ht (of_decide_eq_true z)
      have q2 := q
      dsimp only at q2
      rw [e] at q2
      exact q2
abbrev fStuck := FSpec (α := Prob × List Int) (fun z => ProbOk z.1 ∧ z.2.Pairwise (· < ·) ∧ z.2.length ≤ 7) (fun z => [pbD z.1, setD z.2]) (fun z => .bool (stuckB z.1 z.2))
theorem isNon_spl (o : Option (Bool × List Int × List Int)) : isNon (splD o) = o.isNone := by
  cases o with
  | none => rfl
  | some z => rfl
theorem c_stuck (D : DefAt K mg "stuck" "stuck" s_33 f) (B : Bi mg) (c_told_split : Callee P w K mg base "told_split" k ["problem", "chosen"] (PSp K fTold)) : Callee P w K mg base "stuck" (k + 1) ["problem", "chosen"] (PSp K fStuck) := by
  refine mkF D sc_33 (fun _ _ _ _ _ _ us hl => match us, hl with | [_, _], _ => rfl) (fun _ => rfl) fun cdv A outer s0 H vs Q E M z hr hp C q => ?_
  obtain ⟨p, s⟩ := z
  obtain ⟨po, hs, hl⟩ := hp
  refine ⟨_, (pss_one (ps_ret (pe_and (pe_cmpR op_gt (pe_callB (kLen K rfl) (by rfl) B.len_ (by decide +kernel) (pa_cons (pv 1) pa_nil)) pe_int (by rfl)) (pe_one (pe_cmpR op_isN (pe_cc c_told_split hr (by rfl) (pa_cons (pv 0) (pa_cons (pv 1) pa_nil))) pe_non (by rfl)))))), ?_⟩
  refine s_end C (fun _ h => h) (Ev.at ?_ C.low) q
  show Ev K _ _ (.bool (stuckB p s))
  rw [stuckB_split]
  refine ev_andV (ev_is (ev_op (ev_lenS (ev_var rfl)) ev_int rv_gt) (congrArg PyData.bool (dec_lt 1 s.length))) fun h1 => ?_
  have ne : s ≠ [] := fun z => by rw [z] at h1; cases h1
  rw [← isNon_spl]
  exact ev_op (ev_callF (p, s) ⟨po, ne, hs, hl⟩ (ea_cons (ev_var rfl) (ea_cons (ev_var rfl) ea_nil))) ev_non rv_isN
end
end Tb
set_option Elab.async false
set_option linter.all false
set_option maxRecDepth 100000
set_option maxHeartbeats 4000000
/-! ## sorted(list, key=a def), over the layer -/
namespace Tb
open PySem PySem.Spec PyProof.Rows PySem.W L2
section
variable {P : Program} {w : World} {fs ex : List Addr} {H H' : Hp} {h h' h'' : Heap} {c : Addr}
theorem un_off (u : Un fs ex H H' h h') (hs : ∀ b, b ≠ c → h''.get? b = h'.get? b) (hc : h.get? c = none) : Un fs ex H H' h h'' := by
  have nc : ∀ {b : Addr} {o : Obj}, h.get? b = some o → b ≠ c := fun {b o} q z => by rw [z, hc] at q; cases q
  exact ⟨fun b o q n hb hx => (hs b (nc q)).trans (u.keep b o q n hb hx), fun b o q n hb hx => by
    obtain ⟨sl, e⟩ := u.slot b o q n hb hx
    exact ⟨sl, (hs b (nc q)).trans e⟩, u.free, fun b o q hx => by
    obtain ⟨o', e⟩ := u.there b o q hx
    exact ⟨o', (hs b (nc q)).trans e⟩, u.tups, u.frzs, u.tbls⟩
theorem hok_off (x : HOk P w H h) (hs : ∀ b, b ≠ c → h'.get? b = h.get? b) (hc : H c = none) : HOk P w H h' := fun a o e => by
  refine (x a o e).stay (fun b u hb q => (hs b ?_).trans q) (fun _ q => q) fun _ _ q => q
  rintro rfl
  rcases hb with z | z
  · rw [z, e] at hc
    cases hc
  · rw [hc] at z
    cases z
end
section
variable {X : Cx} {pins : List (Addr × Obj)} {σ : L2.St} {H : Hp} {s : Shared} {sp : Sp} {f : Addr} {fd : FuncData} {ps : List Str} {k : Nat}
theorem nostk (I : Inv X pins σ H s) {b : Addr} (h : s.heap.objs.size ≤ b) : b ∉ frs X.stack := fun z => by
  rcases List.mem_cons.mp (I.stkSub b z) with e | e
  · exact absurd I.lt (by rw [← e]; exact Nat.not_lt.mpr h)
  · exact I.nofs h e
/-- the key store fills -/
theorem sk_rest {a kS : Addr} {e1 : Nat} {vs : List Value} {bs : List (V × Int)} {R : PySem.Fin → Shared → Prop} {E : Value → Shared → Prop} {s1 : Shared} {H1 : Hp} (I : Inv X pins σ H s) (F : FnOk X.prog X.w X.K X.mg X.base CX0 k f fd ps sp) (hr : Room k X.A.in1.in1) (hb : Binds X.K fd ps [])
    (hv : Vals (bs.map (·.1)) vs) (hl : bs.length ≤ 100000) (hkS : s.heap.objs.size ≤ kS) (ha : s.heap.objs.size ≤ a) (hka : kS ≠ a)
    (os : s1.os = s.os) (bare : AllBare s1.gens) (un : Un (frs X.stack) [] H H1 s.heap s1.heap) (hok : HOk X.prog X.w H1 s1.heap) (sm : Same H H1) (nS : H1 kS = none) (nA : H1 a = none)
    (oS : s1.heap.get? kS = some (seqObj "list" #[] 0)) (oA : s1.heap.get? a = some (seqObj "list" #[] e1))
    (turn : ∀ p, p ∈ bs → ∀ H2, Same H H2 → sp [p.1] H2 (fun v H3 => v = .int p.2 ∧ Same H2 H3) (fun _ _ _ => False))
    (done : ∀ s2 H2 (out : List Value), s2.os = s.os → AllBare s2.gens → Un (frs X.stack) [] H H2 s.heap s2.heap → HOk X.prog X.w H2 s2.heap → Same H H2 → H2 a = none → (∃ c, s2.heap.get? a = some (seqObj "list" (List.toArray out) c)) → KeyedOut false ((bs.map (·.2)).map PyData.int) vs out → R (.done (.ret .none)) s2) :
    wpAny (model X.prog X.w) X.A.in1.in1 (ksk_rest a (.ref f) false vs.toArray e1 (.ref kS)) R E s1 := by
  have hvl : vs.length = bs.length := by rw [← hv.length, List.length_map]
  have big : (100000 : Nat) + 1 ≤ sizeLine := by decide
  have g0 : ∀ {b : Addr}, s.heap.objs.size ≤ b → s.heap.get? b = none := fun {b} h => Heap.get?_none_of_le h
  unfold ksk_rest
  refine wpAny_bind (wpAny_rule ?_)
  rw [List.forIn_toArray]
  refine wpAny_bind (ksk_fold (fun i s' => ∃ H' kA e, s'.os = s.os ∧ AllBare s'.gens ∧ Un (frs X.stack) [] H H' s.heap s'.heap ∧ HOk X.prog X.w H' s'.heap ∧ Same H H' ∧ H' kS = none ∧ H' a = none ∧ s'.heap.get? kS = some (seqObj "list" kA e) ∧ s'.heap.get? a = some (seqObj "list" #[] e1) ∧
    EachIs (fun (v : Value) (n : Int) => ∃ t, v = .int n t) kA.toList ((bs.map (·.2)).take i)) vs 0 s1
    ⟨H1, #[], 0, os, bare, un, hok, sm, nS, nA, oS, oA, by rw [List.take_zero]; exact EachIs.nil⟩ ?step ?done)
  case step =>
    rintro j x s' hx ⟨H', kA, e, os', bare', un', hok', sm', nS', nA', oS', oA', hk⟩
    simp only [Nat.zero_add] at hk ⊢
    have hj : j < vs.length := (List.getElem?_eq_some_iff.mp hx).1
    have hj2 : j < bs.length := by omega
    have hbj : bs[j]? = some bs[j] := List.getElem?_eq_getElem hj2
    have hz : kA.size ≤ 100000 := by
      have h1 := hk.length
      rw [Array.length_toList, List.length_take, List.length_map] at h1
      omega
    obtain ⟨u, hu, ru⟩ := hv.get (i := j) (x := (bs[j]).1) (by rw [List.getElem?_map, hbj]; rfl)
    rw [hx] at hu
    have eu := Option.some.inj hu
    subst eu
    have I' : Inv X pins σ H' s' := I.call' (ch := []) os' un' hok' bare' (fun b z => absurd z (by simp))
    have run := F.run X.A.in1.in1 X.stack s' H' ⟨[x], []⟩ ([x] ++ []) ([(bs[j]).1] ++ []) (fun v H3 => v = .int (bs[j]).2 ∧ Same H' H3) (fun _ _ _ => False) hr I'.env0.in1.in1 (hb s' [x] I'.kIn (by rw [← (F.len _ _ _ _ (turn _ (List.getElem_mem hj2) H' sm'))]; rfl)) (.cons ru .nil) (turn _ (List.getElem_mem hj2) H' sm')
    refine wpAny_bind (wpAny_attempt (wpAny_call (codeAny_mono run fun r s'' hq => ?_)))
    cases r with
    | error e => exact hq.elim
    | ok fl =>
    cases fl with
    | next => exact hq.elim
    | brk => exact hq.elim
    | cont => exact hq.elim
    | ret v =>
    obtain ⟨v', H2, os2, bare2, un2, hok2, rv, ev, sm2⟩ := hq
    subst ev
    obtain ⟨t, rfl⟩ := rv
    have oS2 : s''.heap.get? kS = some (seqObj "list" kA e) := un2.keep kS _ oS' nS' (nostk I hkS) (by simp)
    have oA2 : s''.heap.get? a = some (seqObj "list" #[] e1) := un2.keep a _ oA' nA' (nostk I ha) (by simp)
    have nS2 : H2 kS = none := un2.free kS _ oS' nS' (by simp)
    have nA2 : H2 a = none := un2.free a _ oA' nA' (by simp)
    have s1' := Heap.SameBut.update s''.heap kS (Obj.mapSeq (·.push (Value.int (bs[j]).2 t)))
    obtain ⟨c2, hc2⟩ : ∃ c2, (s''.heap.update kS (Obj.mapSeq (·.push (Value.int (bs[j]).2 t)))).get? kS = some (seqObj "list" (kA.push (Value.int (bs[j]).2 t)) c2) := ⟨_, get?_update_seq oS2 (·.push _)⟩
    have ek : (bs.map (·.2)).take (j + 1) = (bs.map (·.2)).take j ++ [(bs[j]).2] := by rw [List.take_add_one, List.getElem?_map, hbj]; rfl
    have ea : (kA.push (Value.int (bs[j]).2 t)).toList = kA.toList ++ [Value.int (bs[j]).2 t] := by simp
    try dsimp only
    have hzA : kA.size ≤ sizeLine := Nat.le_trans hz (Nat.le_of_succ_le big)
    refine wpAny_bind (listUpdate_at oS2 rfl ?_ hzA (by rw [Array.size_push]; exact Nat.succ_le_succ hzA))
    refine wpAny_pure ⟨rfl, H2, _, c2, os2.trans os', bare2, un_off (un'.trans un2) s1'.2 (g0 hkS), hok_off hok2 s1'.2 nS2, sm'.trans sm2, nS2, nA2, hc2, (s1'.2 a hka.symm).trans oA2, ?_⟩
    rw [ea, ek]
    exact each_snoc (R := fun (v : Value) (n : Int) => ∃ t, v = .int n t) ⟨t, rfl⟩ hk
  case done =>
    rintro s' ⟨H', kA, e, os', bare', un', hok', sm', nS', nA', oS', oA', hk⟩
    have hk' : EachIs (fun v d => ∃ as, Reads s'.heap v d as) kA.toList ((bs.map (·.2)).map PyData.int) := by
      have e3 : (bs.map (·.2)).take (0 + vs.length) = bs.map (·.2) := List.take_of_length_le (by rw [List.length_map]; omega)
      rw [e3] at hk
      refine each_map PyData.int (hk.mono fun v n q => ?_)
      obtain ⟨t, rfl⟩ := q
      exact ⟨[], .int n t⟩
    have hsz : kA.size = vs.length := by
      have h1 := hk'.length
      rw [Array.length_toList, List.length_map, List.length_map] at h1
      omega
    obtain ⟨G, g1, g2⟩ := restrict s'.heap fun b => decide (b ≠ kS)
    have gk : ∀ b, b ≠ kS → G.get? b = s'.heap.get? b := fun b hb => g1 b (decide_eq_true hb)
    have ge : G.get? kS = none := g2 kS (by simp)
    have kp : KeepsBut a G s'.heap := fun b o _ q => by
      have hb : b ≠ kS := fun z => by rw [z, ge] at q; cases q
      rw [← gk b hb]
      exact q
    have hal : AllAlike ((bs.map (·.2)).map PyData.int) := AllAlike.of fun _ _ => rfl
    have hsk : Sortable ((bs.map (·.2)).map PyData.int) := Sortable.others fun _ => ⟨nofun, nofun⟩
    try dsimp only
    refine wpAny_bind (listItems_at oS' rfl ?_)
    refine keyH_end (κ := dataKind s'.heap ((bs.map (·.2)).map PyData.int)) (h₁ := G) kp ge oS' oA' hka (SortsAt.data hk' hal hsk fun d hd => ?_) hsz (by omega) fun h3 tk3 c k3 n3 => ?_
    · obtain ⟨n, _, rfl⟩ := List.mem_map.mp hd
      exact hr.units0
    · have hoff : ∀ b, b ≠ kS → b ≠ a → ∀ o, s'.heap.get? b = some o → h3.get? b = some o := fun b h1 h2 o q => k3 b o h2 (by rw [gk b h1]; exact q)
      have sLt : ∀ {b : Addr} {o : Obj}, s.heap.get? b = some o → b ≠ kS ∧ b ≠ a := fun {b o} q => by
        have := Heap.lt_size q
        exact ⟨Nat.ne_of_lt (Nat.lt_of_lt_of_le this hkS), Nat.ne_of_lt (Nat.lt_of_lt_of_le this ha)⟩
      refine done { s' with heap := h3, toks := tk3 } H' _ os' bare' ⟨fun b o q n hb hx => hoff b (sLt q).1 (sLt q).2 _ (un'.keep b o q n hb hx), fun b o q n hb hx => ?_, un'.free, fun b o q hx => ?_, un'.tups, un'.frzs, un'.tbls⟩ (fun b o q => ?_) sm' nA' ⟨c, n3⟩ ⟨s'.heap, kA.toList, hal, rfl, hk'⟩
      · obtain ⟨sl, e2⟩ := un'.slot b o q n hb hx
        exact ⟨sl, hoff b (sLt q).1 (sLt q).2 _ e2⟩
      · obtain ⟨o', e2⟩ := un'.there b o q hx
        exact ⟨o', hoff b (sLt q).1 (sLt q).2 _ e2⟩
      · refine (hok' b o q).stay (fun c v hc q2 => hoff c ?_ ?_ v q2) (fun _ q => q) fun _ _ q => q
        · rintro rfl
          rcases hc with z | z
          · rw [z, q] at nS'; cases nS'
          · rw [nS'] at z; cases z
        · rintro rfl
          rcases hc with z | z
          · rw [z, q] at nA'; cases nA'
          · rw [nA'] at z; cases z
/-- sorted(l, key=f) -/
def rSortKey (K : PySem.W.Frag) (f : Addr) (sp : Sp) : List V → List V → Hp → VK → Prop := fun vs zs H Q => ∃ (a : Addr) (bs : List (V × Int)), vs = [V.ref a] ∧ zs = [V.ref f] ∧ SqL K H a (bs.map (·.1)) ∧ bs.length ≤ 100000 ∧
  (∀ p, p ∈ bs → ∀ H2, Same H H2 → sp [p.1] H2 (fun v H3 => v = .int p.2 ∧ Same H2 H3) (fun _ _ _ => False)) ∧
  ∀ H2 l, Same H H2 → H2 l = none → Q (.ref l) (upd H2 l (.lst ((bs.mergeSort fun p q => decide (p.2 ≤ q.2)).map (·.1))))
theorem vals_each : ∀ {bs : List (V × Int)} {vs : List Value}, Vals (bs.map (·.1)) vs → EachIs (fun (v : Value) (p : V × Int) => RelV p.1 v) vs bs
  | [], _, h => by
    cases h
    exact .nil
  | b :: bs, _, h => by
    cases h with
    | cons r t => exact .cons r (vals_each t)
theorem each_vals : ∀ {bs : List (V × Int)} {vs : List Value}, EachIs (fun (v : Value) (p : V × Int) => RelV p.1 v) vs bs → Vals (bs.map (·.1)) vs
  | [], _, h => by
    cases h
    exact .nil
  | b :: bs, _, h => by
    cases h with
    | cons r t => exact .cons r (each_vals t)
theorem cr_sortKey (F : FnOk X.prog X.w X.K X.mg X.base CX0 k f fd ps sp) (hr : Room (k + 2) X.A) (hb : Binds X.K fd ps []) : CallRK X (.builtin "sorted") [Str.ofString "key"] (rSortKey X.K f sp) := by
  intro pins s σ H xs zs us ws Q I r rz h
  obtain ⟨a0, bs, rfl, rfl, hs, hl, turn, q⟩ := h
  obtain rfl := Vals.ref1 r
  obtain ⟨w1, rfl, e1⟩ := vals1 rz
  obtain rfl : w1 = Value.ref f := e1
  obtain ⟨its, rv, hl0, hz⟩ := I.list hs
  have hle : its.length = bs.length := by rw [← rv.length, List.length_map]
  have big : (100000 : Nat) + 1 ≤ sizeLine := by decide
  refine sorted_of_sort hl0.isList (by omega) (ksk_s1 _ _) (fun _ => ksk_l1 _ _) fun E' => ?_
  show wpAny (model X.prog X.w) X.A.in1.in1 (Builtin.«list.sort» ⟨[.ref (s.heap.objs.size + 1)], [(Str.ofString "key", .ref f)]⟩) _ E' _
  rw [ksk_t1]
  have ho : (copyHeap s.heap its).get? (s.heap.objs.size + 1) = some (seqObj "list" its.toArray 0) := copyHeap_at s.heap its
  have hsz : (copyHeap s.heap its).objs.size = s.heap.objs.size + 2 := by
    unfold copyHeap
    rw [size_push', Heap.size_update, size_push']
  obtain ⟨e1, ho1⟩ : ∃ e1, ((copyHeap s.heap its).update (s.heap.objs.size + 1) (Obj.mapSeq fun _ => (#[] : Array Value))).get? (s.heap.objs.size + 1) = some (seqObj "list" #[] e1) := ⟨_, get?_update_seq ho fun _ => #[]⟩
  have hkS : (((copyHeap s.heap its).update (s.heap.objs.size + 1) (Obj.mapSeq fun _ => (#[] : Array Value))).push (seqObj "tuple" its.toArray 0)).objs.size = s.heap.objs.size + 3 := by rw [size_push', Heap.size_update, hsz]
  have kp : ∀ b o, s.heap.get? b = some o → (sortingHeap (copyHeap s.heap its) (s.heap.objs.size + 1) its).get? b = some o := fun b o q => sortingHeap_old (Nat.ne_of_lt (Nat.lt_succ_of_lt (Heap.lt_size q))) (copyHeap_old q)
  have hS1 : s.heap.objs.size ≤ (((copyHeap s.heap its).update (s.heap.objs.size + 1) (Obj.mapSeq fun _ => (#[] : Array Value))).push (seqObj "tuple" its.toArray 0)).objs.size := by omega
  have hS2 : (((copyHeap s.heap its).update (s.heap.objs.size + 1) (Obj.mapSeq fun _ => (#[] : Array Value))).push (seqObj "tuple" its.toArray 0)).objs.size ≠ s.heap.objs.size + 1 := by omega
  unfold ksk_tree
  refine wpAny_bind (listItems_at ho rfl ?_)
  refine wpAny_bind (listUpdate_at ho rfl ?_ (by rw [List.size_toArray]; omega) (Nat.zero_le _))
  refine wpAny_bind (seqEpoch_at ho1 rfl ?_)
  refine wpAny_bind (wpAny_newTuple ?_ (by show its.length ≤ _; omega))
  refine wpAny_bind (wpAny_newList ?_ (Nat.zero_le _))
  refine wpAny_holding ?_
  refine sk_rest (a := s.heap.objs.size + 1) (s1 := { s with heap := sortingHeap (copyHeap s.heap its) (s.heap.objs.size + 1) its }) (kS := (((copyHeap s.heap its).update (s.heap.objs.size + 1) (Obj.mapSeq fun _ => (#[] : Array Value))).push (seqObj "tuple" its.toArray 0)).objs.size) (bs := bs) (H1 := H) I F hr.in1.in1 hb rv hl hS1 (Nat.le_succ _) hS2 rfl I.bare (Un.kept kp) (I.hok.kept kp) (Same.refl H) (I.hok.fresh hS1) (I.hok.fresh (Nat.le_succ _))
    (Heap.get?_push_size _ rfl) (Heap.get?_push_of_some _ (Heap.get?_push_of_some _ ho1)) turn fun s2 H2 out os2 bare2 un2 hok2 sm2 nA oA ko => ⟨rfl, ?_⟩
  obtain ⟨c, oA⟩ := oA
  have e := keyedOut_each (rev := false) (fun p : V × Int => PyData.int p.2) (bs := bs) (vs := its) (out := out) (by rw [List.map_map] at ko; exact ko) (vals_each rv)
  rw [dataLe_int] at e
  have ev := each_vals e
  have hol : ((bs.mergeSort fun p q => decide (p.2 ≤ q.2)).map (·.1)).length ≤ sizeLine := by
    rw [List.length_map, List.length_mergeSort]
    omega
  have hok3 : HOk X.prog X.w (upd H2 (s.heap.objs.size + 1) (.lst ((bs.mergeSort fun p q => decide (p.2 ≤ q.2)).map (·.1)))) s2.heap := fun b o q => by
    by_cases hb2 : b = s.heap.objs.size + 1
    · subst hb2
      rw [upd_same] at q
      cases q
      exact ⟨hol, out, c, ev, oA⟩
    · rw [upd_ne hb2] at q
      exact (hok2 b o q).stay (fun _ _ _ q => q) (fun c2 q2 => by rw [upd_ne (ne_of_none q2 nA)]; exact q2) fun c2 xs q2 => by rw [upd_ne (ne_of_none q2 nA)]; exact q2
  have un3 : Un (frs X.stack) [] H (upd H2 (s.heap.objs.size + 1) (.lst ((bs.mergeSort fun p q => decide (p.2 ≤ q.2)).map (·.1)))) s.heap s2.heap :=
    ⟨un2.keep, un2.slot, fun b o q n hx => by rw [upd_ne (Nat.ne_of_lt (Nat.lt_succ_of_lt (Heap.lt_size q)))]; exact un2.free b o q n hx, un2.there, fun b xs q => by
      have := un2.tups b xs q
      rw [upd_ne (ne_of_none this nA)]
      exact this, fun b o u q => by
      have := un2.frzs b o u q
      rw [upd_ne (ne_of_none this nA)]
      exact this, fun b ps q => by
      obtain ⟨m, e⟩ := un2.tbls b ps q
      exact ⟨m, by rw [upd_ne (ne_of_none e nA)]; exact e⟩⟩
  exact ⟨.ref (s.heap.objs.size + 1), _, I.call' (ch := []) os2 un3 hok3 bare2 (fun b z => absurd z (by simp)), rfl, q H2 _ sm2 nA⟩
end
end Tb
set_option Elab.async false
set_option linter.all false
set_option maxRecDepth 100000
set_option maxHeartbeats 4000000
/-! ## zip(a list, a tuple) -/
namespace Tb
open PySem PySem.Spec PyProof.Rows PySem.W L2
/-- what holds of an iterator at i over the sequence at l leans on these two -/
def Kp2 (φ : Heap → Prop) (i l : Addr) : Prop := ∀ h h', φ h → (∀ o, h.get? i = some o → h'.get? i = some o) → (∀ o, h.get? l = some o → h'.get? l = some o) → φ h'
section
variable {prog : Program} {w : World} {A : Around} {E : Value → Shared → Prop} {s : Shared} {Z A1 A2 i1 i2 l1 l2 : Addr} {φ φ' ψ ψ' : Heap → Prop} {x y u v : Value}
def StepI (prog : Program) (w : World) (A : Around) (i : Addr) (φ φ' : Heap → Prop) (x : Value) : Prop := ∀ (s : Shared) (E : Value → Shared → Prop) (Q : Value → Shared → Prop), φ s.heap → (∀ h', φ' h' → Heap.SameBut i s.heap h' → Q x { s with heap := h' }) → wpAny (model prog w) A (Builtin.SmallTypes.nextOf (.ref i)) Q E s
def StopI (prog : Program) (w : World) (A : Around) (i : Addr) (φ : Heap → Prop) : Prop := ∀ (s : Shared) (E : Value → Shared → Prop) (Q : Value → Shared → Prop), φ s.heap → (∀ h' e, Heap.ExtBut i s.heap h' → (∃ o, h'.get? e = some o ∧ o.cls = .type "StopIteration") → E (.ref e) { s with heap := h' }) → wpAny (model prog w) A (Builtin.SmallTypes.nextOf (.ref i)) Q E s
theorem kp_but {i l c : Addr} {h h' : Heap} {φ : Heap → Prop} (k : Kp2 φ i l) (hs : Heap.SameBut c h h') (n1 : i ≠ c) (n2 : l ≠ c) (p : φ h) : φ h' := k h h' p (fun o e => (hs.2 _ n1).trans e) fun o e => (hs.2 _ n2).trans e
theorem zm_item {Q : Value → Shared → Prop} (D : ZipApart Z A1 A2 i1 i2 l1 l2) (hZ : IsZip s.heap Z A1 A2 .none) (h1 : IsPair s.heap A1 (.ref i1) (.ref i2)) (h2 : IsPair s.heap A2 u v) (k1 : Kp2 φ i1 l1) (k1' : Kp2 φ' i1 l1) (k2 : Kp2 ψ i2 l2) (k2' : Kp2 ψ' i2 l2)
    (n1 : StepI prog w A i1 φ φ' x) (n2 : StepI prog w A i2 ψ ψ' y) (p1 : φ s.heap) (p2 : ψ s.heap) (hl : l1 ≠ i2)
    (q : ∀ h', IsZip h' Z A1 A2 (rawInt s.heap.objs.size) → IsPair h' A2 x y → φ' h' → ψ' h' → IsPair h' s.heap.objs.size x y → (∀ c o, c ≠ Z → c ≠ A2 → c ≠ i1 → c ≠ i2 → s.heap.get? c = some o → h'.get? c = some o) → Q (.ref s.heap.objs.size) { s with heap := h' }) :
    wpAny (model prog w) A (Builtin.«zip.__next__» ⟨[.ref Z], []⟩) (fun fin s' => ∃ v, fin = .done (.ret v) ∧ Q v s') E s := by
  show wpAny _ _ (field (.ref Z) 2 >>= _) _ _ _
  refine wpAny_bind (wpAny_field hZ rfl (x := .bool false) rfl ?_)
  show wpAny _ _ (field (.ref Z) 3 >>= _) _ _ _
  refine wpAny_bind (wpAny_field hZ rfl (x := .ref A1) rfl ?_)
  refine wpAny_bind (wpAny_seqItems h1 rfl ?_)
  show wpAny _ _ (Builtin.SmallTypes.ownedTupleIsFree (.ref Z) >>= _) _ _ _
  refine wpAny_bind ?_
  unfold Builtin.SmallTypes.ownedTupleIsFree
  refine wpAny_bind (wpAny_field hZ rfl (x := .none) rfl (wpAny_pure ?_))
  simp only [if_true]
  refine wpAny_bind (wpAny_rule ?_)
  refine wpAny_bind (wpAny_field hZ rfl (x := .ref A2) rfl ?_)
  refine wpAny_bind (wpAny_setField_rec hZ (by simp) fun g1 z1 s1 => ?_)
  replace z1 : IsZip g1 Z A1 A2 .ellipsis := z1
  refine wpAny_bind ?_
  simp only [List.zipIdx_cons, List.zipIdx_nil, List.forIn_cons, List.forIn_nil]
  refine wpAny_bind (wpAny_bind (wpAny_onRaise ?_))
  show wpAny _ _ (Builtin.SmallTypes.nextOf (.ref i1) >>= _) _ _ _
  refine wpAny_bind (n1 _ _ _ (kp_but k1 s1 D.i1z D.l1z p1) fun g2 f2 s2 => wpAny_pure ?_)
  have a2 : IsPair g2 A2 u v := s2.extBut _ _ D.TOi1 (s1.extBut _ _ D.TOz h2)
  refine wpAny_bind (wpAny_seqItems a2 rfl ?_)
  refine wpAny_bind (wpAny_updateSeq_pair a2 fun g3 a3 s3 => ?_)
  replace a3 : IsPair g3 A2 x v := a3
  refine wpAny_bind (wpAny_letGo (wpAny_pure ?_))
  refine wpAny_bind (wpAny_bind (wpAny_onRaise ?_))
  show wpAny _ _ (Builtin.SmallTypes.nextOf (.ref i2) >>= _) _ _ _
  have p23 : ψ g3 := kp_but k2 s3 D.TOi2.symm D.l2TO (kp_but k2 s2 D.i12.symm D.l2i1 (kp_but k2 s1 D.i2z D.l2z p2))
  have f3 : φ' g3 := kp_but k1' s3 D.TOi1.symm D.l1TO f2
  refine wpAny_bind (n2 _ _ _ p23 fun g4 f4 s4 => wpAny_pure ?_)
  have a4 : IsPair g4 A2 x v := s4.extBut _ _ D.TOi2 a3
  refine wpAny_bind (wpAny_seqItems a4 rfl ?_)
  refine wpAny_bind (wpAny_updateSeq_pair a4 fun g5 a5 s5 => ?_)
  replace a5 : IsPair g5 A2 x y := a5
  refine wpAny_bind (wpAny_letGo (wpAny_pure (wpAny_pure ?_)))
  refine wpAny_bind (wpAny_seqItems a5 rfl ?_)
  refine wpAny_bind (wpAny_newTuple ?_)
  have sz : g5.objs.size = s.heap.objs.size := by rw [s5.1, s4.1, s3.1, s2.1, s1.1]
  have z5 : IsZip g5 Z A1 A2 .ellipsis := s5.extBut _ _ D.TOz.symm (s4.extBut _ _ D.i2z.symm (s3.extBut _ _ D.TOz.symm (s2.extBut _ _ D.i1z.symm z1)))
  have kk : ∀ c o, c ≠ Z → c ≠ A2 → c ≠ i1 → c ≠ i2 → s.heap.get? c = some o → g5.get? c = some o := fun c o c1 c2 c3 c4 e => s5.extBut _ _ c2 (s4.extBut _ _ c4 (s3.extBut _ _ c2 (s2.extBut _ _ c3 (s1.extBut _ _ c1 e))))
  have f5 : φ' g5 := kp_but k1' s5 D.TOi1.symm D.l1TO (kp_but k1' s4 D.i12 hl f3)
  have r5 : ψ' g5 := kp_but k2' s5 D.TOi2.symm D.l2TO f4
  have Zlt : Z < g5.objs.size := Heap.lt_size z5
  show wpAny _ _ (Builtin.SmallTypes.ownedTupleHandOut (.ref Z) (.ref g5.objs.size) >>= _) _ _ _
  refine wpAny_bind ?_
  unfold Builtin.SmallTypes.ownedTupleHandOut
  have z6 : IsZip (g5.push { cls := .type "tuple", data := .seq #[x, y] }) Z A1 A2 .ellipsis := Heap.get?_push_of_some _ z5
  refine wpAny_bind (wpAny_setField_rec z6 (by simp) fun g7 z7 s7 => ?_)
  replace z7 : IsZip g7 Z A1 A2 (rawInt g5.objs.size) := z7
  refine wpAny_setField_rec z7 (by simp) fun g8 z8 s8 => ?_
  replace z8 : IsZip g8 Z A1 A2 (rawInt g5.objs.size) := z8
  have up : ∀ c o, c ≠ Z → g5.get? c = some o → g8.get? c = some o := fun c o c1 e => s8.extBut _ _ c1 (s7.extBut _ _ c1 (Heap.get?_push_of_some _ e))
  have t8 : IsPair g8 g5.objs.size x y := s8.extBut _ _ (Nat.ne_of_gt Zlt) (s7.extBut _ _ (Nat.ne_of_gt Zlt) (Heap.get?_push_size _ rfl))
  rw [sz] at z8 t8
  refine wpAny_pure ⟨_, rfl, ?_⟩
  show Q (.ref g5.objs.size) _
  rw [sz]
  exact q g8 z8 (up _ _ D.TOz a5) (k1' _ _ f5 (fun o e => up _ o D.i1z e) fun o e => up _ o D.l1z e) (k2' _ _ r5 (fun o e => up _ o D.i2z e) fun o e => up _ o D.l2z e) t8 fun c o c1 c2 c3 c4 e => up c o c1 (kk c o c1 c2 c3 c4 e)
theorem zm_end {Q : PySem.Fin → Shared → Prop} (D : ZipApart Z A1 A2 i1 i2 l1 l2) (hZ : IsZip s.heap Z A1 A2 .none) (h1 : IsPair s.heap A1 (.ref i1) (.ref i2)) (h2 : IsPair s.heap A2 u v) (k1 : Kp2 φ i1 l1) (k2 : Kp2 ψ i2 l2)
    (n : StopI prog w A i1 φ ∨ (∃ φ' x, StepI prog w A i1 φ φ' x) ∧ StopI prog w A i2 ψ) (p1 : φ s.heap) (p2 : ψ s.heap)
    (q : ∀ h' e, (∀ c o, c ≠ Z → c ≠ A2 → c ≠ i1 → c ≠ i2 → s.heap.get? c = some o → h'.get? c = some o) → (∃ o, h'.get? e = some o ∧ o.cls = .type "StopIteration") → E (.ref e) { s with heap := h' }) :
    wpAny (model prog w) A (Builtin.«zip.__next__» ⟨[.ref Z], []⟩) Q E s := by
  show wpAny _ _ (field (.ref Z) 2 >>= _) _ _ _
  refine wpAny_bind (wpAny_field hZ rfl (x := .bool false) rfl ?_)
  show wpAny _ _ (field (.ref Z) 3 >>= _) _ _ _
  refine wpAny_bind (wpAny_field hZ rfl (x := .ref A1) rfl ?_)
  refine wpAny_bind (wpAny_seqItems h1 rfl ?_)
  show wpAny _ _ (Builtin.SmallTypes.ownedTupleIsFree (.ref Z) >>= _) _ _ _
  refine wpAny_bind ?_
  unfold Builtin.SmallTypes.ownedTupleIsFree
  refine wpAny_bind (wpAny_field hZ rfl (x := .none) rfl (wpAny_pure ?_))
  simp only [if_true]
  refine wpAny_bind (wpAny_rule ?_)
  refine wpAny_bind (wpAny_field hZ rfl (x := .ref A2) rfl ?_)
  refine wpAny_bind (wpAny_setField_rec hZ (by simp) fun g1 z1 s1 => ?_)
  replace z1 : IsZip g1 Z A1 A2 .ellipsis := z1
  refine wpAny_bind ?_
  simp only [List.zipIdx_cons, List.zipIdx_nil, List.forIn_cons, List.forIn_nil]
  refine wpAny_bind (wpAny_bind (wpAny_onRaise ?_))
  show wpAny _ _ (Builtin.SmallTypes.nextOf (.ref i1) >>= _) _ _ _
  have p11 := kp_but k1 s1 D.i1z D.l1z p1
  rcases n with n | ⟨⟨φ', x, n1⟩, n2⟩
  · refine wpAny_bind (n _ _ _ p11 fun g2 e s2 he => ?_)
    obtain ⟨oe, hoe, hce⟩ := he
    have z2 : IsZip g2 Z A1 A2 .ellipsis := s2 _ _ D.i1z.symm z1
    have ne : e ≠ Z := fun t => by subst t; rw [z2] at hoe; cases hoe; simp at hce
    exact wpAny_setField_rec z2 (by simp) fun g3 _ s3 => q g3 e (fun c o c1 _ c3 _ t => s3.extBut _ _ c1 (s2 _ _ c3 (s1.extBut _ _ c1 t))) ⟨oe, s3.extBut _ _ ne hoe, hce⟩
  · refine wpAny_bind (n1 _ _ _ p11 fun g2 f2 s2 => wpAny_pure ?_)
    have a2 : IsPair g2 A2 u v := s2.extBut _ _ D.TOi1 (s1.extBut _ _ D.TOz h2)
    refine wpAny_bind (wpAny_seqItems a2 rfl ?_)
    refine wpAny_bind (wpAny_updateSeq_pair a2 fun g3 a3 s3 => ?_)
    refine wpAny_bind (wpAny_letGo (wpAny_pure ?_))
    refine wpAny_bind (wpAny_bind (wpAny_onRaise ?_))
    show wpAny _ _ (Builtin.SmallTypes.nextOf (.ref i2) >>= _) _ _ _
    have p23 : ψ g3 := kp_but k2 s3 D.TOi2.symm D.l2TO (kp_but k2 s2 D.i12.symm D.l2i1 (kp_but k2 s1 D.i2z D.l2z p2))
    refine wpAny_bind (n2 _ _ _ p23 fun g4 e s4 he => ?_)
    obtain ⟨oe, hoe, hce⟩ := he
    have z4 : IsZip g4 Z A1 A2 .ellipsis := s4 _ _ D.i2z.symm (s3.extBut _ _ D.TOz.symm (s2.extBut _ _ D.i1z.symm z1))
    have ne : e ≠ Z := fun t => by subst t; rw [z4] at hoe; cases hoe; simp at hce
    exact wpAny_setField_rec z4 (by simp) fun g5 _ s5 => q g5 e (fun c o c1 c2 c3 c4 t => s5.extBut _ _ c1 (s4 _ _ c4 (s3.extBut _ _ c2 (s2.extBut _ _ c3 (s1.extBut _ _ c1 t))))) ⟨oe, s5.extBut _ _ ne hoe, hce⟩
/-- zip(l1, l2) is made -/
abbrev zmH (h : Heap) (l1 l2 : Addr) : Heap := ((((h.push { cls := .type "list_iterator", data := .fields #[.ref l1, .int 0 0] }).push { cls := .type "tuple_iterator", data := .fields #[.ref l2, .int 0 0] }).push { cls := .type "tuple", data := .seq #[.ref h.objs.size, .ref (h.push { cls := .type "list_iterator", data := .fields #[.ref l1, .int 0 0] }).objs.size] }).push
  { cls := .type "tuple", data := .seq #[.none, .none] })
abbrev zmZ (h : Heap) (l1 l2 : Addr) : Heap := (zmH h l1 l2).push { cls := .type "zip", data := .fields #[.none, .bool false, .bool false, .ref ((h.push { cls := .type "list_iterator", data := .fields #[.ref l1, .int 0 0] }).push { cls := .type "tuple_iterator", data := .fields #[.ref l2, .int 0 0] }).objs.size,
  .ref (((h.push { cls := .type "list_iterator", data := .fields #[.ref l1, .int 0 0] }).push { cls := .type "tuple_iterator", data := .fields #[.ref l2, .int 0 0] }).push { cls := .type "tuple", data := .seq #[.ref h.objs.size, .ref (h.push { cls := .type "list_iterator", data := .fields #[.ref l1, .int 0 0] }).objs.size] }).objs.size] }
theorem zm_new (l1 l2 : Addr) (xs ys : Array Value) : Meets (Builtin.«zip.__new__» ⟨[.type "zip", .ref l1, .ref l2], []⟩) (fun _ R s => s.heap.IsList l1 xs ∧ s.heap.IsTuple l2 ys ∧ R (.ok (.ret (.ref (zmH s.heap l1 l2).objs.size))) { s with heap := zmZ s.heap l1 l2 }) :=
  .of_wp fun prog w A R s h => by
    obtain ⟨hp, g, d, tk, os⟩ := s
    obtain ⟨e1, e2, h⟩ := h
    have hsub := sub_zip
    have m1 : Heap.IsList (Shared.heap ⟨hp, g, d, tk, os⟩) l1 xs := e1
    have m2 : Heap.IsTuple (Shared.heap ⟨hp.push { cls := .type "list_iterator", data := .fields #[.ref l1, .int 0 0] }, g, d, tk, os⟩) l2 ys := Heap.IsTuple.push e2 _
    wp_walk using wpAny_pyIter_list m1, wpAny_pyIter_tuple m2
    exact ⟨_, rfl, h⟩
theorem call_zm {xs ys : Array Value} {Q : Value → Shared → Prop} (e1 : s.heap.IsList l1 xs) (e2 : s.heap.IsTuple l2 ys)
    (q : ∀ h', IsZip h' (s.heap.objs.size + 4) (s.heap.objs.size + 2) (s.heap.objs.size + 3) .none → IsPair h' (s.heap.objs.size + 2) (.ref s.heap.objs.size) (.ref (s.heap.objs.size + 1)) → IsPair h' (s.heap.objs.size + 3) .none .none →
      h'.IsListIter s.heap.objs.size l1 0 → h'.IsTupleIter (s.heap.objs.size + 1) l2 0 → (∀ c o, s.heap.get? c = some o → h'.get? c = some o) → Q (.ref (s.heap.objs.size + 4)) { s with heap := h' }) : wpAny (model prog w) A (call (.type "zip") [.ref l1, .ref l2]) Q E s := by
  refine callType_new F.called_zip (by decide) (F.typeCall_zip_2 _ _) (F.newCall_zip_2 _ _) (fun obj => F.args_object_init_3 obj _ _) F.entry_zip_new (zm_new l1 l2 xs ys) ⟨e1, e2, ?_⟩
  have z4 : (zmH s.heap l1 l2).objs.size = s.heap.objs.size + 4 := by simp only [zmH, Heap.size_push]
  have ps : ∀ (h : Heap) (o : Obj), (h.push o).objs.size = h.objs.size + 1 := fun h o => Heap.size_push ..
  have g5 : (zmZ s.heap l1 l2).get? (s.heap.objs.size + 4) = some { cls := .type "zip", data := .fields #[.none, .bool false, .bool false, .ref (s.heap.objs.size + 2), .ref (s.heap.objs.size + 3)] } := by
    have t := Heap.get?_push_size (zmH s.heap l1 l2) (o := { cls := .type "zip", data := .fields #[.none, .bool false, .bool false, .ref (s.heap.objs.size + 2), .ref (s.heap.objs.size + 3)] }) rfl
    rw [z4] at t
    simp only [zmZ, ps] at t ⊢
    exact t
  have g4 : (zmZ s.heap l1 l2).get? (s.heap.objs.size + 3) = some { cls := .type "tuple", data := .seq #[.none, .none] } := by
    refine Heap.get?_push_of_some _ ?_
    have t := Heap.get?_push_size (((s.heap.push { cls := .type "list_iterator", data := .fields #[.ref l1, .int 0 0] }).push { cls := .type "tuple_iterator", data := .fields #[.ref l2, .int 0 0] }).push { cls := .type "tuple", data := .seq #[.ref s.heap.objs.size, .ref (s.heap.push { cls := .type "list_iterator", data := .fields #[.ref l1, .int 0 0] }).objs.size] }) (o := { cls := .type "tuple", data := .seq #[.none, .none] }) rfl
    simp only [ps] at t
    simp only [zmH, ps]
    exact t
  have g3 : (zmZ s.heap l1 l2).get? (s.heap.objs.size + 2) = some { cls := .type "tuple", data := .seq #[.ref s.heap.objs.size, .ref (s.heap.objs.size + 1)] } := by
    refine Heap.get?_push_of_some _ (Heap.get?_push_of_some _ ?_)
    have t := Heap.get?_push_size ((s.heap.push { cls := .type "list_iterator", data := .fields #[.ref l1, .int 0 0] }).push { cls := .type "tuple_iterator", data := .fields #[.ref l2, .int 0 0] }) (o := { cls := .type "tuple", data := .seq #[.ref s.heap.objs.size, .ref (s.heap.objs.size + 1)] }) rfl
    simp only [ps] at t ⊢
    exact t
  have g2 : (zmZ s.heap l1 l2).get? (s.heap.objs.size + 1) = some { cls := .type "tuple_iterator", data := .fields #[.ref l2, .int 0 0] } := by
    refine Heap.get?_push_of_some _ (Heap.get?_push_of_some _ (Heap.get?_push_of_some _ ?_))
    have t := Heap.get?_push_size (s.heap.push { cls := .type "list_iterator", data := .fields #[.ref l1, .int 0 0] }) (o := { cls := .type "tuple_iterator", data := .fields #[.ref l2, .int 0 0] }) rfl
    simp only [ps] at t ⊢
    exact t
  have g1 : (zmZ s.heap l1 l2).get? s.heap.objs.size = some { cls := .type "list_iterator", data := .fields #[.ref l1, .int 0 0] } :=
    Heap.get?_push_of_some _ (Heap.get?_push_of_some _ (Heap.get?_push_of_some _ (Heap.get?_push_of_some _ (Heap.get?_push_size _ rfl))))
  show _ ∧ _
  rw [z4]
  exact ⟨⟨_, g5, rfl⟩, q _ g5 g3 g4 ⟨_, g1, rfl, rfl⟩ ⟨_, g2, rfl, rfl⟩ fun c o t => Heap.get?_push_of_some _ (Heap.get?_push_of_some _ (Heap.get?_push_of_some _ (Heap.get?_push_of_some _ (Heap.get?_push_of_some _ t))))⟩
theorem kp_li {k : Nat} : Kp2 (fun h => h.IsListIter i1 l1 k) i1 l1 := fun h h' p a _ => p.at a
theorem kp_li2 {k : Nat} {xs : Array Value} : Kp2 (fun h => h.IsListIter i1 l1 k ∧ h.IsList l1 xs) i1 l1 := fun h h' p a b => ⟨p.1.at a, p.2.at b⟩
theorem kp_ti {k : Nat} : Kp2 (fun h => h.IsTupleIter i1 l1 k) i1 l1 := fun h h' p a _ => p.at a
theorem kp_ti2 {k : Nat} {xs : Array Value} : Kp2 (fun h => h.IsTupleIter i1 l1 k ∧ h.IsTuple l1 xs) i1 l1 := fun h h' p a b => ⟨p.1.at a, p.2.at b⟩
theorem step_list {k : Nat} {xs : Array Value} (hx : xs[k]? = some x) : StepI prog w A i1 (fun h => h.IsListIter i1 l1 k ∧ h.IsList l1 xs) (fun h => h.IsListIter i1 l1 (k + 1)) x := fun s E Q h q => wpAny_nextOf_list_item h.1 h.2 hx q
theorem step_tup {k : Nat} {xs : Array Value} (hx : xs[k]? = some x) : StepI prog w A i1 (fun h => h.IsTupleIter i1 l1 k ∧ h.IsTuple l1 xs) (fun h => h.IsTupleIter i1 l1 (k + 1)) x := fun s E Q h q => RZ.nextOf_tuple_item h.1 h.2 hx q
theorem stop_list {k : Nat} {xs : Array Value} (hh : A.handled = none) (hx : xs[k]? = none) : StopI prog w A i1 (fun h => h.IsListIter i1 l1 k ∧ h.IsList l1 xs) := fun s E Q h q => wpAny_nextOf_list_end hh h.1 h.2 hx q
theorem stop_tup {k : Nat} {xs : Array Value} (hh : A.handled = none) (hx : xs[k]? = none) : StopI prog w A i1 (fun h => h.IsTupleIter i1 l1 k ∧ h.IsTuple l1 xs) := fun s E Q h q => RZ.nextOf_tuple_end hh h.1 h.2 hx q
end
/-- the list at a, the tuple at b, the items in new pairs -/
def ItzM (K : PySem.W.Frag) (a b : Addr) : It :=
  ⟨fun i H => ∃ (xs ys : List V) (x y : V), SqL K H a xs ∧ SqT K H b ys ∧ xs[i]? = some x ∧ ys[i]? = some y,
    fun i H v H' => ∃ T x y, v = .ref T ∧ H T = none ∧ H' = upd H T (.tup [x, y]) ∧ (∀ xs, SqL K H a xs → xs[i]? = some x) ∧ ∀ ys, SqT K H b ys → ys[i]? = some y,
    fun i H => ∃ xs ys : List V, SqL K H a xs ∧ SqT K H b ys ∧ (xs.length ≤ i ∨ ys.length ≤ i)⟩
theorem of5 {z A1 A2 i1 i2 c : Addr} (h : c ∈ [z, A1, A2, i1, i2]) : c = z ∨ c = A1 ∨ c = A2 ∨ c = i1 ∨ c = i2 := by simpa using h
theorem n5 {z A1 A2 i1 i2 c : Addr} (h : c ∉ [z, A1, A2, i1, i2]) : c ≠ z ∧ c ≠ A1 ∧ c ≠ A2 ∧ c ≠ i1 ∧ c ≠ i2 := by
  refine ⟨fun e => h ?_, fun e => h ?_, fun e => h ?_, fun e => h ?_, fun e => h ?_⟩ <;> simp [e]
theorem turn_zm {P : Program} {w : World} {K : PySem.W.Frag} {elts : List Expr} {kk : Nat} {tpos : Pos} {a b z A1 A2 i1 i2 : Addr} (D : ZipApart z A1 A2 i1 i2 a b) (hl : a ≠ i2) :
    Turn P w K (.Tuple elts kk tpos) (ItzM K a b) [z, A1, A2, i1, i2] z (fun i h => IsZip h z A1 A2 .none ∧ IsPair h A1 (.ref i1) (.ref i2) ∧ (∃ x y, IsPair h A2 x y) ∧ h.IsListIter i1 a i ∧ h.IsTupleIter i2 b i) where
  mem := List.mem_cons_self
  obj := fun i h st c hc => by
    obtain ⟨t1, t2, ⟨x, y, t3⟩, ⟨o1, e1, _, d1⟩, ⟨o2, e2, _, d2⟩⟩ := st
    rcases of5 hc with e | e | e | e | e <;> subst e
    · exact ⟨_, t1, fun v q => nomatch q⟩
    · exact ⟨_, t2, fun v q => nomatch q⟩
    · exact ⟨_, t3, fun v q => nomatch q⟩
    · exact ⟨o1, e1, fun v q => by rw [d1] at q; cases q⟩
    · exact ⟨o2, e2, fun v q => by rw [d2] at q; cases q⟩
  keep := fun i h h' st k => by
    obtain ⟨t1, t2, ⟨x, y, t3⟩, h1, h2⟩ := st
    exact ⟨k z (by simp) _ t1, k A1 (by simp) _ t2, ⟨x, y, k A2 (by simp) _ t3⟩, h1.at fun o q => k i1 (by simp) o q, h2.at fun o q => k i2 (by simp) o q⟩
  item := by
    intro X hP hw hK hc i pins s σ H E I hf st hg
    subst hP hw hK
    obtain ⟨t1, t2, ⟨x0, y0, t3⟩, h1, h2⟩ := st
    obtain ⟨xs, ys, x, y, hqx, hqy, hx, hy⟩ := hg
    obtain ⟨its, rv, p, _⟩ := I.list hqx
    obtain ⟨its2, rv2, p2, _⟩ := I.tuple hqy
    obtain ⟨u, hu, ru⟩ := rv.get hx
    obtain ⟨u2, hu2, ru2⟩ := rv2.get hy
    have zlt : z < s.heap.objs.size := Heap.lt_size t1
    have hT : s.TypeIs (.ref z) "zip" := ⟨_, t1, rfl⟩
    unfold pyNext
    refine wpAny_bind (wpAny_attempt (wpAny_callSpecial?_slot (name := Str.ofString "__next__") hT F.slot_zip_next (wpAny_call_entry F.slot_zip_next hT F.entry_zip_next
      (zm_item D t1 t2 t3 kp_li2 kp_li kp_ti2 kp_ti (step_list (x := u) (by simpa using hu)) (step_tup (x := u2) (by simpa using hu2)) ⟨h1, p.isList⟩ ⟨h2, p2⟩ hl fun h' z' a2 f1 f2 hp hk => wpAny_pure ?_) (F.args_zip_next_1 _))))
    refine ⟨_, rfl, wpAny_letOwnedTupleGo_zip (s := { s with heap := h' }) z' fun h'' z'' sb => ?_⟩
    have hp2 : h''.get? s.heap.objs.size = some { cls := .type "tuple", data := .seq #[u, u2] } := (sb.2 _ (Nat.ne_of_gt zlt)).trans hp
    have new : ObjOk X.prog X.w (upd H s.heap.objs.size (.tup [x, y])) h'' s.heap.objs.size (.tup [x, y]) := ⟨by show 2 ≤ sizeLine; decide, [u, u2], .cons ru (.cons ru2 .nil), ⟨_, hp2, rfl, _, rfl⟩⟩
    have I1 : Inv X pins σ (upd H s.heap.objs.size (.tup [x, y])) { s with heap := h'' } :=
      I.turnedNew (t' := s.toks) (ch := [z, A1, A2, i1, i2]) (fun c o hb q => (sb.2 c (n5 hb).1).trans (hk c o (n5 hb).1 (n5 hb).2.2.1 (n5 hb).2.2.2.1 (n5 hb).2.2.2.2 q)) hf (Nat.le_refl _) new
    refine ⟨.ref s.heap.objs.size, _, I1, rfl, ⟨_, x, y, rfl, I.hok.fresh (Nat.le_refl _), rfl, fun l e => by rw [I.list_inj e hqx]; exact hx, fun l e => by rw [I.tuple_inj e hqy]; exact hy⟩, ⟨z'', ?_, ⟨u, u2, ?_⟩, ?_, ?_⟩, fun c hcm => ?_⟩
    · exact (sb.2 _ D.TIz).trans (hk _ _ D.TIz D.TITO D.TIi1 D.TIi2 t2)
    · exact (sb.2 _ D.TOz).trans a2
    · exact f1.at fun o q => (sb.2 _ D.i1z).trans q
    · exact f2.at fun o q => (sb.2 _ D.i2z).trans q
    · have clt : c < s.heap.objs.size := by
        rcases of5 hcm with e | e | e | e | e <;> subst e
        · exact zlt
        · exact Heap.lt_size t2
        · exact Heap.lt_size t3
        · obtain ⟨_, e1, _⟩ := h1; exact Heap.lt_size e1
        · obtain ⟨_, e2, _⟩ := h2; exact Heap.lt_size e2
      rw [upd_ne (Nat.ne_of_lt clt)]
      exact (hf c hcm).1
  done := by
    intro X hP hw hK hc i pins s σ H E I hf st hg
    subst hP hw hK
    obtain ⟨t1, t2, ⟨x0, y0, t3⟩, h1, h2⟩ := st
    obtain ⟨xs, ys, hqx, hqy, hend⟩ := hg
    obtain ⟨its, rv, p, _⟩ := I.list hqx
    obtain ⟨its2, rv2, p2, _⟩ := I.tuple hqy
    have m1 := rv.length
    have m2 := rv2.length
    have hT : s.TypeIs (.ref z) "zip" := ⟨_, t1, rfl⟩
    have hh := I.ok.hd hc
    have nn : StopI X.prog X.w X.A.in1 i1 (fun h => h.IsListIter i1 a i ∧ h.IsList a its.toArray) ∨ (∃ φ' x, StepI X.prog X.w X.A.in1 i1 (fun h => h.IsListIter i1 a i ∧ h.IsList a its.toArray) φ' x) ∧ StopI X.prog X.w X.A.in1 i2 (fun h => h.IsTupleIter i2 b i ∧ h.IsTuple b its2.toArray) := by
      by_cases hl1 : its.length ≤ i
      · exact .inl (stop_list hh (by simp; omega))
      · have hi : i < its.length := by omega
        exact .inr ⟨⟨_, its[i], step_list (by simp)⟩, stop_tup hh (by simp; omega)⟩
    unfold pyNext
    refine wpAny_bind (wpAny_attempt (wpAny_callSpecial?_slot (name := Str.ofString "__next__") hT F.slot_zip_next (wpAny_call_entry F.slot_zip_next hT F.entry_zip_next
      (zm_end D t1 t2 t3 kp_li2 kp_ti2 nn ⟨h1, p.isList⟩ ⟨h2, p2⟩ fun h' e hk he => ?_) (F.args_zip_next_1 _))))
    obtain ⟨o, ho, hcl⟩ := he
    refine wpAny_bind (wpAny_isInstance (T := "StopIteration") (b := true) ⟨o, ho, hcl⟩ isSubtype_stop ?_)
    exact wpAny_pure ⟨rfl, I.turnedL (t' := s.toks) (ch := [z, A1, A2, i1, i2]) (fun c o hb q => hk c o (n5 hb).1 (n5 hb).2.2.1 (n5 hb).2.2.2.1 (n5 hb).2.2.2.2 q) hf⟩
  self := fun A i s Q E st h => wpAny_pyIter_zip st.1 h
def iZipM (K : PySem.W.Frag) (ta : TA) : TI := fun σ H R => ta σ H fun vs H1 => ∃ a b xs ys, vs = [.ref a, .ref b] ∧ SqL K H1 a xs ∧ SqT K H1 b ys ∧ R (ItzM K a b) H1
theorem kpZL {X : Cx} {e e2 : Expr} {ta : TA} {p pos tpos : Pos} {elts : List Expr} {kk : Nat} (K : PySem.W.Frag) (h : X.K = K) (hg : Gl X "zip") (hm : X.mg "zip" = none) (ha : PA X [e, e2] ta)
    (hs : starEach [e, e2] X.env = (false, eval e X.env) :: starEach [e2] X.env := by rfl) (hpl : (backTo pos (starEach [e2] X.env)).any (·.1) = false := by rfl) :
    PI X (.Tuple elts kk tpos) (.Call (.Name "zip" p) [e, e2] [] pos) (iZipM K ta) := by
  subst h
  refine ⟨fun pins s σ H R I h => ?_⟩
  refine Call_ (ld_blt I hg hm PyProof.Rows.boot_zip (PyProof.Rows.callWith_type1 (thn (ha.run pos pins s σ H _ I h) fun us s1 ⟨vs, H1, I1, r1, q1⟩ => ?_) hs hpl))
  obtain ⟨a, b, xs, ys, rfl, hqx, hqy, q⟩ := q1
  cases r1 with
  | cons r rr =>
  cases rr with
  | cons r' rr =>
  cases rr
  cases r
  cases r'
  obtain ⟨its, rv, p1, _⟩ := I1.list hqx
  obtain ⟨its2, rv2, p2, _⟩ := I1.tuple hqy
  obtain ⟨o2, ho2, _⟩ := id p2
  have l2 : b < s1.heap.objs.size := Heap.lt_size ho2
  refine call_zm p1.isList (show s1.heap.IsTuple b its2.toArray from p2) fun h' z' t2 t3 h1 h2 hk => wpAny_pyIter_zip z' ?_
  have I2 : Inv X pins σ H1 { s1 with heap := h' } := I1.kept (t' := s1.toks) hk
  refine ⟨s1.heap.objs.size + 4, [s1.heap.objs.size + 4, s1.heap.objs.size + 2, s1.heap.objs.size + 3, s1.heap.objs.size, s1.heap.objs.size + 1], _, _, H1, rfl, I2, turn_zm (PySem.W.ktu_apart s1.heap.objs.size a b p1.lt l2) (Nat.ne_of_lt (Nat.lt_succ_of_lt p1.lt)), ⟨z', t2, ⟨_, _, t3⟩, h1, h2⟩, fun c hcm => ?_, q⟩
  have hle : s1.heap.objs.size ≤ c := by
    rcases of5 hcm with e | e | e | e | e <;> subst e
    · exact Nat.le_add_right _ _
    · exact Nat.le_add_right _ _
    · exact Nat.le_add_right _ _
    · exact Nat.le_refl _
    · exact Nat.le_add_right _ _
  exact I1.fpOk hle (I1.hok.fresh hle)
/-- zip of a list and a tuple -/
theorem ei_zipM {K : PySem.W.Frag} {G : Gm} {as : TA} {ds es : List PyData} (h : EvA K as G [.list ds, .tuple es]) : EvI K (iZipM K as) G (List.zipWith (fun a b => .tuple [a, b]) ds es) := fun M σ H e R q =>
  h M σ H e _ fun vs H1 s1 r1 => by
    cases r1 with
    | cons r t =>
      cases t with
      | cons r' t =>
        cases t
        obtain ⟨a, xs, rfl, nM, ha, rs⟩ := r.lst_inv
        obtain ⟨b, ys, rfl, hb, rs2⟩ := r'.tup_inv
        have hL : ∀ {H : Hp} {a : Addr} {xs : List V}, H a = some (.lst xs) → SqL K H a xs := fun h => .inl (.inl h)
        refine ⟨a, b, xs, ys, rfl, hL ha, hb.seq, q (ItzM K a b) H1 [(.ref a, .list ds), (.ref b, .tuple es)] s1 (fun p hp => ?_) ⟨fun M2 H2 i hr hi => ?_, fun M2 H2 i x H3 mo hr hi hy => ?_, fun M2 H2 hr => ?_⟩⟩
        · rcases List.mem_cons.mp hp with e | hp
          · rw [e]
            exact .lst nM ha rs
          · rw [List.mem_singleton.mp hp]
            exact .tup hb rs2
        all_goals
          obtain ⟨a2, ys1, e2, _, hb1, rs1⟩ := (hr _ List.mem_cons_self).lst_inv
          cases e2
          obtain ⟨a3, ys3, e3, hb3, rs3⟩ := (hr _ (List.mem_cons_of_mem _ List.mem_cons_self)).tup_inv
          cases e3
        · rw [List.length_zipWith] at hi
          have l1 : i < ys1.length := by rw [rs1.length]; omega
          have l3 : i < ys3.length := by rw [rs3.length]; omega
          exact ⟨ys1, ys3, ys1[i], ys3[i], hL hb1, hb3.seq, List.getElem?_eq_getElem l1, List.getElem?_eq_getElem l3⟩
        · obtain ⟨T, u, w, rfl, nT, rfl, f1, f2⟩ := hy
          obtain ⟨d1, h1, g1⟩ := rs1.get (f1 _ (hL hb1))
          obtain ⟨d2, h2, g2⟩ := rs3.get (f2 _ hb3.seq)
          exact ⟨same_new nT, _, zw_get h1 h2, rep_newT mo nT (.cons g1 (.cons g2 .nil))⟩
        · refine ⟨ys1, ys3, hL hb1, hb3.seq, ?_⟩
          rw [List.length_zipWith, rs1.length, rs3.length]
          omega
end Tb
set_option Elab.async false
set_option linter.all false
set_option maxRecDepth 100000
set_option maxHeartbeats 4000000
/-! ## tuple * int, tuple[::-1], sorted(.., key=..) as written -/
namespace Tb
open PySem PySem.Spec PyProof.Rows PySem.W L2
theorem mul_1 (l : Addr) (items : Array Value) (n : Nat) (dd : Option Addr) (sl : Array (Option Value)) (u : Tok) :
    Meets (Builtin.«tuple.__mul__» ⟨[.ref l, .int 1 u], []⟩) (fun _ R s => s.heap.get? l = some { cls := .type "tuple", dict := dd, data := .seq items n, slots := sl } ∧ R (.ok (.ret (Value.ref l))) s) :=
  .of_wp fun prog w A R s h => by
    obtain ⟨hp, g, d, tk, os⟩ := s
    obtain ⟨hl, h⟩ := h
    have f1 := AutoSeq1.idx_int
    have c1 : (items.isEmpty || (1 : Int) == 1) = true := by simp
    have ht : Shared.TypeIs ⟨hp, g, d, tk, os⟩ (.ref l) "tuple" := ⟨_, hl, rfl⟩
    wp_walk using wpAny_loadPart' hl
    repeat (first
      | (refine wpAny_ite_true (decide_eq_true (by rw [c1])) ?_; wp_walk using wpAny_loadPart' hl, wpAny_typeOf ht)
      | (refine wpAny_ite_true c1 ?_; wp_walk using wpAny_loadPart' hl, wpAny_typeOf ht))
    all_goals exact ⟨_, rfl, h⟩
theorem mul_0 (l : Addr) (items : Array Value) (n : Nat) (dd : Option Addr) (sl : Array (Option Value)) (u : Tok) (hi : items.isEmpty = false) :
    Meets (Builtin.«tuple.__mul__» ⟨[.ref l, .int 0 u], []⟩) (fun _ R s => s.heap.get? l = some { cls := .type "tuple", dict := dd, data := .seq items n, slots := sl } ∧ R (.ok (.ret (Value.ref s.heap.objs.size))) { s with heap := s.heap.push { cls := .type "tuple", data := .seq #[] } }) :=
  .of_wp fun prog w A R s h => by
    obtain ⟨hp, g, d, tk, os⟩ := s
    obtain ⟨hl, h⟩ := h
    have f1 := AutoSeq1.idx_int
    have c1 : (items.isEmpty || (0 : Int) == 1) = false := by rw [hi]; rfl
    have c2 : (decide ((0 : Int) ≤ 0) || items.isEmpty) = true := by rw [hi]; rfl
    wp_walk using wpAny_loadPart' hl
    repeat (first
      | (refine wpAny_ite_false (decide_eq_false (by rw [c1]; exact Bool.false_ne_true)) ?_; wp_walk using wpAny_loadPart' hl)
      | (refine wpAny_ite_true (decide_eq_true (by rw [c2])) ?_; wp_walk using wpAny_loadPart' hl))
    all_goals exact ⟨_, rfl, h⟩
def rMulT (K : PySem.W.Frag) : R2 := fun x y H Q => ∃ l k xs, x = .ref l ∧ y = .int k ∧ SqT K H l xs ∧ xs ≠ [] ∧ 0 ≤ k ∧ k ≤ 1000 ∧ xs.length ≤ 1000 ∧ (k = 1 → Q (.ref l) H) ∧ (k ≠ 1 → ∀ p, H p = none → Q (.ref p) (upd H p (.tup (List.replicate k.toNat xs).flatten)))
theorem kMulT {X : Cx} (K : PySem.W.Frag) (hK : X.K = K) : OpR X (binaryOp .Mult) (rMulT K) := by
  subst hK
  intro pins s σ H x y v u Q I rx ry h
  obtain ⟨l, k, xs, rfl, rfl, hT, hne, h1, h2, hz, q1, q2⟩ := h
  by_cases h3 : 2 ≤ k
  · exact op_repT pins s σ H _ _ v u Q I rx ry ⟨l, k, xs, rfl, rfl, hT, hne, h3, h2, hz, q2 (by omega)⟩
  · cases rx
    obtain ⟨t, rfl⟩ := ry
    obtain ⟨its, r, ⟨⟨cls, dd, data, sl⟩, ho, hc, n, hd⟩, hs⟩ := I.tuple hT
    simp only at hc hd
    subst hc hd
    have hn : its ≠ [] := fun e => hne (by
      have := r.length
      rw [e] at this
      exact List.eq_nil_of_length_eq_zero this)
    have hi : its.toArray.isEmpty = false := by
      cases its with
      | nil => exact absurd rfl hn
      | cons a b => rfl
    have e : k = 0 ∨ k = 1 := by omega
    rcases e with rfl | rfl
    · refine wpAny_binaryOp_repeat_ref (T := "tuple") (U := "int") (by decide) ⟨_, ho, rfl⟩ (fun s' => typeIs_int s' 0 t) noFill_tuple_mul F.fills_int_mul F.slot_int_rmul repeat_tuple F.slot_int_index.lookup
        (call_meets F.slot_int_rmul (typeIs_int s 0 t) F.entry_int_rmul (F.args_int_rmul_2 _ _) (int_rmul_tuple 0 t l its.toArray n dd sl)
          ⟨ho, rfl, ⟨_, ho, rfl⟩, call_meets F.slot_tuple_mul ⟨_, ho, rfl⟩ F.entry_tuple_mul (F.args_tuple_mul_2 _ _) (mul_0 l its.toArray n dd sl t hi) ⟨ho, ?_⟩⟩)
      refine ⟨.ref s.heap.objs.size, _, I.laid (t' := s.toks) (o := .tup []) (fun b ob q => Heap.get?_push_of_some _ q) (Nat.le_refl _) ?_, rfl, q2 (by decide) _ (I.hok.fresh (Nat.le_refl _))⟩
      exact ⟨Nat.zero_le _, [], .nil, IsTup.new _ _⟩
    · exact wpAny_binaryOp_repeat_ref (T := "tuple") (U := "int") (by decide) ⟨_, ho, rfl⟩ (fun s' => typeIs_int s' 1 t) noFill_tuple_mul F.fills_int_mul F.slot_int_rmul repeat_tuple F.slot_int_index.lookup
        (call_meets F.slot_int_rmul (typeIs_int s 1 t) F.entry_int_rmul (F.args_int_rmul_2 _ _) (int_rmul_tuple 1 t l its.toArray n dd sl)
          ⟨ho, rfl, ⟨_, ho, rfl⟩, call_meets F.slot_tuple_mul ⟨_, ho, rfl⟩ F.entry_tuple_mul (F.args_tuple_mul_2 _ _) (mul_1 l its.toArray n dd sl t) ⟨ho, .ref l, H, I, rfl, q1 rfl⟩⟩)
theorem repL_rep {K : PySem.W.Frag} {M : MS} {H : Hp} {xs : List V} {ds : List PyData} (h : RepL K M H xs ds) : ∀ n : Nat, RepL K M H (List.replicate n xs).flatten (List.replicate n ds).flatten
  | 0 => .nil
  | n + 1 => by
    rw [List.replicate_succ, List.replicate_succ, List.flatten_cons, List.flatten_cons]
    exact h.app (repL_rep h n)
theorem rv_mulT {K : PySem.W.Frag} {ds : List PyData} {k : Int} (h1 : ds ≠ []) (h2 : 0 ≤ k) (h3 : k ≤ 1000) (h4 : ds.length ≤ 1000) : RV K (rMulT K) (.tuple ds) (.int k) (.tuple (List.replicate k.toNat ds).flatten) := fun M H v u mo r1 r2 Q q => by
  obtain ⟨l, xs, rfl, hl, rs⟩ := r1.tup_inv
  have e2 := r2.int_inv
  subst e2
  refine ⟨l, k, xs, rfl, rfl, hl.seq, fun e => h1 ?_, h2, h3, by rw [rs.length]; exact h4, fun hk => q _ H (Same.refl H) ?_, fun _ p hp => q _ _ (same_new hp) (rep_newT mo hp (repL_rep rs _))⟩
  · rw [e] at rs
    cases rs
    rfl
  · rw [hk]
    have e : (List.replicate (1 : Int).toNat ds).flatten = ds := by
      show (List.replicate 1 ds).flatten = ds
      rw [List.replicate_one, List.flatten_cons, List.flatten_nil, List.append_nil]
    rw [e]
    exact .tup hl rs
/-! ### t[::-1] -/
section
variable {prog : Program} {w : World} {A : Around} {E : Value → Shared → Prop} {s : Shared}
theorem adj_rev (n : Nat) : Builtin.Slice.sliceAdjust none none (-1) (n : Int) = ((n : Int) - 1, -1) := by
  unfold Builtin.Slice.sliceAdjust
  have h1 : ((-1 : Int) < 0) := by decide
  simp only [h1, if_true]
theorem plc_rev (n : Nat) : Builtin.Slice.slicePlaces ((n : Int) - 1) (-1) (-1) = n := by
  unfold Builtin.Slice.slicePlaces
  have h1 : ¬ ((-1 : Int) > 0) := by decide
  have e : (- -1 : Int) = 1 := by decide
  simp only [h1, if_false, e, Int.ediv_one]
  split <;> omega
theorem sla_rev {sl : Addr} {n : Nat} {u : Tok} {Q : Int × Int × Nat → Shared → Prop} (hs : s.heap.IsSliceOf sl .none .none (.int (-1) u)) (h : Q ((n : Int) - 1, -1, n) s) :
    wpAny (model prog w) A (Builtin.Slice.sliceApplied (.ref sl) (pure (n : Int))) Q E s := by
  obtain ⟨o, ho, hc, hd⟩ := id hs
  unfold Builtin.Slice.sliceApplied Builtin.Slice.sliceFields
  refine wpAny_bind (wpAny_bind (wpAny_field ho hd (x := .none) rfl (wpAny_bind (wpAny_field ho hd (x := .none) rfl (wpAny_bind (wpAny_field ho hd (x := .int (-1) u) rfl (wpAny_pure ?_)))))))
  refine wpAny_bind (slicePart_int ?_)
  show wpAny _ _ (if ((-1 : Int) == 0) = true then _ else _) _ _ s
  rw [if_neg (by decide)]
  refine wpAny_bind (slicePart_none (wpAny_bind (slicePart_none (wpAny_bind (wpAny_pure ?_)))))
  show wpAny _ _ (match Builtin.Slice.sliceAdjust none none (-1) (n : Int) with | (lo, hi) => pure (lo, (-1 : Int), Builtin.Slice.slicePlaces lo hi (-1))) _ _ s
  rw [adj_rev n]
  show wpAny _ _ (pure ((n : Int) - 1, (-1 : Int), Builtin.Slice.slicePlaces ((n : Int) - 1) (-1) (-1))) _ _ s
  rw [plc_rev n]
  exact wpAny_pure h
theorem fm_congr {α β : Type} {f g : α → Option β} : ∀ {l : List α}, (∀ x, x ∈ l → f x = g x) → l.filterMap f = l.filterMap g
  | [], _ => rfl
  | x :: l, h => by
    rw [List.filterMap_cons, List.filterMap_cons, h x List.mem_cons_self, fm_congr fun y hy => h y (List.mem_cons_of_mem _ hy)]
theorem pick_rev (xs : Array Value) : ((List.range xs.size).filterMap fun (k : Nat) => xs[(((xs.size : Int) - 1) + (k : Int) * (-1)).toNat]?).toArray = xs.toList.reverse.toArray := by
  have e : ((List.range xs.size).filterMap fun (k : Nat) => xs[(((xs.size : Int) - 1) + (k : Int) * (-1)).toNat]?) = (((List.range xs.size).map fun k => xs.size - 1 - k).filterMap (xs[·]?)) := by
    rw [List.filterMap_map]
    refine fm_congr fun k hk => ?_
    have h := List.mem_range.mp hk
    show xs[_]? = xs[_]?
    have e2 : (((xs.size : Int) - 1) + (k : Int) * (-1)).toNat = xs.size - 1 - k := by omega
    rw [e2]
  rw [e, krv_range, List.filterMap_reverse, krv_all]
theorem gi_rev {t sl : Addr} {items : Array Value} {u : Tok} {Q : Value → Shared → Prop} (ht : IsTup s.heap t items) (hs : s.heap.IsSliceOf sl .none .none (.int (-1) u))
    (h : Q (.ref s.heap.objs.size) { s with heap := s.heap.push { cls := .type "tuple", data := .seq items.toList.reverse.toArray } }) (hz : items.size ≤ sizeLine) : wpAny (model prog w) A (getItem (.ref t) (.ref sl)) Q E s := by
  have hok : sizeOk (.seq items.toList.reverse.toArray) := by
    show items.toList.reverse.toArray.size ≤ sizeLine
    rw [List.size_toArray, List.length_reverse, Array.length_toList]
    exact hz
  obtain ⟨o, ho, hc, hd⟩ := id hs
  have hT : s.TypeIs (.ref sl) "slice" := ⟨o, ho, hc⟩
  unfold getItem
  try with_reducible refine wpAny_holding ?_
  first | refine wpAny_bind (wpAny_pure ?_) | skip
  refine wpAny_bind (wpAny_sequenceKey ht.typeIs (by decide) ?_)
  refine wpAny_bind (wpAny_callSpecial?_slot (name := Str.ofString "__getitem__") ht.typeIs PyProof.Rows.slot_tuple_getitem (wpAny_call_entry PyProof.Rows.slot_tuple_getitem ht.typeIs entry_tuple_getitem ?_ (args_tuple_getitem _ _)))
  show wpAny _ _ (Builtin.Tuple.tupleItemsOf (.ref t) >>= _) _ _ s
  refine wpAny_bind (tupleItemsOf_ ht ?_)
  refine wpAny_bind (wpAny_typeOf hT ?_)
  rw [if_pos (by decide)]
  refine wpAny_bind (sla_rev (n := items.size) hs ?_)
  have no : ¬ ((((items.size : Int) - 1) == 0 && (-1 : Int) == 1 && items.size == items.size) = true) := by simp
  show wpAny _ _ (if (((items.size : Int) - 1) == 0 && (-1 : Int) == 1 && items.size == items.size) = true then _ else _) _ _ s
  rw [if_neg no, pick_rev items]
  first
    | exact wpAny_bind (m := Builtin.Tuple.tupleExact _) (wpAny_newObj_type (wpAny_pure ⟨_, rfl, wpAny_pure h⟩) hok)
    | exact wpAny_bind (m := Builtin.Tuple.tupleExact _) (wpAny_newObj_type (wpAny_bind (wpAny_pure (wpAny_pure ⟨_, rfl, wpAny_pure h⟩))) hok)
    | exact wpAny_bind (wpAny_bind (m := Builtin.Tuple.tupleExact _) (wpAny_newObj_type (wpAny_pure (wpAny_pure ⟨_, rfl, wpAny_pure h⟩)) hok))
    | exact wpAny_bind (wpAny_bind (m := Builtin.Tuple.tupleExact _) (wpAny_newObj_type (wpAny_pure ⟨_, rfl, wpAny_pure h⟩) hok))
end
def tRevT (K : PySem.W.Frag) (te : TE) : TE := fun σ H Q => te σ H fun x H1 => ∃ a xs, x = .ref a ∧ SqT K H1 a xs ∧ ∀ p, H1 p = none → Q (.ref p) (upd H1 p (.tup xs.reverse))
theorem pe_revT {X : Cx} {e : Expr} {te : TE} {k : Nat} {p1 p2 p3 pos : Pos} (K : PySem.W.Frag) (hK : X.K = K) (he : PE X e te) : PE X (.Subscript e (.Slice none none (some (.UnaryOp .USub (.Constant (.int 1) k p1) p2)) p3) pos) (tRevT K te) := by
  subst hK
  refine ⟨fun pins s σ H Q I h => ?_⟩
  refine Subscript_ (thn (he.run pins s σ H _ I h) fun v s1 ⟨x, H1, I1, r1, q1⟩ => ?_)
  obtain ⟨a, xs, rfl, hx, q⟩ := q1
  cases r1
  have hst : PO X (some (.UnaryOp .USub (.Constant (.int 1) k p1) p2)) (tPart (tUn (rU fun i => .int (-i)) (tC (.int 1)))) := po_some (pe_un un_neg pe_int)
  refine wpAny_Slice (thn (po_none.run pins s1 σ H1 (fun o H2 => o = none ∧ H2 = H1) I1 ⟨rfl, rfl⟩) fun vl s2 ⟨l, H2, I2, pl, el, e2⟩ => ?_)
  subst el e2
  refine thn (po_none.run pins s2 σ H2 (fun o H3 => o = none ∧ H3 = H2) I2 ⟨rfl, rfl⟩) fun vu s3 ⟨u, H3, I3, pu, eu, e3⟩ => ?_
  subst eu e3
  refine thn (hst.run pins s3 σ H3 (fun o H4 => o = some (-1) ∧ H4 = H3) I3 ⟨1, rfl, -1, rfl, rfl, rfl⟩) fun vs s4 ⟨o, H4, I4, ps, eo, e4⟩ => ?_
  subst eo e4
  obtain ⟨u1, rfl⟩ : ∃ u1, vs = .int (-1) u1 := by cases ps; exact ⟨_, rfl⟩
  have el : vl = .none := by cases pl; rfl
  have eu : vu = .none := by cases pu; rfl
  subst el eu
  have I5 : Inv X pins σ H4 { s4 with heap := s4.heap.push { cls := .type "slice", data := .fields #[.none, .none, .int (-1) u1] } } := I4.kept (t' := s4.toks) fun b ob q => Heap.get?_push_of_some _ q
  obtain ⟨its, r, ht, hz⟩ := I5.tuple hx
  have hlen := r.length
  show wpAny (model X.prog X.w) X.A (subscriptTail e (.Slice none none (some (.UnaryOp .USub (.Constant (.int 1) k p1) p2)) p3) (.ref a) (.ref s4.heap.objs.size)) (EP X pins σ Q) X.xe { s4 with heap := s4.heap.push { cls := .type "slice", data := .fields #[.none, .none, .int (-1) u1] } }
  refine tail_any (ops := [.ref a, .ref s4.heap.objs.size]) ht.typeIs (PyProof.Rows.slot_tuple_getitem.lookup) ?_ (by with_unfolding_all rfl)
  refine gi_rev ht (Heap.IsSliceOf.new _ _ _ _) ?_ (by rw [List.size_toArray]; omega)
  refine ⟨.ref _, _, I5.laid (t' := s4.toks) (o := .tup xs.reverse) (fun b ob q => Heap.get?_push_of_some _ q) (Nat.le_refl _) ?_, rfl, q _ (I5.hok.fresh (Nat.le_refl _))⟩
  exact ⟨by rw [List.length_reverse]; exact hz, _, r.reverse, IsTup.new _ _⟩
theorem repL_rev {K : PySem.W.Frag} {M : MS} {H : Hp} : ∀ {xs : List V} {ds : List PyData}, RepL K M H xs ds → RepL K M H xs.reverse ds.reverse
  | _, _, .nil => .nil
  | _, _, .cons r t => by
    rw [List.reverse_cons, List.reverse_cons]
    exact (repL_rev t).app (.cons r .nil)
theorem ev_revT {K : PySem.W.Frag} {G : Gm} {te : TE} {ds : List PyData} (h : Ev K te G (.tuple ds)) : Ev K (tRevT K te) G (.tuple ds.reverse) := fun M σ H e Q q =>
  h M σ H e _ fun v H1 s1 r1 => by
    obtain ⟨a, xs, rfl, ha, rs⟩ := r1.tup_inv
    exact ⟨a, xs, rfl, ha.seq, fun p hp => q _ _ (s1.trans (same_new hp)) (rep_newT (e.mok.same s1) hp (repL_rev rs))⟩
/-! ### sorted(e, key=f), as written -/
def tSortKey (K : PySem.W.Frag) (f : Addr) (sp : Sp) (te : TE) : TE := tCKw (rSortKey K f sp) (tCons te tNil) (tCons (tC (.ref f)) tNil)
theorem pe_sortKey {X : Cx} {e : Expr} {te : TE} {x : Str} {j : Nat} {ps : List Str} {sp : Sp} {a : Addr} {p pos kpos p2 : Pos} (K : PySem.W.Frag) (hK : X.K = K) (C : Callee X.prog X.w X.K X.mg X.base x j ps sp) (ga : X.mg x = some (.ref a)) (hr : Room (j + 2) X.A)
    (hg : Gl X "sorted") (hm : X.mg "sorted" = none) (hx : Gl X x) (he : PA X [e] (tCons te tNil)) (hdb : (x == ("__debug__" : Str)) = false := by decide)
    (h1 : backTo pos (starEach [e] X.env) = (false, eval e X.env) :: backTo pos (starEach [] X.env) := by rfl) (h2 : (backTo pos (starEach [e] X.env)).any (·.1) = false := by rfl)
    (h3 : (backToKw pos (keywordEach [⟨some "key", .Name x p2, kpos⟩] X.env)).all (·.1.isSome) = true := by rfl) (h4 : (backToKw pos (keywordEach [⟨some "key", .Name x p2, kpos⟩] X.env)).any (·.1.isNone) = false := by rfl) (h5 : (backToKw pos (keywordEach [⟨some "key", .Name x p2, kpos⟩] X.env)).filterMap (·.1) = [Str.ofString "key"] := by rfl) :
    PE X (.Call (.Name "sorted" p) [e] [⟨some "key", .Name x p2, kpos⟩] pos) (tSortKey K a sp te) := by
  subst hK
  obtain ⟨f, fd, f1, f2, f3, f4⟩ := C.ex
  have e1 := f1.symm.trans ga
  cases e1
  exact pe_callBK (cr_sortKey f4 hr f3) hg hm (by decide +kernel) he (pk_cons (pe_glob hx ga rfl hdb) pk_nil) (by decide) (by decide) h1 h2 h3 h4 h5
/-- the items' keys are told by kf -/
theorem ev_sortKey {α : Type} {K : PySem.W.Frag} {G : Gm} {f : Addr} {sp : Sp} {te : TE} (xs : List α) (enc : α → PyData) (kf : α → Int) (h : Ev K te G (.list (xs.map enc))) (hl : xs.length ≤ 100000) (hk : ∀ x, x ∈ xs → FnD K sp [enc x] (.int (kf x))) :
    Ev K (tSortKey K f sp te) G (.list ((xs.mergeSort fun p q => decide (kf p ≤ kf q)).map enc)) := fun M σ H e Q q =>
  h M σ H e _ fun v H1 s1 r1 => by
    obtain ⟨a, vs, rfl, n, ha, rs⟩ := r1.lst_inv
    have m1 := e.mok.same s1
    have key : ∀ {vs : List V} {xs : List α}, RepL K M H1 vs (xs.map enc) → EachIs (fun (v : V) (x : α) => Rep K M H1 v (enc x)) vs xs := fun {vs} => by
      induction vs with
      | nil =>
        intro xs h
        cases xs with
        | nil => exact .nil
        | cons x xs => cases h
      | cons v vs ih =>
        intro xs h
        cases xs with
        | nil => cases h
        | cons x xs =>
          cases h with
          | cons r t => exact .cons r (ih t)
    have key2 : ∀ {vs : List V} {xs : List α}, EachIs (fun (v : V) (x : α) => Rep K M H1 v (enc x)) vs xs → RepL K M H1 vs (xs.map enc) := fun {vs} {xs} h => by
      induction h with
      | nil => exact .nil
      | cons r _ ih => exact .cons r ih
    have ek := key rs
    have el := ek.length
    -- the pairs
    have e1 : (vs.zip (xs.map kf)).map (·.1) = vs := by rw [List.map_fst_zip]; rw [List.length_map, el]; exact Nat.le_refl _
    refine ⟨a, vs.zip (xs.map kf), rfl, rfl, .inl (.inl (by rw [e1]; exact ha)), by rw [List.length_zip, List.length_map]; omega, fun p hp H2 s2 => ?_, fun H2 l s2 hl2 => ?_⟩
    · obtain ⟨i, hi⟩ := List.mem_iff_getElem?.mp hp
      rw [List.getElem?_zip_eq_some, List.getElem?_map] at hi
      obtain ⟨i1, i2⟩ := hi
      cases hx : xs[i]? with
      | none => rw [hx] at i2; cases i2
      | some x =>
      rw [hx] at i2
      have i3 : kf x = p.2 := Option.some.inj i2
      obtain ⟨d, d1, d2⟩ := rs.get i1
      rw [List.getElem?_map, hx] at d1
      have d3 : enc x = d := Option.some.inj d1
      subst d3
      exact hk x (List.mem_of_getElem? hx) M H2 [p.1] (m1.same s2) (.cons (d2.same s2) .nil) _ _ fun w H3 s3 r3 => ⟨by rw [r3.int_inv, i3], s3⟩
    · have ez : EachIs (fun (p : V × Int) (x : α) => Rep K M H1 p.1 (enc x) ∧ p.2 = kf x) (vs.zip (xs.map kf)) xs := by
        clear e1 el rs ha r1 hk h hl q
        induction ek with
        | nil => exact .nil
        | cons r _ ih => exact .cons ⟨r, rfl⟩ (ih)
      have es := sort_each (r := fun p q : V × Int => decide (p.2 ≤ q.2)) (s := fun p q : α => decide (kf p ≤ kf q)) ez fun p hp q hq => by
        have a1 := (ez.zip p hp).2
        have a2 := (ez.zip q hq).2
        show decide (p.1.2 ≤ q.1.2) = decide (kf p.2 ≤ kf q.2)
        rw [a1, a2]
      have er : EachIs (fun (v : V) (x : α) => Rep K M H1 v (enc x)) (((vs.zip (xs.map kf)).mergeSort fun p q => decide (p.2 ≤ q.2)).map (·.1)) (xs.mergeSort fun p q => decide (kf p ≤ kf q)) := by
        revert es
        generalize ((vs.zip (xs.map kf)).mergeSort fun p q => decide (p.2 ≤ q.2)) = A
        generalize (xs.mergeSort fun p q => decide (kf p ≤ kf q)) = B
        intro es
        induction es with
        | nil => exact .nil
        | cons r _ ih => exact .cons r.1 ih
      have rr := key2 er
      exact q _ _ ((s1.trans s2).trans (same_new hl2)) (.lst ((m1.same s2).fresh hl2) upd_same ((rr.same s2).same (same_new hl2)))
end Tb
set_option Elab.async false
set_option linter.all false
set_option maxRecDepth 100000
set_option maxHeartbeats 4000000
/-! ## Plans as data; the normal plan; the plan of a tree of splits -/
namespace Tb
open PySem PySem.Spec PyProof.Rows PySem.W L2
def wd (w : Bool) : Str := if w then "then" else "beside"
theorem wd_eq {v w : Bool} : (wd v = wd w) ↔ v = w := by
  cases v <;> cases w <;> decide
mutual
def plD : Pl → PyData
  | .t i => .int i
  | .n w ps => .tuple [.str (wd w), .tuple (plDs ps)]
def plDs : List Pl → List PyData
  | [] => []
  | p :: ps => plD p :: plDs ps
end
theorem plDs_map : ∀ ps : List Pl, plDs ps = ps.map plD
  | [] => rfl
  | p :: ps => by
    show plD p :: plDs ps = _
    rw [plDs_map ps, List.map_cons]
theorem plD_n (w : Bool) (ps : List Pl) : plD (.n w ps) = .tuple [.str (wd w), .tuple (ps.map plD)] := by
  show PyData.tuple [.str (wd w), .tuple (plDs ps)] = _
  rw [plDs_map]
theorem tasksL_flat : ∀ ps : List Pl, tasksL ps = ps.flatMap tasks
  | [] => rfl
  | p :: ps => by
    show tasks p ++ tasksL ps = _
    rw [tasksL_flat ps, List.flatMap_cons]
mutual
def okP : Pl → Bool
  | .t _ => true
  | .n _ ps => !ps.isEmpty && okL ps
def okL : List Pl → Bool
  | [] => true
  | p :: ps => okP p && okL ps
end
theorem okL_all : ∀ {ps : List Pl}, okL ps = true ↔ ∀ p, p ∈ ps → okP p = true
  | [] => ⟨fun _ p h => (by cases h), fun _ => rfl⟩
  | p :: ps => by
    show (okP p && okL ps) = true ↔ _
    rw [Bool.and_eq_true, okL_all]
    exact ⟨fun h q hq => by
      rcases List.mem_cons.mp hq with e | hq
      · rw [e]; exact h.1
      · exact h.2 q hq, fun h => ⟨h p List.mem_cons_self, fun q hq => h q (List.mem_cons_of_mem _ hq)⟩⟩
theorem okP_n {w : Bool} {ps : List Pl} : okP (.n w ps) = true ↔ ps ≠ [] ∧ ∀ p, p ∈ ps → okP p = true := by
  show (!ps.isEmpty && okL ps) = true ↔ _
  rw [Bool.and_eq_true, okL_all]
  cases ps with
  | nil => exact ⟨fun h => absurd h.1 (by decide), fun h => absurd rfl h.1⟩
  | cons p ps => exact ⟨fun h => ⟨nofun, h.2⟩, fun h => ⟨rfl, h.2⟩⟩
mutual
theorem tasks_pos : ∀ p : Pl, okP p = true → 0 < (tasks p).length
  | .t i, _ => Nat.one_pos
  | .n w ps, h => by
    have h2 : (!ps.isEmpty && okL ps) = true := h
    rw [Bool.and_eq_true] at h2
    have h3 := tasksL_len ps h2.2
    cases ps with
    | nil => exact absurd h2.1 (by decide)
    | cons p ps =>
      show 0 < (tasksL (p :: ps)).length
      exact Nat.lt_of_lt_of_le (by rw [List.length_cons]; omega) h3
theorem tasksL_len : ∀ ps : List Pl, okL ps = true → ps.length ≤ (tasksL ps).length
  | [], _ => Nat.zero_le _
  | p :: ps, h => by
    have h2 : (okP p && okL ps) = true := h
    rw [Bool.and_eq_true] at h2
    have a := tasks_pos p h2.1
    have b := tasksL_len ps h2.2
    show _ ≤ (tasks p ++ tasksL ps).length
    rw [List.length_append, List.length_cons]
    omega
end
theorem part_len {p : Pl} : ∀ {ps : List Pl}, p ∈ ps → (tasks p).length ≤ (tasksL ps).length
  | [], h => by cases h
  | q :: ps, h => by
    show _ ≤ (tasks q ++ tasksL ps).length
    rw [List.length_append]
    rcases List.mem_cons.mp h with e | h
    · rw [e]
      omega
    · have := part_len h
      omega
theorem depthL_le {d : Nat} : ∀ {ps : List Pl}, depthL ps ≤ d ↔ ∀ p, p ∈ ps → depth p ≤ d
  | [] => ⟨fun _ p h => (by cases h), fun _ => Nat.zero_le _⟩
  | p :: ps => by
    show max (depth p) (depthL ps) ≤ d ↔ _
    rw [Nat.max_le, depthL_le]
    exact ⟨fun h q hq => by
      rcases List.mem_cons.mp hq with e | hq
      · rw [e]; exact h.1
      · exact h.2 q hq, fun h => ⟨h p List.mem_cons_self, fun q hq => h q (List.mem_cons_of_mem _ hq)⟩⟩
/-- the least of some -/
def leastL : List Int → Int
  | [] => 0
  | [x] => x
  | x :: y :: r => min x (leastL (y :: r))
theorem leastL_spec : ∀ l : List Int, l ≠ [] → leastL l ∈ l ∧ ∀ y, y ∈ l → leastL l ≤ y
  | [], h => absurd rfl h
  | [x], _ => ⟨List.mem_cons_self, fun y hy => by rw [List.mem_singleton.mp hy]; exact Int.le_refl _⟩
  | x :: y :: r, _ => by
    obtain ⟨h1, h2⟩ := leastL_spec (y :: r) nofun
    show min x (leastL (y :: r)) ∈ _ ∧ ∀ z, z ∈ x :: y :: r → min x (leastL (y :: r)) ≤ z
    refine ⟨?_, fun z hz => ?_⟩
    · by_cases h : x ≤ leastL (y :: r)
      · rw [Int.min_eq_left h]
        exact List.mem_cons_self
      · rw [Int.min_eq_right (by omega)]
        exact List.mem_cons_of_mem _ h1
    · rcases List.mem_cons.mp hz with e | hz
      · rw [e]
        exact Int.min_le_left _ _
      · exact Int.le_trans (Int.min_le_right _ _) (h2 z hz)
def least (p : Pl) : Int := leastL (tasks p)
def srt (ps : List Pl) : List Pl := ps.mergeSort fun p q => decide (least p ≤ least q)
mutual
def norm : Pl → Pl
  | .t i => .t i
  | .n w ps => .n w (if w then normL ps else srt (normL ps))
def normL : List Pl → List Pl
  | [] => []
  | p :: ps => norm p :: normL ps
end
theorem normL_map : ∀ ps : List Pl, normL ps = ps.map norm
  | [] => rfl
  | p :: ps => by
    show norm p :: normL ps = _
    rw [normL_map ps, List.map_cons]
theorem srt_perm (ps : List Pl) : (srt ps).Perm ps := List.mergeSort_perm _ _
theorem tasksL_perm {ps qs : List Pl} (h : ps.Perm qs) : (tasksL ps).length = (tasksL qs).length := by
  rw [tasksL_flat, tasksL_flat, List.length_flatMap, List.length_flatMap]
  exact (h.map _).sum_nat
mutual
theorem norm_ok : ∀ p : Pl, okP p = true → okP (norm p) = true
  | .t i, _ => rfl
  | .n w ps, h => by
    obtain ⟨h1, h2⟩ := okP_n.mp h
    have h3 := normL_ok ps (okL_all.mpr h2)
    have hne : normL ps ≠ [] := by
      cases ps with
      | nil => exact absurd rfl h1
      | cons p ps => exact nofun
    show okP (.n w (if w then normL ps else srt (normL ps))) = true
    cases w with
    | true => exact okP_n.mpr ⟨hne, okL_all.mp h3⟩
    | false =>
      refine okP_n.mpr ⟨fun e => hne ?_, fun p hp => okL_all.mp h3 p ((srt_perm _).mem_iff.mp hp)⟩
      have := (srt_perm (normL ps)).length_eq
      rw [show srt (normL ps) = [] from e] at this
      exact List.eq_nil_of_length_eq_zero this.symm
theorem normL_ok : ∀ ps : List Pl, okL ps = true → okL (normL ps) = true
  | [], _ => rfl
  | p :: ps, h => by
    have h2 : (okP p && okL ps) = true := h
    rw [Bool.and_eq_true] at h2
    show (okP (norm p) && okL (normL ps)) = true
    rw [norm_ok p h2.1, normL_ok ps h2.2]
    rfl
end
mutual
theorem norm_len : ∀ p : Pl, (tasks (norm p)).length = (tasks p).length
  | .t i => rfl
  | .n w ps => by
    have h := normL_len ps
    show (tasksL (if w then normL ps else srt (normL ps))).length = (tasksL ps).length
    cases w with
    | true => exact h
    | false => exact (tasksL_perm (srt_perm _)).trans h
theorem normL_len : ∀ ps : List Pl, (tasksL (normL ps)).length = (tasksL ps).length
  | [] => rfl
  | p :: ps => by
    show (tasks (norm p) ++ tasksL (normL ps)).length = (tasks p ++ tasksL ps).length
    rw [List.length_append, List.length_append, norm_len p, normL_len ps]
end
mutual
theorem norm_depth : ∀ p : Pl, depth (norm p) ≤ depth p
  | .t i => Nat.le_refl _
  | .n w ps => by
    have h := normL_depth ps
    show depthL (if w then normL ps else srt (normL ps)) + 1 ≤ depthL ps + 1
    cases w with
    | true => exact Nat.succ_le_succ h
    | false => exact Nat.succ_le_succ (depthL_le.mpr fun p hp => depthL_le.mp h p ((srt_perm _).mem_iff.mp hp))
theorem normL_depth : ∀ ps : List Pl, depthL (normL ps) ≤ depthL ps
  | [] => Nat.le_refl _
  | p :: ps => by
    have a := norm_depth p
    have b := normL_depth ps
    show max (depth (norm p)) (depthL (normL ps)) ≤ max (depth p) (depthL ps)
    omega
end
/-! ### joined -/
def opn (w : Bool) : Pl → List Pl
  | .t i => [.t i]
  | .n v ps => if v = w then ps else [.n v ps]
def join (w : Bool) (x y : Pl) : Pl := .n w (opn w x ++ opn w y)
def plOf : Tr → Pl
  | .leaf i => .t i
  | .node w a b => join w (plOf a) (plOf b)
theorem opn_tasks (w : Bool) : ∀ p : Pl, tasksL (opn w p) = tasks p
  | .t i => rfl
  | .n v ps => by
    show tasksL (if v = w then ps else [.n v ps]) = tasksL ps
    by_cases h : v = w
    · rw [if_pos h]
    · rw [if_neg h]
      show tasks (.n v ps) ++ [] = _
      rw [List.append_nil]
      rfl
theorem opn_ok {w : Bool} : ∀ {p : Pl}, okP p = true → opn w p ≠ [] ∧ ∀ q, q ∈ opn w p → okP q = true
  | .t i, h => ⟨nofun, fun q hq => by rw [List.mem_singleton.mp hq]; rfl⟩
  | .n v ps, h => by
    show (if v = w then ps else [.n v ps]) ≠ [] ∧ ∀ q, q ∈ (if v = w then ps else [.n v ps]) → okP q = true
    by_cases hw : v = w
    · rw [if_pos hw]
      exact okP_n.mp h
    · rw [if_neg hw]
      exact ⟨nofun, fun q hq => by rw [List.mem_singleton.mp hq]; exact h⟩
theorem opn_depth {w : Bool} : ∀ {p q : Pl}, q ∈ opn w p → depth q ≤ depth p
  | .t i, q, h => by rw [List.mem_singleton.mp h]; exact Nat.le_refl _
  | .n v ps, q, h => by
    have h : q ∈ (if v = w then ps else [.n v ps]) := h
    by_cases hw : v = w
    · rw [if_pos hw] at h
      exact Nat.le_succ_of_le (depthL_le.mp (Nat.le_refl _) q h)
    · rw [if_neg hw] at h
      rw [List.mem_singleton.mp h]
      exact Nat.le_refl _
theorem opn_len {w : Bool} {p : Pl} (h : okP p = true) : (opn w p).length ≤ (tasks p).length := by
  have := tasksL_len (opn w p) (okL_all.mpr (opn_ok h).2)
  rw [opn_tasks] at this
  exact this
theorem tasksL_app (a b : List Pl) : tasksL (a ++ b) = tasksL a ++ tasksL b := by
  rw [tasksL_flat, tasksL_flat, tasksL_flat, List.flatMap_append]
theorem plOf_tasks : ∀ t : Tr, tasks (plOf t) = t.leaves
  | .leaf i => rfl
  | .node w a b => by
    show tasksL (opn w (plOf a) ++ opn w (plOf b)) = a.leaves ++ b.leaves
    rw [tasksL_app, opn_tasks, opn_tasks, plOf_tasks a, plOf_tasks b]
theorem plOf_ok : ∀ t : Tr, okP (plOf t) = true
  | .leaf i => rfl
  | .node w a b => by
    have h1 := opn_ok (w := w) (plOf_ok a)
    have h2 := opn_ok (w := w) (plOf_ok b)
    refine okP_n.mpr ⟨fun e => h1.1 (List.append_eq_nil_iff.mp e).1, fun p hp => ?_⟩
    rcases List.mem_append.mp hp with hp | hp
    · exact h1.2 p hp
    · exact h2.2 p hp
theorem leaves_pos : ∀ t : Tr, 0 < t.leaves.length
  | .leaf i => Nat.one_pos
  | .node w a b => by
    show 0 < (a.leaves ++ b.leaves).length
    rw [List.length_append]
    have := leaves_pos a
    omega
theorem plOf_depth : ∀ t : Tr, depth (plOf t) ≤ t.leaves.length
  | .leaf i => Nat.zero_le _
  | .node w a b => by
    have h1 := plOf_depth a
    have h2 := plOf_depth b
    have l1 := leaves_pos a
    have l2 := leaves_pos b
    show depthL (opn w (plOf a) ++ opn w (plOf b)) + 1 ≤ (a.leaves ++ b.leaves).length
    rw [List.length_append]
    have : depthL (opn w (plOf a) ++ opn w (plOf b)) ≤ max a.leaves.length b.leaves.length := depthL_le.mpr fun p hp => by
      rcases List.mem_append.mp hp with hp | hp
      · have := opn_depth hp
        omega
      · have := opn_depth hp
        omega
    omega
theorem trOf_len {s : List Int} {t : Tr} (h : TrOf s t) : t.leaves.length = s.length := by
  induction h with
  | leaf i => rfl
  | @node s w q a b _ _ _ _ iha ihb =>
    show (a.leaves ++ b.leaves).length = _
    rw [List.length_append, iha, ihb]
    exact filter_len q s
/-! ### a def that has nothing to promise -/
theorem callee0 {P : Program} {w : World} {K : PySem.W.Frag} {mg : Str → Option Value} {base : Heap} {x name : Str} {k : Nat} {ps N : List Str} {st : Stmt} {f : Addr} {α : Type} {pre : α → Prop} {enc : α → List PyData} {res : α → PyData} (D : DefAt K mg x name st f) (sc : FnScope N ps (defScope st))
    (hb : ∀ (kV doc pm : Value) (an : Option Addr) (cdv ct : Value) (us : List Value), us.length = ps.length → bindArgs (PySem.W.fnOf name name (defArgs st) (defBody st) (defScope st) .none kV doc pm an cdv ct) ⟨us, []⟩ = pure (ps.zip us)) (no : ∀ z, ¬ pre z) :
    Callee P w K mg base x k ps (PSp K (FSpec pre enc res)) := by
  obtain ⟨fd, F⟩ := D.f
  refine ⟨f, fd, D.g, F.kp, F.bindsN hb, ⟨fun vs H Q E h => ?_, fun A outer s H args us vs Q E _ _ _ _ h => ?_⟩⟩
  · obtain ⟨M, ds, d, m, r, ⟨z, hp, _⟩, q⟩ := h
    exact absurd hp (no z)
  · obtain ⟨M, ds, d, m, r, ⟨z, hp, _⟩, q⟩ := h
    exact absurd hp (no z)
end Tb
set_option Elab.async false
set_option linter.all false
set_option maxRecDepth 100000
set_option maxHeartbeats 4000000
/-! ## thenbeside.plans, thenbeside.solving -/
namespace Tb
open PySem PySem.Spec PyProof.Rows PySem.W L2
abbrev s_5 : Stmt := top 5
theorem sc_5 : FnScope ["plan", "found", "part"] ["plan"] (defScope s_5) := ⟨rfl, rfl, rfl, by decide +kernel, rfl, by decide +kernel, by decide +kernel⟩
abbrev s_6 : Stmt := top 6
theorem sc_6 : FnScope ["plan"] ["plan"] (defScope s_6) := ⟨rfl, rfl, rfl, by decide +kernel, rfl, by decide +kernel, by decide +kernel⟩
abbrev s_7 : Stmt := top 7
theorem sc_7 : FnScope ["plan", "parts", "part"] ["plan"] (defScope s_7) := ⟨rfl, rfl, rfl, by decide +kernel, rfl, by decide +kernel, by decide +kernel⟩
abbrev s_35 : Stmt := top 35
theorem sc_35 : FnScope ["word", "first", "second", "parts", "plan"] ["word", "first", "second"] (defScope s_35) := ⟨rfl, rfl, rfl, by decide +kernel, rfl, by decide +kernel, by decide +kernel⟩
abbrev s_36 : Stmt := top 36
theorem sc_36 : FnScope ["problem", "chosen", "split", "word", "part", "rest", "first", "second", "answer"] ["problem", "chosen"] (defScope s_36) := ⟨rfl, rfl, rfl, by decide +kernel, rfl, by decide +kernel, by decide +kernel⟩
abbrev s_37 : Stmt := top 37
theorem sc_37 : FnScope ["problem", "word", "value"] ["problem"] (defScope s_37) := ⟨rfl, rfl, rfl, by decide +kernel, rfl, by decide +kernel, by decide +kernel⟩
section
variable {P : Program} {w : World} {K : PySem.W.Frag} {mg : Str → Option Value} {base : Heap} {k : Nat} {f aR aO : Addr}
abbrev fAllTasks (d : Nat) := FSpec (α := Pl) (fun p => okP p = true ∧ depth p < d ∧ (tasks p).length ≤ 1000) (fun p => [plD p]) (fun p => .list ((tasks p).map PyData.int))
theorem c_all_tasks (D : DefAt K mg "all_tasks" "all_tasks" s_5 f) (B : Bi mg) : ∀ d : Nat, Callee P w K mg base "all_tasks" (k + d) ["plan"] (PSp K (fAllTasks d))
  | 0 => callee0 D sc_5 (fun _ _ _ _ _ _ us hl => match us, hl with | [_], _ => rfl) fun z h => by have := h.2.1; omega
  | d + 1 => by
    have c_all_tasks := c_all_tasks D B d
    refine mkF D sc_5 (fun _ _ _ _ _ _ us hl => match us, hl with | [_], _ => rfl) (fun _ => rfl) fun cdv A outer s H vs Q E M z hr hp C q => ?_
    obtain ⟨h1, h2, h3⟩ := hp
    refine ⟨_, (pss_cons (ps_if (pt_val (pe_callB (kIsi K rfl) (by rfl) B.isinstance_ (by decide +kernel) (pa_cons (pv 0) (pa_cons (pe_bltn (v := .ty "int") (by rfl) B.int_ (by decide +kernel) rfl) pa_nil)))) (pss_one (ps_ret (pe_lst (pa_cons (pv 0) pa_nil)))) pss_nil)
      (pss_cons (ps_set (i := 1) sc_5.nd rfl (.inl rfl) (pe_lst pa_nil))
      (pss_cons (ps_for PassesOwn.never (by rfl) (kpT K rfl (pe_ix (kIx K rfl) (pv 0) pe_int (fun _ _ => rfl))) (pg_name (i := 2) sc_5.nd rfl (.inl rfl)) (pss_one (ps_expr (kBM K rfl PySem.F.plainAttrs_list PySem.F.slot_list_extend PySem.F.type_list_extend mt_extend (pv 1) (pa_cons (pe_cc c_all_tasks hr (by rfl) (pa_cons (pv 2) pa_nil)) pa_nil)))))
      (pss_one (ps_ret (pv 1)))))), ?_⟩
    cases z with
    | t i =>
      refine s_if1 (b := true) C (EvT.at (et_B (ev_is (ev_isInt (d := .int i) (ev_var rfl)) rfl)) C.low) (fun _ H1 C1 => ?_) (fun h => nomatch h)
      exact s_end C1 (fun _ h => h) (Ev.at (ev_lst (ea_cons (ev_var rfl) ea_nil) (show 1 ≤ 1000 by decide)) C1.low) q
    | n w ps =>
      obtain ⟨g1, g2⟩ := okP_n.mp h1
      have h3 : (tasksL ps).length ≤ 1000 := h3
      have h2 : depthL ps + 1 < d + 1 := h2
      have hps : ps.length ≤ 1000 := Nat.le_trans (tasksL_len ps (okL_all.mpr g2)) h3
      refine s_if1 (b := false) C (EvT.at (et_B (ev_is (ev_isInt (ev_var rfl)) (by rw [plD_n]; rfl))) C.low) (fun h => nomatch h) fun _ H1 C1 => ?_
      refine s_newq C1 fun p1 σ2 H2 C2 => ?_
      refine s_forq (is := [2]) (ds := ps.map plD) C2 (EvI.at (ei_tup (ev_op (x := .tuple [.str (wd w), .tuple (ps.map plD)]) (ev_var (by rw [← plD_n]; rfl)) ev_int (rv_ixT atI_1))) C2.en)
        (fun i O G => O = [(p1, .lst ((tasksL (ps.take i)).map PyData.int))] ∧ ∃ z2, G = [some (.d (plD (.n w ps))), some (.r (.ref p1)), z2]) ⟨rfl, _, rfl⟩ (fun i O' G' h => by rw [h.1]; rfl) ?_ ?_
      · rintro E1 i d1 O' G' hd ⟨rfl, z2, rfl⟩
        rw [List.getElem?_map] at hd
        cases hy : ps[i]? with
        | none => rw [hy] at hd; cases hd
        | some p =>
        rw [hy] at hd
        have ed := Option.some.inj hd
        subst ed
        have mp : p ∈ ps := List.mem_of_getElem? hy
        have tk : tasksL (ps.take (i + 1)) = tasksL (ps.take i) ++ tasks p := by
          rw [List.take_add_one, hy, tasksL_app]
          show _ ++ (tasks p ++ []) = _
          rw [List.append_nil]
        have tl : (tasksL (ps.take i)).length + (tasks p).length ≤ 1000 := by
          have e : tasksL ps = tasksL (ps.take (i + 1)) ++ tasksL (ps.drop (i + 1)) := by rw [← tasksL_app, List.take_append_drop]
          rw [e, List.length_append, tk, List.length_append] at h3
          omega
        refine ⟨_, g_name, fun σ3 H3 C3 => ?_⟩
        refine s_extend C3 rfl (by rw [List.length_map, List.length_map]; omega) (Ev.at (ev_callF p ⟨g2 p mp, Nat.lt_of_le_of_lt (depthL_le.mp (Nat.le_refl _) p mp) (by omega), by omega⟩ (ea_cons (ev_var rfl) ea_nil)) C3.en) fun H4 C4 => ?_
        refine ⟨_, _, ⟨rfl, some (.d (plD p)), rfl⟩, ?_⟩
        rw [tk, List.map_append]
        exact C4
      · rintro O' G' ⟨rfl, z2, rfl⟩ σ3 H3 C3
        rw [List.length_map, List.take_length] at C3
        refine s_end C3 (fun _ h => h) (Ev.at (ev_var rfl) (C3.view (i := 1) rfl List.mem_cons_self (fun z => z))) q
abbrev fLeast (d : Nat) := FSpec (α := Pl) (fun p => okP p = true ∧ depth p < d ∧ (tasks p).length ≤ 1000) (fun p => [plD p]) (fun p => .int (least p))
theorem c_least_task {d : Nat} (D : DefAt K mg "least_task" "least_task" s_6 f) (B : Bi mg) (c_all_tasks : Callee P w K mg base "all_tasks" k ["plan"] (PSp K (fAllTasks d))) : Callee P w K mg base "least_task" (k + 1) ["plan"] (PSp K (fLeast d)) := by
  refine mkF D sc_6 (fun _ _ _ _ _ _ us hl => match us, hl with | [_], _ => rfl) (fun _ => rfl) fun cdv A outer s H vs Q E M z hr hp C q => ?_
  refine ⟨_, (pss_one (ps_ret (pe_callB (kMin K rfl (by rfl)) (by rfl) B.min_ (by decide +kernel) (pa_cons (pe_cc c_all_tasks hr (by rfl) (pa_cons (pv 0) pa_nil)) pa_nil)))), ?_⟩
  refine s_end C (fun _ h => h) (Ev.at ?_ C.low) q
  have hpos := tasks_pos z hp.1
  obtain ⟨h1, h2⟩ := leastL_spec (tasks z) fun e => by rw [e] at hpos; exact absurd hpos (by decide)
  exact ev_cb (ea_cons (ev_callF z hp (ea_cons (ev_var rfl) ea_nil)) ea_nil) (rc_min hpos fun m hm hle => Int.le_antisymm (hle _ h1) (h2 m hm))
abbrev fNorm (d : Nat) := FSpec (α := Pl) (fun p => okP p = true ∧ depth p < d ∧ (tasks p).length ≤ 1000) (fun p => [plD p]) (fun p => plD (norm p))
theorem wd_str (w : Bool) : decide (wd w = ("then" : Str)) = w := by cases w <;> decide
theorem c_normal_of {dd j : Nat} {aL : Addr} (D : DefAt K mg "normal_of" "normal_of" s_7 f) (B : Bi mg) (g_least_task : mg "least_task" = some (.ref aL)) (c_least_task : Callee P w K mg base "least_task" j ["plan"] (PSp K (fLeast dd))) :
    ∀ d : Nat, d ≤ dd → Callee P w K mg base "normal_of" (j + 2 + d) ["plan"] (PSp K (fNorm d))
  | 0, _ => callee0 D sc_7 (fun _ _ _ _ _ _ us hl => match us, hl with | [_], _ => rfl) fun z h => by have := h.2.1; omega
  | d + 1, hdd => by
    have c_normal_of := c_normal_of D B g_least_task c_least_task d (by omega)
    refine mkF D sc_7 (fun _ _ _ _ _ _ us hl => match us, hl with | [_], _ => rfl) (fun _ => rfl) fun cdv A outer s H vs Q E M z hr hp C q => ?_
    obtain ⟨h1, h2, h3⟩ := hp
    have hr2 : Room (j + 2) _ := hr.mono (Nat.le_add_right _ d)
    refine ⟨_, (pss_cons (ps_if (pt_val (pe_callB (kIsi K rfl) (by rfl) B.isinstance_ (by decide +kernel) (pa_cons (pv 0) (pa_cons (pe_bltn (v := .ty "int") (by rfl) B.int_ (by decide +kernel) rfl) pa_nil)))) (pss_one (ps_ret (pv 0))) pss_nil)
      (pss_cons (ps_setLc (i := 1) (own := [("part", 2)]) (by rfl) sc_7.nd rfl rfl (sw_true rfl rfl rfl (by decide +kernel)) (kpT K rfl (pe_ix (kIx K rfl) (pv 0) pe_int (fun _ _ => rfl))) (blkOk_by (own := [("part", 2)]) (N := ["plan", "parts", "part"]) (sc := defScope s_7) (by decide +kernel)) (fun _ _ _ _ _ => (pg_name (i := 2) sc_7.nd rfl (.inl rfl))) (fun _ _ _ _ _ => pts_nil) (fun _ _ _ _ _ => (pe_cc c_normal_of hr (by rfl) (pa_cons (pv 2) pa_nil))))
      (pss_one (ps_ret (pe_tup (pa_cons (pe_ix (kIx K rfl) (pv 0) pe_int (fun _ _ => rfl)) (pa_cons (pe_callTy (kTupC K rfl) (by rfl) B.tuple_ (by decide +kernel) (pa_cons (pe_ifExp (pt_cmpR op_eq (pe_ix (kIx K rfl) (pv 0) pe_int (fun _ _ => rfl)) pe_str (by rfl)) (pv 1) (pe_sortKey K rfl c_least_task g_least_task hr2 (by rfl) B.sorted_ (by rfl) (pa_cons (pv 1) pa_nil))) pa_nil)) pa_nil))))))), ?_⟩
    cases z with
    | t i =>
      refine s_if1 (b := true) C (EvT.at (et_B (ev_is (ev_isInt (d := .int i) (ev_var rfl)) rfl)) C.low) (fun _ H1 C1 => ?_) (fun h => nomatch h)
      exact s_end C1 (fun _ h => h) (Ev.at (ev_var rfl) C1.low) q
    | n w ps =>
      obtain ⟨g1, g2⟩ := okP_n.mp h1
      have h3 : (tasksL ps).length ≤ 1000 := h3
      have h2 : depthL ps + 1 < d + 1 := h2
      have hps : ps.length ≤ 1000 := Nat.le_trans (tasksL_len ps (okL_all.mpr g2)) h3
      have v0 : ∀ {G : Gm}, G[0]? = some (some (.d (plD (.n w ps)))) → Ev K (tVar 0) G (.tuple [.str (wd w), .tuple (ps.map plD)]) := fun {G} h => ev_var (by rw [← plD_n]; exact h)
      refine s_if1 (b := false) C (EvT.at (et_B (ev_is (ev_isInt (ev_var rfl)) (by rw [plD_n]; rfl))) C.low) (fun h => nomatch h) fun _ H1 C1 => ?_
      refine s_setq C1 (Ev.at (ev_lc1 (is := [2]) ps plD (fun p => plD (norm p)) (ei_tup (ev_op (v0 rfl) ev_int (rv_ixT atI_1))) (fun i h => h) (fun p mp => ⟨_, g_name, ev_callF p ⟨g2 p mp, Nat.lt_of_le_of_lt (depthL_le.mp (Nat.le_refl _) p mp) (by omega), Nat.le_trans (part_len mp) h3⟩ (ea_cons (ev_var rfl) ea_nil)⟩) (by omega)) C1.en) fun σ2 H2 C2 => ?_
      have en : ps.map (fun p => plD (norm p)) = (ps.map norm).map plD := by rw [List.map_map]; rfl
      rw [en] at C2
      refine s_end C2 (fun _ h => h) (Ev.at ?_ C2.low) q
      show Ev K _ _ (plD (.n w (if w then normL ps else srt (normL ps))))
      refine ev_is (d := .tuple [.str (wd w), .tuple ((if w then ps.map norm else srt (ps.map norm)).map plD)]) ?_ (by rw [plD_n, normL_map])
      refine ev_tup (ea_cons (ev_op (v0 rfl) ev_int (rv_ixT atI_0)) (ea_cons (ev_cb (ea_cons (ev_if (b := w) (et_is (et_test (ev_op (ev_op (v0 rfl) ev_int (rv_ixT atI_0)) ev_str rv_eqS)) (wd_str w)) (fun hw => ?_) fun hw => ?_) ea_nil) rc_tupL) ea_nil)) (show 2 ≤ 1000 by decide)
      · subst hw
        exact ev_var rfl
      · subst hw
        refine ev_sortKey (ps.map norm) plD least (ev_var rfl) (by rw [List.length_map]; omega) fun p hp => fsp (K := K) p ?_
        obtain ⟨p0, m0, rfl⟩ := List.mem_map.mp hp
        refine ⟨norm_ok p0 (g2 p0 m0), Nat.lt_of_le_of_lt (norm_depth p0) (Nat.lt_of_le_of_lt (depthL_le.mp (Nat.le_refl _) p0 m0) (by omega)), ?_⟩
        rw [norm_len]
        exact Nat.le_trans (part_len m0) h3
/-! joined -/
abbrev fJoined := FSpec (α := Bool × Pl × Pl) (fun z => okP z.2.1 = true ∧ okP z.2.2 = true ∧ (tasks z.2.1).length + (tasks z.2.2).length ≤ 1000) (fun z => [.str (wd z.1), plD z.2.1, plD z.2.2]) (fun z => plD (join z.1 z.2.1 z.2.2))
theorem dec_wd (v w : Bool) : decide (wd v = wd w) = decide (v = w) := by cases v <;> cases w <;> decide
theorem c_joined (D : DefAt K mg "joined" "joined" s_35 f) (B : Bi mg) : Callee P w K mg base "joined" (k + 1) ["word", "first", "second"] (PSp K fJoined) := by
  refine mkF D sc_35 (fun _ _ _ _ _ _ us hl => match us, hl with | [_, _, _], _ => rfl) (fun _ => rfl) fun cdv A outer s H vs Q E M z hr hp C q => ?_
  obtain ⟨v, x, y⟩ := z
  obtain ⟨hx, hy, hl⟩ := hp
  have hl : (tasks x).length + (tasks y).length ≤ 1000 := hl
  have hx : okP x = true := hx
  have hy : okP y = true := hy
  refine ⟨_, (pss_cons (ps_set (i := 3) sc_35.nd rfl (.inl rfl) (pe_tup pa_nil))
      (pss_cons (ps_for PassesOwn.never (by rfl) (kpT K rfl (pe_tup (pa_cons (pv 1) (pa_cons (pv 2) pa_nil)))) (pg_name (i := 4) sc_35.nd rfl (.inl rfl)) (pss_one (ps_set (i := 3) sc_35.nd rfl (.inl rfl) (pe_op (kCatA K rfl) (pv 3) (pe_ifExp (PW.pt (pw_and (pt_val (pe_callB (kIsi K rfl) (by rfl) B.isinstance_ (by decide +kernel) (pa_cons (pv 4) (pa_cons (pe_bltn (v := .ty "tuple") (by rfl) B.tuple_ (by decide +kernel) rfl) pa_nil)))) (pw_and1 (pt_cmpR op_eq (pe_ix (kIx K rfl) (pv 4) pe_int (fun _ _ => rfl)) (pv 0) (by rfl))))) (pe_ix (kIx K rfl) (pv 4) pe_int (fun _ _ => rfl)) (pe_tup (pa_cons (pv 4) pa_nil)))))))
      (pss_one (ps_ret (pe_tup (pa_cons (pv 0) (pa_cons (pv 3) pa_nil))))))), ?_⟩
  refine s_setq C (Ev.at (ev_tup ea_nil (show 0 ≤ 1000 by decide)) C.en) fun σ1 H1 C1 => ?_
  refine s_forq (is := [4]) (ds := [x, y].map plD) C1 (EvI.at (ei_tup (ev_tup (ea_cons (ev_var rfl) (ea_cons (ev_var rfl) ea_nil)) (show 2 ≤ 1000 by decide))) C1.en)
    (fun i O G => O = [] ∧ ∃ z4, G = [some (.d (.str (wd v))), some (.d (plD x)), some (.d (plD y)), some (.d (.tuple ((([x, y].take i).flatMap (opn v)).map plD))), z4]) ⟨rfl, _, rfl⟩ (fun i O' G' h => by rw [h.1]) ?_ ?_
  · rintro E1 i d1 O' G' hd ⟨rfl, z4, rfl⟩
    rw [List.getElem?_map] at hd
    cases hi : [x, y][i]? with
    | none => rw [hi] at hd; cases hd
    | some p =>
    rw [hi] at hd
    have ed := Option.some.inj hd
    subst ed
    have mp : p ∈ [x, y] := List.mem_of_getElem? hi
    have po : okP p = true ∧ (tasks p).length ≤ 1000 := by
      rcases List.mem_cons.mp mp with e | m
      · subst e
        exact ⟨hx, by omega⟩
      · rw [List.mem_singleton.mp m]
        exact ⟨hy, by omega⟩
    have tk : ([x, y].take (i + 1)).flatMap (opn v) = ([x, y].take i).flatMap (opn v) ++ opn v p := by
      rw [List.take_add_one, hi, List.flatMap_append]
      show _ ++ (opn v p ++ []) = _
      rw [List.append_nil]
    have l1 : (([x, y].take i).flatMap (opn v)).length ≤ 1000 := by
      have h1 := opn_len (w := v) hx
      have h2 := opn_len (w := v) hy
      have h3 : i < 2 := (List.getElem?_eq_some_iff.mp hi).1
      have h4 : i = 0 ∨ i = 1 := by omega
      rcases h4 with rfl | rfl
      · exact Nat.zero_le _
      · show (opn v x ++ []).length ≤ 1000
        rw [List.append_nil]
        omega
    have l2 := opn_len (w := v) po.1
    refine ⟨_, g_name, fun σ3 H3 C3 => ?_⟩
    refine s_set C3 (Ev.at (d := .tuple ((([x, y].take (i + 1)).flatMap (opn v)).map plD)) (ev_is (ev_op (x := .tuple ((([x, y].take i).flatMap (opn v)).map plD)) (y := .tuple ((opn v p).map plD)) (ev_var rfl) ?_ (rv_catA ?_)) ?_) C3.en) fun σ4 H4 C4 => ?_
    · cases p with
      | t j => exact ev_if (b := false) (et_is (et_and (b := false) (c := false) (et_B (ev_is (ev_isTup (d := .int j) (ev_var rfl)) rfl)) fun h => nomatch h) rfl) (fun h => nomatch h) fun _ => ev_tup (ea_cons (ev_var rfl) ea_nil) (show 1 ≤ 1000 by decide)
      | n u qs =>
        have v4 : ∀ {G : Gm}, G[4]? = some (some (.d (plD (.n u qs)))) → Ev K (tVar 4) G (.tuple [.str (wd u), .tuple (qs.map plD)]) := fun {G} h => ev_var (by rw [← plD_n]; exact h)
        refine ev_if (b := decide (u = v)) (et_is (et_and (et_B (ev_isTup (v4 rfl))) fun _ => et_test (ev_op (ev_op (v4 rfl) ev_int (rv_ixT atI_0)) (ev_var rfl) rv_eqS)) (dec_wd u v)) (fun h => ?_) fun h => ?_
        · have e : opn v (.n u qs) = qs := if_pos (of_decide_eq_true h)
          rw [e]
          exact ev_op (v4 rfl) ev_int (rv_ixT atI_1)
        · have e : opn v (.n u qs) = [.n u qs] := if_neg (of_decide_eq_false h)
          rw [e]
          exact ev_tup (ea_cons (ev_var rfl) ea_nil) (show 1 ≤ 1000 by decide)
    · rw [List.length_map, List.length_map]
      omega
    · rw [tk, List.map_append]
    · exact ⟨_, _, ⟨rfl, some (.d (plD p)), rfl⟩, C4⟩
  · rintro O' G' ⟨rfl, z4, rfl⟩ σ3 H3 C3
    refine s_end C3 (fun _ h => h) (Ev.at (ev_is (ev_tup (ea_cons (ev_var rfl) (ea_cons (ev_var rfl) ea_nil)) (show 2 ≤ 1000 by decide)) ?_) C3.low) q
    have e : ([x, y].take ([x, y].map plD).length).flatMap (opn v) = opn v x ++ opn v y := by
      show opn v x ++ (opn v y ++ []) = _
      rw [List.append_nil]
    rw [e]
    exact (plD_n _ _).symm
/-! taken_apart -/
def ansD : Sum (List Int) Tr → PyData
  | .inl c => .tuple [.str "set", setD c]
  | .inr t => .tuple [.str "plan", plD (plOf t)]
abbrev fTaken (d : Nat) := FSpec (α := Prob × List Int) (fun z => ProbOk z.1 ∧ SetOk z.2 ∧ z.2.length ≤ d) (fun z => [pbD z.1, setD z.2]) (fun z => ansD (taken z.1 d z.2))
theorem setOk_filter {s : List Int} (h : SetOk s) (q : Int → Bool) (ne : s.filter q ≠ []) : SetOk (s.filter q) := ⟨ne, h.lt.filter q, Nat.le_trans (List.length_filter_le _ _) h.len⟩
theorem c_taken_apart (D : DefAt K mg "taken_apart" "taken_apart" s_36 f) (B : Bi mg) {j : Nat} (c_told_split : Callee P w K mg base "told_split" j ["problem", "chosen"] (PSp K fTold)) (c_joined : Callee P w K mg base "joined" j ["word", "first", "second"] (PSp K fJoined)) :
    ∀ d : Nat, Callee P w K mg base "taken_apart" (j + d) ["problem", "chosen"] (PSp K (fTaken d))
  | 0 => callee0 D sc_36 (fun _ _ _ _ _ _ us hl => match us, hl with | [_, _], _ => rfl) fun z h => by
    have h1 := h.2.1.ne
    have h2 := h.2.2
    exact h1 (List.eq_nil_of_length_eq_zero (by omega))
  | d + 1 => by
    have c_taken_apart := c_taken_apart D B c_told_split c_joined d
    replace c_told_split := c_told_split.mono (Nat.le_add_right j d)
    replace c_joined := c_joined.mono (Nat.le_add_right j d)
    refine mkF D sc_36 (fun _ _ _ _ _ _ us hl => match us, hl with | [_, _], _ => rfl) (fun _ => rfl) fun cdv A outer s0 H vs Q E M z hr hp C q => ?_
    obtain ⟨p, s⟩ := z
    obtain ⟨po, so, hl⟩ := hp
    have hl : s.length ≤ d + 1 := hl
    have q : ∀ w H2, Same H H2 → Rep K M H2 w (ansD (taken p (d + 1) s)) → Q w H2 := q
    refine ⟨_, (pss_cons (ps_if (pt_cmpR op_eq (pe_callB (kLen K rfl) (by rfl) B.len_ (by decide +kernel) (pa_cons (pv 1) pa_nil)) pe_int (by rfl)) (pss_one (ps_ret (pe_tup (pa_cons pe_str (pa_cons (pe_ix (kIx K rfl) (pv 1) pe_int (fun _ _ => rfl)) pa_nil))))) pss_nil)
      (pss_cons (ps_set (i := 2) sc_36.nd rfl (.inl rfl) (pe_cc c_told_split hr (by rfl) (pa_cons (pv 0) (pa_cons (pv 1) pa_nil))))
      (pss_cons (ps_if (pt_cmpR op_isN (pv 2) pe_non (by rfl)) (pss_one (ps_ret (pe_tup (pa_cons pe_str (pa_cons (pv 1) pa_nil))))) pss_nil)
      (pss_cons (ps_asg (pv 2) (kgT 3 K rfl (by rfl) (pgs_cons (pg_name (i := 3) sc_36.nd rfl (.inl rfl)) (pgs_cons (pg_name (i := 4) sc_36.nd rfl (.inl rfl)) (pgs_cons (pg_name (i := 5) sc_36.nd rfl (.inl rfl)) pgs_nil)))))
      (pss_cons (ps_set (i := 6) sc_36.nd rfl (.inl rfl) (pe_cc c_taken_apart hr (by rfl) (pa_cons (pv 0) (pa_cons (pv 4) pa_nil))))
      (pss_cons (ps_set (i := 7) sc_36.nd rfl (.inl rfl) (pe_cc c_taken_apart hr (by rfl) (pa_cons (pv 0) (pa_cons (pv 5) pa_nil))))
      (pss_cons (ps_for PassesOwn.never (by rfl) (kpT K rfl (pe_tup (pa_cons (pv 6) (pa_cons (pv 7) pa_nil)))) (pg_name (i := 8) sc_36.nd rfl (.inl rfl)) (pss_one (ps_if (pt_cmpR op_eq (pe_ix (kIx K rfl) (pv 8) pe_int (fun _ _ => rfl)) pe_str (by rfl)) (pss_one (ps_ret (pv 8))) pss_nil)))
      (pss_one (ps_ret (pe_tup (pa_cons pe_str (pa_cons (pe_cc c_joined hr (by rfl) (pa_cons (pv 3) (pa_cons (pe_ix (kIx K rfl) (pv 6) pe_int (fun _ _ => rfl)) (pa_cons (pe_ix (kIx K rfl) (pv 7) pe_int (fun _ _ => rfl)) pa_nil)))) pa_nil)))))))))))), ?_⟩
    refine s_if1 (b := decide ((s.length : Int) = 1)) C (EvT.at (et_test (ev_op (ev_lenS (ev_var rfl)) ev_int rv_eqI)) C.low) (fun h1 H1 C1 => ?_) fun h1 H1 C1 => ?_
    · have h1 := of_decide_eq_true h1
      have h1 : s.length = 1 := by omega
      obtain ⟨i, rfl⟩ : ∃ i, s = [i] := List.length_eq_one_iff.mp h1
      refine s_end C1 (fun _ h => h) (Ev.at (ev_tup (ea_cons ev_str (ea_cons (ev_op (ev_var rfl) ev_int (rv_ixT atI_0)) ea_nil)) (show 2 ≤ 1000 by decide)) C1.low) ?_
      have e : taken p (d + 1) [i] = .inr (.leaf i) := by
        unfold taken
        rw [if_pos h1]
        rfl
      rw [e] at q
      exact q
    · have h1 := of_decide_eq_false h1
      have h1 : s.length ≠ 1 := by omega
      refine s_setq C1 (Ev.at (ev_callF (p, s) ⟨po, so⟩ (ea_cons (ev_var rfl) (ea_cons (ev_var rfl) ea_nil))) C1.en) fun σ2 H2 C2 => ?_
      refine s_if1 (b := (split p s).isNone) C2 (EvT.at (et_is (et_test (ev_op (ev_var rfl) ev_non rv_isN)) (isNon_spl (split p s))) C2.low) (fun h2 H3 C3 => ?_) fun h2 H3 C3 => ?_
      · have e2 : split p s = none := Option.isNone_iff_eq_none.mp h2
        refine s_end C3 (fun _ h => h) (Ev.at (ev_tup (ea_cons ev_str (ea_cons (ev_var rfl) ea_nil)) (show 2 ≤ 1000 by decide)) C3.low) ?_
        have e : taken p (d + 1) s = .inl s := by
          unfold taken
          rw [if_neg h1, e2]
        rw [e] at q
        exact q
      · obtain ⟨⟨w1, a, b⟩, e2⟩ : ∃ z, split p s = some z := by
          cases e : split p s with
          | none => rw [e] at h2; cases h2
          | some z => exact ⟨z, rfl⟩
        have is := split_is e2 so.ne
        obtain ⟨qq, ea, eb⟩ := is.q
        have sa : SetOk a := by
          have := is.ne.1
          rw [ea] at this ⊢
          exact setOk_filter so _ this
        have sb : SetOk b := by
          have := is.ne.2
          rw [eb] at this ⊢
          exact setOk_filter so _ this
        have la : a.length ≤ d := by have := is.lt.1; omega
        have lb : b.length ≤ d := by have := is.lt.2; omega
        have et : taken p (d + 1) s = match taken p d a with
          | .inl c => .inl c
          | .inr x => match taken p d b with
            | .inl c => .inl c
            | .inr y => .inr (.node w1 x y) := by
          rw [taken, if_neg h1, e2]
          all_goals
            dsimp only
            cases taken p d a with
            | inl c => rfl
            | inr x => cases taken p d b <;> rfl
        rw [et] at q
        rw [e2] at C3
        refine s_asgq (d := .tuple [.str (wd w1), setD a, setD b]) (is := [3] ++ ([4] ++ ([5] ++ []))) C3 (Ev.at (ev_var rfl) C3.en) (g_tup (gs_cons g_name (gs_cons g_name (gs_cons g_name gs_nil))) rfl) fun σ4 H4 C4 => ?_
        refine s_setq C4 (Ev.at (ev_callF (p, a) ⟨po, sa, la⟩ (ea_cons (ev_var rfl) (ea_cons (ev_var rfl) ea_nil))) C4.en) fun σ5 H5 C5 => ?_
        refine s_setq C5 (Ev.at (ev_callF (p, b) ⟨po, sb, lb⟩ (ea_cons (ev_var rfl) (ea_cons (ev_var rfl) ea_nil))) C5.en) fun σ6 H6 C6 => ?_
        refine s_forq (is := [8]) (ds := [taken p d a, taken p d b].map ansD) C6 (EvI.at (ei_tup (ev_tup (ea_cons (ev_var rfl) (ea_cons (ev_var rfl) ea_nil)) (show 2 ≤ 1000 by decide))) C6.en)
          (fun i O G => O = [] ∧ (∀ x, x ∈ [taken p d a, taken p d b].take i → ∃ t, x = .inr t) ∧ ∃ z2 z8, G = [some (.d (pbD p)), some (.d (setD s)), z2, some (.d (.str (wd w1))), some (.d (setD a)), some (.d (setD b)), some (.d (ansD (taken p d a))), some (.d (ansD (taken p d b))), z8]) ⟨rfl, (fun x h => by cases h), _, _, rfl⟩ (fun i O' G' h => by rw [h.1]) ?_ ?_
        · rintro E1 i d1 O' G' hd ⟨rfl, hall, z2, z8, rfl⟩
          rw [List.getElem?_map] at hd
          cases hi : [taken p d a, taken p d b][i]? with
          | none => rw [hi] at hd; cases hd
          | some x =>
          rw [hi] at hd
          have ed := Option.some.inj hd
          subst ed
          refine ⟨_, g_name, fun σ7 H7 C7 => ?_⟩
          cases x with
          | inl c =>
            refine s_if (b := true) C7 (EvT.at (et_is (et_test (ev_op (ev_op (x := .tuple [.str "set", setD c]) (ev_var rfl) ev_int (rv_ixT atI_0)) ev_str rv_eqS)) (by decide)) C7.low) (fun _ H8 C8 => ?_) (fun h => nomatch h)
            refine s_end C8 (fun _ h => h) (Ev.at (ev_var rfl) C8.low) ?_
            have hi2 : i < 2 := (List.getElem?_eq_some_iff.mp hi).1
            have i01 : i = 0 ∨ i = 1 := by omega
            rcases i01 with rfl | rfl
            · have e1 : taken p d a = .inl c := Option.some.inj hi
              rw [e1] at q
              exact q
            · have e1 : taken p d b = .inl c := Option.some.inj hi
              obtain ⟨t, e3⟩ := hall (taken p d a) List.mem_cons_self
              rw [e1, e3] at q
              exact q
          | inr t =>
            refine s_if (b := false) C7 (EvT.at (et_is (et_test (ev_op (ev_op (x := .tuple [.str "plan", plD (plOf t)]) (ev_var rfl) ev_int (rv_ixT atI_0)) ev_str rv_eqS)) (by decide)) C7.low) (fun h => nomatch h) fun _ H8 C8 => ?_
            refine ⟨_, _, ⟨rfl, fun y hy => ?_, z2, _, rfl⟩, C8⟩
            rw [List.take_add_one, hi] at hy
            rcases List.mem_append.mp hy with hy | hy
            · exact hall y hy
            · exact ⟨t, List.mem_singleton.mp hy⟩
        · rintro O' G' ⟨rfl, hall, z2, z8, rfl⟩ σ7 H7 C7
          obtain ⟨x, ex⟩ := hall (taken p d a) List.mem_cons_self
          obtain ⟨y, ey⟩ := hall (taken p d b) (List.mem_cons_of_mem _ List.mem_cons_self)
          rw [ex, ey] at q C7
          have lx : (tasks (plOf x)).length ≤ 7 := by
            rw [plOf_tasks, trOf_len (taken_tree sa.ne ex).1]
            exact sa.len
          have ly : (tasks (plOf y)).length ≤ 7 := by
            rw [plOf_tasks, trOf_len (taken_tree sb.ne ey).1]
            exact sb.len
          refine s_end C7 (fun _ h => h) (Ev.at (ev_tup (ea_cons ev_str (ea_cons (ev_callF (w1, plOf x, plOf y) ⟨plOf_ok x, plOf_ok y, by dsimp only; omega⟩ (ea_cons (ev_var rfl) (ea_cons (ev_op (x := .tuple [.str "plan", plD (plOf x)]) (ev_var rfl) ev_int (rv_ixT atI_1)) (ea_cons (ev_op (x := .tuple [.str "plan", plD (plOf y)]) (ev_var rfl) ev_int (rv_ixT atI_1)) ea_nil)))) ea_nil)) (show 2 ≤ 1000 by decide)) C7.low) q
/-! solved -/
def solD : Sum (List Int) Tr → PyData
  | .inl c => .tuple [.str "set", setD c]
  | .inr t => .tuple [.str "plan", plD (norm (plOf t))]
abbrev fSolved := FSpec (α := Prob) ProbOk (fun p => [pbD p]) (fun p => solD (taken p p.n (rg p.n)))
theorem rgD_rg (n : Nat) : rgD n = (rg n).map PyData.int := by
  unfold rgD rg
  rw [List.map_map]
  rfl
theorem setOk_rg {n : Nat} (h1 : 1 ≤ n) (h2 : n ≤ 7) : SetOk (rg n) := by
  refine ⟨fun e => ?_, ?_, ?_⟩
  · have := congrArg List.length e
    unfold rg at this
    rw [List.length_map, List.length_range, List.length_nil] at this
    omega
  · unfold rg
    rw [List.pairwise_map]
    exact List.pairwise_lt_range.imp fun h => Int.ofNat_lt.mpr h
  · unfold rg
    rw [List.length_map, List.length_range]
    exact h2
theorem rg_len (n : Nat) : (rg n).length = n := by
  unfold rg
  rw [List.length_map, List.length_range]
theorem c_solved (D : DefAt K mg "solved" "solved" s_37 f) (B : Bi mg) (c_ta : ∀ d : Nat, d ≤ 7 → Callee P w K mg base "taken_apart" k ["problem", "chosen"] (PSp K (fTaken d))) (c_normal_of : Callee P w K mg base "normal_of" k ["plan"] (PSp K (fNorm 8))) :
    Callee P w K mg base "solved" (k + 1) ["problem"] (PSp K fSolved) := by
  refine mkF D sc_37 (fun _ _ _ _ _ _ us hl => match us, hl with | [_], _ => rfl) (fun _ => rfl) fun cdv A outer s0 H vs Q E M p hr hp C q => ?_
  have c_taken_apart := c_ta p.n hp.hi
  refine ⟨_, (pss_cons (ps_asg (pe_cc c_taken_apart hr (by rfl) (pa_cons (pv 0) (pa_cons (pe_tupRg (by rfl) (by rfl) B.tuple_ (prg_1 (by rfl) B.range_ (pe_ix (kIx K rfl) (pv 0) pe_int (fun _ _ => rfl)))) pa_nil))) (kgT 2 K rfl (by rfl) (pgs_cons (pg_name (i := 1) sc_37.nd rfl (.inl rfl)) (pgs_cons (pg_name (i := 2) sc_37.nd rfl (.inl rfl)) pgs_nil))))
      (pss_one (ps_ret (pe_tup (pa_cons (pv 1) (pa_cons (pe_ifExp (pt_cmpR op_eq (pv 1) pe_str (by rfl)) (pe_cc c_normal_of hr (by rfl) (pa_cons (pv 2) pa_nil)) (pv 2)) pa_nil)))))), ?_⟩
  have e1 : Ev K (tCall (PSp K (fTaken p.n)) [] E0 (tCons (tVar 0) (tCons (tTupRg (tRg1 (tOp (rIx K) (tVar 0) (tC (.int 0))))) tNil))) (gStart 3 [pbD p]) (ansD (taken p p.n (rg p.n))) :=
    ev_callF (p, rg p.n) ⟨hp, setOk_rg hp.lo hp.hi, by rw [rg_len]; exact Nat.le_refl _⟩ (ea_cons (ev_var rfl) (ea_cons (ev_is (ev_tupRg (ev_op (ev_var rfl) ev_int (rv_ixT atI_0)) (Nat.le_trans hp.hi (by decide))) (by rw [rgD_rg]; rfl)) ea_nil))
  cases ht : taken p p.n (rg p.n) with
  | inl c =>
    rw [ht] at e1 q
    refine s_asgq (d := .tuple [.str "set", setD c]) (is := [1] ++ ([2] ++ [])) C (Ev.at e1 C.en) (g_tup (gs_cons g_name (gs_cons g_name gs_nil)) rfl) fun σ1 H1 C1 => ?_
    exact s_end C1 (fun _ h => h) (Ev.at (ev_tup (ea_cons (ev_var rfl) (ea_cons (ev_if (b := false) (et_is (et_test (ev_op (ev_var rfl) ev_str rv_eqS)) (by decide)) (fun h => nomatch h) fun _ => ev_var rfl) ea_nil)) (show 2 ≤ 1000 by decide)) C1.low) q
  | inr t =>
    rw [ht] at e1 q
    have h1 := (taken_tree (setOk_rg hp.lo hp.hi).ne ht).1
    have h2 := trOf_len h1
    rw [rg_len] at h2
    have h7 := hp.hi
    refine s_asgq (d := .tuple [.str "plan", plD (plOf t)]) (is := [1] ++ ([2] ++ [])) C (Ev.at e1 C.en) (g_tup (gs_cons g_name (gs_cons g_name gs_nil)) rfl) fun σ1 H1 C1 => ?_
    refine s_end C1 (fun _ h => h) (Ev.at (ev_tup (ea_cons (ev_var rfl) (ea_cons (ev_if (b := true) (et_is (et_test (ev_op (ev_var rfl) ev_str rv_eqS)) (by decide)) (fun _ => ev_callF (plOf t) ⟨plOf_ok t, ?_, ?_⟩ (ea_cons (ev_var rfl) ea_nil)) fun h => nomatch h) ea_nil)) (show 2 ≤ 1000 by decide)) C1.low) q
    · have := plOf_depth t
      omega
    · rw [plOf_tasks]
      omega
end
end Tb
set_option Elab.async false
set_option linter.all false
set_option maxRecDepth 100000
set_option maxHeartbeats 4000000
/-! ## thenbeside.dropping -/
namespace Tb
open PySem PySem.Spec PyProof.Rows PySem.W L2
abbrev s_39 : Stmt := top 39
theorem sc_39 : FnScope ["value", "many", "one", "at"] ["value", "many"] (defScope s_39) := ⟨rfl, rfl, rfl, by decide +kernel, rfl, by decide +kernel, by decide +kernel⟩
abbrev s_40 : Stmt := top 40
theorem sc_40 : FnScope ["problem", "collection"] ["problem", "collection"] (defScope s_40) := ⟨rfl, rfl, rfl, by decide +kernel, rfl, by decide +kernel, by decide +kernel⟩
abbrev s_41 : Stmt := top 41
theorem sc_41 : FnScope ["problem", "collection", "index"] ["problem", "collection", "index"] (defScope s_41) := ⟨rfl, rfl, rfl, by decide +kernel, rfl, by decide +kernel, by decide +kernel⟩
abbrev s_42 : Stmt := top 42
theorem sc_42 : FnScope ["problem", "collection", "at"] ["problem", "collection"] (defScope s_42) := ⟨rfl, rfl, rfl, by decide +kernel, rfl, by decide +kernel, by decide +kernel⟩
abbrev s_43 : Stmt := top 43
theorem sc_43 : FnScope ["collection", "index", "at"] ["collection", "index"] (defScope s_43) := ⟨rfl, rfl, rfl, by decide +kernel, rfl, by decide +kernel, by decide +kernel⟩
abbrev s_44 : Stmt := top 44
theorem sc_44 : FnScope ["problem", "word", "value"] ["problem"] (defScope s_44) := ⟨rfl, rfl, rfl, by decide +kernel, rfl, by decide +kernel, by decide +kernel⟩
abbrev s_45 : Stmt := top 45
theorem sc_45 : FnScope ["problem", "collection"] ["problem", "collection"] (defScope s_45) := ⟨rfl, rfl, rfl, by decide +kernel, rfl, by decide +kernel, by decide +kernel⟩
abbrev s_46 : Stmt := top 46
theorem sc_46 : FnScope ["problem", "collection", "index", "others", "first", "relations", "second", "missing", "one"] ["problem", "collection", "index"] (defScope s_46) := ⟨rfl, rfl, rfl, by decide +kernel, rfl, by decide +kernel, by decide +kernel⟩
abbrev s_47 : Stmt := top 47
theorem sc_47 : FnScope ["problem", "collection", "index", "found", "against", "word", "value"] ["problem", "collection", "index"] (defScope s_47) := ⟨rfl, rfl, rfl, by decide +kernel, rfl, by decide +kernel, by decide +kernel⟩
abbrev s_49 : Stmt := top 49
theorem sc_49 : FnScope ["problem", "collection", "index"] ["problem", "collection", "index"] (defScope s_49) := ⟨rfl, rfl, rfl, by decide +kernel, rfl, by decide +kernel, by decide +kernel⟩
abbrev s_50 : Stmt := top 50
theorem sc_50 : FnScope ["problem", "collection", "index", "value", "against", "other", "chosen"] ["problem", "collection", "index", "value"] (defScope s_50) := ⟨rfl, rfl, rfl, by decide +kernel, rfl, by decide +kernel, by decide +kernel⟩
/-! ### the rules by indexes -/
def r0 : Rule := ⟨0, [], 0⟩
def pick (rs : List Rule) (ixs : List Nat) : List Rule := ixs.map fun i => rs.getD i r0
def ixD (ixs : List Nat) : PyData := .tuple (ixs.map fun (i : Nat) => PyData.int i)
theorem pick_range (rs : List Rule) : pick rs (List.range rs.length) = rs := by
  unfold pick
  refine List.ext_getElem (by rw [List.length_map, List.length_range]) fun i h1 h2 => ?_
  rw [List.getElem_map, List.getElem_range, List.getD_eq_getElem?_getD, List.getElem?_eq_getElem h2]
  rfl
def lessI (n i : Nat) : List Nat := (List.range n).filter fun j => !decide ((j : Int) = (i : Int))
theorem lessI_split {n i : Nat} (h : i < n) : lessI n i = List.range i ++ (List.range (n - (i + 1))).map fun j => i + 1 + j := by
  have e : n = i + (1 + (n - (i + 1))) := by omega
  unfold lessI
  conv => lhs; rw [e]
  rw [List.range_add, List.filter_append]
  congr 1
  · exact List.filter_eq_self.mpr fun j hj => by
      have := List.mem_range.mp hj
      rw [decide_eq_false (by omega)]
      rfl
  · rw [List.range_add, List.map_append, List.filter_append]
    have e1 : List.filter (fun j : Nat => !decide ((j : Int) = (i : Int))) (List.map (fun x : Nat => i + x) (List.range 1)) = ([] : List Nat) := by
      show List.filter _ [i + 0] = []
      rw [List.filter_cons, decide_eq_true (by omega)]
      rfl
    rw [e1, List.nil_append, List.map_map, List.filter_eq_self.mpr fun j hj => by
      obtain ⟨y, _, rfl⟩ := List.mem_map.mp hj
      rw [decide_eq_false (by show ¬ (((i + (1 + y) : Nat)) : Int) = (i : Int); omega)]
      rfl]
    refine List.map_congr_left fun j _ => ?_
    show i + (1 + j) = i + 1 + j
    omega
theorem pick_less {rs : List Rule} {i : Nat} (h : i < rs.length) : pick rs (lessI rs.length i) = rs.eraseIdx i := by
  rw [lessI_split h, List.eraseIdx_eq_take_drop_succ]
  unfold pick
  rw [List.map_append]
  congr 1
  · refine List.ext_getElem (by rw [List.length_map, List.length_range, List.length_take]; omega) fun j h1 h2 => ?_
    rw [List.length_map, List.length_range] at h1
    rw [List.getElem_map, List.getElem_range, List.getD_eq_getElem?_getD, List.getElem?_eq_getElem (by omega), List.getElem_take]
    rfl
  · refine List.ext_getElem (by rw [List.length_map, List.length_map, List.length_range, List.length_drop]) fun j h1 h2 => ?_
    rw [List.length_map, List.length_map, List.length_range] at h1
    rw [List.getElem_map, List.getElem_map, List.getElem_range, List.getD_eq_getElem?_getD, List.getElem?_eq_getElem (by omega), List.getElem_drop]
    rfl
theorem rgD_get2 {n i : Nat} (h : i < n) : atI (rgD n) (i : Int) = some (.int (i : Nat)) := atI_nat (rgD_get h)
theorem rule_at {rs : List Rule} {i : Nat} (h : i < rs.length) : atI (rs.map rlD) (i : Int) = some (rlD (rs.getD i r0)) := atI_nat (by
  rw [List.getElem?_map, List.getD_eq_getElem?_getD, List.getElem?_eq_getElem h]
  rfl)
theorem one_ok : ∀ r : R3, [r] = R3.all.filter fun x => decide (x ∈ [r]) := by
  intro r
  cases r <;> decide
/-- the rules of a problem against a rule -/
theorem agst_ok {p : Prob} (hp : ProbOk p) {i : Nat} {q : Rule} (hq : p.rs[i]? = some q) : ∀ rs, rs ∈ agst p.rs i q → ProbOk ⟨p.n, rs⟩ := by
  have hi := (List.getElem?_eq_some_iff.mp hq).1
  intro rs h
  obtain ⟨r, hr, rfl⟩ := List.mem_map.mp h
  refine ⟨hp.lo, hp.hi, ?_, fun z hz => ?_⟩
  · show (p.rs.eraseIdx i ++ [_]).length ≤ 20
    rw [List.length_append, List.length_eraseIdx, if_pos hi]
    have := hp.len
    show p.rs.length - 1 + 1 ≤ 20
    omega
  · rcases List.mem_append.mp hz with hz | hz
    · exact hp.rs z (List.mem_of_mem_eraseIdx hz)
    · rw [List.mem_singleton.mp hz]
      have t := (hp.rs q (List.mem_of_getElem? hq)).tk
      exact ⟨t, one_ok r, nofun⟩
theorem agst_len {rs : List Rule} {i : Nat} {q : Rule} : (agst rs i q).length ≤ 3 := by
  unfold agst
  rw [List.length_map]
  exact R3.all_len _
/-! ### sets -/
def setOf : PyData → List Int
  | .tuple ds => ds.map iD
  | _ => []
theorem isSet_of {n : Int} {c : PyData} (h : isSet n c = true) : c = setD (setOf c) ∧ (setOf c).Pairwise (· < ·) ∧ ∀ x, x ∈ setOf c → 0 ≤ x ∧ x < n := by
  cases c with
  | tuple ds =>
    have h2 : (ds.all (isT n) && asc (ds.map iD)) = true := h
    rw [Bool.and_eq_true] at h2
    refine ⟨congrArg PyData.tuple (allT h2.1), asc_sorted h2.2, fun x hx => ?_⟩
    obtain ⟨d, hd, rfl⟩ := List.mem_map.mp hx
    have h3 := List.all_eq_true.mp h2.1 d hd
    cases d with
    | int i =>
      have h4 : (decide (0 ≤ i) && decide (i < n)) = true := h3
      rw [Bool.and_eq_true] at h4
      exact ⟨of_decide_eq_true h4.1, of_decide_eq_true h4.2⟩
    | none => exact absurd h3 (by simp [isT])
    | bool b => exact absurd h3 (by simp [isT])
    | str b => exact absurd h3 (by simp [isT])
    | list b => exact absurd h3 (by simp [isT])
    | tuple b => exact absurd h3 (by simp [isT])
    | dict b => exact absurd h3 (by simp [isT])
  | none => exact absurd h (by simp [isSet])
  | bool b => exact absurd h (by simp [isSet])
  | int b => exact absurd h (by simp [isSet])
  | str b => exact absurd h (by simp [isSet])
  | list b => exact absurd h (by simp [isSet])
  | dict b => exact absurd h (by simp [isSet])
theorem set_rg {n : Nat} {s : List Int} (h1 : s.Pairwise (· < ·)) (h2 : ∀ x, x ∈ s → 0 ≤ x ∧ x < (n : Int)) : s = (rg n).filter fun x => decide (x ∈ s) := by
  have hr : (rg n).Pairwise (· < ·) := by
    unfold rg
    rw [List.pairwise_map]
    exact List.pairwise_lt_range.imp fun h => Int.ofNat_lt.mpr h
  have nd : ∀ {l : List Int}, l.Pairwise (· < ·) → l.Nodup := fun h => h.imp fun h e => by omega
  have hf := hr.filter fun x => decide (x ∈ s)
  have pm : s.Perm ((rg n).filter fun x => decide (x ∈ s)) := (List.perm_ext_iff_of_nodup (nd h1) (nd hf)).mpr fun x => by
    rw [List.mem_filter, mem_rg, decide_eq_true_iff]
    exact ⟨fun h => ⟨h2 x h, h⟩, fun h => h.2⟩
  exact List.Perm.eq_of_pairwise (le := fun a b : Int => a ≤ b) (fun a b _ _ h1 h2 => Int.le_antisymm h1 h2) (h1.imp fun h => Int.le_of_lt h) (hf.imp fun h => Int.le_of_lt h) pm
theorem set_subs {n : Nat} {s : List Int} (h1 : s.Pairwise (· < ·)) (h2 : ∀ x, x ∈ s → 0 ≤ x ∧ x < (n : Int)) : s ∈ subs (rg n) := by
  rw [set_rg h1 h2]
  exact filter_subs _ _
theorem set_len {n : Nat} {s : List Int} (h1 : s.Pairwise (· < ·)) (h2 : ∀ x, x ∈ s → 0 ≤ x ∧ x < (n : Int)) : s.length ≤ n := by
  rw [set_rg h1 h2]
  exact Nat.le_trans (List.length_filter_le _ _) (Nat.le_of_eq (rg_len n))
noncomputable def stB (n : Nat) (rs : List Rule) (c : PyData) : Bool := isSet n c && stuckB ⟨n, rs⟩ (setOf c)
noncomputable def accB (n : Nat) (l : List (List Rule)) : PyData → Bool
  | .tuple vs => decide (vs.length = l.length) && (l.zip vs).all fun z => stB n z.1 z.2
  | _ => false
def okC : PyData → Prop
  | .tuple ds => ds.length ≤ 1000
  | _ => True
def okV : PyData → Prop
  | .tuple vs => ∀ c, c ∈ vs → okC c
  | _ => True
theorem zw_map2 {α : Type} (f : α → PyData) : ∀ (l : List α) (vs : List PyData), List.zipWith (fun a b => PyData.tuple [a, b]) (l.map f) vs = (l.zip vs).map fun z => .tuple [f z.1, z.2]
  | [], vs => by rw [List.map_nil, List.zipWith_nil_left, List.zip_nil_left, List.map_nil]
  | a :: l, [] => by rw [List.zipWith_nil_right, List.zip_nil_right, List.map_nil]
  | a :: l, v :: vs => by rw [List.map_cons, List.zipWith_cons_cons, zw_map2 f l vs, List.zip_cons_cons, List.map_cons]
theorem s_dropq {K : PySem.W.Frag} {M0 W M1 : MS} {H0 H : Hp} {O : Ow} {σ : L2.St} {G : Gm} {E : List (V × PyData)} {te : TE} {d : PyData} {D : Ends} {tb : TS} (C : S K M0 W H0 O G E σ H) (h : At K M1 te σ H d) (k : ∀ H', S K M0 W H0 O G E σ H' → tb D σ H') : tSeq (tDrop te) tb D σ H :=
  s_seq (h _ fun v H2 s r => k H2 (C.same s))
section
variable {P : Program} {w : World} {K : PySem.W.Frag} {mg : Str → Option Value} {base : Heap} {k : Nat} {f aR aO : Addr}
theorem ev_lenT {G : Gm} {te : TE} {ds : List PyData} (h : Ev K te G (.tuple ds)) : Ev K (tCB (fun xs H Q => ∃ p ys, xs = [.ref p] ∧ (SqL K H p ys ∨ SqT K H p ys) ∧ Q (.int ys.length) H) (tCons te tNil)) G (.int ds.length) := ev_cb (ea_cons h ea_nil) rc_lenT
abbrev fIsColl := FSpec (α := Nat) (fun m => 1 ≤ m ∧ m ≤ 1000) (fun m => [.tuple (rgD m), .int m]) (fun _ => .bool true)
theorem c_is_collection (D : DefAt K mg "is_collection" "is_collection" s_39 f) (B : Bi mg) (c_is_task_rules : Callee P w K mg base "is_task_rules" k ["value", "size"] (PSp K fIsTask)) : Callee P w K mg base "is_collection" (k + 1) ["value", "many"] (PSp K fIsColl) := by
  refine mkF D sc_39 (fun _ _ _ _ _ _ us hl => match us, hl with | [_, _], _ => rfl) (fun _ => rfl) fun cdv A outer s H vs Q E M m hr hp C q => ?_
  obtain ⟨h1, h2⟩ := hp
  have el : ((rgD m).length : Int) = (m : Int) := by rw [rgD_len]
  refine ⟨_, (pss_cons (ps_if (PW.pt (pw_or (pt_not (pt_val (pe_callB (kIsi K rfl) (by rfl) B.isinstance_ (by decide +kernel) (pa_cons (pv 0) (pa_cons (pe_bltn (v := .ty "tuple") (by rfl) B.tuple_ (by decide +kernel) rfl) pa_nil))))) (pw_or1 (pt_not (pt_val (pe_callB (kAll K rfl (by rfl)) (by rfl) B.all_ (by decide +kernel) (pa_cons (pe_lc (own := [("one", 2)]) (by rfl) sc_39.nd (kpT K rfl (pv 0)) (blkOk_by (own := [("one", 2)]) (N := ["value", "many", "one", "at"]) (sc := defScope s_39) (by decide +kernel)) (fun _ _ _ _ _ => (pg_name (i := 2) sc_39.nd rfl (.inl rfl))) (fun _ _ _ _ _ => pts_nil) (fun _ _ _ _ _ => (pe_cc c_is_task_rules hr (by rfl) (pa_cons (pv 2) (pa_cons (pv 1) pa_nil))))) pa_nil))))))) (pss_one (ps_ret pe_bl)) pss_nil)
      (pss_one (ps_ret (pe_callB (kAll K rfl (by rfl)) (by rfl) B.all_ (by decide +kernel) (pa_cons (pe_lc (own := [("at", 3)]) (by rfl) sc_39.nd (pi_range1 (by rfl) B.range_ (pa_cons (pe_op op_sub (pe_callB (kLen K rfl) (by rfl) B.len_ (by decide +kernel) (pa_cons (pv 0) pa_nil)) pe_int) pa_nil)) (blkOk_by (own := [("at", 3)]) (N := ["value", "many", "one", "at"]) (sc := defScope s_39) (by decide +kernel)) (fun _ _ _ _ _ => (pg_name (i := 3) sc_39.nd rfl (.inl rfl))) (fun _ _ _ _ _ => pts_nil) (fun _ _ _ _ _ => (pe_cmpR op_lt (pe_ix (kIx K rfl) (pv 0) (pv 3) (fun _ _ => rfl)) (pe_ix (kIx K rfl) (pv 0) (pe_op op_add (pv 3) pe_int) (fun _ _ => rfl)) (by rfl)))) pa_nil))))), ?_⟩
  refine s_if1 (b := false) C (EvT.at ?_ C.low) (fun h => nomatch h) fun _ H1 C1 => ?_
  · refine et_is (et_or (et_not (et_B (ev_isTup (ev_var rfl)))) fun _ => et_not (et_B (b := true) (ev_cb (ea_cons (ev_lc1 (is := [2]) (List.range m) (fun (i : Nat) => PyData.int i) (fun _ => .bool true) (ei_tup (ev_var rfl)) (fun i h => h) (fun i hi => ⟨_, g_name, ev_is (ev_callF (PyData.int (i : Nat), (m : Int)) trivial (ea_cons (ev_var rfl) (ea_cons (ev_var rfl) ea_nil))) ?_⟩) (by rw [List.length_range]; omega)) ea_nil) ?_))) rfl
    · have := List.mem_range.mp hi
      show PyData.bool (decide (0 ≤ (i : Int)) && decide ((i : Int) < (m : Int))) = _
      rw [decide_eq_true (by omega), decide_eq_true (by omega)]
      rfl
    · have e : ((List.range m).map fun _ => PyData.bool true) = ((List.range m).map fun _ => true).map PyData.bool := by rw [List.map_map]; rfl
      rw [e]
      exact rc_all (all_true _)
  · refine s_end C1 (fun _ h => h) (Ev.at (ev_cb (ea_cons (ev_lc1 (is := [3]) (List.range (m - 1)) (fun (i : Nat) => PyData.int i) (fun _ => .bool true) (ei_rng (n := m - 1) (ea_cons (ev_is (ev_op (ev_lenT (ev_var rfl)) ev_int rv_sub) ?_) ea_nil) (by omega)) (fun i h => h) (fun i hi => ⟨_, g_name, ev_is (ev_op (ev_op (ev_var rfl) (ev_var rfl) (rv_ixT (rgD_get2 ?_))) (ev_op (ev_var rfl) (ev_op (ev_var rfl) ev_int rv_add) (rv_ixT (i := ((i + 1 : Nat) : Int)) (rgD_get2 ?_))) rv_lt) ?_⟩) (by rw [List.length_range]; omega)) ea_nil) ?_) C1.low) q
    · rw [el]
      congr 1
      omega
    · have := List.mem_range.mp hi
      omega
    · have := List.mem_range.mp hi
      omega
    · rw [decide_eq_true (by omega)]
    · have e : ((List.range (m - 1)).map fun _ => PyData.bool true) = ((List.range (m - 1)).map fun _ => true).map PyData.bool := by rw [List.map_map]; rfl
      rw [e]
      exact rc_all (all_true _)
abbrev fChkColl := FSpec (α := Prob) (fun p => ProbOk p ∧ 1 ≤ p.rs.length) (fun p => [pbD p, .tuple (rgD p.rs.length)]) (fun _ => .none)
theorem c_check_collection (D : DefAt K mg "check_collection" "check_collection" s_40 f) (B : Bi mg) (c_check_problem : Callee P w K mg base "check_problem" k ["problem"] (PSp K fCheckProblem)) (c_is_collection : Callee P w K mg base "is_collection" k ["value", "many"] (PSp K fIsColl)) :
    Callee P w K mg base "check_collection" (k + 1) ["problem", "collection"] (PSp K fChkColl) := by
  refine mkF D sc_40 (fun _ _ _ _ _ _ us hl => match us, hl with | [_, _], _ => rfl) (fun _ => rfl) fun cdv A outer s H vs Q E M p hr hp C q => ?_
  obtain ⟨po, h1⟩ := hp
  have h2 := po.len
  refine ⟨_, (pss_cons (ps_expr (pe_cc c_check_problem hr (by rfl) (pa_cons (pv 0) pa_nil)))
      (pss_one (ps_if (pt_not (pt_val (pe_cc c_is_collection hr (by rfl) (pa_cons (pv 1) (pa_cons (pe_callB (kLen K rfl) (by rfl) B.len_ (by decide +kernel) (pa_cons (pe_ix (kIx K rfl) (pv 0) pe_int (fun _ _ => rfl)) pa_nil)) pa_nil))))) pss_never pss_nil))), ?_⟩
  refine s_dropq C (Ev.at (ev_callF p po (ea_cons (ev_var rfl) ea_nil)) C.en) fun H1 C1 => ?_
  refine s_if (b := false) C1 (EvT.at (et_is (et_not (et_B (ev_callF p.rs.length ⟨h1, by omega⟩ (ea_cons (ev_var rfl) (ea_cons (ev_is (ev_lenT (ev_op (ev_var rfl) ev_int (rv_ixT atI_1))) (by rw [List.length_map])) ea_nil))))) rfl) C1.low) (fun h => nomatch h) fun _ H2 C2 => ?_
  exact q _ _ (fun a o e => C2.sm a o (fun z => z) e) .non
abbrev fChkIdx := FSpec (α := Prob × Nat) (fun z => ProbOk z.1 ∧ z.2 < z.1.rs.length) (fun z => [pbD z.1, .tuple (rgD z.1.rs.length), .int z.2]) (fun _ => .none)
theorem c_check_index (D : DefAt K mg "check_index" "check_index" s_41 f) (B : Bi mg) (c_check_collection : Callee P w K mg base "check_collection" k ["problem", "collection"] (PSp K fChkColl)) (c_is_task_rules : Callee P w K mg base "is_task_rules" k ["value", "size"] (PSp K fIsTask)) :
    Callee P w K mg base "check_index" (k + 1) ["problem", "collection", "index"] (PSp K fChkIdx) := by
  refine mkF D sc_41 (fun _ _ _ _ _ _ us hl => match us, hl with | [_, _, _], _ => rfl) (fun _ => rfl) fun cdv A outer s H vs Q E M z hr hp C q => ?_
  obtain ⟨p, i⟩ := z
  obtain ⟨po, h1⟩ := hp
  have h1 : i < p.rs.length := h1
  refine ⟨_, (pss_cons (ps_expr (pe_cc c_check_collection hr (by rfl) (pa_cons (pv 0) (pa_cons (pv 1) pa_nil))))
      (pss_one (ps_if (PW.pt (pw_or (pt_not (pt_val (pe_cc c_is_task_rules hr (by rfl) (pa_cons (pv 2) (pa_cons (pe_callB (kLen K rfl) (by rfl) B.len_ (by decide +kernel) (pa_cons (pe_ix (kIx K rfl) (pv 0) pe_int (fun _ _ => rfl)) pa_nil)) pa_nil))))) (pw_or1 (pt_cmpR (kNi K rfl) (pv 2) (pv 1) (by rfl))))) pss_never pss_nil))), ?_⟩
  refine s_dropq C (Ev.at (ev_callF p ⟨po, by omega⟩ (ea_cons (ev_var rfl) (ea_cons (ev_var rfl) ea_nil))) C.en) fun H1 C1 => ?_
  refine s_if (b := false) C1 (EvT.at (et_is (et_or (et_not (et_B (ev_callF (PyData.int (i : Nat), (p.rs.length : Int)) trivial (ea_cons (ev_var rfl) (ea_cons (ev_is (ev_lenT (ev_op (ev_var rfl) ev_int (rv_ixT atI_1))) (by rw [List.length_map])) ea_nil))))) fun _ => et_test (ev_op (y := .tuple ((rg p.rs.length).map PyData.int)) (ev_var rfl) (ev_is (ev_var rfl) (by rw [rgD_rg])) rv_niIT)) ?_) C1.low) (fun h => nomatch h) fun _ H2 C2 => ?_
  · show (!(decide (0 ≤ (i : Int)) && decide ((i : Int) < (p.rs.length : Int))) || !decide ((i : Int) ∈ rg p.rs.length)) = false
    rw [decide_eq_true (by omega), decide_eq_true (by omega), decide_eq_true (mem_rg.mpr ⟨by omega, by omega⟩)]
    rfl
  · exact q _ _ (fun a o e => C2.sm a o (fun z => z) e) .non
abbrev fProbBy := FSpec (α := Prob × List Nat) (fun z => (∀ i, i ∈ z.2 → i < z.1.rs.length) ∧ z.2.length ≤ 1000) (fun z => [pbD z.1, ixD z.2]) (fun z => pbD ⟨z.1.n, pick z.1.rs z.2⟩)
theorem c_problem_by (D : DefAt K mg "problem_by" "problem_by" s_42 f) (B : Bi mg) : Callee P w K mg base "problem_by" (k + 1) ["problem", "collection"] (PSp K fProbBy) := by
  refine mkF D sc_42 (fun _ _ _ _ _ _ us hl => match us, hl with | [_, _], _ => rfl) (fun _ => rfl) fun cdv A outer s H vs Q E M z hr hp C q => ?_
  obtain ⟨p, ixs⟩ := z
  obtain ⟨h1, h2⟩ := hp
  have h2 : ixs.length ≤ 1000 := h2
  refine ⟨_, (pss_one (ps_ret (pe_tup (pa_cons (pe_ix (kIx K rfl) (pv 0) pe_int (fun _ _ => rfl)) (pa_cons (pe_callTy (kTupC K rfl) (by rfl) B.tuple_ (by decide +kernel) (pa_cons (pe_lc (own := [("at", 2)]) (by rfl) sc_42.nd (kpT K rfl (pv 1)) (blkOk_by (own := [("at", 2)]) (N := ["problem", "collection", "at"]) (sc := defScope s_42) (by decide +kernel)) (fun _ _ _ _ _ => (pg_name (i := 2) sc_42.nd rfl (.inl rfl))) (fun _ _ _ _ _ => pts_nil) (fun _ _ _ _ _ => (pe_ix (kIx K rfl) (pe_ix (kIx K rfl) (pv 0) pe_int (fun _ _ => rfl)) (pv 2) (fun _ _ => rfl)))) pa_nil)) pa_nil))))), ?_⟩
  refine s_end C (fun _ h => h) (Ev.at (ev_is (ev_tup (ea_cons (ev_op (ev_var rfl) ev_int (rv_ixT atI_0)) (ea_cons (ev_cb (ea_cons (ev_lc1 (is := [2]) ixs (fun (i : Nat) => PyData.int i) (fun i => rlD (p.rs.getD i r0)) (ei_tup (ev_var rfl)) (fun i h => h) (fun i hi => ⟨_, g_name, ev_op (ev_op (ev_var rfl) ev_int (rv_ixT atI_1)) (ev_var rfl) (rv_ixT (rule_at (h1 i hi)))⟩) (by omega)) ea_nil) rc_tupL) ea_nil)) (show 2 ≤ 1000 by decide)) ?_) C.low) q
  show PyData.tuple [.int p.n, .tuple (ixs.map fun i => rlD (p.rs.getD i r0))] = .tuple [.int p.n, .tuple ((ixs.map fun i => p.rs.getD i r0).map rlD)]
  rw [List.map_map]
  rfl
abbrev fLess := FSpec (α := Nat × Nat) (fun z => z.1 ≤ 1000) (fun z => [.tuple (rgD z.1), .int z.2]) (fun z => ixD (lessI z.1 z.2))
theorem c_less (D : DefAt K mg "less" "less" s_43 f) (B : Bi mg) : Callee P w K mg base "less" (k + 1) ["collection", "index"] (PSp K fLess) := by
  refine mkF D sc_43 (fun _ _ _ _ _ _ us hl => match us, hl with | [_, _], _ => rfl) (fun _ => rfl) fun cdv A outer s H vs Q E M z hr hp C q => ?_
  obtain ⟨m, i⟩ := z
  have hp : m ≤ 1000 := hp
  refine ⟨_, (pss_one (ps_ret (pe_callTy (kTupC K rfl) (by rfl) B.tuple_ (by decide +kernel) (pa_cons (pe_lc (own := [("at", 2)]) (by rfl) sc_43.nd (kpT K rfl (pv 0)) (blkOk_by (own := [("at", 2)]) (N := ["collection", "index", "at"]) (sc := defScope s_43) (by decide +kernel)) (fun _ _ _ _ _ => (pg_name (i := 2) sc_43.nd rfl (.inl rfl))) (fun _ _ _ _ _ => (pts_one (pt_cmpR op_ne (pv 2) (pv 1) (by rfl)))) (fun _ _ _ _ _ => (pv 2))) pa_nil)))), ?_⟩
  exact s_end C (fun _ h => h) (Ev.at (ev_cb (ea_cons (ev_lc (is := [2]) (List.range m) (fun (i : Nat) => PyData.int i) (fun j => !decide ((j : Int) = (i : Int))) (fun (i : Nat) => PyData.int i) (ei_tup (ev_var rfl)) (fun i h => h) (fun j hj => ⟨_, g_name, et_test (ev_op (ev_var rfl) (ev_var rfl) rv_neI), fun _ => ev_var rfl⟩) (by rw [List.length_range]; omega)) ea_nil) rc_tupL) C.low) q
def plbD : Sum (List Int) Tr → PyData
  | .inl _ => .none
  | .inr t => plD (norm (plOf t))
abbrev fPlanBy := FSpec (α := Prob) ProbOk (fun p => [pbD p]) (fun p => plbD (taken p p.n (rg p.n)))
theorem c_plan_by (D : DefAt K mg "plan_by" "plan_by" s_44 f) (c_solved : Callee P w K mg base "solved" k ["problem"] (PSp K fSolved)) : Callee P w K mg base "plan_by" (k + 1) ["problem"] (PSp K fPlanBy) := by
  refine mkF D sc_44 (fun _ _ _ _ _ _ us hl => match us, hl with | [_], _ => rfl) (fun _ => rfl) fun cdv A outer s H vs Q E M p hr hp C q => ?_
  refine ⟨_, (pss_cons (ps_asg (pe_cc c_solved hr (by rfl) (pa_cons (pv 0) pa_nil)) (kgT 2 K rfl (by rfl) (pgs_cons (pg_name (i := 1) sc_44.nd rfl (.inl rfl)) (pgs_cons (pg_name (i := 2) sc_44.nd rfl (.inl rfl)) pgs_nil))))
      (pss_one (ps_ret (pe_ifExp (pt_cmpR op_eq (pv 1) pe_str (by rfl)) (pv 2) pe_non)))), ?_⟩
  have e1 : Ev K (tCall (PSp K fSolved) [] E0 (tCons (tVar 0) tNil)) (gStart 3 [pbD p]) (solD (taken p p.n (rg p.n))) := ev_callF p hp (ea_cons (ev_var rfl) ea_nil)
  cases ht : taken p p.n (rg p.n) with
  | inl c =>
    rw [ht] at e1 q
    refine s_asgq (d := .tuple [.str "set", setD c]) (is := [1] ++ ([2] ++ [])) C (Ev.at e1 C.en) (g_tup (gs_cons g_name (gs_cons g_name gs_nil)) rfl) fun σ1 H1 C1 => ?_
    exact s_end C1 (fun _ h => h) (Ev.at (ev_if (b := false) (et_is (et_test (ev_op (ev_var rfl) ev_str rv_eqS)) (by decide)) (fun h => nomatch h) fun _ => ev_non) C1.low) q
  | inr t =>
    rw [ht] at e1 q
    refine s_asgq (d := .tuple [.str "plan", plD (norm (plOf t))]) (is := [1] ++ ([2] ++ [])) C (Ev.at e1 C.en) (g_tup (gs_cons g_name (gs_cons g_name gs_nil)) rfl) fun σ1 H1 C1 => ?_
    exact s_end C1 (fun _ h => h) (Ev.at (ev_if (b := true) (et_is (et_test (ev_op (ev_var rfl) ev_str rv_eqS)) (by decide)) (fun _ => ev_var rfl) fun h => nomatch h) C1.low) q
theorem isNon_pl (p : Pl) : isNon (plD p) = false := by
  cases p with
  | t i => rfl
  | n w ps => rw [plD_n]; rfl
theorem isNon_plb (t : Sum (List Int) Tr) : isNon (plbD t) = t.isLeft := by
  cases t with
  | inl c => rfl
  | inr t => exact isNon_pl _
noncomputable def posB (p : Prob) : Bool := (taken p p.n (rg p.n)).isRight
abbrev fCanBe := FSpec (α := Prob) (fun p => ProbOk p) (fun p => [pbD p, .tuple (rgD p.rs.length)]) (fun p => .bool (posB p))
theorem c_can_be (D : DefAt K mg "can_be" "can_be" s_45 f) (c_plan_by : Callee P w K mg base "plan_by" k ["problem"] (PSp K fPlanBy)) (c_problem_by : Callee P w K mg base "problem_by" k ["problem", "collection"] (PSp K fProbBy)) : Callee P w K mg base "can_be" (k + 1) ["problem", "collection"] (PSp K fCanBe) := by
  refine mkF D sc_45 (fun _ _ _ _ _ _ us hl => match us, hl with | [_, _], _ => rfl) (fun _ => rfl) fun cdv A outer s H vs Q E M p hr hp C q => ?_
  have hl := hp.len
  refine ⟨_, (pss_one (ps_ret (pe_cmpR op_notN (pe_cc c_plan_by hr (by rfl) (pa_cons (pe_cc c_problem_by hr (by rfl) (pa_cons (pv 0) (pa_cons (pv 1) pa_nil))) pa_nil)) pe_non (by rfl)))), ?_⟩
  refine s_end C (fun _ h => h) (Ev.at (ev_is (ev_op (ev_callF p hp (ea_cons (ev_is (ev_callF (p, List.range p.rs.length) ⟨fun i hi => List.mem_range.mp hi, by rw [List.length_range]; omega⟩ (ea_cons (ev_var rfl) (ea_cons (ev_var rfl) ea_nil))) ?_) ea_nil)) ev_non rv_notN) ?_) C.low) q
  · show pbD ⟨p.n, pick p.rs (List.range p.rs.length)⟩ = pbD p
    rw [pick_range]
  · rw [isNon_plb]
    unfold posB
    cases taken p p.n (rg p.n) <;> rfl
abbrev fAgainst := FSpec (α := Prob × Nat × Rule) (fun z => ProbOk z.1 ∧ z.1.rs[z.2.1]? = some z.2.2) (fun z => [pbD z.1, .tuple (rgD z.1.rs.length), .int z.2.1]) (fun z => .list ((agst z.1.rs z.2.1 z.2.2).map fun rs => pbD ⟨z.1.n, rs⟩))
theorem c_problems_against (D : DefAt K mg "problems_against" "problems_against" s_46 f) (B : Bi mg) (c : Cs K w mg aR aO) (c_problem_by : Callee P w K mg base "problem_by" k ["problem", "collection"] (PSp K fProbBy)) (c_less : Callee P w K mg base "less" k ["collection", "index"] (PSp K fLess)) :
    Callee P w K mg base "problems_against" (k + 1) ["problem", "collection", "index"] (PSp K fAgainst) := by
  have g_RELATIONS := c.gR
  refine mkF D sc_46 (fun _ _ _ _ _ _ us hl => match us, hl with | [_, _, _], _ => rfl) (fun _ => rfl) fun cdv A outer s H vs Q E M z hr hp C q => ?_
  obtain ⟨p, i, r⟩ := z
  obtain ⟨po, hi⟩ := hp
  have hi : p.rs[i]? = some r := hi
  have hl : p.rs.length ≤ 20 := po.len
  have hlt := (List.getElem?_eq_some_iff.mp hi).1
  have er : p.rs.getD i r0 = r := by rw [List.getD_eq_getElem?_getD, hi]; rfl
  refine ⟨_, (pss_cons (ps_set (i := 3) sc_46.nd rfl (.inr rfl) (pe_cc c_problem_by hr (by rfl) (pa_cons (pv 0) (pa_cons (pe_cc c_less hr (by rfl) (pa_cons (pv 1) (pa_cons (pv 2) pa_nil))) pa_nil))))
      (pss_cons (ps_asg (pe_ix (kIx K rfl) (pe_ix (kIx K rfl) (pv 0) pe_int (fun _ _ => rfl)) (pv 2) (fun _ _ => rfl)) (kgT 3 K rfl (by rfl) (pgs_cons (pg_name (i := 4) sc_46.nd rfl (.inr rfl)) (pgs_cons (pg_name (i := 5) sc_46.nd rfl (.inr rfl)) (pgs_cons (pg_name (i := 6) sc_46.nd rfl (.inr rfl)) pgs_nil)))))
      (pss_cons (ps_setLc (i := 7) (own := [("one", 8)]) (by rfl) sc_46.nd rfl rfl (sw_true rfl rfl rfl (by decide +kernel)) (kpT K rfl (pe_glob (v := .ref _) (by rfl) g_RELATIONS rfl)) (blkOk_by (own := [("one", 8)]) (N := ["problem", "collection", "index", "others", "first", "relations", "second", "missing", "one"]) (sc := defScope s_46) (by decide +kernel)) (fun _ _ _ _ _ => (pg_name (i := 8) sc_46.nd rfl (.inl rfl))) (fun _ _ _ _ _ => (pts_one (pt_cmpR (kNi K rfl) (pv 8) (pv 5) (by rfl)))) (fun _ _ _ _ _ => (pv 8)))
      (pss_one (ps_ret (pe_lc (own := [("one", 8)]) (by rfl) sc_46.nd (kpL K rfl (pv 7)) (blkOk_by (own := [("one", 8)]) (N := ["problem", "collection", "index", "others", "first", "relations", "second", "missing", "one"]) (sc := defScope s_46) (by decide +kernel)) (fun _ _ _ _ _ => (pg_name (i := 8) sc_46.nd rfl (.inl rfl))) (fun _ _ _ _ _ => pts_nil) (fun _ _ _ _ _ => (pe_tup (pa_cons (pe_ix (kIx K rfl) (pv 3) pe_int (fun _ _ => rfl)) (pa_cons (pe_op (kCatA K rfl) (pe_ix (kIx K rfl) (pv 3) pe_int (fun _ _ => rfl)) (pe_tup (pa_cons (pe_tup (pa_cons (pv 4) (pa_cons (pe_tup (pa_cons (pv 8) pa_nil)) (pa_cons (pv 6) pa_nil)))) pa_nil))) pa_nil)))))))))), ?_⟩
  refine s_setq C (Ev.at (d := pbD ⟨p.n, p.rs.eraseIdx i⟩) (ev_is (ev_callF (p, lessI p.rs.length i) ⟨fun j hj => ?_, ?_⟩ (ea_cons (ev_var rfl) (ea_cons (ev_callF (p.rs.length, i) (by dsimp only; omega) (ea_cons (ev_var rfl) (ea_cons (ev_var rfl) ea_nil))) ea_nil))) ?_) C.en) fun σ1 H1 C1 => ?_
  · exact List.mem_range.mp (List.mem_filter.mp hj).1
  · refine Nat.le_trans (List.length_filter_le _ _) ?_
    rw [List.length_range]
    omega
  · show pbD ⟨p.n, pick p.rs (lessI p.rs.length i)⟩ = _
    rw [pick_less hlt]
  refine s_asgq (d := rlD r) (is := [4] ++ ([5] ++ ([6] ++ []))) C1 (Ev.at (ev_op (ev_op (ev_var rfl) ev_int (rv_ixT atI_1)) (ev_var rfl) (rv_ixT (by rw [rule_at hlt, er]))) C1.en) (g_tup (gs_cons g_name (gs_cons g_name (gs_cons g_name gs_nil))) rfl) fun σ2 H2 C2 => ?_
  refine s_setq C2 (Ev.at (ev_lc (is := [8]) R3.all (fun r => .str r.s) (fun x => !decide (x ∈ r.al)) (fun r => .str r.s) (ei_tup (by rw [← wds_eq]; exact ev_rels c)) (fun i h => h) (fun x hx => ⟨_, g_name, et_test (ev_op (ev_var rfl) (ev_var rfl) rv_niRT), fun _ => ev_var rfl⟩) (by decide)) C2.en) fun σ3 H3 C3 => ?_
  have hm := R3.all_len fun x => !decide (x ∈ r.al)
  refine s_end C3 (fun _ h => h) (Ev.at (ev_is (ev_lc1 (is := [8]) (R3.all.filter fun x => !decide (x ∈ r.al)) (fun x => .str x.s) (fun x => pbD ⟨p.n, p.rs.eraseIdx i ++ [⟨r.x, [x], r.y⟩]⟩) (ei_list (ev_var rfl)) (fun i h => h) (fun x hx => ⟨_, g_name, ev_is (ev_tup (ea_cons (ev_op (ev_var rfl) ev_int (rv_ixT atI_0)) (ea_cons (ev_op (ev_op (ev_var rfl) ev_int (rv_ixT atI_1)) (ev_tup (ea_cons (ev_tup (ea_cons (ev_var rfl) (ea_cons (ev_tup (ea_cons (ev_var rfl) ea_nil) (show 1 ≤ 1000 by decide)) (ea_cons (ev_var rfl) ea_nil))) (show 3 ≤ 1000 by decide)) ea_nil) (show 1 ≤ 1000 by decide)) (rv_catA ?_)) ea_nil)) (show 2 ≤ 1000 by decide)) ?_⟩) (by omega)) ?_) C3.low) q
  · rw [List.length_map, List.length_eraseIdx, if_pos hlt]
    show p.rs.length - 1 + 1 ≤ 100000
    omega
  · unfold pbD
    rw [List.map_append]
    rfl
  · unfold agst
    rw [List.map_map]
    rfl
def grD : Option (List (List Int)) → PyData
  | none => .none
  | some z => .tuple (z.map setD)
abbrev fGrounds := FSpec (α := Prob × Nat × Rule) (fun z => ProbOk z.1 ∧ z.1.rs[z.2.1]? = some z.2.2) (fun z => [pbD z.1, .tuple (rgD z.1.rs.length), .int z.2.1]) (fun z => grD (grounds z.1.n (agst z.1.rs z.2.1 z.2.2)))
theorem grounds_take {n : Nat} : ∀ {l : List (List Rule)} {cs : List (List Int)}, (∀ (i : Nat) (c : List Int), cs[i]? = some c → ∃ rs : List Rule, l[i]? = some rs ∧ taken ⟨n, rs⟩ n (rg n) = .inl c) → cs.length = l.length → grounds n l = some cs
  | [], [], _, _ => rfl
  | [], c :: cs, _, h => by cases h
  | rs :: l, [], _, h => by cases h
  | rs :: l, c :: cs, h, hl => by
    obtain ⟨rs2, h1, h2⟩ := h 0 c rfl
    have e := Option.some.inj h1
    subst e
    unfold grounds
    rw [h2]
    dsimp only
    rw [grounds_take (l := l) (cs := cs) (fun i c hc => h (i + 1) c hc) (Nat.succ.inj hl)]
    rfl
theorem c_grounds_of (D : DefAt K mg "grounds_of" "grounds_of" s_47 f) (B : Bi mg) (c_problems_against : Callee P w K mg base "problems_against" k ["problem", "collection", "index"] (PSp K fAgainst)) (c_solved : Callee P w K mg base "solved" k ["problem"] (PSp K fSolved)) :
    Callee P w K mg base "grounds_of" (k + 1) ["problem", "collection", "index"] (PSp K fGrounds) := by
  refine mkF D sc_47 (fun _ _ _ _ _ _ us hl => match us, hl with | [_, _, _], _ => rfl) (fun _ => rfl) fun cdv A outer s H vs Q E M z hr hp C q => ?_
  obtain ⟨p, i, r⟩ := z
  have hp : ProbOk p ∧ p.rs[i]? = some r := hp
  have aok := agst_ok hp.1 hp.2
  have q : ∀ w H2, Same H H2 → Rep K M H2 w (grD (grounds p.n (agst p.rs i r))) → Q w H2 := q
  have hl3 : (agst p.rs i r).length ≤ 3 := agst_len
  refine ⟨_, (pss_cons (ps_set (i := 3) sc_47.nd rfl (.inl rfl) (pe_lst pa_nil))
      (pss_cons (ps_for PassesOwn.never (by rfl) (kpL K rfl (pe_cc c_problems_against hr (by rfl) (pa_cons (pv 0) (pa_cons (pv 1) (pa_cons (pv 2) pa_nil))))) (pg_name (i := 4) sc_47.nd rfl (.inl rfl)) (pss_cons (ps_asg (pe_cc c_solved hr (by rfl) (pa_cons (pv 4) pa_nil)) (kgT 2 K rfl (by rfl) (pgs_cons (pg_name (i := 5) sc_47.nd rfl (.inl rfl)) (pgs_cons (pg_name (i := 6) sc_47.nd rfl (.inl rfl)) pgs_nil))))
      (pss_cons (ps_if (pt_cmpR op_eq (pv 5) pe_str (by rfl)) (pss_one (ps_ret pe_non)) pss_nil)
      (pss_one (ps_expr (kBM K rfl PySem.F.plainAttrs_list PySem.F.slot_list_append PySem.F.type_list_append mt_append (pv 3) (pa_cons (pv 6) pa_nil)))))))
      (pss_one (ps_ret (pe_callTy (kTupC K rfl) (by rfl) B.tuple_ (by decide +kernel) (pa_cons (pv 3) pa_nil)))))), ?_⟩
  refine s_newq C fun p1 σ1 H1 C1 => ?_
  refine s_forq (is := [4]) (ds := (agst p.rs i r).map fun rs => pbD ⟨p.n, rs⟩) C1 (EvI.at (ei_list (ev_callF (p, i, r) hp (ea_cons (ev_var rfl) (ea_cons (ev_var rfl) (ea_cons (ev_var rfl) ea_nil))))) C1.en)
    (fun j O G => ∃ cs : List (List Int), O = [(p1, .lst (cs.map setD))] ∧ cs.length = j ∧ j ≤ 3 ∧ (∀ (m : Nat) (c : List Int), cs[m]? = some c → ∃ rs : List Rule, (agst p.rs i r)[m]? = some rs ∧ taken ⟨p.n, rs⟩ p.n (rg p.n) = .inl c) ∧ ∃ z4 z5 z6, G = [some (.d (pbD p)), some (.d (.tuple (rgD p.rs.length))), some (.d (.int i)), some (.r (.ref p1)), z4, z5, z6])
    ⟨[], rfl, rfl, Nat.zero_le _, (fun m c h => by rw [List.getElem?_nil] at h; cases h), _, _, _, rfl⟩ (fun i O' G' h => by obtain ⟨cs, rfl, _⟩ := h; rfl) ?_ ?_
  · rintro E1 j d1 O' G' hd ⟨cs, rfl, hj, hj3, hcs, z4, z5, z6, rfl⟩
    rw [List.getElem?_map] at hd
    cases hy : (agst p.rs i r)[j]? with
    | none => rw [hy] at hd; cases hd
    | some rs =>
    rw [hy] at hd
    have ed := Option.some.inj hd
    subst ed
    have hjl := (List.getElem?_eq_some_iff.mp hy).1
    have po := aok rs (List.mem_of_getElem? hy)
    refine ⟨_, g_name, fun σ3 H3 C3 => ?_⟩
    have e1 : ∀ {G : Gm}, G[4]? = some (some (.d (pbD ⟨p.n, rs⟩))) → Ev K (tCall (PSp K fSolved) [] E0 (tCons (tVar 4) tNil)) G (solD (taken ⟨p.n, rs⟩ p.n (rg p.n))) := fun {G} h => ev_callF (⟨p.n, rs⟩ : Prob) po (ea_cons (ev_var h) ea_nil)
    cases ht : taken ⟨p.n, rs⟩ p.n (rg p.n) with
    | inl c =>
      rw [ht] at e1
      refine s_asgq (d := .tuple [.str "set", setD c]) (is := [5] ++ ([6] ++ [])) C3 (Ev.at (e1 rfl) C3.en) (g_tup (gs_cons g_name (gs_cons g_name gs_nil)) rfl) fun σ4 H4 C4 => ?_
      refine s_if1 (b := false) C4 (EvT.at (et_is (et_test (ev_op (ev_var rfl) ev_str rv_eqS)) (by decide)) C4.low) (fun h => nomatch h) fun _ H5 C5 => ?_
      refine s_append (d := setD c) C5 rfl (by rw [List.length_map]; omega) (Ev.at (ev_var rfl) C5.en) fun H6 C6 => ?_
      refine ⟨_, _, ⟨cs ++ [c], by rw [List.map_append]; rfl, by rw [List.length_append, hj]; rfl, by omega, fun m c2 hm => ?_, some (.d (pbD ⟨p.n, rs⟩)), some (.d (.str "set")), some (.d (setD c)), rfl⟩, C6⟩
      by_cases hmj : m < cs.length
      · rw [List.getElem?_append_left hmj] at hm
        exact hcs m c2 hm
      · have e : m = cs.length := by
          have := (List.getElem?_eq_some_iff.mp hm).1
          rw [List.length_append, List.length_singleton] at this
          omega
        subst e
        rw [List.getElem?_append_right (Nat.le_refl _), Nat.sub_self] at hm
        have e2 : c = c2 := Option.some.inj hm
        subst e2
        exact ⟨rs, by rw [hj]; exact hy, ht⟩
    | inr t =>
      rw [ht] at e1
      refine s_asgq (d := .tuple [.str "plan", plD (norm (plOf t))]) (is := [5] ++ ([6] ++ [])) C3 (Ev.at (e1 rfl) C3.en) (g_tup (gs_cons g_name (gs_cons g_name gs_nil)) rfl) fun σ4 H4 C4 => ?_
      refine s_if1 (b := true) C4 (EvT.at (et_is (et_test (ev_op (ev_var rfl) ev_str rv_eqS)) (by decide)) C4.low) (fun _ H5 C5 => ?_) (fun h => nomatch h)
      refine s_end C5 (fun _ h => h) (Ev.at ev_non C5.low) ?_
      rw [grounds_none.mpr ⟨rs, List.mem_of_getElem? hy, t, ht⟩] at q
      exact q
  · rintro O' G' ⟨cs, rfl, hj, hj3, hcs, z4, z5, z6, rfl⟩ σ3 H3 C3
    rw [List.length_map] at hj
    refine s_end C3 (fun _ h => h) (Ev.at (ev_cb (ea_cons (ev_var (i := 3) rfl) ea_nil) rc_tupL) (C3.view (i := 3) rfl List.mem_cons_self (fun z => z))) ?_
    rw [grounds_take hcs hj] at q
    exact q
abbrev fAccepts := FSpec (α := Prob × Nat × Rule × PyData) (fun z => (ProbOk z.1 ∧ z.1.rs[z.2.1]? = some z.2.2.1) ∧ okV z.2.2.2) (fun z => [pbD z.1, .tuple (rgD z.1.rs.length), .int z.2.1, z.2.2.2]) (fun z => .bool (accB z.1.n (agst z.1.rs z.2.1 z.2.2.1) z.2.2.2))
theorem c_accepts_grounds (D : DefAt K mg "accepts_grounds" "accepts_grounds" s_50 f) (B : Bi mg) (c_check_index : Callee P w K mg base "check_index" k ["problem", "collection", "index"] (PSp K fChkIdx)) (c_problems_against : Callee P w K mg base "problems_against" k ["problem", "collection", "index"] (PSp K fAgainst))
    (c_is_set : Callee P w K mg base "is_set" k ["value", "size"] (PSp K fIsSet)) (c_stuck : Callee P w K mg base "stuck" k ["problem", "chosen"] (PSp K fStuck)) : Callee P w K mg base "accepts_grounds" (k + 1) ["problem", "collection", "index", "value"] (PSp K fAccepts) := by
  refine mkF D sc_50 (fun _ _ _ _ _ _ us hl => match us, hl with | [_, _, _, _], _ => rfl) (fun _ => rfl) fun cdv A outer s H vs Q E M z hr hp C q => ?_
  obtain ⟨p, i, r, v⟩ := z
  obtain ⟨⟨po, hi⟩, hv⟩ := hp
  have hi : p.rs[i]? = some r := hi
  have hv : okV v := hv
  have hlt := (List.getElem?_eq_some_iff.mp hi).1
  have aok := agst_ok po hi
  have hl3 : (agst p.rs i r).length ≤ 3 := agst_len
  have q : ∀ w H2, Same H H2 → Rep K M H2 w (.bool (accB p.n (agst p.rs i r) v)) → Q w H2 := q
  refine ⟨_, (pss_cons (ps_expr (pe_cc c_check_index hr (by rfl) (pa_cons (pv 0) (pa_cons (pv 1) (pa_cons (pv 2) pa_nil)))))
      (pss_cons (ps_set (i := 4) sc_50.nd rfl (.inl rfl) (pe_cc c_problems_against hr (by rfl) (pa_cons (pv 0) (pa_cons (pv 1) (pa_cons (pv 2) pa_nil)))))
      (pss_cons (ps_if (PW.pt (pw_or (pt_not (pt_val (pe_callB (kIsi K rfl) (by rfl) B.isinstance_ (by decide +kernel) (pa_cons (pv 3) (pa_cons (pe_bltn (v := .ty "tuple") (by rfl) B.tuple_ (by decide +kernel) rfl) pa_nil))))) (pw_or1 (pt_cmpR op_ne (pe_callB (kLen K rfl) (by rfl) B.len_ (by decide +kernel) (pa_cons (pv 3) pa_nil)) (pe_callB (kLen K rfl) (by rfl) B.len_ (by decide +kernel) (pa_cons (pv 4) pa_nil)) (by rfl))))) (pss_one (ps_ret pe_bl)) pss_nil)
      (pss_one (ps_ret (pe_callB (kAll K rfl (by rfl)) (by rfl) B.all_ (by decide +kernel) (pa_cons (pe_lc (own := [("other", 5), ("chosen", 6)]) (by rfl) sc_50.nd (kpZL K rfl (by rfl) B.zip_ (pa_cons (pv 4) (pa_cons (pv 3) pa_nil))) (blkOk_by (own := [("other", 5), ("chosen", 6)]) (N := ["problem", "collection", "index", "value", "against", "other", "chosen"]) (sc := defScope s_50) (by decide +kernel)) (fun _ _ _ _ _ => (kgT 2 K rfl (by rfl) (pgs_cons (pg_name (i := 5) sc_50.nd rfl (.inl rfl)) (pgs_cons (pg_name (i := 6) sc_50.nd rfl (.inl rfl)) pgs_nil)))) (fun _ _ _ _ _ => pts_nil) (fun _ _ _ _ _ => (pe_and (pe_cc c_is_set hr (by rfl) (pa_cons (pv 6) (pa_cons (pe_ix (kIx K rfl) (pv 0) pe_int (fun _ _ => rfl)) pa_nil))) (pe_one (pe_cc c_stuck hr (by rfl) (pa_cons (pv 5) (pa_cons (pv 6) pa_nil))))))) pa_nil))))))), ?_⟩
  refine s_dropq C (Ev.at (ev_callF (p, i) ⟨po, hlt⟩ (ea_cons (ev_var rfl) (ea_cons (ev_var rfl) (ea_cons (ev_var rfl) ea_nil)))) C.en) fun H1 C1 => ?_
  refine s_setq C1 (Ev.at (ev_callF (p, i, r) ⟨po, hi⟩ (ea_cons (ev_var rfl) (ea_cons (ev_var rfl) (ea_cons (ev_var rfl) ea_nil)))) C1.en) fun σ2 H2 C2 => ?_
  cases v with
  | tuple vs =>
    refine s_if1 (b := !decide (((vs.length : Nat) : Int) = (((agst p.rs i r).length : Nat) : Int))) C2 (EvT.at (et_is (et_or (et_not (et_B (ev_isTup (ev_var rfl)))) fun _ => et_test (ev_op (ev_lenT (ds := vs) (ev_var rfl)) (ev_is (ev_cb (ea_cons (ev_var rfl) ea_nil) rc_lenL) (by rw [List.length_map])) rv_neI)) (by rfl)) C2.low) (fun hb H3 C3 => ?_) fun hb H3 C3 => ?_
    · rw [Bool.not_eq_true', decide_eq_false_iff_not] at hb
      refine s_end C3 (fun _ h => h) (Ev.at ev_bl C3.low) ?_
      have e : accB p.n (agst p.rs i r) (.tuple vs) = false := by
        show (decide (vs.length = _) && _) = false
        rw [decide_eq_false (by omega)]
        rfl
      rw [e] at q
      exact q
    · rw [Bool.not_eq_false', decide_eq_true_iff] at hb
      have e : accB p.n (agst p.rs i r) (.tuple vs) = ((agst p.rs i r).zip vs).all fun z => stB p.n z.1 z.2 := by
        show (decide (vs.length = _) && _) = _
        rw [decide_eq_true (by omega)]
        rfl
      rw [e] at q
      refine s_end C3 (fun _ h => h) (Ev.at (ev_cb (ea_cons (ev_lc1 (is := [5] ++ ([6] ++ [])) ((agst p.rs i r).zip vs) (fun z => .tuple [pbD ⟨p.n, z.1⟩, z.2]) (fun z => .bool (stB p.n z.1 z.2)) ?_ (fun i h => h) (fun z hz => ⟨_, g_tup (gs_cons g_name (gs_cons g_name gs_nil)) rfl, ?_⟩) ?_) ea_nil) ?_) C3.low) q
      · rw [← zw_map2 (fun rs => pbD ⟨p.n, rs⟩)]
        exact ei_zipM (ea_cons (ev_var rfl) (ea_cons (ev_var rfl) ea_nil))
      · obtain ⟨rs, c⟩ := z
        have m1 : rs ∈ agst p.rs i r := (List.of_mem_zip hz).1
        have m2 : c ∈ vs := (List.of_mem_zip hz).2
        have hc : okC c := hv c m2
        refine ev_andV (ev_callF (c, (p.n : Int)) (by cases c <;> exact hc) (ea_cons (ev_var rfl) (ea_cons (ev_op (ev_var rfl) ev_int (rv_ixT atI_0)) ea_nil))) fun hs => ?_
        obtain ⟨g1, g2, g3⟩ := isSet_of hs
        refine ev_callF ((⟨p.n, rs⟩ : Prob), setOf c) ⟨aok rs m1, g2, Nat.le_trans (set_len g2 g3) po.hi⟩ (ea_cons (ev_var rfl) (ea_cons (ev_is (ev_var rfl) g1) ea_nil))
      · rw [List.length_zip]
        omega
      · have e2 : (((agst p.rs i r).zip vs).map fun z => PyData.bool (stB p.n z.1 z.2)) = (((agst p.rs i r).zip vs).map fun z => stB p.n z.1 z.2).map PyData.bool := by rw [List.map_map]; rfl
        rw [e2]
        refine rc_all ?_
        rw [List.all_map]
        rfl
  | none => exact s_if1 (b := true) C2 (EvT.at (et_is (et_or (c := true) (et_not (et_B (b := false) (ev_is (ev_isTup (ev_var rfl)) rfl))) fun h => nomatch h) rfl) C2.low) (fun hb H3 C3 => s_end C3 (fun _ h => h) (Ev.at ev_bl C3.low) q) fun h => nomatch h
  | bool b => exact s_if1 (b := true) C2 (EvT.at (et_is (et_or (c := true) (et_not (et_B (b := false) (ev_is (ev_isTup (ev_var rfl)) rfl))) fun h => nomatch h) rfl) C2.low) (fun hb H3 C3 => s_end C3 (fun _ h => h) (Ev.at ev_bl C3.low) q) fun h => nomatch h
  | int b => exact s_if1 (b := true) C2 (EvT.at (et_is (et_or (c := true) (et_not (et_B (b := false) (ev_is (ev_isTup (ev_var rfl)) rfl))) fun h => nomatch h) rfl) C2.low) (fun hb H3 C3 => s_end C3 (fun _ h => h) (Ev.at ev_bl C3.low) q) fun h => nomatch h
  | str b => exact s_if1 (b := true) C2 (EvT.at (et_is (et_or (c := true) (et_not (et_B (b := false) (ev_is (ev_isTup (ev_var rfl)) rfl))) fun h => nomatch h) rfl) C2.low) (fun hb H3 C3 => s_end C3 (fun _ h => h) (Ev.at ev_bl C3.low) q) fun h => nomatch h
  | list b => exact s_if1 (b := true) C2 (EvT.at (et_is (et_or (c := true) (et_not (et_B (b := false) (ev_is (ev_isTup (ev_var rfl)) rfl))) fun h => nomatch h) rfl) C2.low) (fun hb H3 C3 => s_end C3 (fun _ h => h) (Ev.at ev_bl C3.low) q) fun h => nomatch h
  | dict b => exact s_if1 (b := true) C2 (EvT.at (et_is (et_or (c := true) (et_not (et_B (b := false) (ev_is (ev_isTup (ev_var rfl)) rfl))) fun h => nomatch h) rfl) C2.low) (fun hb H3 C3 => s_end C3 (fun _ h => h) (Ev.at ev_bl C3.low) q) fun h => nomatch h
end
end Tb
set_option Elab.async false
set_option linter.all false
set_option maxRecDepth 100000
set_option maxHeartbeats 4000000
/-! ## The law's own defs: plans -/
namespace Tb
open PySem PySem.Spec PyProof.Rows PySem.W L2
abbrev s_54 : Stmt := top 54
theorem sc_54 : FnScope ["_law_actual"] ["_law_actual"] (defScope s_54) := ⟨rfl, rfl, rfl, by decide +kernel, rfl, by decide +kernel, by decide +kernel⟩
abbrev s_55 : Stmt := top 55
theorem sc_55 : FnScope ["_law_actual", "_law_due", "_law_at"] ["_law_actual", "_law_due"] (defScope s_55) := ⟨rfl, rfl, rfl, by decide +kernel, rfl, by decide +kernel, by decide +kernel⟩
abbrev s_56 : Stmt := top 56
theorem sc_56 : FnScope ["_law_tasks_here", "_law_word", "_law_whole", "_law_found", "_law_block", "_law_rest", "_law_head", "_law_task", "_law_tail"] ["_law_tasks_here", "_law_word", "_law_whole"] (defScope s_56) := ⟨rfl, rfl, rfl, by decide +kernel, rfl, by decide +kernel, by decide +kernel⟩
abbrev s_57 : Stmt := top 57
theorem sc_57 : FnScope ["_law_tasks_here", "_law_word", "_law_found", "_law_task", "_law_block"] ["_law_tasks_here", "_law_word"] (defScope s_57) := ⟨rfl, rfl, rfl, by decide +kernel, rfl, by decide +kernel, by decide +kernel⟩
abbrev s_58 : Stmt := top 58
theorem sc_58 : FnScope ["_law_block", "_law_word", "_law_other", "_law_row"] ["_law_block", "_law_word"] (defScope s_58) := ⟨rfl, rfl, rfl, by decide +kernel, rfl, by decide +kernel, by decide +kernel⟩
abbrev s_59 : Stmt := top 59
theorem sc_59 : FnScope ["_law_size", "_law_tasks_here"] ["_law_size"] (defScope s_59) := ⟨rfl, rfl, rfl, by decide +kernel, rfl, by decide +kernel, by decide +kernel⟩
abbrev s_60 : Stmt := top 60
theorem sc_60 : FnScope ["_law_plan", "_law_found", "_law_part"] ["_law_plan"] (defScope s_60) := ⟨rfl, rfl, rfl, by decide +kernel, rfl, by decide +kernel, by decide +kernel⟩
abbrev s_61 : Stmt := top 61
theorem sc_61 : FnScope ["_law_plan", "_law_first", "_law_second", "_law_places", "_law_task", "_law_at"] ["_law_plan", "_law_first", "_law_second"] (defScope s_61) := ⟨rfl, rfl, rfl, by decide +kernel, rfl, by decide +kernel, by decide +kernel⟩
abbrev s_64 : Stmt := top 64
theorem sc_64 : FnScope [] [] (defScope s_64) := ⟨rfl, rfl, rfl, by decide +kernel, rfl, by decide +kernel, by decide +kernel⟩
abbrev s_65 : Stmt := top 65
theorem sc_65 : FnScope ["_law_relation_here"] ["_law_relation_here"] (defScope s_65) := ⟨rfl, rfl, rfl, by decide +kernel, rfl, by decide +kernel, by decide +kernel⟩
def intsL (b : List Int) : PyData := .list (b.map PyData.int)
def rowD (r : List Pl) : PyData := .tuple (r.map plD)
def rowsD (rs : List (List Pl)) : PyData := .list (rs.map rowD)
/-! what is small, by the kernel -/
def smallT (T : List Int) : Bool := decide (T.length ≤ 4) && [true, false].all fun w => (blocks0 T).all fun B => decide (B ∈ subs (rg 4)) && decide (T.filter (fun t => !decide (t ∈ B)) ∈ subs (rg 4)) && decide (B.length ≤ T.length) && (decide (B = []) || decide ((T.filter fun t => !decide (t ∈ B)).length < T.length)) && (decide ((T.filter fun t => !decide (t ∈ B)) = []) || decide (B.length < T.length))
theorem small_all : (subs (rg 4)).all smallT = true := by decide +kernel
theorem len_all : ((List.range 13).all fun f => (subs (rg 4)).all fun T => [true, false].all fun w => [true, false].all fun o => (decide ((rows f T w o).length ≤ 1000) && (rows f T w o).all fun r => decide (r.length ≤ 1000))) = true := by decide +kernel
structure SubT (T : List Int) : Prop where
  m : T ∈ subs (rg 4)
  ne : T ≠ []
theorem smallT_of {T : List Int} (h : T ∈ subs (rg 4)) : smallT T = true := List.all_eq_true.mp small_all T h
theorem subT_len {T : List Int} (h : T ∈ subs (rg 4)) : T.length ≤ 4 := by
  have := smallT_of h
  unfold smallT at this
  rw [Bool.and_eq_true] at this
  exact of_decide_eq_true this.1
theorem rows_len2 {f : Nat} {T : List Int} (hf : f ≤ 12) (h : T ∈ subs (rg 4)) (w o : Bool) : (rows f T w o).length ≤ 1000 ∧ ∀ r, r ∈ rows f T w o → r.length ≤ 1000 := by
  have h1 := List.all_eq_true.mp len_all f (List.mem_range.mpr (by omega))
  have h2 := List.all_eq_true.mp h1 T h
  have h3 := List.all_eq_true.mp h2 w (by cases w <;> simp)
  have h4 := List.all_eq_true.mp h3 o (by cases o <;> simp)
  rw [Bool.and_eq_true] at h4
  exact ⟨of_decide_eq_true h4.1, fun r hr => of_decide_eq_true (List.all_eq_true.mp h4.2 r hr)⟩
theorem rows_len {f : Nat} {T : List Int} (hf : f ≤ 12) (h : T ∈ subs (rg 4)) (w o : Bool) : (rows f T w o).length ≤ 1000 := (rows_len2 hf h w o).1
theorem mem_blocks {T B : List Int} {w : Bool} (h : B ∈ blocks T w) : B ∈ blocks0 T ∧ B ≠ [] := by
  unfold blocks at h
  cases w with
  | true =>
    rw [if_pos rfl] at h
    have := List.mem_filter.mp h
    exact ⟨this.1, fun e => by rw [e] at this; exact absurd this.2 (by decide)⟩
  | false =>
    rw [if_neg (by decide)] at h
    have := List.mem_filter.mp h
    refine ⟨this.1, fun e => ?_⟩
    rw [e] at this
    exact absurd this.2 (by simp)
def restT (T B : List Int) : List Int := T.filter fun t => !decide (t ∈ B)
theorem block_of {T B : List Int} {w : Bool} (hT : T ∈ subs (rg 4)) (h : B ∈ blocks T w) : SubT B ∧ restT T B ∈ subs (rg 4) ∧ B.length ≤ T.length ∧ (restT T B).length < T.length ∧ (restT T B ≠ [] → B.length < T.length) := by
  obtain ⟨h1, h2⟩ := mem_blocks h
  have hs := smallT_of hT
  unfold smallT at hs
  rw [Bool.and_eq_true] at hs
  have h3 := List.all_eq_true.mp (List.all_eq_true.mp hs.2 true List.mem_cons_self) B h1
  rw [Bool.and_eq_true, Bool.and_eq_true, Bool.and_eq_true, Bool.and_eq_true, Bool.or_eq_true, Bool.or_eq_true, decide_eq_true_iff, decide_eq_true_iff, decide_eq_true_iff, decide_eq_true_iff, decide_eq_true_iff, decide_eq_true_iff, decide_eq_true_iff] at h3
  obtain ⟨⟨⟨⟨a, b⟩, c⟩, d⟩, e⟩ := h3
  exact ⟨⟨a, h2⟩, b, c, d.resolve_left h2, fun n => e.resolve_left n⟩
section
variable {P : Program} {w : World} {K : PySem.W.Frag} {mg : Str → Option Value} {base : Heap} {k : Nat} {f aR aO : Addr}
theorem c__law_is_integer (D : DefAt K mg "_law_is_integer" "_law_is_integer" s_54 f) (B : Bi mg) : Callee P w K mg base "_law_is_integer" (k + 1) ["_law_actual"] (PSp K fIsInteger) := by
  refine mkF D sc_54 (fun _ _ _ _ _ _ us hl => match us, hl with | [_], _ => rfl) (fun _ => rfl) fun cdv A outer s H vs Q E M x hr _ C q => ?_
  refine ⟨_, (pss_one (ps_ret (pe_and (pe_callB (kIsi K rfl) (by rfl) B.isinstance_ (by decide +kernel) (pa_cons (pv 0) (pa_cons (pe_bltn (v := .ty "int") (by rfl) B.int_ (by decide +kernel) rfl) pa_nil))) (pe_one (pe_not (pe_callB (kIsi K rfl) (by rfl) B.isinstance_ (by decide +kernel) (pa_cons (pv 0) (pa_cons (pe_bltn (v := .ty "bool") (by rfl) B.bool_ (by decide +kernel) rfl) pa_nil)))))))), ?_⟩
  refine s_end C (fun _ h => h) (Ev.at ?_ C.low) q
  exact ev_is (ev_andV (ev_isInt (ev_var rfl)) (fun _ => ev_notV (ev_isBool (ev_var rfl)))) (by cases x <;> rfl)
abbrev fEqual := FSpec (α := Bool × Bool) (fun _ => True) (fun z => [.bool z.1, .bool z.2]) (fun z => .bool (decide (z.1 = z.2)))
theorem c__law_equal (D : DefAt K mg "_law_equal" "_law_equal" s_55 f) (B : Bi mg) : Callee P w K mg base "_law_equal" (k + 1) ["_law_actual", "_law_due"] (PSp K fEqual) := by
  refine mkF D sc_55 (fun _ _ _ _ _ _ us hl => match us, hl with | [_, _], _ => rfl) (fun _ => rfl) fun cdv A outer s H vs Q E M z hr _ C q => ?_
  obtain ⟨a, b⟩ := z
  refine ⟨_, (pss_cons (ps_if (pt_cmpR op_isN (pv 1) pe_non (by rfl)) (pss_one (ps_ret (pe_cmpR op_isN (pv 0) pe_non (by rfl)))) pss_nil)
      (pss_cons (ps_if (pt_val (pe_callB (kIsi K rfl) (by rfl) B.isinstance_ (by decide +kernel) (pa_cons (pv 1) (pa_cons (pe_bltn (v := .ty "bool") (by rfl) B.bool_ (by decide +kernel) rfl) pa_nil)))) (pss_one (ps_ret (pe_and (pe_callB (kIsi K rfl) (by rfl) B.isinstance_ (by decide +kernel) (pa_cons (pv 0) (pa_cons (pe_bltn (v := .ty "bool") (by rfl) B.bool_ (by decide +kernel) rfl) pa_nil))) (pe_one (pe_cmpR op_eq (pv 0) (pv 1) (by rfl)))))) pss_nil)
      pss_never)), ?_⟩
  refine s_if1 (b := false) C (EvT.at (et_test (ev_is (ev_op (ev_var rfl) ev_non rv_isN) rfl)) C.low) (fun h => nomatch h) fun _ H1 C1 => ?_
  refine s_if1 (b := true) C1 (EvT.at (et_B (ev_is (ev_isBool (ev_var rfl)) rfl)) C1.low) (fun _ H2 C2 => ?_) (fun h => nomatch h)
  exact s_end C2 (fun _ h => h) (Ev.at (ev_is (w := .bool (decide (a = b))) (ev_andV (b := true) (c := decide (a = b)) (ev_is (ev_isBool (d := .bool a) (ev_var rfl)) rfl) fun _ => ev_op (ev_var rfl) (ev_var rfl) rv_eqB) rfl) C2.low) q
/-! blocks -/
abbrev fBlocks := FSpec (α := List Int × Bool) (fun z => SubT z.1) (fun z => [intsL z.1, .str (wd z.2)]) (fun z => .list ((blocks z.1 z.2).map intsL))
theorem blocks0_len : ∀ T : List Int, (blocks0 T).length = 2 ^ T.length := by
  have key : ∀ (T : List Int) (F : List (List Int)), (T.foldl (fun f t => f ++ f.map fun b => b ++ [t]) F).length = F.length * 2 ^ T.length := fun T => by
    induction T with
    | nil => intro F; exact (Nat.mul_one _).symm
    | cons t T ih =>
      intro F
      rw [List.foldl_cons, ih, List.length_append, List.length_map, List.length_cons, Nat.pow_succ]
      rw [Nat.mul_comm (2 ^ T.length) 2, ← Nat.mul_assoc]
      congr 1
      omega
  intro T
  unfold blocks0
  rw [key]
  exact Nat.one_mul _
theorem wd_ne (w : Bool) : decide (wd w = ("beside" : Str)) = !w := by cases w <;> decide
theorem foldl_take {α β : Type} (g : β → α → β) (b : β) {l : List α} {i : Nat} {x : α} (h : l[i]? = some x) : (l.take (i + 1)).foldl g b = g ((l.take i).foldl g b) x := by
  rw [List.take_add_one, h, List.foldl_append]
  rfl
theorem c__law_blocks (D : DefAt K mg "_law_blocks" "_law_blocks" s_57 f) (B : Bi mg) : Callee P w K mg base "_law_blocks" (k + 1) ["_law_tasks_here", "_law_word"] (PSp K fBlocks) := by
  refine mkF D sc_57 (fun _ _ _ _ _ _ us hl => match us, hl with | [_, _], _ => rfl) (fun _ => rfl) fun cdv A outer s H vs Q E M z hr hp C q => ?_
  obtain ⟨T, v⟩ := z
  have hp : SubT T := hp
  have hT := subT_len hp.m
  have bl : ∀ i, (blocks0 (T.take i)).length ≤ 16 := fun i => by
    rw [blocks0_len]
    exact Nat.pow_le_pow_right (by decide) (by rw [List.length_take]; omega : (T.take i).length ≤ 4)
  refine ⟨_, (pss_cons (ps_set (i := 2) sc_57.nd rfl (.inl rfl) (pe_lst (pa_cons (pe_lst pa_nil) pa_nil)))
      (pss_cons (ps_for PassesOwn.never (by rfl) (kpL K rfl (pv 0)) (pg_name (i := 3) sc_57.nd rfl (.inr rfl)) (pss_one (ps_set (i := 2) sc_57.nd rfl (.inl rfl) (pe_op op_cat (pv 2) (pe_lc (own := [("_law_block", 4)]) (by rfl) sc_57.nd (kpL K rfl (pv 2)) (blkOk_by (own := [("_law_block", 4)]) (N := ["_law_tasks_here", "_law_word", "_law_found", "_law_task", "_law_block"]) (sc := defScope s_57) (by decide +kernel)) (fun _ _ _ _ _ => (pg_name (i := 4) sc_57.nd rfl (.inl rfl))) (fun _ _ _ _ _ => pts_nil) (fun _ _ _ _ _ => (pe_op op_cat (pv 4) (pe_lst (pa_cons (pv 3) pa_nil)))))))))
      (pss_cons (ps_if (pt_cmpR op_eq (pv 1) pe_str (by rfl)) (pss_one (ps_ret (pe_lc (own := [("_law_block", 4)]) (by rfl) sc_57.nd (kpL K rfl (pv 2)) (blkOk_by (own := [("_law_block", 4)]) (N := ["_law_tasks_here", "_law_word", "_law_found", "_law_task", "_law_block"]) (sc := defScope s_57) (by decide +kernel)) (fun _ _ _ _ _ => (pg_name (i := 4) sc_57.nd rfl (.inl rfl))) (fun _ _ _ _ _ => (pts_one (pt_cmpR (kIn K rfl) (pe_ix (kIx K rfl) (pv 0) pe_int (fun _ _ => rfl)) (pv 4) (by rfl)))) (fun _ _ _ _ _ => (pv 4))))) pss_nil)
      (pss_one (ps_ret (pe_lc (own := [("_law_block", 4)]) (by rfl) sc_57.nd (kpL K rfl (pv 2)) (blkOk_by (own := [("_law_block", 4)]) (N := ["_law_tasks_here", "_law_word", "_law_found", "_law_task", "_law_block"]) (sc := defScope s_57) (by decide +kernel)) (fun _ _ _ _ _ => (pg_name (i := 4) sc_57.nd rfl (.inl rfl))) (fun _ _ _ _ _ => (pts_one (kTru K rfl (pv 4) (by intro _; rfl)))) (fun _ _ _ _ _ => (pv 4)))))))), ?_⟩
  refine s_setq C (Ev.at (ev_lst (ea_cons (ev_lst ea_nil (show 0 ≤ 1000 by decide)) ea_nil) (show 1 ≤ 1000 by decide)) C.en) fun σ1 H1 C1 => ?_
  refine s_forq (is := [3]) (ds := T.map PyData.int) C1 (EvI.at (ei_list (ev_var rfl)) C1.en)
    (fun i O G => O = [] ∧ ∃ z3, G = [some (.d (intsL T)), some (.d (.str (wd v))), some (.d (.list ((blocks0 (T.take i)).map intsL))), z3, none]) ⟨rfl, _, rfl⟩ (fun i O' G' h => by rw [h.1]) ?_ ?_
  · rintro E1 i d1 O' G' hd ⟨rfl, z3, rfl⟩
    rw [List.getElem?_map] at hd
    cases hy : T[i]? with
    | none => rw [hy] at hd; cases hd
    | some t =>
    rw [hy] at hd
    have ed := Option.some.inj hd
    subst ed
    have tk : blocks0 (T.take (i + 1)) = blocks0 (T.take i) ++ (blocks0 (T.take i)).map fun b => b ++ [t] := foldl_take _ _ hy
    have b16 := bl i
    have bin : ∀ b, b ∈ blocks0 (T.take i) → b.length ≤ 4 := by
      have key : ∀ (T : List Int) (F : List (List Int)) (m : Nat), (∀ b, b ∈ F → b.length ≤ m) → ∀ b, b ∈ T.foldl (fun f t => f ++ f.map fun b => b ++ [t]) F → b.length ≤ m + T.length := fun T => by
        induction T with
        | nil => intro F m h b hb; exact h b hb
        | cons t T ih =>
          intro F m h b hb
          have := ih _ (m + 1) (fun b hb => by
            rcases List.mem_append.mp hb with hb | hb
            · have := h b hb
              omega
            · obtain ⟨b0, hb0, rfl⟩ := List.mem_map.mp hb
              have := h b0 hb0
              rw [List.length_append]
              exact Nat.succ_le_succ this) b hb
          rw [List.length_cons]
          omega
      intro b hb
      have := key (T.take i) [[]] 0 (fun b hb => by rw [List.mem_singleton.mp hb]; exact Nat.le_refl _) b hb
      rw [List.length_take] at this
      omega
    refine ⟨_, g_name, fun σ3 H3 C3 => ?_⟩
    refine s_set C3 (Ev.at (d := .list ((blocks0 (T.take (i + 1))).map intsL)) (ev_is (ev_op (ev_var rfl) (ev_lc1 (is := [4]) (blocks0 (T.take i)) intsL (fun b => intsL (b ++ [t])) (ei_list (ev_var rfl)) (fun i h => h) (fun b hb => ⟨_, g_name, ev_is (ev_op (x := intsL b) (ev_var rfl) (ev_lst (ea_cons (ev_var rfl) ea_nil) (show 1 ≤ 1000 by decide)) (rv_cat ?_)) ?_⟩) (by omega)) (rv_cat ?_)) ?_) C3.en) fun σ4 H4 C4 => ?_
    · have := bin b hb
      rw [List.length_map]
      show b.length + 1 ≤ 100000
      omega
    · unfold intsL
      rw [List.map_append]
      rfl
    · rw [List.length_map, List.length_map]
      omega
    · rw [tk, List.map_append, List.map_map]
      rfl
    · exact ⟨_, _, ⟨rfl, some (.d (.int t)), rfl⟩, C4⟩
  · rintro O' G' ⟨rfl, z3, rfl⟩ σ3 H3 C3
    rw [List.length_map, List.take_length] at C3
    have b16 := bl T.length
    rw [List.take_length] at b16
    have hx : T[0]? = some (T.headD 0) := by
      have := hp.ne
      cases T with
      | nil => exact absurd rfl this
      | cons t T => rfl
    have q : ∀ w H2, Same H H2 → Rep K M H2 w (.list ((blocks T v).map intsL)) → Q w H2 := q
    refine s_if1 (b := !v) C3 (EvT.at (et_is (et_test (ev_op (ev_var rfl) ev_str rv_eqS)) (wd_ne v)) C3.low) (fun h1 H4 C4 => ?_) fun h1 H4 C4 => ?_
    · have e : v = false := by cases v <;> first | rfl | cases h1
      subst e
      exact s_end C4 (fun _ h => h) (Ev.at (ev_lc (is := [4]) (blocks0 T) intsL (fun b => decide (T.headD 0 ∈ b)) intsL (ei_list (ev_var rfl)) (fun i h => h) (fun b hb => ⟨_, g_name, et_test (ev_op (ev_op (x := intsL T) (ev_var rfl) ev_int (rv_ixL (d := .int (T.headD 0)) (atI_nat (j := 0) (by rw [List.getElem?_map, hx]; rfl)))) (ev_var rfl) rv_inIL), fun _ => ev_var rfl⟩) (by omega)) C4.low) q
    · have e : v = true := by cases v <;> first | rfl | cases h1
      subst e
      exact s_end C4 (fun _ h => h) (Ev.at (ev_lc (is := [4]) (blocks0 T) intsL (fun b => !b.isEmpty) intsL (ei_list (ev_var rfl)) (fun i h => h) (fun b hb => ⟨_, g_name, et_tru (d := intsL b) (ev_var rfl) rfl (by cases b <;> rfl), fun _ => ev_var rfl⟩) (by omega)) C4.low) q
/-! rows, heads -/
abbrev fHeads (d : Nat) := FSpec (α := List Int × Bool) (fun z => SubT z.1 ∧ (z.1.length ≠ 1 → 2 * z.1.length ≤ d)) (fun z => [intsL z.1, .str (wd z.2)]) (fun z => .list ((heads d z.1 z.2).map plD))
abbrev fRows (d : Nat) := FSpec (α := List Int × Bool × Bool) (fun z => SubT z.1 ∧ 2 * z.1.length + (if z.2.2 then 1 else 0) ≤ d) (fun z => [intsL z.1, .str (wd z.2.1), .bool z.2.2]) (fun z => rowsD (rows d z.1 z.2.1 z.2.2))
theorem heads_len {d : Nat} (hd : d ≤ 12) {B : List Int} (h : SubT B) (v : Bool) : (heads d B v).length ≤ 1000 := by
  unfold heads
  split
  · exact (by decide : 1 ≤ 1000)
  · rw [List.length_map]
    exact rows_len hd h.m _ _
theorem c__law_heads {d : Nat} (hd : d ≤ 12) (D : DefAt K mg "_law_heads" "_law_heads" s_58 f) (B : Bi mg) (c__law_rows : Callee P w K mg base "_law_rows" k ["_law_tasks_here", "_law_word", "_law_whole"] (PSp K (fRows d))) : Callee P w K mg base "_law_heads" (k + 1) ["_law_block", "_law_word"] (PSp K (fHeads d)) := by
  refine mkF D sc_58 (fun _ _ _ _ _ _ us hl => match us, hl with | [_, _], _ => rfl) (fun _ => rfl) fun cdv A outer s H vs Q E M z hr hp C q => ?_
  obtain ⟨T, v⟩ := z
  obtain ⟨hT, h2⟩ := hp
  have hT : SubT T := hT
  have h2 : T.length ≠ 1 → 2 * T.length ≤ d := h2
  have q : ∀ w H2, Same H H2 → Rep K M H2 w (.list ((heads d T v).map plD)) → Q w H2 := q
  refine ⟨_, (pss_cons (ps_if (pt_cmpR op_eq (pe_callB (kLen K rfl) (by rfl) B.len_ (by decide +kernel) (pa_cons (pv 0) pa_nil)) pe_int (by rfl)) (pss_one (ps_ret (pe_lst (pa_cons (pe_ix (kIx K rfl) (pv 0) pe_int (fun _ _ => rfl)) pa_nil)))) pss_nil)
      (pss_cons (ps_set (i := 2) sc_58.nd rfl (.inr rfl) (pe_ix (kIx K rfl) (pe_lst (pa_cons pe_str (pa_cons pe_str pa_nil))) (pe_callTy call_int1 (by rfl) B.int_ (by decide +kernel) (pa_cons (pe_cmpR op_eq (pv 1) pe_str (by rfl)) pa_nil)) (fun _ _ => rfl)))
      (pss_one (ps_ret (pe_lc (own := [("_law_row", 3)]) (by rfl) sc_58.nd (kpL K rfl (pe_cc c__law_rows hr (by rfl) (pa_cons (pv 0) (pa_cons (pv 2) (pa_cons pe_bl pa_nil))))) (blkOk_by (own := [("_law_row", 3)]) (N := ["_law_block", "_law_word", "_law_other", "_law_row"]) (sc := defScope s_58) (by decide +kernel)) (fun _ _ _ _ _ => (pg_name (i := 3) sc_58.nd rfl (.inl rfl))) (fun _ _ _ _ _ => pts_nil) (fun _ _ _ _ _ => (pe_tup (pa_cons (pv 2) (pa_cons (pv 3) pa_nil))))))))), ?_⟩
  refine s_if1 (b := decide (((T.length : Nat) : Int) = 1)) C (EvT.at (et_test (ev_op (ev_is (ev_cb (ea_cons (ev_var rfl) ea_nil) rc_lenL) (by rw [List.length_map])) ev_int rv_eqI)) C.low) (fun h1 H1 C1 => ?_) fun h1 H1 C1 => ?_
  · have h1 := of_decide_eq_true h1
    obtain ⟨i, rfl⟩ : ∃ i, T = [i] := List.length_eq_one_iff.mp (by omega)
    exact s_end C1 (fun _ h => h) (Ev.at (ev_lst (ea_cons (ev_op (x := intsL [i]) (ev_var rfl) ev_int (rv_ixL atI_0)) ea_nil) (show 1 ≤ 1000 by decide)) C1.low) q
  · have h1 := of_decide_eq_false h1
    have hn : T.length ≠ 1 := by omega
    have eh : heads d T v = (rows d T (!v) false).map (Pl.n (!v)) := if_neg hn
    refine s_setq C1 (Ev.at (d := .str (wd (!v))) (ev_op (ev_lst (ea_cons ev_str (ea_cons ev_str ea_nil)) (show 2 ≤ 1000 by decide)) (ev_cb (ea_cons (ev_is (ev_op (ev_var rfl) ev_str rv_eqS) (by rw [wd_str])) ea_nil) rc_intB) (rv_ixL (by cases v <;> first | exact atI_0 | exact atI_1))) C1.en) fun σ2 H2 C2 => ?_
    refine s_end C2 (fun _ h => h) (Ev.at (ev_is (ev_lc1 (is := [3]) (rows d T (!v) false) rowD (fun r => plD (.n (!v) r)) (ei_list (ev_callF (T, !v, false) ⟨hT, h2 hn⟩ (ea_cons (ev_var rfl) (ea_cons (ev_var rfl) (ea_cons ev_bl ea_nil))))) (fun i h => h) (fun r hr => ⟨_, g_name, ev_is (ev_tup (ea_cons (ev_var rfl) (ea_cons (ev_var rfl) ea_nil)) (show 2 ≤ 1000 by decide)) (plD_n _ _).symm⟩) (by have := rows_len hd hT.m (!v) false; omega)) ?_) C2.low) q
    rw [eh, List.map_map]
    rfl
/-- what a block gives -/
def turnR (d : Nat) (T : List Int) (v whole : Bool) (Bk : List Int) : List (List Pl) :=
  if (restT T Bk).isEmpty then (if whole then (heads d Bk v).map fun h => [h] else []) else (heads d Bk v).flatMap fun h => (rows d (restT T Bk) v true).map fun r => h :: r
theorem rows_turn (d : Nat) (T : List Int) (v whole : Bool) : rows (d + 1) T v whole = (blocks T v).flatMap (turnR d T v whole) := rfl
theorem flat_take {α β : Type} (g : α → List β) {l : List α} {i : Nat} {x : α} (h : l[i]? = some x) : (l.take (i + 1)).flatMap g = (l.take i).flatMap g ++ g x := by
  rw [List.take_add_one, h, List.flatMap_append]
  show _ ++ (g x ++ []) = _
  rw [List.append_nil]
theorem flat_take_le {α β : Type} (g : α → List β) (l : List α) (i : Nat) : ((l.take i).flatMap g).length ≤ (l.flatMap g).length := by
  have e : l.flatMap g = (l.take i).flatMap g ++ (l.drop i).flatMap g := by rw [← List.flatMap_append, List.take_append_drop]
  rw [e, List.length_append]
  omega
theorem c__law_rows_step {d : Nat} (hd : d + 1 ≤ 12) (D : DefAt K mg "_law_rows" "_law_rows" s_56 f) (B : Bi mg) (c__law_blocks : Callee P w K mg base "_law_blocks" k ["_law_tasks_here", "_law_word"] (PSp K fBlocks)) (c__law_heads : Callee P w K mg base "_law_heads" k ["_law_block", "_law_word"] (PSp K (fHeads d)))
    (c__law_rows : Callee P w K mg base "_law_rows" k ["_law_tasks_here", "_law_word", "_law_whole"] (PSp K (fRows d))) : Callee P w K mg base "_law_rows" (k + 1) ["_law_tasks_here", "_law_word", "_law_whole"] (PSp K (fRows (d + 1))) := by
  refine mkF D sc_56 (fun _ _ _ _ _ _ us hl => match us, hl with | [_, _, _], _ => rfl) (fun _ => rfl) fun cdv A outer s H vs Q E M z hr hp C q => ?_
  obtain ⟨T, v, whole⟩ := z
  obtain ⟨hT, h2⟩ := hp
  have hT : SubT T := hT
  have h2 : 2 * T.length + (if whole then 1 else 0) ≤ d + 1 := h2
  have q : ∀ w H2, Same H H2 → Rep K M H2 w (rowsD ((blocks T v).flatMap (turnR d T v whole))) → Q w H2 := q
  have tot : ((blocks T v).flatMap (turnR d T v whole)).length ≤ 1000 := rows_len hd hT.m v whole
  have bl16 : (blocks T v).length ≤ 1000 := by
    have h1 := blocks0_len T
    have h3 : 2 ^ T.length ≤ 2 ^ 4 := Nat.pow_le_pow_right (by decide) (subT_len hT.m)
    unfold blocks
    split
    · have := List.length_filter_le (fun b : List Int => !b.isEmpty) (blocks0 T)
      omega
    · have := List.length_filter_le (fun b => decide (T.headD 0 ∈ b)) (blocks0 T)
      omega
  have hT4 := subT_len hT.m
  refine ⟨_, (pss_cons (ps_set (i := 3) sc_56.nd rfl (.inl rfl) (pe_lst pa_nil))
      (pss_cons (ps_for PassesOwn.never (by rfl) (kpL K rfl (pe_cc c__law_blocks hr (by rfl) (pa_cons (pv 0) (pa_cons (pv 1) pa_nil)))) (pg_name (i := 4) sc_56.nd rfl (.inr rfl)) (pss_cons (ps_setLc (i := 5) (own := [("_law_task", 7)]) (by rfl) sc_56.nd rfl rfl (sw_true rfl rfl rfl (by decide +kernel)) (kpL K rfl (pv 0)) (blkOk_by (own := [("_law_task", 7)]) (N := ["_law_tasks_here", "_law_word", "_law_whole", "_law_found", "_law_block", "_law_rest", "_law_head", "_law_task", "_law_tail"]) (sc := defScope s_56) (by decide +kernel)) (fun _ _ _ _ _ => (pg_name (i := 7) sc_56.nd rfl (.inl rfl))) (fun _ _ _ _ _ => (pts_one (pt_cmpR (kNi K rfl) (pv 7) (pv 4) (by rfl)))) (fun _ _ _ _ _ => (pv 7)))
      (pss_one (ps_if (kTru K rfl (pv 5) (by intro _; rfl)) (pss_one (ps_for PassesOwn.never (by rfl) (kpL K rfl (pe_cc c__law_heads hr (by rfl) (pa_cons (pv 4) (pa_cons (pv 1) pa_nil)))) (pg_name (i := 6) sc_56.nd rfl (.inr rfl)) (pss_one (ps_set (i := 3) sc_56.nd rfl (.inl rfl) (pe_op op_cat (pv 3) (pe_lc (own := [("_law_tail", 8)]) (by rfl) sc_56.nd (kpL K rfl (pe_cc c__law_rows hr (by rfl) (pa_cons (pv 5) (pa_cons (pv 1) (pa_cons pe_bl pa_nil))))) (blkOk_by (own := [("_law_tail", 8)]) (N := ["_law_tasks_here", "_law_word", "_law_whole", "_law_found", "_law_block", "_law_rest", "_law_head", "_law_task", "_law_tail"]) (sc := defScope s_56) (by decide +kernel)) (fun _ _ _ _ _ => (pg_name (i := 8) sc_56.nd rfl (.inl rfl))) (fun _ _ _ _ _ => pts_nil) (fun _ _ _ _ _ => (pe_op (kCatA K rfl) (pe_tup (pa_cons (pv 6) pa_nil)) (pv 8))))))))) (pss_one (ps_if (pt_val (pv 2)) (pss_one (ps_set (i := 3) sc_56.nd rfl (.inl rfl) (pe_op op_cat (pv 3) (pe_lc (own := [("_law_head", 6)]) (by rfl) sc_56.nd (kpL K rfl (pe_cc c__law_heads hr (by rfl) (pa_cons (pv 4) (pa_cons (pv 1) pa_nil)))) (blkOk_by (own := [("_law_head", 6)]) (N := ["_law_tasks_here", "_law_word", "_law_whole", "_law_found", "_law_block", "_law_rest", "_law_head", "_law_task", "_law_tail"]) (sc := defScope s_56) (by decide +kernel)) (fun _ _ _ _ _ => (pg_name (i := 6) sc_56.nd rfl (.inl rfl))) (fun _ _ _ _ _ => pts_nil) (fun _ _ _ _ _ => (pe_tup (pa_cons (pv 6) pa_nil))))))) pss_nil))))))
      (pss_one (ps_ret (pv 3))))), ?_⟩
  refine s_setq C (Ev.at (ev_lst ea_nil (show 0 ≤ 1000 by decide)) C.en) fun σ1 H1 C1 => ?_
  refine s_forq (is := [4]) (ds := (blocks T v).map intsL) C1 (EvI.at (ei_list (ev_callF (T, v) hT (ea_cons (ev_var rfl) (ea_cons (ev_var rfl) ea_nil)))) C1.en)
    (fun i O G => O = [] ∧ ∃ z4 z5 z6, G = [some (.d (intsL T)), some (.d (.str (wd v))), some (.d (.bool whole)), some (.d (rowsD (((blocks T v).take i).flatMap (turnR d T v whole)))), z4, z5, z6, none, none]) ⟨rfl, _, _, _, rfl⟩ (fun i O' G' h => by rw [h.1]) ?_ ?_
  · rintro E1 i d1 O' G' hdd ⟨rfl, z4, z5, z6, rfl⟩
    rw [List.getElem?_map] at hdd
    cases hy : (blocks T v)[i]? with
    | none => rw [hy] at hdd; cases hdd
    | some Bk =>
    rw [hy] at hdd
    have ed := Option.some.inj hdd
    subst ed
    have mB : Bk ∈ blocks T v := List.mem_of_getElem? hy
    obtain ⟨sB, sR, l1, l2, l3⟩ := block_of hT.m mB
    have tk := flat_take (turnR d T v whole) hy
    have tle : (((blocks T v).take i).flatMap (turnR d T v whole)).length + (turnR d T v whole Bk).length ≤ 1000 := by
      have := flat_take_le (turnR d T v whole) (blocks T v) (i + 1)
      rw [tk, List.length_append] at this
      omega
    refine ⟨_, g_name, fun σ3 H3 C3 => ?_⟩
    refine s_setq C3 (Ev.at (d := intsL (restT T Bk)) (ev_lc (is := [7]) T PyData.int (fun t => !decide (t ∈ Bk)) PyData.int (ei_list (ev_var rfl)) (fun i h => h) (fun t ht => ⟨_, g_name, et_test (ev_op (ev_var rfl) (ev_var rfl) rv_niIL), fun _ => ev_var rfl⟩) (by omega)) C3.en) fun σ4 H4 C4 => ?_
    refine s_if (b := !(restT T Bk).isEmpty) C4 (EvT.at (et_tru (d := intsL (restT T Bk)) (ev_var rfl) rfl (by show (!((restT T Bk).map PyData.int).isEmpty) = _; rw [List.isEmpty_map])) C4.low) (fun hb H5 C5 => ?_) fun hb H5 C5 => ?_
    · have hne : restT T Bk ≠ [] := fun e => by rw [e] at hb; cases hb
      have et : turnR d T v whole Bk = (heads d Bk v).flatMap fun h => (rows d (restT T Bk) v true).map fun r => h :: r := by
        unfold turnR
        rw [if_neg]
        intro z
        rw [z] at hb
        cases hb
      have l3 := l3 hne
      have hhd : Bk.length ≠ 1 → 2 * Bk.length ≤ d := fun _ => by
        split at h2 <;> omega
      have hl : (heads d Bk v).length ≤ 1000 := heads_len (by omega) sB v
      have hr1 : 2 * (restT T Bk).length + (if true then 1 else 0) ≤ d := by
        rw [if_pos rfl]
        split at h2 <;> omega
      have hrl := rows_len (f := d) (by omega) sR v true
      refine s_for (is := [6]) (ds := (heads d Bk v).map plD) C5 (EvI.at (ei_list (ev_callF (Bk, v) ⟨sB, hhd⟩ (ea_cons (ev_var rfl) (ea_cons (ev_var rfl) ea_nil)))) C5.en)
        (fun j O G => O = [] ∧ ∃ z6, G = [some (.d (intsL T)), some (.d (.str (wd v))), some (.d (.bool whole)), some (.d (rowsD (((blocks T v).take i).flatMap (turnR d T v whole) ++ ((heads d Bk v).take j).flatMap fun h => (rows d (restT T Bk) v true).map fun r => h :: r))), some (.d (intsL Bk)), some (.d (intsL (restT T Bk))), z6, none, none]) ⟨rfl, _, by rw [List.take_zero, List.flatMap_nil, List.append_nil]; rfl⟩ (fun i O' G' h => by rw [h.1]) ?_ ?_
      · rintro E2 j d2 O' G' hd2 ⟨rfl, y6, rfl⟩
        rw [List.getElem?_map] at hd2
        cases hh : (heads d Bk v)[j]? with
        | none => rw [hh] at hd2; cases hd2
        | some hp =>
        rw [hh] at hd2
        have ed := Option.some.inj hd2
        subst ed
        have tk2 := flat_take (fun h => (rows d (restT T Bk) v true).map fun r => h :: r) hh
        have tl2 := flat_take_le (fun h => (rows d (restT T Bk) v true).map fun r => h :: r) (heads d Bk v) (j + 1)
        rw [tk2, List.length_append, ← et] at tl2
        refine ⟨_, g_name, fun σ6 H6 C6 => ?_⟩
        refine s_set C6 (Ev.at (d := rowsD (((blocks T v).take i).flatMap (turnR d T v whole) ++ ((heads d Bk v).take (j + 1)).flatMap fun h => (rows d (restT T Bk) v true).map fun r => h :: r)) (ev_is (ev_op (ev_var rfl) (ev_lc1 (is := [8]) (rows d (restT T Bk) v true) rowD (fun r => rowD (hp :: r)) (ei_list (ev_callF (restT T Bk, v, true) ⟨⟨sR, hne⟩, hr1⟩ (ea_cons (ev_var rfl) (ea_cons (ev_var rfl) (ea_cons ev_bl ea_nil))))) (fun i h => h) (fun r hr => ⟨_, g_name, ev_is (ev_op (ev_tup (ea_cons (ev_var rfl) ea_nil) (show 1 ≤ 1000 by decide)) (y := rowD r) (ev_var rfl) (rv_catA ?_)) rfl⟩) (by omega)) (rv_cat ?_)) ?_) C6.en) fun σ7 H7 C7 => ?_
        · have := (rows_len2 (f := d) (by omega) sR v true).2 r hr
          rw [List.length_map]
          show 1 + r.length ≤ 100000
          omega
        · rw [List.length_map, List.length_map, List.length_append]
          rw [List.length_map] at tl2
          omega
        · rw [tk2]
          unfold rowsD
          rw [List.map_append, List.map_append, List.map_append, List.map_map, List.append_assoc]
          rfl
        · exact ⟨_, _, ⟨rfl, some (.d (plD hp)), rfl⟩, C7⟩
      · rintro O' G' ⟨rfl, y6, rfl⟩ σ6 H6 C6
        rw [List.length_map, List.take_length, ← et, ← tk] at C6
        exact ⟨_, _, ⟨rfl, _, _, _, rfl⟩, C6⟩
    · have hne : (restT T Bk).isEmpty = true := by rw [Bool.not_eq_false'] at hb; exact hb
      refine s_if (b := whole) C5 (EvT.at (et_B (ev_var rfl)) C5.low) (fun hb2 H6 C6 => ?_) fun hb2 H6 C6 => ?_
      · subst hb2
        have et : turnR d T v true Bk = (heads d Bk v).map fun h => [h] := by
          unfold turnR
          rw [if_pos hne, if_pos rfl]
        have h2 : 2 * T.length + 1 ≤ d + 1 := h2
        have hhd : Bk.length ≠ 1 → 2 * Bk.length ≤ d := fun _ => by omega
        have hl : (heads d Bk v).length ≤ 1000 := heads_len (by omega) sB v
        refine s_set C6 (Ev.at (d := rowsD (((blocks T v).take (i + 1)).flatMap (turnR d T v true))) (ev_is (ev_op (ev_var rfl) (ev_lc1 (is := [6]) (heads d Bk v) plD (fun h => rowD [h]) (ei_list (ev_callF (Bk, v) ⟨sB, hhd⟩ (ea_cons (ev_var rfl) (ea_cons (ev_var rfl) ea_nil)))) (fun i h => h) (fun h hh => ⟨_, g_name, ev_is (ev_tup (ea_cons (ev_var rfl) ea_nil) (show 1 ≤ 1000 by decide)) rfl⟩) (by omega)) (rv_cat ?_)) ?_) C6.en) fun σ7 H7 C7 => ?_
        · rw [List.length_map, List.length_map]
          rw [et, List.length_map] at tle
          omega
        · rw [tk, et]
          unfold rowsD
          rw [List.map_append, List.map_map]
          rfl
        · exact ⟨_, _, ⟨rfl, some (.d (intsL Bk)), some (.d (intsL (restT T Bk))), z6, rfl⟩, C7⟩
      · subst hb2
        have et : turnR d T v false Bk = [] := by
          unfold turnR
          rw [if_pos hne, if_neg (by decide)]
        rw [et, List.append_nil] at tk
        exact ⟨_, _, ⟨rfl, some (.d (intsL Bk)), some (.d (intsL (restT T Bk))), z6, by rw [tk]; rfl⟩, C6⟩
  · rintro O' G' ⟨rfl, z4, z5, z6, rfl⟩ σ3 H3 C3
    rw [List.length_map, List.take_length] at C3
    exact s_end C3 (fun _ h => h) (Ev.at (ev_var rfl) C3.low) q
end
end Tb
set_option Elab.async false
set_option linter.all false
set_option maxRecDepth 100000
set_option maxHeartbeats 4000000
/-! ## The law's own defs: all plans, tasks, relations -/
namespace Tb
open PySem PySem.Spec PyProof.Rows PySem.W L2
/-- l.index(x), of texts -/
theorem ev_idxS {K : PySem.W.Frag} {G : Gm} {te tx : TE} {ns : List Str} {x : Str} {j : Nat} (h : Ev K te G (.list (ns.map PyData.str))) (hx : Ev K tx G (.str x)) (h1 : ns[j]? = some x) (h2 : ∀ m, m < j → ns[m]? ≠ some x) : Ev K (tBM K "list" (rIndex K) te (tCons tx tNil)) G (.int (j : Nat)) := fun M σ H e Q q =>
  h M σ H e _ fun v H1 s1 r1 => by
    obtain ⟨a, xs, rfl, n, ha, rs⟩ := r1.lst_inv
    refine ⟨.inl ⟨rfl, xs, .inl (.inl ha)⟩, hx M σ H1 (e.same s1) _ fun u H2 s2 r2 => ?_⟩
    have e2 := r2.str_inv
    subst e2
    have ha2 : H2 a = some (.lst xs) := s2 _ _ ha
    have ex : xs = ns.map V.str := by
      have key : ∀ {xs : List V} {ns : List Str}, RepL K M H1 xs (ns.map PyData.str) → xs = ns.map V.str := fun {xs} => by
        induction xs with
        | nil =>
          intro ns h
          cases ns with
          | nil => rfl
          | cons n ns => cases h
        | cons x xs ih =>
          intro ns h
          cases ns with
          | nil => cases h
          | cons n ns =>
            cases h with
            | cons r t => rw [List.map_cons, r.str_inv, ih t]
      exact key rs
    subst ex
    have eqs : ∀ y z : Str, eqV (V.str y) (V.str z) = decide (y = z) := fun y z => by
      show (y == z) = decide (y = z)
      rw [Bool.eq_iff_iff]
      simp
    refine ⟨a, _, .str x, j, .str x, rfl, rfl, .inl (.inl ha2), rfl, ?_, by rw [List.getElem?_map, h1]; rfl, by rw [eqs, decide_eq_true rfl], fun m z' hm hz => ?_, q _ H2 (s1.trans s2) (.int _)⟩
    · rw [List.all_eq_true]
      intro y hy
      obtain ⟨z, _, rfl⟩ := List.mem_map.mp hy
      rfl
    · rw [List.getElem?_map] at hz
      cases hn : ns[m]? with
      | none => rw [hn] at hz; cases hz
      | some y =>
        rw [hn] at hz
        have e3 := Option.some.inj hz
        subst e3
        rw [eqs, decide_eq_false]
        intro e4
        subst e4
        exact h2 m hm hn
section
variable {P : Program} {w : World} {K : PySem.W.Frag} {mg : Str → Option Value} {base : Heap} {k : Nat} {f aR aO : Addr}
theorem c__law_rows {fR fH : Addr} (DR : DefAt K mg "_law_rows" "_law_rows" s_56 fR) (DH : DefAt K mg "_law_heads" "_law_heads" s_58 fH) (B : Bi mg) {j : Nat} (c__law_blocks : Callee P w K mg base "_law_blocks" j ["_law_tasks_here", "_law_word"] (PSp K fBlocks)) :
    ∀ d : Nat, d ≤ 12 → Callee P w K mg base "_law_rows" (j + 2 * d) ["_law_tasks_here", "_law_word", "_law_whole"] (PSp K (fRows d)) ∧ Callee P w K mg base "_law_heads" (j + 2 * d + 1) ["_law_block", "_law_word"] (PSp K (fHeads d))
  | 0, _ => by
    have c0 : Callee P w K mg base "_law_rows" (j + 2 * 0) ["_law_tasks_here", "_law_word", "_law_whole"] (PSp K (fRows 0)) := callee0 DR sc_56 (fun _ _ _ _ _ _ us hl => match us, hl with | [_, _, _], _ => rfl) fun z h => by
      have h1 : SubT z.1 := h.1
      have h2 := h.2
      exact h1.ne (List.eq_nil_of_length_eq_zero (by omega))
    exact ⟨c0, c__law_heads (by omega) DH B c0⟩
  | d + 1, hd => by
    obtain ⟨c1, c2⟩ := c__law_rows DR DH B c__law_blocks d (by omega)
    have c3 : Callee P w K mg base "_law_rows" (j + 2 * (d + 1)) ["_law_tasks_here", "_law_word", "_law_whole"] (PSp K (fRows (d + 1))) := c__law_rows_step hd DR B (c__law_blocks.mono (by show j ≤ j + 2 * d + 1; omega)) c2 (c1.mono (by show j + 2 * d ≤ j + 2 * d + 1; omega))
    exact ⟨c3, c__law_heads hd DH B c3⟩
abbrev fPlans := FSpec (α := Nat) Few (fun n => [.int n]) (fun n => .list ((plans n).map plD))
theorem rg_sub {n : Nat} (h : Few n) : SubT (rg n) := by
  rcases h with rfl | rfl | rfl <;> exact ⟨by decide +kernel, by decide⟩
theorem c__law_plans (D : DefAt K mg "_law_plans" "_law_plans" s_59 f) (B : Bi mg) (c__law_heads : Callee P w K mg base "_law_heads" k ["_law_block", "_law_word"] (PSp K (fHeads 12))) : Callee P w K mg base "_law_plans" (k + 1) ["_law_size"] (PSp K fPlans) := by
  refine mkF D sc_59 (fun _ _ _ _ _ _ us hl => match us, hl with | [_], _ => rfl) (fun _ => rfl) fun cdv A outer s H vs Q E M n hr hp C q => ?_
  have hn4 : n ≤ 4 := by rcases hp with rfl | rfl | rfl <;> decide
  have hn2 : 2 ≤ n := by rcases hp with rfl | rfl | rfl <;> decide
  have hs := rg_sub hp
  have hl := rg_len n
  refine ⟨_, (pss_cons (ps_if (pt_cmpR op_eq (pv 0) pe_int (by rfl)) pss_never pss_nil)
      (pss_cons (ps_set (i := 1) sc_59.nd rfl (.inl rfl) (pe_listRg (by rfl) (by rfl) B.list_ (prg_1 (by rfl) B.range_ (pv 0))))
      (pss_one (ps_ret (pe_op op_cat (pe_cc c__law_heads hr (by rfl) (pa_cons (pv 1) (pa_cons pe_str pa_nil))) (pe_cc c__law_heads hr (by rfl) (pa_cons (pv 1) (pa_cons pe_str pa_nil)))))))), ?_⟩
  refine s_if1 (b := false) C (EvT.at (et_is (et_test (ev_op (ev_var rfl) ev_int rv_eqI)) (decide_eq_false (by omega))) C.low) (fun h => nomatch h) fun _ H1 C1 => ?_
  refine s_setq C1 (Ev.at (d := intsL (rg n)) (ev_is (ev_listRg (ev_var rfl) (Nat.le_trans hn4 (by decide))) (by rw [rgD_rg]; rfl)) C1.en) fun σ2 H2 C2 => ?_
  have h1 := heads_len (d := 12) (by decide) hs false
  have h2 := heads_len (d := 12) (by decide) hs true
  exact s_end C2 (fun _ h => h) (Ev.at (ev_is (ev_op (ev_callF (rg n, false) ⟨hs, fun _ => by show 2 * (rg n).length ≤ 12; omega⟩ (ea_cons (ev_var rfl) (ea_cons ev_str ea_nil))) (ev_callF (rg n, true) ⟨hs, fun _ => by show 2 * (rg n).length ≤ 12; omega⟩ (ea_cons (ev_var rfl) (ea_cons ev_str ea_nil))) (rv_cat (by rw [List.length_map, List.length_map]; dsimp only; omega))) (by show PyData.list (_ ++ _) = _; rw [← List.map_append]; rfl)) C2.low) q
abbrev fLTasks (d : Nat) := FSpec (α := Pl) (fun p => okP p = true ∧ depth p < d ∧ (tasks p).length ≤ 1000) (fun p => [plD p]) (fun p => intsL (tasks p))
theorem c__law_tasks (D : DefAt K mg "_law_tasks" "_law_tasks" s_60 f) (B : Bi mg) : ∀ d : Nat, Callee P w K mg base "_law_tasks" (k + d) ["_law_plan"] (PSp K (fLTasks d))
  | 0 => callee0 D sc_60 (fun _ _ _ _ _ _ us hl => match us, hl with | [_], _ => rfl) fun z h => by have := h.2.1; omega
  | d + 1 => by
    have c__law_tasks := c__law_tasks D B d
    refine mkF D sc_60 (fun _ _ _ _ _ _ us hl => match us, hl with | [_], _ => rfl) (fun _ => rfl) fun cdv A outer s H vs Q E M z hr hp C q => ?_
    obtain ⟨h1, h2, h3⟩ := hp
    refine ⟨_, (pss_cons (ps_if (pt_val (pe_callB (kIsi K rfl) (by rfl) B.isinstance_ (by decide +kernel) (pa_cons (pv 0) (pa_cons (pe_bltn (v := .ty "int") (by rfl) B.int_ (by decide +kernel) rfl) pa_nil)))) (pss_one (ps_ret (pe_lst (pa_cons (pv 0) pa_nil)))) pss_nil)
      (pss_cons (ps_set (i := 1) sc_60.nd rfl (.inl rfl) (pe_lst pa_nil))
      (pss_cons (ps_for PassesOwn.never (by rfl) (kpT K rfl (pe_ix (kIx K rfl) (pv 0) pe_int (fun _ _ => rfl))) (pg_name (i := 2) sc_60.nd rfl (.inl rfl)) (pss_one (ps_set (i := 1) sc_60.nd rfl (.inl rfl) (pe_op op_cat (pv 1) (pe_cc c__law_tasks hr (by rfl) (pa_cons (pv 2) pa_nil))))))
      (pss_one (ps_ret (pv 1)))))), ?_⟩
    cases z with
    | t i =>
      refine s_if1 (b := true) C (EvT.at (et_B (ev_is (ev_isInt (d := .int i) (ev_var rfl)) rfl)) C.low) (fun _ H1 C1 => ?_) (fun h => nomatch h)
      exact s_end C1 (fun _ h => h) (Ev.at (ev_lst (ea_cons (ev_var rfl) ea_nil) (show 1 ≤ 1000 by decide)) C1.low) q
    | n w ps =>
      obtain ⟨g1, g2⟩ := okP_n.mp h1
      have h3 : (tasksL ps).length ≤ 1000 := h3
      have h2 : depthL ps + 1 < d + 1 := h2
      have hps : ps.length ≤ 1000 := Nat.le_trans (tasksL_len ps (okL_all.mpr g2)) h3
      refine s_if1 (b := false) C (EvT.at (et_B (ev_is (ev_isInt (ev_var rfl)) (by rw [plD_n]; rfl))) C.low) (fun h => nomatch h) fun _ H1 C1 => ?_
      refine s_setq C1 (Ev.at (ev_lst ea_nil (show 0 ≤ 1000 by decide)) C1.en) fun σ2 H2 C2 => ?_
      refine s_forq (is := [2]) (ds := ps.map plD) C2 (EvI.at (ei_tup (ev_op (x := .tuple [.str (wd w), .tuple (ps.map plD)]) (ev_var (by rw [← plD_n]; rfl)) ev_int (rv_ixT atI_1))) C2.en)
        (fun i O G => O = [] ∧ ∃ z2, G = [some (.d (plD (.n w ps))), some (.d (intsL (tasksL (ps.take i)))), z2]) ⟨rfl, _, rfl⟩ (fun i O' G' h => by rw [h.1]) ?_ ?_
      · rintro E1 i d1 O' G' hd ⟨rfl, z2, rfl⟩
        rw [List.getElem?_map] at hd
        cases hy : ps[i]? with
        | none => rw [hy] at hd; cases hd
        | some p =>
        rw [hy] at hd
        have ed := Option.some.inj hd
        subst ed
        have mp : p ∈ ps := List.mem_of_getElem? hy
        have tk : tasksL (ps.take (i + 1)) = tasksL (ps.take i) ++ tasks p := by
          rw [List.take_add_one, hy, tasksL_app]
          show _ ++ (tasks p ++ []) = _
          rw [List.append_nil]
        have tl : (tasksL (ps.take i)).length + (tasks p).length ≤ 1000 := by
          have e : tasksL ps = tasksL (ps.take (i + 1)) ++ tasksL (ps.drop (i + 1)) := by rw [← tasksL_app, List.take_append_drop]
          rw [e, List.length_append, tk, List.length_append] at h3
          omega
        refine ⟨_, g_name, fun σ3 H3 C3 => ?_⟩
        refine s_set C3 (Ev.at (d := intsL (tasksL (ps.take (i + 1)))) (ev_is (ev_op (x := intsL (tasksL (ps.take i))) (ev_var rfl) (ev_callF p ⟨g2 p mp, Nat.lt_of_le_of_lt (depthL_le.mp (Nat.le_refl _) p mp) (by omega), by omega⟩ (ea_cons (ev_var rfl) ea_nil)) (rv_cat (by rw [List.length_map, List.length_map]; omega))) (by rw [tk]; unfold intsL; rw [List.map_append])) C3.en) fun σ4 H4 C4 => ?_
        exact ⟨_, _, ⟨rfl, some (.d (plD p)), rfl⟩, C4⟩
      · rintro O' G' ⟨rfl, z2, rfl⟩ σ3 H3 C3
        rw [List.length_map, List.take_length] at C3
        exact s_end C3 (fun _ h => h) (Ev.at (ev_var rfl) C3.low) q
/-! relation -/
def relS : Option R3 → Str
  | none => "same"
  | some r => r.s
abbrev fRel (d : Nat) := FSpec (α := Pl × Int × Int) (fun z => okP z.1 = true ∧ depth z.1 < d ∧ (tasks z.1).length ≤ 1000 ∧ z.2.1 ∈ tasks z.1 ∧ z.2.2 ∈ tasks z.1) (fun z => [plD z.1, .int z.2.1, .int z.2.2]) (fun z => .str (relS (relPl z.1 z.2.1 z.2.2)))
theorem idx_spec {x : Int} : ∀ {ps : List Pl}, x ∈ tasksL ps → ∃ p, ps[idx x ps]? = some p ∧ x ∈ tasks p ∧ ((List.range ps.length).filter fun i => match ps[i]? with | some p => decide (x ∈ tasks p) | none => false).head? = some (idx x ps)
  | [], h => by cases h
  | p :: ps, h => by
    have hr : List.range (p :: ps).length = 0 :: (List.range ps.length).map Nat.succ := by rw [List.length_cons, List.range_succ_eq_map]
    by_cases hx : x ∈ tasks p
    · have e : idx x (p :: ps) = 0 := if_pos hx
      refine ⟨p, by rw [e]; rfl, hx, ?_⟩
      rw [hr, e, List.filter_cons]
      have : (match (p :: ps)[0]? with | some p => decide (x ∈ tasks p) | none => false) = true := decide_eq_true hx
      rw [if_pos this]
      rfl
    · have h2 : x ∈ tasks p ++ tasksL ps := h
      have h3 := (List.mem_append.mp h2).resolve_left hx
      obtain ⟨q, g1, g2, g3⟩ := idx_spec h3
      have e : idx x (p :: ps) = idx x ps + 1 := if_neg hx
      refine ⟨q, by rw [e]; exact g1, g2, ?_⟩
      rw [hr, e, List.filter_cons]
      have : (match (p :: ps)[0]? with | some p => decide (x ∈ tasks p) | none => false) = false := decide_eq_false hx
      rw [if_neg (by rw [this]; decide), List.filter_map, List.head?_map]
      have ee : ((fun i => match (p :: ps)[i]? with | some p => decide (x ∈ tasks p) | none => false) ∘ Nat.succ) = fun i => match ps[i]? with | some p => decide (x ∈ tasks p) | none => false := rfl
      rw [ee, g3]
      rfl
theorem idx_lt {x : Int} {ps : List Pl} (h : x ∈ tasksL ps) : idx x ps < ps.length := by
  obtain ⟨p, h1, _⟩ := idx_spec h
  exact (List.getElem?_eq_some_iff.mp h1).1
theorem relAt_get : ∀ {ps : List Pl} {i : Nat} {p : Pl} (x y : Int), ps[i]? = some p → relAt ps i x y = relPl p x y
  | [], _, _, _, _, h => by cases h
  | p :: ps, 0, q, x, y, h => by
    have e := Option.some.inj h
    rw [← e]
    rfl
  | p :: ps, i + 1, q, x, y, h => relAt_get (ps := ps) x y h
theorem head_at {α : Type} {l : List α} {x : α} (h : l.head? = some x) : l[0]? = some x := by
  cases l with
  | nil => cases h
  | cons y l => exact h
theorem c__law_relation {dd j : Nat} (D : DefAt K mg "_law_relation" "_law_relation" s_61 f) (B : Bi mg) (c__law_tasks : Callee P w K mg base "_law_tasks" j ["_law_plan"] (PSp K (fLTasks dd))) : ∀ d : Nat, d ≤ dd → Callee P w K mg base "_law_relation" (j + d) ["_law_plan", "_law_first", "_law_second"] (PSp K (fRel d))
  | 0, _ => callee0 D sc_61 (fun _ _ _ _ _ _ us hl => match us, hl with | [_, _, _], _ => rfl) fun z h => by have := h.2.1; omega
  | d + 1, hdd => by
    have c__law_relation := c__law_relation D B c__law_tasks d (by omega)
    replace c__law_tasks := c__law_tasks.mono (Nat.le_add_right j d)
    refine mkF D sc_61 (fun _ _ _ _ _ _ us hl => match us, hl with | [_, _, _], _ => rfl) (fun _ => rfl) fun cdv A outer s H vs Q E M z hr hp C q => ?_
    obtain ⟨z, x, y⟩ := z
    obtain ⟨h1, h2, h3, hx, hy⟩ := hp
    refine ⟨_, (pss_cons (ps_if (pt_val (pe_callB (kIsi K rfl) (by rfl) B.isinstance_ (by decide +kernel) (pa_cons (pv 0) (pa_cons (pe_bltn (v := .ty "int") (by rfl) B.int_ (by decide +kernel) rfl) pa_nil)))) (pss_one (ps_ret pe_str)) pss_nil)
      (pss_cons (ps_set (i := 3) sc_61.nd rfl (.inl rfl) (pe_lst pa_nil))
      (pss_cons (ps_for PassesOwn.never (by rfl) (kpL K rfl (pe_lst (pa_cons (pv 1) (pa_cons (pv 2) pa_nil)))) (pg_name (i := 4) sc_61.nd rfl (.inr rfl)) (pss_one (ps_expr (kBM K rfl PySem.F.plainAttrs_list PySem.F.slot_list_append PySem.F.type_list_append mt_append (pv 3) (pa_cons (pe_ix (kIx K rfl) (pe_lc (own := [("_law_at", 5)]) (by rfl) sc_61.nd (pi_range1 (by rfl) B.range_ (pa_cons (pe_callB (kLen K rfl) (by rfl) B.len_ (by decide +kernel) (pa_cons (pe_ix (kIx K rfl) (pv 0) pe_int (fun _ _ => rfl)) pa_nil)) pa_nil)) (blkOk_by (own := [("_law_at", 5)]) (N := ["_law_plan", "_law_first", "_law_second", "_law_places", "_law_task", "_law_at"]) (sc := defScope s_61) (by decide +kernel)) (fun _ _ _ _ _ => (pg_name (i := 5) sc_61.nd rfl (.inl rfl))) (fun _ _ _ _ _ => (pts_one (pt_cmpR (kIn K rfl) (pv 4) (pe_cc c__law_tasks hr (by rfl) (pa_cons (pe_ix (kIx K rfl) (pe_ix (kIx K rfl) (pv 0) pe_int (fun _ _ => rfl)) (pv 5) (fun _ _ => rfl)) pa_nil)) (by rfl)))) (fun _ _ _ _ _ => (pv 5))) pe_int (fun _ _ => rfl)) pa_nil)))))
      (pss_cons (ps_if (pt_cmpR op_eq (pe_ix (kIx K rfl) (pv 3) pe_int (fun _ _ => rfl)) (pe_ix (kIx K rfl) (pv 3) pe_int (fun _ _ => rfl)) (by rfl)) (pss_one (ps_ret (pe_cc c__law_relation hr (by rfl) (pa_cons (pe_ix (kIx K rfl) (pe_ix (kIx K rfl) (pv 0) pe_int (fun _ _ => rfl)) (pe_ix (kIx K rfl) (pv 3) pe_int (fun _ _ => rfl)) (fun _ _ => rfl)) (pa_cons (pv 1) (pa_cons (pv 2) pa_nil)))))) pss_nil)
      (pss_cons (ps_if (pt_cmpR op_eq (pe_ix (kIx K rfl) (pv 0) pe_int (fun _ _ => rfl)) pe_str (by rfl)) (pss_one (ps_ret pe_str)) pss_nil)
      (pss_one (ps_ret (pe_ix (kIx K rfl) (pe_lst (pa_cons pe_str (pa_cons pe_str pa_nil))) (pe_callTy call_int1 (by rfl) B.int_ (by decide +kernel) (pa_cons (pe_cmpR op_lt (pe_ix (kIx K rfl) (pv 3) pe_int (fun _ _ => rfl)) (pe_ix (kIx K rfl) (pv 3) pe_int (fun _ _ => rfl)) (by rfl)) pa_nil)) (fun _ _ => rfl))))))))), ?_⟩
    cases z with
    | t i =>
      refine s_if1 (b := true) C (EvT.at (et_B (ev_is (ev_isInt (d := .int i) (ev_var rfl)) rfl)) C.low) (fun _ H1 C1 => ?_) (fun h => nomatch h)
      exact s_end C1 (fun _ h => h) (Ev.at ev_str C1.low) q
    | n w ps =>
      obtain ⟨g1, g2⟩ := okP_n.mp h1
      have h3 : (tasksL ps).length ≤ 1000 := h3
      have h2 : depthL ps + 1 < d + 1 := h2
      have hx : x ∈ tasksL ps := hx
      have hy : y ∈ tasksL ps := hy
      have hps : ps.length ≤ 1000 := Nat.le_trans (tasksL_len ps (okL_all.mpr g2)) h3
      have pd : ∀ p, p ∈ ps → okP p = true ∧ depth p < d ∧ (tasks p).length ≤ 1000 := fun p mp => ⟨g2 p mp, Nat.lt_of_le_of_lt (depthL_le.mp (Nat.le_refl _) p mp) (by omega), Nat.le_trans (part_len mp) h3⟩
      have v0 : ∀ {G : Gm}, G[0]? = some (some (.d (plD (.n w ps)))) → Ev K (tVar 0) G (.tuple [.str (wd w), .tuple (ps.map plD)]) := fun {G} h => ev_var (by rw [← plD_n]; exact h)
      refine s_if1 (b := false) C (EvT.at (et_B (ev_is (ev_isInt (ev_var rfl)) (by rw [plD_n]; rfl))) C.low) (fun h => nomatch h) fun _ H1 C1 => ?_
      refine s_newq C1 fun p1 σ2 H2 C2 => ?_
      refine s_forq (is := [4]) (ds := [x, y].map PyData.int) C2 (EvI.at (ei_list (ev_lst (ea_cons (ev_var rfl) (ea_cons (ev_var rfl) ea_nil)) (show 2 ≤ 1000 by decide))) C2.en)
        (fun i O G => O = [(p1, .lst (([x, y].take i).map fun t => .int (idx t ps : Nat)))] ∧ ∃ z4, G = [some (.d (plD (.n w ps))), some (.d (.int x)), some (.d (.int y)), some (.r (.ref p1)), z4, none]) ⟨rfl, _, rfl⟩ (fun i O' G' h => by rw [h.1]; rfl) ?_ ?_
      · rintro E1 i d1 O' G' hd ⟨rfl, z4, rfl⟩
        rw [List.getElem?_map] at hd
        cases hi : [x, y][i]? with
        | none => rw [hi] at hd; cases hd
        | some t =>
        rw [hi] at hd
        have ed := Option.some.inj hd
        subst ed
        have ht : t ∈ tasksL ps := by
          rcases List.mem_cons.mp (List.mem_of_getElem? hi) with e | m
          · rw [e]; exact hx
          · rw [List.mem_singleton.mp m]; exact hy
        obtain ⟨pt, k1, k2, k3⟩ := idx_spec ht
        have tl : ([x, y].take i).length ≤ 2 := by
          rw [List.length_take]
          exact Nat.min_le_right _ _
        refine ⟨_, g_name, fun σ3 H3 C3 => ?_⟩
        refine s_append (d := .int (idx t ps : Nat)) C3 rfl (by rw [List.length_map]; omega) (Ev.at (ev_op (ev_lc (is := [5]) (List.range ps.length) (fun (i : Nat) => PyData.int i) (fun i => match ps[i]? with | some p => decide (t ∈ tasks p) | none => false) (fun (i : Nat) => PyData.int i) (ei_rng (n := ps.length) (ea_cons (ev_is (ev_lenT (ev_op (v0 rfl) ev_int (rv_ixT atI_1))) (by rw [List.length_map])) ea_nil) (by omega)) (fun i h => h) (fun i hi => ?_) (by rw [List.length_range]; omega)) ev_int (rv_ixL (atI_nat (j := 0) (by rw [List.getElem?_map, head_at k3]; rfl)))) C3.en) fun H4 C4 => ?_
        · have hi := List.mem_range.mp hi
          have hg : ps[i]? = some ps[i] := List.getElem?_eq_getElem hi
          refine ⟨_, g_name, et_is (et_test (ev_op (ev_var rfl) (ev_callF ps[i] ⟨(pd _ (List.getElem_mem hi)).1, by have := (pd _ (List.getElem_mem hi)).2.1; omega, (pd _ (List.getElem_mem hi)).2.2⟩ (ea_cons (ev_op (ev_op (v0 rfl) ev_int (rv_ixT atI_1)) (ev_var rfl) (rv_ixT (atI_nat (by rw [List.getElem?_map, hg]; rfl)))) ea_nil)) rv_inIL)) (by rw [hg]), fun _ => ev_var rfl⟩
        · refine ⟨_, _, ⟨by rw [List.take_add_one, hi, List.map_append]; rfl, some (.d (.int t)), rfl⟩, C4⟩
      · rintro O' G' ⟨rfl, z4, rfl⟩ σ3 H3 C3
        have v3 : Ev K (tVar 3) [some (.d (plD (.n w ps))), some (.d (.int x)), some (.d (.int y)), some (.d (.list [.int (idx x ps : Nat), .int (idx y ps : Nat)])), z4, none] (.list [.int (idx x ps : Nat), .int (idx y ps : Nat)]) := ev_var rfl
        have ee : (([x, y].take ([x, y].map PyData.int).length).map fun t => PyData.int (idx t ps : Nat)) = [.int (idx x ps : Nat), .int (idx y ps : Nat)] := rfl
        have vw : ∀ {σ' : L2.St} {H' : Hp} (C : S K M (fun _ => False) H [(p1, .lst (([x, y].take ([x, y].map PyData.int).length).map fun t => PyData.int (idx t ps : Nat)))] [some (.d (plD (.n w ps))), some (.d (.int x)), some (.d (.int y)), some (.r (.ref p1)), z4, none] [] σ' H'), En K M H' σ' [some (.d (plD (.n w ps))), some (.d (.int x)), some (.d (.int y)), some (.d (.list [.int (idx x ps : Nat), .int (idx y ps : Nat)])), z4, none] := fun {σ' H'} C => C.view (i := 3) rfl List.mem_cons_self (fun z => z)
        refine s_if1 (b := decide (((idx x ps : Nat) : Int) = ((idx y ps : Nat) : Int))) C3 (EvT.at (et_test (ev_op (ev_op v3 ev_int (rv_ixL atI_0)) (ev_op v3 ev_int (rv_ixL atI_1)) rv_eqI)) (vw C3)) (fun hb H4 C4 => ?_) fun hb H4 C4 => ?_
        · have hb := of_decide_eq_true hb
          have hb : idx x ps = idx y ps := by omega
          obtain ⟨p, k1, k2, _⟩ := idx_spec hx
          obtain ⟨p2, k3, k4, _⟩ := idx_spec hy
          rw [← hb, k1] at k3
          have e := Option.some.inj k3
          subst e
          have mp := List.mem_of_getElem? k1
          have er : relPl (.n w ps) x y = relPl p x y := by
            rw [relPl, if_pos hb, relAt_get x y k1]
          have q : ∀ w2 H2, Same H H2 → Rep K M H2 w2 (.str (relS (relPl (.n w ps) x y))) → Q w2 H2 := q
          rw [er] at q
          exact s_end C4 (fun _ h => h) (Ev.at (ev_callF (p, x, y) ⟨(pd p mp).1, (pd p mp).2.1, (pd p mp).2.2, k2, k4⟩ (ea_cons (ev_op (ev_op (v0 rfl) ev_int (rv_ixT atI_1)) (ev_op v3 ev_int (rv_ixL atI_0)) (rv_ixT (atI_nat (by rw [List.getElem?_map, k1]; rfl)))) (ea_cons (ev_var rfl) (ea_cons (ev_var rfl) ea_nil)))) (vw C4)) q
        · have hb := of_decide_eq_false hb
          have hb : idx x ps ≠ idx y ps := by omega
          have er : relPl (.n w ps) x y = if w then (if idx x ps < idx y ps then some .b else some .a) else some .e := by
            unfold relPl
            rw [if_neg hb]
          have q : ∀ w2 H2, Same H H2 → Rep K M H2 w2 (.str (relS (relPl (.n w ps) x y))) → Q w2 H2 := q
          rw [er] at q
          refine s_if1 (b := !w) C4 (EvT.at (et_is (et_test (ev_op (ev_op (v0 rfl) ev_int (rv_ixT atI_0)) ev_str rv_eqS)) (wd_ne w)) (vw C4)) (fun hw H5 C5 => ?_) fun hw H5 C5 => ?_
          · have e : w = false := by cases w <;> first | rfl | cases hw
            subst e
            exact s_end C5 (fun _ h => h) (Ev.at ev_str C5.low) q
          · have e : w = true := by cases w <;> first | rfl | cases hw
            subst e
            refine s_end C5 (fun _ h => h) (Ev.at (ev_op (ev_lst (ea_cons ev_str (ea_cons ev_str ea_nil)) (show 2 ≤ 1000 by decide)) (ev_cb (ea_cons (ev_op (ev_op v3 ev_int (rv_ixL atI_0)) (ev_op v3 ev_int (rv_ixL atI_1)) rv_lt) ea_nil) rc_intB) (rv_ixL ?_)) (vw C5)) q
            rw [dec_lt]
            by_cases hlt : idx x ps < idx y ps
            · rw [if_pos rfl, if_pos hlt, decide_eq_true hlt]
              exact atI_1
            · rw [if_pos rfl, if_neg hlt, decide_eq_false hlt]
              exact atI_0
/-! relations, opposite -/
abbrev fRels := FSpec (α := Unit) (fun _ => True) (fun _ => []) (fun _ => .list (wds R3.all))
theorem c__law_relations (D : DefAt K mg "_law_relations" "_law_relations" s_64 f) : Callee P w K mg base "_law_relations" (k + 1) [] (PSp K fRels) := by
  refine mkF D sc_64 (fun _ _ _ _ _ _ us hl => match us, hl with | [], _ => rfl) (fun _ => rfl) fun cdv A outer s H vs Q E M z hr hp C q => ?_
  refine ⟨_, (pss_one (ps_ret (pe_lst (pa_cons pe_str (pa_cons pe_str (pa_cons pe_str pa_nil)))))), ?_⟩
  exact s_end C (fun _ h => h) (Ev.at (ev_lst (ea_cons ev_str (ea_cons ev_str (ea_cons ev_str ea_nil))) (show 3 ≤ 1000 by decide)) C.low) q
theorem c__law_opposite (D : DefAt K mg "_law_opposite" "_law_opposite" s_65 f) (c__law_relations : Callee P w K mg base "_law_relations" k [] (PSp K fRels)) : Callee P w K mg base "_law_opposite" (k + 1) ["_law_relation_here"] (PSp K fOpposite) := by
  refine mkF D sc_65 (fun _ _ _ _ _ _ us hl => match us, hl with | [_], _ => rfl) (fun _ => rfl) fun cdv A outer s H vs Q E M r hr hp C q => ?_
  refine ⟨_, (pss_one (ps_ret (pe_ix (kIx K rfl) (pe_lst (pa_cons pe_str (pa_cons pe_str (pa_cons pe_str pa_nil)))) (kBM K rfl PySem.F.plainAttrs_list PySem.F.slot_list_index PySem.F.type_list_index (kIdx K rfl) (pe_cc0 c__law_relations hr (by rfl)) (pa_cons (pv 0) pa_nil)) (fun _ _ => rfl)))), ?_⟩
  have key : ∀ j : Nat, (R3.all.map R3.s)[j]? = some r.s → (∀ m, m < j → (R3.all.map R3.s)[m]? ≠ some r.s) → atI [PyData.str "after", .str "beside", .str "before"] (j : Int) = some (.str r.opp.s) → Ev K (tOp (rIx K) (tLst (tCons (tC (.str "after")) (tCons (tC (.str "beside")) (tCons (tC (.str "before")) tNil)))) (tBM K "list" (rIndex K) (tCall (PSp K fRels) [] E0 tNil) (tCons (tVar 0) tNil))) (gStart 1 [.str r.s]) (.str r.opp.s) := fun j h1 h2 h3 =>
    ev_op (ev_lst (ea_cons ev_str (ea_cons ev_str (ea_cons ev_str ea_nil))) (show 3 ≤ 1000 by decide)) (ev_idxS (ns := R3.all.map R3.s) (ev_callF () trivial ea_nil) (ev_var rfl) h1 h2) (rv_ixL h3)
  refine s_end C (fun _ h => h) (Ev.at ?_ C.low) q
  cases r with
  | b => exact key 0 rfl (fun m h => absurd h (Nat.not_lt_zero m)) atI_0
  | e =>
    refine key 1 rfl (fun m h => ?_) atI_1
    have e : m = 0 := by omega
    subst e
    decide
  | a =>
    refine key 2 rfl (fun m h => ?_) atI_2
    have e : m = 0 ∨ m = 1 := by omega
    rcases e with rfl | rfl <;> decide
end
end Tb
set_option Elab.async false
set_option linter.all false
set_option maxRecDepth 100000
set_option maxHeartbeats 4000000
/-! ## The law's own defs: allowed, sets, grounds -/
namespace Tb
open PySem PySem.Spec PyProof.Rows PySem.W L2
abbrev s_68 : Stmt := top 68
theorem sc_68 : FnScope ["_law_problem_here", "_law_first", "_law_second", "_law_found", "_law_one", "_law_relations_here", "_law_other", "_law_relation_here"] ["_law_problem_here", "_law_first", "_law_second"] (defScope s_68) := ⟨rfl, rfl, rfl, by decide +kernel, rfl, by decide +kernel, by decide +kernel⟩
abbrev s_71 : Stmt := top 71
theorem sc_71 : FnScope ["_law_problem_here", "_law_collection", "_law_at"] ["_law_problem_here", "_law_collection"] (defScope s_71) := ⟨rfl, rfl, rfl, by decide +kernel, rfl, by decide +kernel, by decide +kernel⟩
abbrev s_72 : Stmt := top 72
theorem sc_72 : FnScope ["_law_collection", "_law_index", "_law_at"] ["_law_collection", "_law_index"] (defScope s_72) := ⟨rfl, rfl, rfl, by decide +kernel, rfl, by decide +kernel, by decide +kernel⟩
abbrev s_74 : Stmt := top 74
theorem sc_74 : FnScope ["_law_problem_here", "_law_chosen", "_law_start", "_law_relation_here", "_law_met", "_law_turn", "_law_other"] ["_law_problem_here", "_law_chosen", "_law_start", "_law_relation_here"] (defScope s_74) := ⟨rfl, rfl, rfl, by decide +kernel, rfl, by decide +kernel, by decide +kernel⟩
abbrev s_75 : Stmt := top 75
theorem sc_75 : FnScope ["_law_value", "_law_size", "_law_one", "_law_k"] ["_law_value", "_law_size"] (defScope s_75) := ⟨rfl, rfl, rfl, by decide +kernel, rfl, by decide +kernel, by decide +kernel⟩
abbrev s_76 : Stmt := top 76
theorem sc_76 : FnScope ["_law_problem_here", "_law_chosen", "_law_one"] ["_law_problem_here", "_law_chosen"] (defScope s_76) := ⟨rfl, rfl, rfl, by decide +kernel, rfl, by decide +kernel, by decide +kernel⟩
abbrev s_77 : Stmt := top 77
theorem sc_77 : FnScope ["_law_problem_here", "_law_collection", "_law_index", "_law_first", "_law_relations_here", "_law_second", "_law_others", "_law_one"] ["_law_problem_here", "_law_collection", "_law_index"] (defScope s_77) := ⟨rfl, rfl, rfl, by decide +kernel, rfl, by decide +kernel, by decide +kernel⟩
abbrev s_78 : Stmt := top 78
theorem sc_78 : FnScope ["_law_problem_here", "_law_collection", "_law_index", "_law_value", "_law_against_here", "_law_k"] ["_law_problem_here", "_law_collection", "_law_index", "_law_value"] (defScope s_78) := ⟨rfl, rfl, rfl, by decide +kernel, rfl, by decide +kernel, by decide +kernel⟩
theorem eqv_pair (a b c d : Int) : PyData.eqv (.tuple [.int a, .int b]) (.tuple [.int c, .int d]) = (decide (a = c) && decide (b = d)) := by
  have e : ∀ i j : Int, PyData.eqv (.int i) (.int j) = decide (i = j) := fun i j => by
    show (i == j) = _
    rw [Bool.eq_iff_iff]
    simp
  show (PyData.eqv (.int a) (.int c) && (PyData.eqv (.int b) (.int d) && true)) = _
  rw [e, e, Bool.and_true]
theorem ei_rngI {K : PySem.W.Frag} {G : Gm} {as : TA} {i : Int} (h : EvA K as G [.int i]) (h1 : -100000 ≤ i) (h2 : i ≤ 100000) : EvI K (iRng1 as) G (rgD i.toNat) := fun M σ H e R q =>
  h M σ H e _ fun vs H1 s1 r1 => by
    cases r1 with
    | cons r t =>
      cases t
      have e1 := r.int_inv
      subst e1
      refine ⟨i, rfl, by omega, by omega, q _ H1 [] s1 (fun p hp => by cases hp) ⟨fun M2 H2 j _ hi => ?_, fun M2 H2 j x H3 mo _ hi hy => ?_, fun M2 H2 _ => ?_⟩⟩
      · rw [rgD_len] at hi
        exact hi
      · obtain ⟨rfl, rfl⟩ := hy
        rw [rgD_len] at hi
        refine ⟨Same.refl _, .int (j : Nat), rgD_get hi, ?_⟩
        rw [Int.zero_add]
        exact .int _
      · show i.toNat ≤ (rgD i.toNat).length
        rw [rgD_len]
        exact Nat.le_refl _
section
variable {P : Program} {w : World} {K : PySem.W.Frag} {mg : Str → Option Value} {base : Heap} {k : Nat} {f aR aO : Addr}
theorem c__law_allowed (D : DefAt K mg "_law_allowed" "_law_allowed" s_68 f) (B : Bi mg) (c__law_relations : Callee P w K mg base "_law_relations" k [] (PSp K fRels)) (c__law_opposite : Callee P w K mg base "_law_opposite" k ["_law_relation_here"] (PSp K fOpposite)) :
    Callee P w K mg base "_law_allowed" (k + 1) ["_law_problem_here", "_law_first", "_law_second"] (PSp K fAllowedOf) := by
  refine mkF D sc_68 (fun _ _ _ _ _ _ us hl => match us, hl with | [_, _, _], _ => rfl) (fun _ => rfl) fun cdv A outer s H vs Q E M z hr hp C q => ?_
  obtain ⟨p, x, y⟩ := z
  have hp : ProbOk p := hp
  refine ⟨_, (pss_cons (ps_set (i := 3) sc_68.nd rfl (.inl rfl) (pe_cc0 c__law_relations hr (by rfl)))
      (pss_cons (ps_for PassesOwn.never (by rfl) (kpT K rfl (pe_ix (kIx K rfl) (pv 0) pe_int (fun _ _ => rfl))) (kgT 3 K rfl (by rfl) (pgs_cons (pg_name (i := 4) sc_68.nd rfl (.inl rfl)) (pgs_cons (pg_name (i := 5) sc_68.nd rfl (.inr rfl)) (pgs_cons (pg_name (i := 6) sc_68.nd rfl (.inl rfl)) pgs_nil)))) (pss_cons (ps_if (pt_cmpR (kEqD K rfl hr.units) (pe_tup (pa_cons (pv 4) (pa_cons (pv 6) pa_nil))) (pe_tup (pa_cons (pv 1) (pa_cons (pv 2) pa_nil))) (by rfl)) (pss_one (ps_setLc (i := 3) (own := [("_law_relation_here", 7)]) (by rfl) sc_68.nd rfl rfl (sw_true rfl rfl rfl (by decide +kernel)) (kpL K rfl (pv 3)) (blkOk_by (own := [("_law_relation_here", 7)]) (N := ["_law_problem_here", "_law_first", "_law_second", "_law_found", "_law_one", "_law_relations_here", "_law_other", "_law_relation_here"]) (sc := defScope s_68) (by decide +kernel)) (fun _ _ _ _ _ => (pg_name (i := 7) sc_68.nd rfl (.inl rfl))) (fun _ _ _ _ _ => (pts_one (pt_cmpR (kIn K rfl) (pv 7) (pv 5) (by rfl)))) (fun _ _ _ _ _ => (pv 7)))) pss_nil)
      (pss_one (ps_if (pt_cmpR (kEqD K rfl hr.units) (pe_tup (pa_cons (pv 4) (pa_cons (pv 6) pa_nil))) (pe_tup (pa_cons (pv 2) (pa_cons (pv 1) pa_nil))) (by rfl)) (pss_one (ps_setLc (i := 3) (own := [("_law_relation_here", 7)]) (by rfl) sc_68.nd rfl rfl (sw_true rfl rfl rfl (by decide +kernel)) (kpL K rfl (pv 3)) (blkOk_by (own := [("_law_relation_here", 7)]) (N := ["_law_problem_here", "_law_first", "_law_second", "_law_found", "_law_one", "_law_relations_here", "_law_other", "_law_relation_here"]) (sc := defScope s_68) (by decide +kernel)) (fun _ _ _ _ _ => (pg_name (i := 7) sc_68.nd rfl (.inl rfl))) (fun _ _ _ _ _ => (pts_one (pt_cmpR (kIn K rfl) (pe_cc c__law_opposite hr (by rfl) (pa_cons (pv 7) pa_nil)) (pv 5) (by rfl)))) (fun _ _ _ _ _ => (pv 7)))) pss_nil))))
      (pss_one (ps_ret (pe_callTy (kTupC K rfl) (by rfl) B.tuple_ (by decide +kernel) (pa_cons (pv 3) pa_nil)))))), ?_⟩
  refine s_setq C (Ev.at (ev_callF () trivial ea_nil) C.en) fun σ1 H1 C1 => ?_
  refine s_forq (is := [4] ++ ([5] ++ ([6] ++ []))) (ds := p.rs.map rlD) C1 (EvI.at (ei_tup (ev_op (ev_var rfl) ev_int (rv_ixT atI_1))) C1.en)
    (fun i O G => O = [] ∧ ∃ z4 z5 z6, G = [some (.d (pbD p)), some (.d (.int x)), some (.d (.int y)), some (.d (.list (wds (R3.all.filter (alR (p.rs.take i) x y))))), z4, z5, z6, none]) ⟨rfl, none, none, none, ?_⟩ (fun _ O' _ h => by rw [h.1]) ?_ ?_
  · rw [List.take_zero]
    rfl
  · rintro E1 i d O' G' hd ⟨rfl, z4, z5, z6, rfl⟩
    rw [List.getElem?_map] at hd
    cases hq : p.rs[i]? with
    | none => rw [hq] at hd; cases hd
    | some rl =>
    rw [hq] at hd
    have ed := Option.some.inj hd
    subst ed
    have hrl : RuleOk p.n rl := hp.rs rl (List.mem_of_getElem? hq)
    have l3 : rl.al.length ≤ 3 := by rw [hrl.al]; exact R3.all_len _
    refine ⟨_, g_tup (gs_cons g_name (gs_cons g_name (gs_cons g_name gs_nil))) rfl, fun σ2 H2 C2 => ?_⟩
    have fin : ∀ al : List R3, al = (R3.all.filter (alR (p.rs.take i) x y)).filter (fun r => alQ rl x y r) → al = R3.all.filter (alR (p.rs.take (i + 1)) x y) := fun al h => by
      rw [h, List.filter_filter]
      refine List.filter_congr fun r _ => ?_
      rw [alR_take hq, Bool.and_comm]
    -- behind the first if: what stands at 3
    have two : ∀ (b1 : Bool) (al : List R3) {σ : L2.St} {H3 : Hp}, b1 = (decide (rl.x = x) && decide (rl.y = y)) → al.length ≤ 3 → al = (R3.all.filter (alR (p.rs.take i) x y)).filter (fun r => !b1 || decide (r ∈ rl.al)) →
        S K M (fun _ => False) H [] [some (.d (pbD p)), some (.d (.int x)), some (.d (.int y)), some (.d (.list (wds al))), some (.d (.int rl.x)), some (.d (.tuple (wds rl.al))), some (.d (.int rl.y)), none] (E1 ++ []) σ H3 →
        ∀ (Dn : Ends), (∀ {σ5 : L2.St} {H5 : Hp} (al5 : List R3), al5 = (R3.all.filter (alR (p.rs.take i) x y)).filter (fun r => alQ rl x y r) → S K M (fun _ => False) H [] [some (.d (pbD p)), some (.d (.int x)), some (.d (.int y)), some (.d (.list (wds al5))), some (.d (.int rl.x)), some (.d (.tuple (wds rl.al))), some (.d (.int rl.y)), none] (E1 ++ []) σ5 H5 → Dn.nx σ5 H5) →
        tIfS (tTest (tOp (rEqD K) (tTup (tCons (tVar 4) (tCons (tVar 6) tNil))) (tTup (tCons (tVar 2) (tCons (tVar 1) tNil))))) (tAsg (tLc (iList K (tVar 3)) (gName 7) (tTest (tOp (rIn K false) (tCall (PSp K fOpposite) [] E0 (tCons (tVar 7) tNil)) (tVar 5))) (tVar 7) [7]) (gName 3)) tNext Dn σ H3 := fun b1 al {σ H3} hb1 hl hal C3 Dn k => by
      refine s_if (b := decide (rl.x = y) && decide (rl.y = x)) C3 (EvT.at (et_test (ev_op (ev_tup (ea_cons (ev_var rfl) (ea_cons (ev_var rfl) ea_nil)) (show 2 ≤ 1000 by decide)) (ev_tup (ea_cons (ev_var rfl) (ea_cons (ev_var rfl) ea_nil)) (show 2 ≤ 1000 by decide)) (rv_eqD rfl rfl rfl rfl (eqv_pair _ _ _ _)))) C3.en) (fun b2 H5 C5 => ?_) fun b2 H5 C5 => ?_
      · refine s_set C5 (Ev.at (d := .list (wds (al.filter fun r => decide (r.opp ∈ rl.al)))) (ev_is (ev_lc (is := [7]) al (fun r => .str r.s) (fun r => decide (r.opp ∈ rl.al)) (fun r => .str r.s) (ei_list (by rw [← wds_eq]; exact ev_var rfl)) (fun i h => h) (fun r hr => ⟨_, g_name, et_test (ev_op (ev_callF r trivial (ea_cons (ev_var rfl) ea_nil)) (ev_var rfl) rv_inRT), fun _ => ev_var rfl⟩) (by omega)) (by rw [← wds_eq])) C5.en) fun σ6 H6 C6 => ?_
        refine k (al.filter fun r => decide (r.opp ∈ rl.al)) ?_ C6
        rw [hal, List.filter_filter]
        refine List.filter_congr fun r _ => ?_
        unfold alQ
        rw [b2, hb1, Bool.and_comm]
        rfl
      · refine k al ?_ C5
        rw [hal]
        refine List.filter_congr fun r _ => ?_
        unfold alQ
        rw [b2, hb1]
        exact (Bool.and_true _).symm
    refine s_seq (s_if (b := decide (rl.x = x) && decide (rl.y = y)) C2 (EvT.at (et_test (ev_op (ev_tup (ea_cons (ev_var rfl) (ea_cons (ev_var rfl) ea_nil)) (show 2 ≤ 1000 by decide)) (ev_tup (ea_cons (ev_var rfl) (ea_cons (ev_var rfl) ea_nil)) (show 2 ≤ 1000 by decide)) (rv_eqD rfl rfl rfl rfl (eqv_pair _ _ _ _)))) C2.en) (fun b1 H3 C3 => ?_) fun b1 H3 C3 => ?_)
    · refine s_set C3 (Ev.at (d := .list (wds ((R3.all.filter (alR (p.rs.take i) x y)).filter fun r => decide (r ∈ rl.al)))) (ev_is (ev_lc (is := [7]) (R3.all.filter (alR (p.rs.take i) x y)) (fun r => .str r.s) (fun r => decide (r ∈ rl.al)) (fun r => .str r.s) (ei_list (by rw [← wds_eq]; exact ev_var rfl)) (fun i h => h) (fun r hr => ⟨_, g_name, et_test (ev_op (ev_var rfl) (ev_var rfl) rv_inRT), fun _ => ev_var rfl⟩) (by have := R3.all_len (alR (p.rs.take i) x y); omega)) (by rw [← wds_eq])) C3.en) fun σ4 H4 C4 => ?_
      refine two true _ b1.symm (Nat.le_trans (List.length_filter_le _ _) (R3.all_len _)) ?_ C4 _ fun al5 e5 C5 => ?_
      · rfl
      · rw [fin al5 e5] at C5
        exact ⟨_, _, ⟨rfl, _, _, _, rfl⟩, C5⟩
    · refine two false (R3.all.filter (alR (p.rs.take i) x y)) b1.symm (R3.all_len _) ?_ C3 _ fun al5 e5 C5 => ?_
      · exact (List.filter_eq_self.mpr fun _ _ => rfl).symm
      · rw [fin al5 e5] at C5
        exact ⟨_, _, ⟨rfl, _, _, _, rfl⟩, C5⟩
  · rintro O' G' ⟨rfl, z4, z5, z6, rfl⟩ σ2 H2 C2
    refine s_end C2 (fun _ h => h) (Ev.at (ev_cb (ea_cons (ev_var rfl) ea_nil) rc_tupL) C2.low) ?_
    rw [List.length_map, List.take_length]
    exact q
theorem c__law_by (D : DefAt K mg "_law_by" "_law_by" s_71 f) (B : Bi mg) : Callee P w K mg base "_law_by" (k + 1) ["_law_problem_here", "_law_collection"] (PSp K fProbBy) := by
  refine mkF D sc_71 (fun _ _ _ _ _ _ us hl => match us, hl with | [_, _], _ => rfl) (fun _ => rfl) fun cdv A outer s H vs Q E M z hr hp C q => ?_
  obtain ⟨p, ixs⟩ := z
  obtain ⟨h1, h2⟩ := hp
  have h2 : ixs.length ≤ 1000 := h2
  refine ⟨_, (pss_one (ps_ret (pe_tup (pa_cons (pe_ix (kIx K rfl) (pv 0) pe_int (fun _ _ => rfl)) (pa_cons (pe_callTy (kTupC K rfl) (by rfl) B.tuple_ (by decide +kernel) (pa_cons (pe_lc (own := [("_law_at", 2)]) (by rfl) sc_71.nd (kpT K rfl (pv 1)) (blkOk_by (own := [("_law_at", 2)]) (N := ["_law_problem_here", "_law_collection", "_law_at"]) (sc := defScope s_71) (by decide +kernel)) (fun _ _ _ _ _ => (pg_name (i := 2) sc_71.nd rfl (.inl rfl))) (fun _ _ _ _ _ => pts_nil) (fun _ _ _ _ _ => (pe_ix (kIx K rfl) (pe_ix (kIx K rfl) (pv 0) pe_int (fun _ _ => rfl)) (pv 2) (fun _ _ => rfl)))) pa_nil)) pa_nil))))), ?_⟩
  refine s_end C (fun _ h => h) (Ev.at (ev_is (ev_tup (ea_cons (ev_op (ev_var rfl) ev_int (rv_ixT atI_0)) (ea_cons (ev_cb (ea_cons (ev_lc1 (is := [2]) ixs (fun (i : Nat) => PyData.int i) (fun i => rlD (p.rs.getD i r0)) (ei_tup (ev_var rfl)) (fun i h => h) (fun i hi => ⟨_, g_name, ev_op (ev_op (ev_var rfl) ev_int (rv_ixT atI_1)) (ev_var rfl) (rv_ixT (rule_at (h1 i hi)))⟩) (by omega)) ea_nil) rc_tupL) ea_nil)) (show 2 ≤ 1000 by decide)) ?_) C.low) q
  show PyData.tuple [.int p.n, .tuple (ixs.map fun i => rlD (p.rs.getD i r0))] = .tuple [.int p.n, .tuple ((ixs.map fun i => p.rs.getD i r0).map rlD)]
  rw [List.map_map]
  rfl
theorem c__law_less (D : DefAt K mg "_law_less" "_law_less" s_72 f) (B : Bi mg) : Callee P w K mg base "_law_less" (k + 1) ["_law_collection", "_law_index"] (PSp K fLess) := by
  refine mkF D sc_72 (fun _ _ _ _ _ _ us hl => match us, hl with | [_, _], _ => rfl) (fun _ => rfl) fun cdv A outer s H vs Q E M z hr hp C q => ?_
  obtain ⟨m, i⟩ := z
  have hp : m ≤ 1000 := hp
  refine ⟨_, (pss_one (ps_ret (pe_callTy (kTupC K rfl) (by rfl) B.tuple_ (by decide +kernel) (pa_cons (pe_lc (own := [("_law_at", 2)]) (by rfl) sc_72.nd (kpT K rfl (pv 0)) (blkOk_by (own := [("_law_at", 2)]) (N := ["_law_collection", "_law_index", "_law_at"]) (sc := defScope s_72) (by decide +kernel)) (fun _ _ _ _ _ => (pg_name (i := 2) sc_72.nd rfl (.inl rfl))) (fun _ _ _ _ _ => (pts_one (pt_cmpR op_ne (pv 2) (pv 1) (by rfl)))) (fun _ _ _ _ _ => (pv 2))) pa_nil)))), ?_⟩
  exact s_end C (fun _ h => h) (Ev.at (ev_cb (ea_cons (ev_lc (is := [2]) (List.range m) (fun (i : Nat) => PyData.int i) (fun j => !decide ((j : Int) = (i : Int))) (fun (i : Nat) => PyData.int i) (ei_tup (ev_var rfl)) (fun i h => h) (fun j hj => ⟨_, g_name, et_test (ev_op (ev_var rfl) (ev_var rfl) rv_neI), fun _ => ev_var rfl⟩) (by rw [List.length_range]; omega)) ea_nil) rc_tupL) C.low) q
/-! reaches -/
def lead (p : Prob) (r : R3) (x y : Int) : Bool := !alR p.rs x y r
abbrev fReaches := FSpec (α := Prob × List Int × Int × R3) (fun z => ProbOk z.1 ∧ z.2.1.Pairwise (· < ·) ∧ z.2.1.length ≤ 7 ∧ z.2.2.1 ∈ z.2.1) (fun z => [pbD z.1, setD z.2.1, .int z.2.2.1, .str z.2.2.2.s]) (fun z => .bool (decide ((rch (lead z.1 z.2.2.2) z.2.1 z.2.2.1).length = z.2.1.length)))
theorem reach_len {l : Int → Int → Bool} {s : List Int} {t : Int} {fs : List Int} (hs : s.Pairwise (· < ·)) (I : RInv l s t [] fs none []) : (rch l s t).length = fs.length := by
  have e := reach_end (ys := fs.mergeSort fun a b => decide (a ≤ b)) hs I (List.mergeSort_perm _ _) (by
    have := List.pairwise_mergeSort (le := fun a b : Int => decide (a ≤ b)) (fun a b c h1 h2 => by
      rw [decide_eq_true_iff] at h1 h2 ⊢
      omega) (fun a b => by
      rw [Bool.or_eq_true, decide_eq_true_iff, decide_eq_true_iff]
      omega) fs
    exact this.imp fun h => of_decide_eq_true h)
  rw [← e]
  exact (List.mergeSort_perm _ _).length_eq
theorem c__law_reaches (D : DefAt K mg "_law_reaches" "_law_reaches" s_74 f) (B : Bi mg) (c__law_allowed : Callee P w K mg base "_law_allowed" k ["_law_problem_here", "_law_first", "_law_second"] (PSp K fAllowedOf)) : Callee P w K mg base "_law_reaches" (k + 1) ["_law_problem_here", "_law_chosen", "_law_start", "_law_relation_here"] (PSp K fReaches) := by
  refine mkF D sc_74 (fun _ _ _ _ _ _ us hl => match us, hl with | [_, _, _, _], _ => rfl) (fun _ => rfl) fun cdv A outer s0 H vs Q E M z hr hp C q => ?_
  obtain ⟨p, s, t, r⟩ := z
  obtain ⟨po, hs, hl, ht⟩ := hp
  have po : ProbOk p := po
  have hs : s.Pairwise (· < ·) := hs
  have hl : s.length ≤ 7 := hl
  have ht : t ∈ s := ht
  have q : ∀ w2 H2, Same H H2 → Rep K M H2 w2 (.bool (decide ((rch (lead p r) s t).length = s.length))) → Q w2 H2 := q
  refine ⟨_, (pss_cons (ps_set (i := 4) sc_74.nd rfl (.inl rfl) (pe_lst (pa_cons (pv 2) pa_nil)))
      (pss_cons (ps_for PassesOwn.never (by rfl) (pi_range1 (by rfl) B.range_ (pa_cons (pe_callB (kLen K rfl) (by rfl) B.len_ (by decide +kernel) (pa_cons (pv 1) pa_nil)) pa_nil)) (pg_name (i := 5) sc_74.nd rfl (.inl rfl)) (pss_one (ps_if (pt_cmpR op_lt (pv 5) (pe_callB (kLen K rfl) (by rfl) B.len_ (by decide +kernel) (pa_cons (pv 4) pa_nil)) (by rfl)) (pss_one (ps_for PassesOwn.never (by rfl) (kpT K rfl (pv 1)) (pg_name (i := 6) sc_74.nd rfl (.inl rfl)) (pss_one (ps_if (PW.pt (pw_and (pt_cmpR (kNi K rfl) (pv 6) (pv 4) (by rfl)) (pw_and1 (pt_cmpR (kNi K rfl) (pv 3) (pe_cc c__law_allowed hr (by rfl) (pa_cons (pv 0) (pa_cons (pe_ix (kIx K rfl) (pv 4) (pv 5) (fun _ _ => rfl)) (pa_cons (pv 6) pa_nil)))) (by rfl))))) (pss_one (ps_expr (kBM K rfl PySem.F.plainAttrs_list PySem.F.slot_list_append PySem.F.type_list_append mt_append (pv 4) (pa_cons (pv 6) pa_nil)))) pss_nil)))) pss_nil)))
      (pss_one (ps_ret (pe_cmpR op_eq (pe_callB (kLen K rfl) (by rfl) B.len_ (by decide +kernel) (pa_cons (pv 4) pa_nil)) (pe_callB (kLen K rfl) (by rfl) B.len_ (by decide +kernel) (pa_cons (pv 1) pa_nil)) (by rfl)))))), ?_⟩
  refine s_newLq C (EvA.at (ea_cons (ev_var rfl) ea_nil) C.en) (show 1 ≤ 1000 by decide) fun p1 σ1 H1 C1 => ?_
  have nd0 : s.Nodup := hs.imp fun h e => by omega
  refine s_forq (is := [5]) (ds := rgD s.length) C1 (EvI.at (ei_rng (n := s.length) (ea_cons (ev_is (ev_lenS (ev_var rfl)) rfl) ea_nil) (by omega)) C1.en)
    (fun i O G => ∃ met : List Int, O = [(p1, .lst (met.map PyData.int))] ∧ RInv (lead p r) s t (met.drop i) met none [] ∧ ∃ z5 z6, G = [some (.d (pbD p)), some (.d (setD s)), some (.d (.int t)), some (.d (.str r.s)), some (.r (.ref p1)), z5, z6])
    ⟨[t], rfl, ⟨by simp, fun x hx => by rw [List.mem_singleton.mp hx]; exact ht, List.mem_cons_self, fun x hx => hx, fun x hx => by rw [List.mem_singleton.mp hx]; exact Rch.self _ _ _, fun x hx hn => absurd hx hn, fun x hx => nomatch hx⟩, _, _, rfl⟩ (fun i O' G' h => by obtain ⟨met, rfl, _⟩ := h; rfl) ?_ ?_
  · rintro E1 i d1 O' G' hd ⟨met, rfl, I, z5, z6, rfl⟩
    have hi : i < s.length := by
      have := (List.getElem?_eq_some_iff.mp hd).1
      rw [rgD_len] at this
      exact this
    rw [rgD_get hi] at hd
    have ed := Option.some.inj hd
    subst ed
    have ml : met.length ≤ 7 := Nat.le_trans (sub_len I.nd I.sub) hl
    refine ⟨_, g_name, fun σ3 H3 C3 => ?_⟩
    refine s_if (b := decide (i < met.length)) C3 (EvT.at (et_is (et_test (ev_op (ev_var rfl) (ev_is (ev_cb (ea_cons (ev_var (i := 4) rfl) ea_nil) rc_lenL) (by rw [List.length_map])) rv_lt)) (dec_lt _ _)) (C3.view (i := 4) rfl List.mem_cons_self (fun z => z))) (fun hb H4 C4 => ?_) fun hb H4 C4 => ?_
    · have hb := of_decide_eq_true hb
      have hh : met[i]? = some met[i] := List.getElem?_eq_getElem hb
      have hdr : met.drop i = met[i] :: met.drop (i + 1) := List.drop_eq_getElem_cons hb
      refine s_for (is := [6]) (ds := s.map PyData.int) C4 (EvI.at (ei_tup (ev_var rfl)) C4.en)
        (fun j O G => ∃ met2 : List Int, O = [(p1, .lst (met2.map PyData.int))] ∧ met2[i]? = some met[i] ∧ RInv (lead p r) s t (met2.drop (i + 1)) met2 (some met[i]) (s.take j) ∧ ∃ z6, G = [some (.d (pbD p)), some (.d (setD s)), some (.d (.int t)), some (.d (.str r.s)), some (.r (.ref p1)), some (.d (.int (i : Nat))), z6])
        ⟨met, rfl, hh, ⟨I.nd, I.sub, I.tin, fun x hx => List.mem_of_mem_drop hx, I.r, fun x hx hn hc y hy e => I.cl x hx (fun z => ?_) (by simp) y hy e, fun x hx => ?_⟩, _, rfl⟩ (fun i O' G' h => by obtain ⟨met2, rfl, _⟩ := h; rfl) ?_ ?_
      · rw [hdr] at z
        rcases List.mem_cons.mp z with z | z
        · exact hc (by rw [z])
        · exact hn z
      · have e := Option.some.inj hx
        subst e
        exact ⟨List.getElem_mem hb, fun y hy => by cases hy⟩
      · rintro E2 j d2 O' G' hd2 ⟨met2, rfl, hm2, I2, y6, rfl⟩
        rw [List.getElem?_map] at hd2
        cases hy : s[j]? with
        | none => rw [hy] at hd2; cases hd2
        | some y =>
        rw [hy] at hd2
        have ed2 := Option.some.inj hd2
        subst ed2
        have ys : y ∈ s := List.mem_of_getElem? hy
        have tk : s.take (j + 1) = s.take j ++ [y] := by rw [List.take_add_one, hy]; rfl
        have ml2 : met2.length ≤ 7 := Nat.le_trans (sub_len I2.nd I2.sub) hl
        have i2 : i < met2.length := (List.getElem?_eq_some_iff.mp hm2).1
        refine ⟨_, g_name, fun σ5 H5 C5 => ?_⟩
        refine s_if (b := !decide (y ∈ met2) && lead p r met[i] y) C5 (EvT.at (et_and (et_test (ev_op (ev_var rfl) (ev_var (i := 4) rfl) rv_niIL)) fun _ => et_is (et_test (ev_op (ev_var rfl) (ev_callF (p, met[i], y) po (ea_cons (ev_var rfl) (ea_cons (ev_op (x := .list (met2.map PyData.int)) (ev_var (i := 4) rfl) (ev_var rfl) (rv_ixL (atI_nat (by rw [List.getElem?_map, hm2]; rfl)))) (ea_cons (ev_var rfl) ea_nil)))) rv_niRT)) (by rw [dec_alw]; rfl)) (C5.view (i := 4) rfl List.mem_cons_self (fun z => z))) (fun hb2 H6 C6 => ?_) fun hb2 H6 C6 => ?_
        · rw [Bool.and_eq_true, Bool.not_eq_true', decide_eq_false_iff_not] at hb2
          refine s_append (d := .int y) C6 rfl (by rw [List.length_map]; omega) (Ev.at (ev_var rfl) C6.en) fun H7 C7 => ?_
          have I3 := I2.push ys hb2.1 hb2.2
          have ed : (met2 ++ [y]).drop (i + 1) = met2.drop (i + 1) ++ [y] := List.drop_append_of_le_length (by omega)
          refine ⟨_, _, ⟨met2 ++ [y], by rw [List.map_append]; rfl, by rw [List.getElem?_append_left i2]; exact hm2, by rw [ed, tk]; exact I3, _, rfl⟩, C7⟩
        · refine ⟨_, _, ⟨met2, rfl, hm2, ?_, _, rfl⟩, C6⟩
          rw [tk]
          refine I2.skip fun e => ?_
          rw [e, Bool.and_true, Bool.not_eq_false', decide_eq_true_iff] at hb2
          exact hb2
      · rintro O' G' ⟨met2, rfl, hm2, I2, y6, rfl⟩ σ5 H5 C5
        rw [List.length_map, List.take_length] at I2
        exact ⟨_, _, ⟨met2, rfl, I2.done, _, _, rfl⟩, C5⟩
    · have hb := of_decide_eq_false hb
      have e1 : met.drop (i + 1) = met.drop i := by rw [List.drop_eq_nil_of_le (by omega), List.drop_eq_nil_of_le (by omega)]
      refine ⟨_, _, ⟨met, rfl, by rw [e1]; exact I, _, _, rfl⟩, C4⟩
  · rintro O' G' ⟨met, rfl, I, z5, z6, rfl⟩ σ3 H3 C3
    have ml := sub_len I.nd I.sub
    rw [rgD_len, List.drop_eq_nil_of_le ml] at I
    refine s_end C3 (fun _ h => h) (Ev.at (ev_is (ev_op (ev_is (ev_cb (ea_cons (ev_var (i := 4) rfl) ea_nil) rc_lenL) (by rw [List.length_map])) (ev_lenS (ev_var rfl)) rv_eqI) ?_) (C3.view (i := 4) rfl List.mem_cons_self (fun z => z))) q
    rw [reach_len hs I]
    congr 1
    rw [Bool.eq_iff_iff, decide_eq_true_iff, decide_eq_true_iff]
    omega
/-! is_set -/
theorem asc_range (ns : List Int) : ((List.range (ns.length - 1)).map fun k => decide (ns.getD k 0 < ns.getD (k + 1) 0)) = List.zipWith (fun a b => decide (a < b)) ns (ns.drop 1) := by
  refine List.ext_getElem (by rw [List.length_map, List.length_range, List.length_zipWith, List.length_drop]; omega) fun i h1 h2 => ?_
  rw [List.length_map, List.length_range] at h1
  rw [List.getElem_map, List.getElem_range, List.getElem_zipWith, List.getElem_drop, List.getD_eq_getElem?_getD, List.getD_eq_getElem?_getD, List.getElem?_eq_getElem (by omega), List.getElem?_eq_getElem (by omega)]
  have e : 1 + i = i + 1 := Nat.add_comm _ _
  simp only [e]
  rfl
abbrev fIsSetL := FSpec (α := PyData × Int) (fun z => okC z.1) (fun z => [z.1, .int z.2]) (fun z => .bool (isSet z.2 z.1))
theorem c__law_is_set (D : DefAt K mg "_law_is_set" "_law_is_set" s_75 f) (B : Bi mg) (c__law_is_integer : Callee P w K mg base "_law_is_integer" k ["_law_actual"] (PSp K fIsInteger)) : Callee P w K mg base "_law_is_set" (k + 1) ["_law_value", "_law_size"] (PSp K fIsSetL) := by
  refine mkF D sc_75 (fun _ _ _ _ _ _ us hl => match us, hl with | [_, _], _ => rfl) (fun _ => rfl) fun cdv A outer s H vs Q E M z hr hp C q => ?_
  obtain ⟨v, n⟩ := z
  refine ⟨_, (pss_cons (ps_if (PW.pt (pw_or (pt_not (pt_val (pe_callB (kIsi K rfl) (by rfl) B.isinstance_ (by decide +kernel) (pa_cons (pv 0) (pa_cons (pe_bltn (v := .ty "tuple") (by rfl) B.tuple_ (by decide +kernel) rfl) pa_nil))))) (pw_or1 (pt_not (pt_val (pe_callB (kAll K rfl (by rfl)) (by rfl) B.all_ (by decide +kernel) (pa_cons (pe_lc (own := [("_law_one", 2)]) (by rfl) sc_75.nd (kpT K rfl (pv 0)) (blkOk_by (own := [("_law_one", 2)]) (N := ["_law_value", "_law_size", "_law_one", "_law_k"]) (sc := defScope s_75) (by decide +kernel)) (fun _ _ _ _ _ => (pg_name (i := 2) sc_75.nd rfl (.inl rfl))) (fun _ _ _ _ _ => pts_nil) (fun _ _ _ _ _ => (pe_and (pe_cc c__law_is_integer hr (by rfl) (pa_cons (pv 2) pa_nil)) (pe_one (pe_chain op_le op_lt pe_int (pv 2) (pv 1)))))) pa_nil))))))) (pss_one (ps_ret pe_bl)) pss_nil)
      (pss_one (ps_ret (pe_callB (kAll K rfl (by rfl)) (by rfl) B.all_ (by decide +kernel) (pa_cons (pe_lc (own := [("_law_k", 3)]) (by rfl) sc_75.nd (pi_range1 (by rfl) B.range_ (pa_cons (pe_op op_sub (pe_callB (kLen K rfl) (by rfl) B.len_ (by decide +kernel) (pa_cons (pv 0) pa_nil)) pe_int) pa_nil)) (blkOk_by (own := [("_law_k", 3)]) (N := ["_law_value", "_law_size", "_law_one", "_law_k"]) (sc := defScope s_75) (by decide +kernel)) (fun _ _ _ _ _ => (pg_name (i := 3) sc_75.nd rfl (.inl rfl))) (fun _ _ _ _ _ => pts_nil) (fun _ _ _ _ _ => (pe_cmpR op_lt (pe_ix (kIx K rfl) (pv 0) (pv 3) (fun _ _ => rfl)) (pe_ix (kIx K rfl) (pv 0) (pe_op op_add (pv 3) pe_int) (fun _ _ => rfl)) (by rfl)))) pa_nil))))), ?_⟩
  refine s_if1 (b := !(isTup v && allV n v)) C (EvT.at ?_ C.low) (fun hb H1 C1 => ?_) fun hb H1 C1 => ?_
  · refine et_is (et_or (c := !allV n v) (et_not (et_B (ev_isTup (ev_var rfl)))) fun h => ?_) (by cases isTup v <;> rfl)
    cases v with
    | tuple ds =>
      have hl : ds.length ≤ 1000 := hp
      refine et_not (et_B (ev_cb (ea_cons (ev_lc1 (is := [2]) ds id (fun d => .bool (isT n d)) (ei_tup (ev_var (by rw [List.map_id]; rfl))) (fun i h => h) (fun d hd => ⟨_, g_name, ?_⟩) (by omega)) ea_nil) ?_))
      · cases d with
        | int i => exact ev_is (ev_andV (ev_callF (PyData.int i) trivial (ea_cons (ev_var rfl) ea_nil)) fun _ => ev_chain ev_int (ev_var rfl) (ev_var rfl) rv_le rv_lt) rfl
        | none => exact ev_andV (b := false) (c := false) (ev_callF PyData.none trivial (ea_cons (ev_var rfl) ea_nil)) fun h => nomatch h
        | bool b => exact ev_andV (b := false) (c := false) (ev_callF (PyData.bool b) trivial (ea_cons (ev_var rfl) ea_nil)) fun h => nomatch h
        | str b => exact ev_andV (b := false) (c := false) (ev_callF (PyData.str b) trivial (ea_cons (ev_var rfl) ea_nil)) fun h => nomatch h
        | list b => exact ev_andV (b := false) (c := false) (ev_callF (PyData.list b) trivial (ea_cons (ev_var rfl) ea_nil)) fun h => nomatch h
        | tuple b => exact ev_andV (b := false) (c := false) (ev_callF (PyData.tuple b) trivial (ea_cons (ev_var rfl) ea_nil)) fun h => nomatch h
        | dict b => exact ev_andV (b := false) (c := false) (ev_callF (PyData.dict b) trivial (ea_cons (ev_var rfl) ea_nil)) fun h => nomatch h
      · have e : (ds.map fun d => PyData.bool (isT n d)) = (ds.map (isT n)).map PyData.bool := by rw [List.map_map]; rfl
        rw [e]
        refine rc_all ?_
        rw [List.all_map]
        rfl
    | _ => cases h
  · refine s_end C1 (fun _ h => h) (Ev.at ev_bl C1.low) ?_
    have e : isSet n v = false := by
      cases v with
      | tuple ds =>
        have hb2 : (!(true && ds.all (isT n))) = true := hb
        show (ds.all (isT n) && asc (ds.map iD)) = false
        cases q : ds.all (isT n) with
        | false => rfl
        | true => rw [q] at hb2; cases hb2
      | _ => rfl
    rw [← e]
    exact q
  · cases v with
    | tuple ds =>
      have hl : ds.length ≤ 1000 := hp
      have ha : ds.all (isT n) = true := by
        have hb2 : (!(true && ds.all (isT n))) = false := hb
        cases q : ds.all (isT n) with
        | true => rfl
        | false => rw [q] at hb2; cases hb2
      have hd := allT ha
      generalize hns : ds.map iD = ns at hd
      subst hd
      have hl2 : ns.length ≤ 1000 := by rw [List.length_map] at hl; exact hl
      have e1 : isSet n (.tuple (ns.map PyData.int)) = asc ns := by
        show ((ns.map PyData.int).all (isT n) && asc ((ns.map PyData.int).map iD)) = asc ns
        rw [ha, Bool.true_and, hns]
      have at_ : ∀ k, k < ns.length → atI (ns.map PyData.int) (k : Int) = some (.int (ns.getD k 0)) := fun k hk => atI_nat (by
        rw [List.getElem?_map, List.getD_eq_getElem?_getD, List.getElem?_eq_getElem hk]
        rfl)
      refine s_end C1 (fun _ h => h) (Ev.at ?_ C1.low) q
      show Ev K _ _ (.bool (isSet n (.tuple (ns.map PyData.int))))
      rw [e1]
      refine ev_cb (ea_cons (ev_lc1 (is := [3]) (List.range (ns.length - 1)) (fun (i : Nat) => PyData.int i) (fun k => .bool (decide (ns.getD k 0 < ns.getD (k + 1) 0))) ?_ (fun i h => h) (fun k hk => ⟨_, g_name, ev_op (ev_op (ev_var rfl) (ev_var rfl) (rv_ixT (at_ k ?_))) (ev_op (ev_var rfl) (ev_op (ev_var rfl) ev_int rv_add) (rv_ixT (i := ((k + 1 : Nat) : Int)) (at_ (k + 1) ?_))) rv_lt⟩) (by rw [List.length_range]; omega)) ea_nil) ?_
      · have e : ((ns.length : Int) - 1).toNat = ns.length - 1 := by omega
        have := ei_rngI (K := K) (as := tCons (tOp (rI0 fun i j => .int (i - j)) (tCB (fun xs H Q => ∃ p ys, xs = [.ref p] ∧ (SqL K H p ys ∨ SqT K H p ys) ∧ Q (.int ys.length) H) (tCons (tVar 0) tNil)) (tC (.int 1))) tNil) (i := (ns.length : Int) - 1) (G := gStart 4 [.tuple (ns.map PyData.int), .int n]) (ea_cons (ev_op (ev_is (ev_lenT (ev_var rfl)) (by rw [List.length_map])) ev_int rv_sub) ea_nil) (by omega) (by omega)
        rw [e] at this
        exact this
      · have := List.mem_range.mp hk
        omega
      · have := List.mem_range.mp hk
        omega
      · have e : ((List.range (ns.length - 1)).map fun k => PyData.bool (decide (ns.getD k 0 < ns.getD (k + 1) 0))) = (List.zipWith (fun a b => decide (a < b)) ns (ns.drop 1)).map PyData.bool := by
          rw [← asc_range, List.map_map]
          rfl
        rw [e]
        exact rc_all rfl
    | _ => cases hb
/-! is_stuck -/
abbrev fIsStuck := FSpec (α := Prob × PyData) (fun z => ProbOk z.1 ∧ okC z.2) (fun z => [pbD z.1, z.2]) (fun z => .bool (stB z.1.n z.1.rs z.2))
open Classical in
theorem stuckB_len (p : Prob) (s : List Int) (h : 1 < s.length) : stuckB p s = (decide ((rch (lead p .e) s (s.headD 0)).length = s.length) && s.all fun t => decide ((rch (lead p .b) s t).length = s.length)) := by
  have le : ∀ (l : Int → Int → Bool) (t : Int), (rch l s t).length = s.length ↔ ∀ y, y ∈ s → Rch l s t y := fun l t => by
    have h1 := rch_len l s t
    exact ⟨fun e => rch_full (by omega), fun hy => by have := rch_not hy; omega⟩
  unfold stuckB
  rw [Bool.eq_iff_iff, decide_eq_true_iff, Bool.and_eq_true, decide_eq_true_iff, List.all_eq_true, le]
  have e0 : s[0]? = some (s.headD 0) := by
    cases s with
    | nil => exact absurd h (by decide)
    | cons x s => rfl
  constructor
  · rintro ⟨_, h2, h3⟩
    exact ⟨h2 _ e0, fun t ht => decide_eq_true ((le _ t).mpr (h3 t ht))⟩
  · rintro ⟨h2, h3⟩
    refine ⟨h, fun t ht => ?_, fun t ht => (le _ t).mp (of_decide_eq_true (h3 t ht))⟩
    rw [e0] at ht
    rw [← Option.some.inj ht]
    exact h2
theorem c__law_is_stuck (D : DefAt K mg "_law_is_stuck" "_law_is_stuck" s_76 f) (B : Bi mg) (c__law_is_set : Callee P w K mg base "_law_is_set" k ["_law_value", "_law_size"] (PSp K fIsSetL)) (c__law_reaches : Callee P w K mg base "_law_reaches" k ["_law_problem_here", "_law_chosen", "_law_start", "_law_relation_here"] (PSp K fReaches)) : Callee P w K mg base "_law_is_stuck" (k + 1) ["_law_problem_here", "_law_chosen"] (PSp K fIsStuck) := by
  refine mkF D sc_76 (fun _ _ _ _ _ _ us hl => match us, hl with | [_, _], _ => rfl) (fun _ => rfl) fun cdv A outer s0 H vs Q E M z hr hp C q => ?_
  obtain ⟨p, v⟩ := z
  obtain ⟨po, hv⟩ := hp
  have po : ProbOk p := po
  have hv : okC v := hv
  have qq : ∀ w2 H2, Same H H2 → Rep K M H2 w2 (.bool (isSet p.n v && stuckB ⟨p.n, p.rs⟩ (setOf v))) → Q w2 H2 := q
  clear q
  have q := qq
  clear qq
  refine ⟨_, (pss_cons (ps_if (PW.pt (pw_or (pt_not (pt_val (pe_cc c__law_is_set hr (by rfl) (pa_cons (pv 1) (pa_cons (pe_ix (kIx K rfl) (pv 0) pe_int (fun _ _ => rfl)) pa_nil))))) (pw_or1 (pt_cmpR op_lt (pe_callB (kLen K rfl) (by rfl) B.len_ (by decide +kernel) (pa_cons (pv 1) pa_nil)) pe_int (by rfl))))) (pss_one (ps_ret pe_bl)) pss_nil)
      (pss_cons (ps_if (pt_not (pt_val (pe_cc c__law_reaches hr (by rfl) (pa_cons (pv 0) (pa_cons (pv 1) (pa_cons (pe_ix (kIx K rfl) (pv 1) pe_int (fun _ _ => rfl)) (pa_cons pe_str pa_nil))))))) (pss_one (ps_ret pe_bl)) pss_nil)
      (pss_one (ps_ret (pe_callB (kAll K rfl (by rfl)) (by rfl) B.all_ (by decide +kernel) (pa_cons (pe_lc (own := [("_law_one", 2)]) (by rfl) sc_76.nd (kpT K rfl (pv 1)) (blkOk_by (own := [("_law_one", 2)]) (N := ["_law_problem_here", "_law_chosen", "_law_one"]) (sc := defScope s_76) (by decide +kernel)) (fun _ _ _ _ _ => (pg_name (i := 2) sc_76.nd rfl (.inl rfl))) (fun _ _ _ _ _ => pts_nil) (fun _ _ _ _ _ => (pe_cc c__law_reaches hr (by rfl) (pa_cons (pv 0) (pa_cons (pv 1) (pa_cons (pv 2) (pa_cons pe_str pa_nil))))))) pa_nil)))))), ?_⟩
  cases hset : isSet p.n v with
  | false =>
    rw [hset] at q
    refine s_if1 (b := true) C (EvT.at (et_is (et_or (c := true) (et_not (et_B (b := false) (ev_is (ev_callF (v, (p.n : Int)) hv (ea_cons (ev_var rfl) (ea_cons (ev_op (ev_var rfl) ev_int (rv_ixT atI_0)) ea_nil))) (congrArg PyData.bool hset)))) fun h => nomatch h) rfl) C.low) (fun _ H1 C1 => ?_) (fun h => nomatch h)
    exact s_end C1 (fun _ h => h) (Ev.at ev_bl C1.low) q
  | true =>
    obtain ⟨g1, g2, g3⟩ := isSet_of hset
    rw [hset] at q
    generalize hs : setOf v = s at g1 g2 g3 q
    subst g1
    have hl : s.length ≤ 7 := Nat.le_trans (set_len g2 g3) po.hi
    refine s_if1 (b := decide (s.length < 2)) C (EvT.at (et_is (et_or (b := false) (c := decide (s.length < 2)) (et_not (et_B (b := true) (ev_is (ev_callF (setD s, (p.n : Int)) hv (ea_cons (ev_var rfl) (ea_cons (ev_op (ev_var rfl) ev_int (rv_ixT atI_0)) ea_nil))) (congrArg PyData.bool hset)))) fun _ => et_is (et_test (ev_op (ev_lenS (ev_var rfl)) ev_int rv_lt)) (dec_lt s.length 2)) rfl) C.low) (fun hb H1 C1 => ?_) fun hb H1 C1 => ?_
    · have hb := of_decide_eq_true hb
      refine s_end C1 (fun _ h => h) (Ev.at ev_bl C1.low) ?_
      have e : stuckB ⟨p.n, p.rs⟩ s = false := by
        rw [stuckB_split, decide_eq_false (by omega)]
        rfl
      rw [e] at q
      exact q
    · have hb := of_decide_eq_false hb
      obtain ⟨t0, r0, es⟩ : ∃ t0 r0, s = t0 :: r0 := by
        cases s with
        | nil => exact absurd (by decide : ([] : List Int).length < 2) hb
        | cons x r => exact ⟨x, r, rfl⟩
      have m0 : t0 ∈ s := by rw [es]; exact List.mem_cons_self
      have ix0 : atI (s.map PyData.int) 0 = some (.int t0) := by rw [es]; exact atI_0
      have hd : s.headD 0 = t0 := by rw [es]; rfl
      rw [stuckB_len _ _ (by omega), hd] at q
      refine s_if1 (b := !decide ((rch (lead p .e) s t0).length = s.length)) C1 (EvT.at (et_not (et_B (ev_callF (p, s, t0, R3.e) ⟨po, g2, hl, m0⟩ (ea_cons (ev_var rfl) (ea_cons (ev_var rfl) (ea_cons (ev_op (ev_var rfl) ev_int (rv_ixT ix0)) (ea_cons ev_str ea_nil))))))) C1.low) (fun hb2 H2 C2 => ?_) fun hb2 H2 C2 => ?_
      · rw [Bool.not_eq_true', decide_eq_false_iff_not] at hb2
        refine s_end C2 (fun _ h => h) (Ev.at ev_bl C2.low) ?_
        rw [show (⟨p.n, p.rs⟩ : Prob) = p from rfl, decide_eq_false hb2] at q
        exact q
      · rw [Bool.not_eq_false', decide_eq_true_iff] at hb2
        rw [show (⟨p.n, p.rs⟩ : Prob) = p from rfl, decide_eq_true hb2] at q
        refine s_end C2 (fun _ h => h) (Ev.at (ev_cb (ea_cons (ev_lc1 (is := [2]) s PyData.int (fun t => .bool (decide ((rch (lead p .b) s t).length = s.length))) (ei_tup (ev_var rfl)) (fun i h => h) (fun t ht => ⟨_, g_name, ev_callF (p, s, t, R3.b) ⟨po, g2, hl, ht⟩ (ea_cons (ev_var rfl) (ea_cons (ev_var rfl) (ea_cons (ev_var rfl) (ea_cons ev_str ea_nil))))⟩) (by omega)) ea_nil) ?_) C2.low) q
        have e : (s.map fun t => PyData.bool (decide ((rch (lead p .b) s t).length = s.length))) = (s.map fun t => decide ((rch (lead p .b) s t).length = s.length)).map PyData.bool := by rw [List.map_map]; rfl
        rw [e]
        refine rc_all ?_
        rw [List.all_map]
        rfl
/-! against, are_grounds -/
theorem c__law_against (D : DefAt K mg "_law_against" "_law_against" s_77 f) (B : Bi mg) (c__law_by : Callee P w K mg base "_law_by" k ["_law_problem_here", "_law_collection"] (PSp K fProbBy)) (c__law_less : Callee P w K mg base "_law_less" k ["_law_collection", "_law_index"] (PSp K fLess)) (c__law_relations : Callee P w K mg base "_law_relations" k [] (PSp K fRels)) :
    Callee P w K mg base "_law_against" (k + 1) ["_law_problem_here", "_law_collection", "_law_index"] (PSp K fAgainst) := by
  refine mkF D sc_77 (fun _ _ _ _ _ _ us hl => match us, hl with | [_, _, _], _ => rfl) (fun _ => rfl) fun cdv A outer s H vs Q E M z hr hp C q => ?_
  obtain ⟨p, i, r⟩ := z
  obtain ⟨po, hi⟩ := hp
  have hi : p.rs[i]? = some r := hi
  have hl : p.rs.length ≤ 20 := po.len
  have hlt := (List.getElem?_eq_some_iff.mp hi).1
  have er : p.rs.getD i r0 = r := by rw [List.getD_eq_getElem?_getD, hi]; rfl
  refine ⟨_, (pss_cons (ps_asg (pe_ix (kIx K rfl) (pe_ix (kIx K rfl) (pv 0) pe_int (fun _ _ => rfl)) (pv 2) (fun _ _ => rfl)) (kgT 3 K rfl (by rfl) (pgs_cons (pg_name (i := 3) sc_77.nd rfl (.inr rfl)) (pgs_cons (pg_name (i := 4) sc_77.nd rfl (.inr rfl)) (pgs_cons (pg_name (i := 5) sc_77.nd rfl (.inr rfl)) pgs_nil)))))
      (pss_cons (ps_set (i := 6) sc_77.nd rfl (.inr rfl) (pe_cc c__law_by hr (by rfl) (pa_cons (pv 0) (pa_cons (pe_cc c__law_less hr (by rfl) (pa_cons (pv 1) (pa_cons (pv 2) pa_nil))) pa_nil))))
      (pss_one (ps_ret (pe_lc (own := [("_law_one", 7)]) (by rfl) sc_77.nd (kpL K rfl (pe_cc0 c__law_relations hr (by rfl))) (blkOk_by (own := [("_law_one", 7)]) (N := ["_law_problem_here", "_law_collection", "_law_index", "_law_first", "_law_relations_here", "_law_second", "_law_others", "_law_one"]) (sc := defScope s_77) (by decide +kernel)) (fun _ _ _ _ _ => (pg_name (i := 7) sc_77.nd rfl (.inl rfl))) (fun _ _ _ _ _ => (pts_one (pt_cmpR (kNi K rfl) (pv 7) (pv 4) (by rfl)))) (fun _ _ _ _ _ => (pe_tup (pa_cons (pe_ix (kIx K rfl) (pv 6) pe_int (fun _ _ => rfl)) (pa_cons (pe_op (kCatA K rfl) (pe_ix (kIx K rfl) (pv 6) pe_int (fun _ _ => rfl)) (pe_tup (pa_cons (pe_tup (pa_cons (pv 3) (pa_cons (pe_tup (pa_cons (pv 7) pa_nil)) (pa_cons (pv 5) pa_nil)))) pa_nil))) pa_nil))))))))), ?_⟩
  refine s_asgq (d := rlD r) (is := [3] ++ ([4] ++ ([5] ++ []))) C (Ev.at (ev_op (ev_op (ev_var rfl) ev_int (rv_ixT atI_1)) (ev_var rfl) (rv_ixT (by rw [rule_at hlt, er]))) C.en) (g_tup (gs_cons g_name (gs_cons g_name (gs_cons g_name gs_nil))) rfl) fun σ2 H2 C2 => ?_
  refine s_setq C2 (Ev.at (d := pbD ⟨p.n, p.rs.eraseIdx i⟩) (ev_is (ev_callF (p, lessI p.rs.length i) ⟨fun j hj => ?_, ?_⟩ (ea_cons (ev_var rfl) (ea_cons (ev_callF (p.rs.length, i) (by dsimp only; omega) (ea_cons (ev_var rfl) (ea_cons (ev_var rfl) ea_nil))) ea_nil))) ?_) C2.en) fun σ3 H3 C3 => ?_
  · exact List.mem_range.mp (List.mem_filter.mp hj).1
  · refine Nat.le_trans (List.length_filter_le _ _) ?_
    rw [List.length_range]
    omega
  · show pbD ⟨p.n, pick p.rs (lessI p.rs.length i)⟩ = _
    rw [pick_less hlt]
  refine s_end C3 (fun _ h => h) (Ev.at (ev_is (ev_lc (is := [7]) R3.all (fun r => .str r.s) (fun x => !decide (x ∈ r.al)) (fun x => pbD ⟨p.n, p.rs.eraseIdx i ++ [⟨r.x, [x], r.y⟩]⟩) (ei_list (by rw [← wds_eq]; exact ev_callF () trivial ea_nil)) (fun i h => h) (fun x hx => ⟨_, g_name, et_test (ev_op (ev_var rfl) (ev_var rfl) rv_niRT), fun _ => ev_is (ev_tup (ea_cons (ev_op (ev_var rfl) ev_int (rv_ixT atI_0)) (ea_cons (ev_op (ev_op (ev_var rfl) ev_int (rv_ixT atI_1)) (ev_tup (ea_cons (ev_tup (ea_cons (ev_var rfl) (ea_cons (ev_tup (ea_cons (ev_var rfl) ea_nil) (show 1 ≤ 1000 by decide)) (ea_cons (ev_var rfl) ea_nil))) (show 3 ≤ 1000 by decide)) ea_nil) (show 1 ≤ 1000 by decide)) (rv_catA ?_)) ea_nil)) (show 2 ≤ 1000 by decide)) ?_⟩) (by decide)) ?_) C3.low) q
  · rw [List.length_map, List.length_eraseIdx, if_pos hlt]
    show p.rs.length - 1 + 1 ≤ 100000
    omega
  · unfold pbD
    rw [List.map_append]
    rfl
  · unfold agst
    rw [List.map_map]
    rfl
theorem c__law_are_grounds (D : DefAt K mg "_law_are_grounds" "_law_are_grounds" s_78 f) (B : Bi mg) (c__law_against : Callee P w K mg base "_law_against" k ["_law_problem_here", "_law_collection", "_law_index"] (PSp K fAgainst)) (c__law_is_stuck : Callee P w K mg base "_law_is_stuck" k ["_law_problem_here", "_law_chosen"] (PSp K fIsStuck)) : Callee P w K mg base "_law_are_grounds" (k + 1) ["_law_problem_here", "_law_collection", "_law_index", "_law_value"] (PSp K fAccepts) := by
  refine mkF D sc_78 (fun _ _ _ _ _ _ us hl => match us, hl with | [_, _, _, _], _ => rfl) (fun _ => rfl) fun cdv A outer s H vs Q E M z hr hp C q => ?_
  obtain ⟨p, i, r, v⟩ := z
  obtain ⟨⟨po, hi⟩, hv⟩ := hp
  have hi : p.rs[i]? = some r := hi
  have hv : okV v := hv
  have aok := agst_ok po hi
  have hl3 : (agst p.rs i r).length ≤ 3 := agst_len
  have q : ∀ w H2, Same H H2 → Rep K M H2 w (.bool (accB p.n (agst p.rs i r) v)) → Q w H2 := q
  refine ⟨_, (pss_cons (ps_set (i := 4) sc_78.nd rfl (.inr rfl) (pe_cc c__law_against hr (by rfl) (pa_cons (pv 0) (pa_cons (pv 1) (pa_cons (pv 2) pa_nil)))))
      (pss_cons (ps_if (PW.pt (pw_or (pt_not (pt_val (pe_callB (kIsi K rfl) (by rfl) B.isinstance_ (by decide +kernel) (pa_cons (pv 3) (pa_cons (pe_bltn (v := .ty "tuple") (by rfl) B.tuple_ (by decide +kernel) rfl) pa_nil))))) (pw_or1 (pt_cmpR op_ne (pe_callB (kLen K rfl) (by rfl) B.len_ (by decide +kernel) (pa_cons (pv 3) pa_nil)) (pe_callB (kLen K rfl) (by rfl) B.len_ (by decide +kernel) (pa_cons (pv 4) pa_nil)) (by rfl))))) (pss_one (ps_ret pe_bl)) pss_nil)
      (pss_one (ps_ret (pe_callB (kAll K rfl (by rfl)) (by rfl) B.all_ (by decide +kernel) (pa_cons (pe_lc (own := [("_law_k", 5)]) (by rfl) sc_78.nd (pi_range1 (by rfl) B.range_ (pa_cons (pe_callB (kLen K rfl) (by rfl) B.len_ (by decide +kernel) (pa_cons (pv 4) pa_nil)) pa_nil)) (blkOk_by (own := [("_law_k", 5)]) (N := ["_law_problem_here", "_law_collection", "_law_index", "_law_value", "_law_against_here", "_law_k"]) (sc := defScope s_78) (by decide +kernel)) (fun _ _ _ _ _ => (pg_name (i := 5) sc_78.nd rfl (.inl rfl))) (fun _ _ _ _ _ => pts_nil) (fun _ _ _ _ _ => (pe_cc c__law_is_stuck hr (by rfl) (pa_cons (pe_ix (kIx K rfl) (pv 4) (pv 5) (fun _ _ => rfl)) (pa_cons (pe_ix (kIx K rfl) (pv 3) (pv 5) (fun _ _ => rfl)) pa_nil))))) pa_nil)))))), ?_⟩
  refine s_setq C (Ev.at (ev_callF (p, i, r) ⟨po, hi⟩ (ea_cons (ev_var rfl) (ea_cons (ev_var rfl) (ea_cons (ev_var rfl) ea_nil)))) C.en) fun σ2 H2 C2 => ?_
  cases v with
  | tuple vs =>
    refine s_if1 (b := !decide (((vs.length : Nat) : Int) = (((agst p.rs i r).length : Nat) : Int))) C2 (EvT.at (et_is (et_or (et_not (et_B (ev_isTup (ev_var rfl)))) fun _ => et_test (ev_op (ev_lenT (ds := vs) (ev_var rfl)) (ev_is (ev_cb (ea_cons (ev_var rfl) ea_nil) rc_lenL) (by rw [List.length_map])) rv_neI)) (by rfl)) C2.low) (fun hb H3 C3 => ?_) fun hb H3 C3 => ?_
    · rw [Bool.not_eq_true', decide_eq_false_iff_not] at hb
      refine s_end C3 (fun _ h => h) (Ev.at ev_bl C3.low) ?_
      have e : accB p.n (agst p.rs i r) (.tuple vs) = false := by
        show (decide (vs.length = _) && _) = false
        rw [decide_eq_false (by omega)]
        rfl
      rw [e] at q
      exact q
    · rw [Bool.not_eq_false', decide_eq_true_iff] at hb
      have hb : vs.length = (agst p.rs i r).length := by omega
      have e : accB p.n (agst p.rs i r) (.tuple vs) = ((agst p.rs i r).zip vs).all fun z => stB p.n z.1 z.2 := by
        show (decide (vs.length = _) && _) = _
        rw [decide_eq_true hb]
        rfl
      rw [e] at q
      generalize hL : agst p.rs i r = L at *
      have g1 : ∀ k, k < L.length → atI (L.map fun rs => pbD ⟨p.n, rs⟩) (k : Int) = some (pbD ⟨p.n, L.getD k []⟩) := fun k hk => atI_nat (by
        rw [List.getElem?_map, List.getD_eq_getElem?_getD, List.getElem?_eq_getElem hk]
        rfl)
      have g2 : ∀ k, k < L.length → atI vs (k : Int) = some (vs.getD k .none) := fun k hk => atI_nat (by
        rw [List.getD_eq_getElem?_getD, List.getElem?_eq_getElem (by omega)]
        rfl)
      refine s_end C3 (fun _ h => h) (Ev.at (ev_cb (ea_cons (ev_lc1 (is := [5]) (List.range L.length) (fun (i : Nat) => PyData.int i) (fun k => .bool (stB p.n (L.getD k []) (vs.getD k .none))) (ei_rng (n := L.length) (ea_cons (ev_is (ev_cb (ea_cons (ev_var rfl) ea_nil) rc_lenL) (by rw [List.length_map])) ea_nil) (by omega)) (fun i h => h) (fun k hk => ⟨_, g_name, ?_⟩) (by rw [List.length_range]; omega)) ea_nil) ?_) C3.low) q
      · have hk := List.mem_range.mp hk
        have m1 : L.getD k [] ∈ L := by
          rw [List.getD_eq_getElem?_getD, List.getElem?_eq_getElem hk]
          exact List.getElem_mem hk
        have m2 : vs.getD k .none ∈ vs := by
          rw [List.getD_eq_getElem?_getD, List.getElem?_eq_getElem (by omega)]
          exact List.getElem_mem (by omega)
        exact ev_callF ((⟨p.n, L.getD k []⟩ : Prob), vs.getD k .none) ⟨aok _ m1, hv _ m2⟩ (ea_cons (ev_op (ev_var rfl) (ev_var rfl) (rv_ixL (g1 k hk))) (ea_cons (ev_op (x := .tuple vs) (ev_var rfl) (ev_var rfl) (rv_ixT (g2 k hk))) ea_nil))
      · have e2 : ((List.range L.length).map fun k => PyData.bool (stB p.n (L.getD k []) (vs.getD k .none))) = ((L.zip vs).map fun z => stB p.n z.1 z.2).map PyData.bool := by
          rw [List.map_map]
          refine List.ext_getElem (by rw [List.length_map, List.length_map, List.length_range, List.length_zip]; omega) fun j h1 h2 => ?_
          rw [List.length_map, List.length_range] at h1
          rw [List.getElem_map, List.getElem_map, List.getElem_range, List.getElem_zip, List.getD_eq_getElem?_getD, List.getD_eq_getElem?_getD, List.getElem?_eq_getElem h1, List.getElem?_eq_getElem (by omega)]
          rfl
        rw [e2]
        refine rc_all ?_
        rw [List.all_map]
        rfl
  | none => exact s_if1 (b := true) C2 (EvT.at (et_is (et_or (c := true) (et_not (et_B (b := false) (ev_is (ev_isTup (ev_var rfl)) rfl))) fun h => nomatch h) rfl) C2.low) (fun hb H3 C3 => s_end C3 (fun _ h => h) (Ev.at ev_bl C3.low) q) fun h => nomatch h
  | bool b => exact s_if1 (b := true) C2 (EvT.at (et_is (et_or (c := true) (et_not (et_B (b := false) (ev_is (ev_isTup (ev_var rfl)) rfl))) fun h => nomatch h) rfl) C2.low) (fun hb H3 C3 => s_end C3 (fun _ h => h) (Ev.at ev_bl C3.low) q) fun h => nomatch h
  | int b => exact s_if1 (b := true) C2 (EvT.at (et_is (et_or (c := true) (et_not (et_B (b := false) (ev_is (ev_isTup (ev_var rfl)) rfl))) fun h => nomatch h) rfl) C2.low) (fun hb H3 C3 => s_end C3 (fun _ h => h) (Ev.at ev_bl C3.low) q) fun h => nomatch h
  | str b => exact s_if1 (b := true) C2 (EvT.at (et_is (et_or (c := true) (et_not (et_B (b := false) (ev_is (ev_isTup (ev_var rfl)) rfl))) fun h => nomatch h) rfl) C2.low) (fun hb H3 C3 => s_end C3 (fun _ h => h) (Ev.at ev_bl C3.low) q) fun h => nomatch h
  | list b => exact s_if1 (b := true) C2 (EvT.at (et_is (et_or (c := true) (et_not (et_B (b := false) (ev_is (ev_isTup (ev_var rfl)) rfl))) fun h => nomatch h) rfl) C2.low) (fun hb H3 C3 => s_end C3 (fun _ h => h) (Ev.at ev_bl C3.low) q) fun h => nomatch h
  | dict b => exact s_if1 (b := true) C2 (EvT.at (et_is (et_or (c := true) (et_not (et_B (b := false) (ev_is (ev_isTup (ev_var rfl)) rfl))) fun h => nomatch h) rfl) C2.low) (fun hb H3 C3 => s_end C3 (fun _ h => h) (Ev.at ev_bl C3.low) q) fun h => nomatch h
end
end Tb
set_option Elab.async false
set_option linter.all false
set_option maxRecDepth 100000
set_option maxHeartbeats 4000000
/-! ## The law's own defs: tables, what is kept -/
namespace Tb
open PySem PySem.Spec PyProof.Rows PySem.W L2
abbrev s_69 : Stmt := top 69
theorem sc_69 : FnScope ["_law_size", "_law_found", "_law_plan", "_law_table", "_law_first", "_law_second"] ["_law_size"] (defScope s_69) := ⟨rfl, rfl, rfl, by decide +kernel, rfl, by decide +kernel, by decide +kernel⟩
abbrev s_70 : Stmt := top 70
theorem sc_70 : FnScope ["_law_tables_here", "_law_rules", "_law_found", "_law_plan", "_law_table", "_law_first", "_law_relations_here", "_law_second"] ["_law_tables_here", "_law_rules"] (defScope s_70) := ⟨rfl, rfl, rfl, by decide +kernel, rfl, by decide +kernel, by decide +kernel⟩
theorem dEnt_inj : ∀ {es fs : List (Int × Int × Str)}, es.map dEnt = fs.map dEnt → es = fs
  | [], [], _ => rfl
  | [], f :: fs, h => by cases h
  | e :: es, [], h => by cases h
  | (a, b, s) :: es, (c, d, t) :: fs, h => by
    rw [List.map_cons, List.map_cons] at h
    injection h with h1 h2
    have h3 : ((.tuple [.int a, .int b], .str s) : PyData × PyData) = (.tuple [.int c, .int d], .str t) := h1
    injection h3 with h4 h5
    injection h4 with h6
    injection h6 with h7 h8
    injection h7 with h7
    injection h8 with h8
    injection h8 with h8
    injection h5 with h5
    rw [h7, h8, h5, dEnt_inj h2]
section
variable {K : PySem.W.Frag} {M M0 W M1 : MS} {H0 H : Hp} {O : Ow} {σ : L2.St} {G : Gm} {E : List (V × PyData)} {a : Addr} {i : Nat} {es : List (Int × Int × Str)} {D : Ends} {tv td : TE} {ts : TA} {x y : Int} {s : Str}
theorem dct_inv {v : V} (r : Rep K M H v (.dict (es.map dEnt))) : ∃ a, v = .ref a ∧ ¬ M a ∧ H a = some (.dT (es.map dKey)) := by
  generalize hd : PyData.dict (es.map dEnt) = d at r
  cases r with
  | dct fs n e =>
    injection hd with hd
    rw [dEnt_inj hd]
    exact ⟨_, rfl, n, e⟩
  | _ => cases hd
theorem val_none (h : ∀ e, e ∈ es → ¬ (e.1 = x ∧ e.2.1 = y)) : valV (es.map dKey) [Sum.inl x, Sum.inl y] = none := by
  induction es with
  | nil => rfl
  | cons e es ih =>
    rw [List.map_cons, valV_neg, ih fun z hz => h z (List.mem_cons_of_mem _ hz)]
    intro z
    have z : ([Sum.inl e.1, Sum.inl e.2.1] : List Key) = [Sum.inl x, Sum.inl y] := z
    injection z with z1 z2
    injection z2 with z2
    exact h e List.mem_cons_self ⟨Sum.inl.inj z1, Sum.inl.inj z2⟩
theorem val_some (h : ∃ e, e ∈ es ∧ e.1 = x ∧ e.2.1 = y) (hs : ∀ e, e ∈ es → e.1 = x → e.2.1 = y → e.2.2 = s) : valV (es.map dKey) [Sum.inl x, Sum.inl y] = some (.str s) := by
  induction es with
  | nil => obtain ⟨e, he, _⟩ := h; cases he
  | cons e es ih =>
    rw [List.map_cons]
    by_cases he : e.1 = x ∧ e.2.1 = y
    · rw [valV_pos (by show ([Sum.inl e.1, Sum.inl e.2.1] : List Key) = _; rw [he.1, he.2])]
      show some (V.str e.2.2) = _
      rw [hs e List.mem_cons_self he.1 he.2]
    · rw [valV_neg]
      · refine ih ?_ fun z hz => hs z (List.mem_cons_of_mem _ hz)
        obtain ⟨z, hz, hm⟩ := h
        rcases List.mem_cons.mp hz with e1 | hz
        · rw [e1] at hm
          exact absurd hm he
        · exact ⟨z, hz, hm⟩
      · intro z
        have z : ([Sum.inl e.1, Sum.inl e.2.1] : List Key) = [Sum.inl x, Sum.inl y] := z
        injection z with z1 z2
        injection z2 with z2
        exact he ⟨Sum.inl.inj z1, Sum.inl.inj z2⟩
theorem two_ints {vs : List V} (r : RepL K M H vs [.int x, .int y]) : vs = [.int x, .int y] := by
  cases r with
  | cons r1 t =>
    cases t with
    | cons r2 t =>
      cases t
      rw [r1.int_inv, r2.int_inv]
/-- a finished table is given away: it is data from here -/
theorem S.give (C : S K M0 W H0 ((a, .raw (.dT (es.map dKey))) :: O) G E σ H) (hi : G[i]? = some (some (.r (.ref a)))) (nW : ¬ W a) : S K M0 W H0 O (G.set i (some (.d (.dict (es.map dEnt))))) E σ H := by
  have less : ∀ b, MM M0 O b → MM M0 ((a, .raw (.dT (es.map dKey))) :: O) b := fun b h => h.elim .inl fun m => .inr (List.mem_cons_of_mem _ m)
  have hno := (List.nodup_cons.mp C.nd).1
  have nM : ¬ MM M0 O a := fun z => z.elim (C.free List.mem_cons_self nW) hno
  have r : Rep K (MM M0 O) H (.ref a) (.dict (es.map dEnt)) := .dct es nM (C.rdR List.mem_cons_self)
  refine ⟨(C.en.less less).view hi r, C.mo, C.sm, fun p hp => ⟨(C.ow p (List.mem_cons_of_mem _ hp)).1, (C.ow p (List.mem_cons_of_mem _ hp)).2.less less⟩, (List.nodup_cons.mp C.nd).2, fun b w => ?_, fun p hp => (C.ex p hp).less less⟩
  have h : b ∈ a :: O.map (·.1) := C.wo b w
  rcases List.mem_cons.mp h with e | h
  · rw [e] at w
    exact absurd w nW
  · exact h
theorem s_dputT {M2 : MS} {ix : Nat} (C : S K M0 W H0 ((a, .raw (.dT (es.map dKey))) :: O) G E σ H) (hi : G[ix]? = some (some (.r (.ref a)))) (hv : At K M2 tv σ H (.str s)) (hk : EvA K ts G [.int x, .int y]) (new : ∀ e, e ∈ es → ¬ (e.1 = x ∧ e.2.1 = y)) (hl : es.length < 1000)
    (k : ∀ H', S K M0 W H0 ((a, .raw (.dT ((es ++ [(x, y, s)]).map dKey))) :: O) G E σ H' → D.nx σ H') : sDPut (tVar ix) (tTup ts) tv D σ H :=
  hv _ fun v H1 s1 r1 => by
    have C1 := C.same s1
    refine ⟨.ref a, C1.raw hi, ?_⟩
    refine EvA.at hk C1.en _ fun vs H2 s2 r2 => ⟨Nat.le_of_lt (small1000 (by rw [r2.length]; exact (by decide : 2 ≤ 1000))), fun p hp => ?_⟩
    have e2 := two_ints r2
    subst e2
    have C2 := (C1.same s2).same (same_new (o := .tup [.int x, .int y]) hp)
    have ev := r1.str_inv
    subst ev
    have ha : upd H2 p (.tup [.int x, .int y]) a = some (.dT (es.map dKey)) := C2.rdR List.mem_cons_self
    refine ⟨a, _, rfl, DPut.t (k := [Sum.inl x, Sum.inl y]) ha upd_same (by rw [List.length_map]; exact small1000 (Nat.le_of_lt hl)), ?_⟩
    rw [putK_new _ (val_none new)]
    have C3 := C2.putR (.dT ((es ++ [(x, y, s)]).map dKey))
    have e3 : (es ++ [(x, y, s)]).map dKey = es.map dKey ++ [([Sum.inl x, Sum.inl y], V.str s)] := by rw [List.map_append]; rfl
    rw [← e3]
    exact k _ C3
theorem ev_dgetT (hd : Ev K td G (.dict (es.map dEnt))) (hk : EvA K ts G [.int x, .int y]) (h : ∃ e, e ∈ es ∧ e.1 = x ∧ e.2.1 = y) (hs : ∀ e, e ∈ es → e.1 = x → e.2.1 = y → e.2.2 = s) : Ev K (tDGet td (tTup ts)) G (.str s) := fun M σ H e Q q =>
  hd M σ H e _ fun v H1 s1 r1 => hk M σ H1 (e.same s1) _ fun vs H2 s2 r2 => ⟨Nat.le_of_lt (small1000 (by rw [r2.length]; exact (by decide : 2 ≤ 1000))), fun p hp => by
    obtain ⟨a, rfl, n, ha⟩ := dct_inv r1
    have e2 := two_ints r2
    subst e2
    have ha2 : upd H2 p (.tup [.int x, .int y]) a = some (.dT (es.map dKey)) := (same_new hp) _ _ (s2 _ _ ha)
    have g := DGet.t (k := [Sum.inl x, Sum.inl y]) ha2 (b := p) upd_same
    rw [val_some h hs] at g
    exact ⟨a, .str s, rfl, g, q _ _ ((s1.trans s2).trans (same_new hp)) (.str s)⟩⟩
end
def tabE (n : Nat) (Pn : Pl) : List (Int × Int × Str) := (rg n).flatMap fun x => (rg n).map fun y => (x, y, relS (relPl Pn x y))
def tbD (n : Nat) (Pn : Pl) : PyData := .tuple [plD Pn, .dict ((tabE n Pn).map dEnt)]
theorem plans_all : [2, 3, 4].all (fun n => decide ((plans n).length ≤ 1000) && (plans n).all fun Pn => okP Pn && decide (depth Pn < 8) && decide ((tasks Pn).length ≤ 1000) && (rg n).all fun x => decide (x ∈ tasks Pn)) = true := by decide +kernel
structure PlOk (n : Nat) (Pn : Pl) : Prop where
  ok : okP Pn = true
  dp : depth Pn < 8
  ln : (tasks Pn).length ≤ 1000
  tk : ∀ x, x ∈ rg n → x ∈ tasks Pn
theorem plans_ok {n : Nat} (hn : Few n) : (plans n).length ≤ 1000 ∧ ∀ Pn, Pn ∈ plans n → PlOk n Pn := by
  have h : (decide ((plans n).length ≤ 1000) && (plans n).all fun Pn => okP Pn && decide (depth Pn < 8) && decide ((tasks Pn).length ≤ 1000) && (rg n).all fun x => decide (x ∈ tasks Pn)) = true := List.all_eq_true.mp plans_all n (by rcases hn with rfl | rfl | rfl <;> decide)
  rw [Bool.and_eq_true] at h
  refine ⟨of_decide_eq_true h.1, fun Pn hP => ?_⟩
  have h2 := List.all_eq_true.mp h.2 Pn hP
  rw [Bool.and_eq_true, Bool.and_eq_true, Bool.and_eq_true] at h2
  exact ⟨h2.1.1.1, of_decide_eq_true h2.1.1.2, of_decide_eq_true h2.1.2, fun x hx => of_decide_eq_true (List.all_eq_true.mp h2.2 x hx)⟩
section
variable {P : Program} {w : World} {K : PySem.W.Frag} {mg : Str → Option Value} {base : Heap} {k : Nat} {f aR aO : Addr}
abbrev fTables := FSpec (α := Nat) Few (fun n => [.int n]) (fun n => .list ((plans n).map (tbD n)))
theorem rg_at {n i : Nat} (h : i < n) : (rg n)[i]? = some (i : Int) := by
  unfold rg
  rw [List.getElem?_map, List.getElem?_range h]
  rfl
theorem rg_take {n i : Nat} (h : i < n) : (rg n).take (i + 1) = (rg n).take i ++ [(i : Int)] := by rw [List.take_add_one, rg_at h]; rfl
theorem rg_take_mem {n i : Nat} (h : i < n) {x : Int} (hx : x ∈ (rg n).take i) : x ≠ (i : Int) := by
  intro e
  subst e
  obtain ⟨j, hj, e⟩ := List.mem_take_iff_getElem.mp hx
  have h2 : (rg n)[j]? = some (i : Int) := by rw [List.getElem?_eq_getElem (by omega), e]
  rw [rg_at (by rw [rg_len] at hj; omega)] at h2
  have := Option.some.inj h2
  omega
theorem c__law_tables (D : DefAt K mg "_law_tables" "_law_tables" s_69 f) (B : Bi mg) (c__law_plans : Callee P w K mg base "_law_plans" k ["_law_size"] (PSp K fPlans)) (c__law_relation : Callee P w K mg base "_law_relation" k ["_law_plan", "_law_first", "_law_second"] (PSp K (fRel 8))) : Callee P w K mg base "_law_tables" (k + 1) ["_law_size"] (PSp K fTables) := by
  refine mkF D sc_69 (fun _ _ _ _ _ _ us hl => match us, hl with | [_], _ => rfl) (fun _ => rfl) fun cdv A outer s H vs Q E M n hr hp C q => ?_
  have hn4 : n ≤ 4 := by rcases hp with rfl | rfl | rfl <;> decide
  obtain ⟨pl, pok⟩ := plans_ok hp
  have rl := rg_len n
  refine ⟨_, (pss_cons (ps_set (i := 1) sc_69.nd rfl (.inl rfl) (pe_lst pa_nil))
      (pss_cons (ps_for PassesOwn.never (by rfl) (kpL K rfl (pe_cc c__law_plans hr (by rfl) (pa_cons (pv 0) pa_nil))) (pg_name (i := 2) sc_69.nd rfl (.inl rfl)) (pss_cons (ps_set (i := 3) sc_69.nd rfl (.inl rfl) pe_dnewT)
      (pss_cons (ps_for PassesOwn.never (by rfl) (pi_range1 (by rfl) B.range_ (pa_cons (pv 0) pa_nil)) (pg_name (i := 4) sc_69.nd rfl (.inl rfl)) (pss_one (ps_for PassesOwn.never (by rfl) (pi_range1 (by rfl) B.range_ (pa_cons (pv 0) pa_nil)) (pg_name (i := 5) sc_69.nd rfl (.inl rfl)) (pss_one (ps_dput (hu_of hr) (pv 3) (pe_tup (pa_cons (pv 4) (pa_cons (pv 5) pa_nil))) (pe_cc c__law_relation hr (by rfl) (pa_cons (pv 2) (pa_cons (pv 4) (pa_cons (pv 5) pa_nil)))) rfl)))))
      (pss_one (ps_expr (kBM K rfl PySem.F.plainAttrs_list PySem.F.slot_list_append PySem.F.type_list_append mt_append (pv 1) (pa_cons (pe_tup (pa_cons (pv 2) (pa_cons (pv 3) pa_nil))) pa_nil)))))))
      (pss_one (ps_ret (pv 1))))), ?_⟩
  refine s_newq C fun pf σ1 H1 C1 => ?_
  refine s_forq (is := [2]) (ds := (plans n).map plD) C1 (EvI.at (ei_list (ev_callF n hp (ea_cons (ev_var rfl) ea_nil))) C1.en)
    (fun i O G => O = [(pf, .lst (((plans n).take i).map (tbD n)))] ∧ ∃ z2 z3 z4 z5, G = [some (.d (.int n)), some (.r (.ref pf)), z2, z3, z4, z5]) ⟨rfl, _, _, _, _, rfl⟩ (fun i O' G' h => by rw [h.1]; rfl) ?_ ?_
  · rintro E1 i d1 O' G' hd ⟨rfl, z2, z3, z4, z5, rfl⟩
    rw [List.getElem?_map] at hd
    cases hy : (plans n)[i]? with
    | none => rw [hy] at hd; cases hd
    | some Pn =>
    rw [hy] at hd
    have ed := Option.some.inj hd
    subst ed
    have mP : Pn ∈ plans n := List.mem_of_getElem? hy
    have hi := (List.getElem?_eq_some_iff.mp hy).1
    have po := pok Pn mP
    refine ⟨_, g_name, fun σ3 H3 C3 => ?_⟩
    refine s_seq ?_
    intro pt hpt
    have C4 := C3.newR hpt (.dT (([] : List (Int × Int × Str)).map dKey)) 3
    -- for first
    refine s_forq (is := [4]) (ds := rgD n) C4 (EvI.at (ei_rng (n := n) (ea_cons (ev_var rfl) ea_nil) (by omega)) C4.en)
      (fun j O G => O = [(pt, .raw (.dT ((((rg n).take j).flatMap fun x => (rg n).map fun y => (x, y, relS (relPl Pn x y))).map dKey))), (pf, .lst (((plans n).take i).map (tbD n)))] ∧ ∃ z4 z5, G = [some (.d (.int n)), some (.r (.ref pf)), some (.d (plD Pn)), some (.r (.ref pt)), z4, z5]) ⟨rfl, _, _, rfl⟩ (fun i O' G' h => by rw [h.1]; rfl) ?_ ?_
    · rintro E2 j d2 O' G' hd2 ⟨rfl, y4, y5, rfl⟩
      have hj : j < n := by
        have := (List.getElem?_eq_some_iff.mp hd2).1
        rw [rgD_len] at this
        exact this
      rw [rgD_get hj] at hd2
      have ed := Option.some.inj hd2
      subst ed
      have hx : (j : Int) ∈ rg n := mem_rg.mpr ⟨by omega, by omega⟩
      refine ⟨_, g_name, fun σ5 H5 C5 => ?_⟩
      refine s_for (is := [5]) (ds := rgD n) C5 (EvI.at (ei_rng (n := n) (ea_cons (ev_var rfl) ea_nil) (by omega)) C5.en)
        (fun m O G => O = [(pt, .raw (.dT ((((rg n).take j).flatMap (fun x => (rg n).map fun y => (x, y, relS (relPl Pn x y))) ++ ((rg n).take m).map fun y => ((j : Int), y, relS (relPl Pn j y))).map dKey))), (pf, .lst (((plans n).take i).map (tbD n)))] ∧ ∃ z5, G = [some (.d (.int n)), some (.r (.ref pf)), some (.d (plD Pn)), some (.r (.ref pt)), some (.d (.int (j : Nat))), z5]) ⟨by rw [List.take_zero, List.map_nil, List.append_nil], _, rfl⟩ (fun i O' G' h => by rw [h.1]; rfl) ?_ ?_
      · rintro E3 m d3 O' G' hd3 ⟨rfl, x5, rfl⟩
        have hm : m < n := by
          have := (List.getElem?_eq_some_iff.mp hd3).1
          rw [rgD_len] at this
          exact this
        rw [rgD_get hm] at hd3
        have ed := Option.some.inj hd3
        subst ed
        have hy2 : (m : Int) ∈ rg n := mem_rg.mpr ⟨by omega, by omega⟩
        refine ⟨_, g_name, fun σ6 H6 C6 => ?_⟩
        refine s_dputT (x := (j : Int)) (y := (m : Int)) (s := relS (relPl Pn j m)) C6 rfl (Ev.at (ev_callF (Pn, (j : Int), (m : Int)) ⟨po.ok, po.dp, po.ln, po.tk _ hx, po.tk _ hy2⟩ (ea_cons (ev_var rfl) (ea_cons (ev_var rfl) (ea_cons (ev_var rfl) ea_nil)))) C6.en) (ea_cons (ev_var rfl) (ea_cons (ev_var rfl) ea_nil)) (fun e he => ?_) ?_ fun H7 C7 => ?_
        · rintro ⟨h1, h2⟩
          rcases List.mem_append.mp he with he | he
          · obtain ⟨x, hx1, hx2⟩ := List.mem_flatMap.mp he
            obtain ⟨y, hy1, rfl⟩ := List.mem_map.mp hx2
            exact rg_take_mem hj hx1 h1
          · obtain ⟨y, hy1, rfl⟩ := List.mem_map.mp he
            exact rg_take_mem hm hy1 h2
        · rw [List.length_append, List.length_map, List.length_flatMap]
          have e1 : (((rg n).take j).map fun x => ((rg n).map fun y => (x, y, relS (relPl Pn x y))).length) = List.replicate ((rg n).take j).length n := by
            refine List.eq_replicate_iff.mpr ⟨by rw [List.length_map], fun z hz => ?_⟩
            obtain ⟨x, _, rfl⟩ := List.mem_map.mp hz
            rw [List.length_map, rl]
          rw [e1, List.sum_replicate_nat, List.length_take, List.length_take, rl]
          have h1 : min j n * n ≤ 4 * 4 := Nat.mul_le_mul (by omega) hn4
          omega
        · refine ⟨_, _, ⟨?_, some (.d (.int (m : Nat))), rfl⟩, C7⟩
          have em : ((rg n).take (m + 1)).map (fun y => ((j : Int), y, relS (relPl Pn j y))) = ((rg n).take m).map (fun y => ((j : Int), y, relS (relPl Pn j y))) ++ [((j : Int), (m : Int), relS (relPl Pn j m))] := by
            rw [rg_take hm, List.map_append]
            rfl
          rw [em, ← List.append_assoc]
      · rintro O' G' ⟨rfl, x5, rfl⟩ σ6 H6 C6
        refine ⟨_, _, ⟨?_, _, _, rfl⟩, C6⟩
        rw [rgD_len, rg_take hj, List.flatMap_append]
        have e : (rg n).take n = rg n := List.take_of_length_le (by omega)
        rw [e]
        show _ = [(pt, OD.raw (.dT ((_ ++ (((rg n).map fun y => ((j : Int), y, relS (relPl Pn j y))) ++ [])).map dKey))), _]
        rw [List.append_nil]
    · rintro O' G' ⟨rfl, y4, y5, rfl⟩ σ5 H5 C5
      have e : (rg n).take n = rg n := List.take_of_length_le (by omega)
      rw [rgD_len, e] at C5
      have C6 := S.give (i := 3) C5 rfl (fun z => z)
      refine s_append (d := tbD n Pn) C6 rfl (by rw [List.length_map, List.length_take]; omega) (Ev.at (ev_tup (ea_cons (ev_var rfl) (ea_cons (ev_var rfl) ea_nil)) (show 2 ≤ 1000 by decide)) C6.en) fun H7 C7 => ?_
      refine ⟨_, _, ⟨?_, _, _, _, _, rfl⟩, C7⟩
      rw [List.take_add_one, hy, List.map_append]
      rfl
  · rintro O' G' ⟨rfl, z2, z3, z4, z5, rfl⟩ σ3 H3 C3
    rw [List.length_map, List.take_length] at C3
    exact s_end C3 (fun _ h => h) (Ev.at (ev_var rfl) (C3.view (i := 1) rfl List.mem_cons_self (fun z => z))) q
/-! kept -/
abbrev fKept := FSpec (α := Nat × List Rule) (fun z => Few z.1 ∧ (∀ q, q ∈ z.2 → RuleOk z.1 q) ∧ z.2.length ≤ 20) (fun z => [.list ((plans z.1).map (tbD z.1)), .tuple (z.2.map rlD)]) (fun z => .list ((keptL z.1 z.2).map plD))
theorem c__law_kept (D : DefAt K mg "_law_kept" "_law_kept" s_70 f) (B : Bi mg) : Callee P w K mg base "_law_kept" (k + 1) ["_law_tables_here", "_law_rules"] (PSp K fKept) := by
  refine mkF D sc_70 (fun _ _ _ _ _ _ us hl => match us, hl with | [_, _], _ => rfl) (fun _ => rfl) fun cdv A outer s H vs Q E M z hr hp C q => ?_
  obtain ⟨n, rs⟩ := z
  obtain ⟨hn, hrs, hl⟩ := hp
  have hn : Few n := hn
  have hl : rs.length ≤ 20 := hl
  obtain ⟨pl, pok⟩ := plans_ok hn
  have q : ∀ w2 H2, Same H H2 → Rep K M H2 w2 (.list (((plans n).filter fun Pn => keeps Pn rs).map plD)) → Q w2 H2 := q
  refine ⟨_, (pss_cons (ps_set (i := 2) sc_70.nd rfl (.inl rfl) (pe_lst pa_nil))
      (pss_cons (ps_for PassesOwn.never (by rfl) (kpL K rfl (pv 0)) (kgT 2 K rfl (by rfl) (pgs_cons (pg_name (i := 3) sc_70.nd rfl (.inl rfl)) (pgs_cons (pg_name (i := 4) sc_70.nd rfl (.inr rfl)) pgs_nil))) (pss_one (ps_if (pt_val (pe_callB (kAll K rfl (by rfl)) (by rfl) B.all_ (by decide +kernel) (pa_cons (pe_lc (own := [("_law_first", 5), ("_law_relations_here", 6), ("_law_second", 7)]) (by rfl) sc_70.nd (kpT K rfl (pv 1)) (blkOk_by (own := [("_law_first", 5), ("_law_relations_here", 6), ("_law_second", 7)]) (N := ["_law_tables_here", "_law_rules", "_law_found", "_law_plan", "_law_table", "_law_first", "_law_relations_here", "_law_second"]) (sc := defScope s_70) (by decide +kernel)) (fun _ _ _ _ _ => (kgT 3 K rfl (by rfl) (pgs_cons (pg_name (i := 5) sc_70.nd rfl (.inl rfl)) (pgs_cons (pg_name (i := 6) sc_70.nd rfl (.inl rfl)) (pgs_cons (pg_name (i := 7) sc_70.nd rfl (.inl rfl)) pgs_nil))))) (fun _ _ _ _ _ => pts_nil) (fun _ _ _ _ _ => (pe_cmpR (kIn K rfl) (pe_dget (hu_of hr) (pv 4) (pe_tup (pa_cons (pv 5) (pa_cons (pv 7) pa_nil))) (fun _ _ => rfl)) (pv 6) (by rfl)))) pa_nil))) (pss_one (ps_expr (kBM K rfl PySem.F.plainAttrs_list PySem.F.slot_list_append PySem.F.type_list_append mt_append (pv 2) (pa_cons (pv 3) pa_nil)))) pss_nil)))
      (pss_one (ps_ret (pv 2))))), ?_⟩
  refine s_newq C fun pf σ1 H1 C1 => ?_
  refine s_forq (is := [3] ++ ([4] ++ [])) (ds := (plans n).map (tbD n)) C1 (EvI.at (ei_list (ev_var rfl)) C1.en)
    (fun i O G => O = [(pf, .lst ((((plans n).take i).filter fun Pn => keeps Pn rs).map plD))] ∧ ∃ z3 z4, G = [some (.d (.list ((plans n).map (tbD n)))), some (.d (.tuple (rs.map rlD))), some (.r (.ref pf)), z3, z4, none, none, none]) ⟨rfl, _, _, rfl⟩ (fun i O' G' h => by rw [h.1]; rfl) ?_ ?_
  · rintro E1 i d1 O' G' hd ⟨rfl, z3, z4, rfl⟩
    rw [List.getElem?_map] at hd
    cases hy : (plans n)[i]? with
    | none => rw [hy] at hd; cases hd
    | some Pn =>
    rw [hy] at hd
    have ed := Option.some.inj hd
    subst ed
    have mP : Pn ∈ plans n := List.mem_of_getElem? hy
    have hi := (List.getElem?_eq_some_iff.mp hy).1
    have tk : (plans n).take (i + 1) = (plans n).take i ++ [Pn] := by rw [List.take_add_one, hy]; rfl
    refine ⟨_, g_tup (gs_cons g_name (gs_cons g_name gs_nil)) rfl, fun σ3 H3 C3 => ?_⟩
    have test : EvT K (tB (tCB (rAll K) (tCons (tLc (iTup K (tVar 1)) (gTup K 3 (gCons (gName 5) (gCons (gName 6) (gCons (gName 7) gNil)))) tYes (tOp (rIn K false) (tDGet (tVar 4) (tTup (tCons (tVar 5) (tCons (tVar 7) tNil)))) (tVar 6)) [5, 6, 7]) tNil))) [some (.d (.list ((plans n).map (tbD n)))), some (.d (.tuple (rs.map rlD))), some (.r (.ref pf)), some (.d (plD Pn)), some (.d (.dict ((tabE n Pn).map dEnt))), none, none, none] (keeps Pn rs) := by
      refine et_B (ev_cb (ea_cons (ev_lc1 (is := [5] ++ ([6] ++ ([7] ++ []))) rs rlD (fun r => .bool (keepsR Pn r)) (ei_tup (ev_var rfl)) (fun i h => h) (fun r hr => ⟨_, g_tup (gs_cons g_name (gs_cons g_name (gs_cons g_name gs_nil))) rfl, ?_⟩) (by omega)) ea_nil) ?_)
      · have ro := hrs r hr
        obtain ⟨hx, hy2, hne⟩ := ro.tk
        obtain ⟨r3, e1, _⟩ := anti hn mP hx hy2 hne
        have ek : keepsR Pn r = decide (r3 ∈ r.al) := by
          unfold keepsR
          rw [e1]
        rw [ek, ← dec_wds]
        refine ev_op (ev_dgetT (es := tabE n Pn) (x := r.x) (y := r.y) (s := r3.s) (ev_var rfl) (ea_cons (ev_var rfl) (ea_cons (ev_var rfl) ea_nil)) ⟨_, List.mem_flatMap.mpr ⟨r.x, hx, List.mem_map.mpr ⟨r.y, hy2, rfl⟩⟩, rfl, rfl⟩ fun e he h1 h2 => ?_) (ev_var rfl) rv_inST
        obtain ⟨x, hx1, hx2⟩ := List.mem_flatMap.mp he
        obtain ⟨y, hy1, rfl⟩ := List.mem_map.mp hx2
        have h1 : x = r.x := h1
        have h2 : y = r.y := h2
        subst h1 h2
        show relS (relPl Pn r.x r.y) = r3.s
        rw [e1]
        rfl
      · have e : (rs.map fun r => PyData.bool (keepsR Pn r)) = (rs.map (keepsR Pn)).map PyData.bool := by rw [List.map_map]; rfl
        rw [e]
        refine rc_all ?_
        rw [List.all_map]
        rfl
    refine s_if (b := keeps Pn rs) C3 (EvT.at test C3.en) (fun hb H4 C4 => ?_) fun hb H4 C4 => ?_
    · refine s_append (d := plD Pn) C4 rfl ?_ (Ev.at (ev_var rfl) C4.en) fun H5 C5 => ?_
      · rw [List.length_map]
        have := List.length_filter_le (fun Pn => keeps Pn rs) ((plans n).take i)
        rw [List.length_take] at this
        omega
      · refine ⟨_, _, ⟨?_, _, _, rfl⟩, C5⟩
        rw [tk, List.filter_append, List.map_append, List.filter_cons, if_pos hb]
        rfl
    · refine ⟨_, _, ⟨?_, _, _, rfl⟩, C4⟩
      rw [tk, List.filter_append, List.filter_cons, if_neg (by rw [hb]; decide), List.filter_nil, List.append_nil]
  · rintro O' G' ⟨rfl, z3, z4, rfl⟩ σ3 H3 C3
    rw [List.length_map, List.take_length] at C3
    exact s_end C3 (fun _ h => h) (Ev.at (ev_var rfl) (C3.view (i := 2) rfl List.mem_cons_self (fun z => z))) q
end
end Tb
set_option Elab.async false
set_option linter.all false
set_option maxRecDepth 100000
set_option maxHeartbeats 4000000
/-! ## Defs that draw from the stream: the list at a, [the script's list at l, a number, a count], is changed, no more -/
namespace Tb
open PySem PySem.Spec PyProof.Rows PySem.W L2
abbrev cl (l : Addr) (c : Int) (k : Nat) : HO := .lst [.ref l, .int c, .int (k : Nat)]
def Kpt (M : MS) (H H' : Hp) : Prop := ∀ b o, ¬ M b → H b = some o → H' b = some o
theorem Kpt.refl {M : MS} {H : Hp} : Kpt M H H := fun _ _ _ h => h
theorem Kpt.trans {M : MS} {H H1 H2 : Hp} (a : Kpt M H H1) (b : Kpt M H1 H2) : Kpt M H H2 := fun c o n h => b c o n (a c o n h)
theorem Kpt.of {M : MS} {H H1 : Hp} (s : Same H H1) : Kpt M H H1 := fun c o _ h => s c o h
theorem Rep.kp {K : PySem.W.Frag} {M : MS} {H H' : Hp} {v : V} {d : PyData} (r : Rep K M H v d) (k : Kpt M H H') : Rep K M H' v d := r.mono k fun _ h => .inl h
theorem RepL.kp {K : PySem.W.Frag} {M : MS} {H H' : Hp} {v : List V} {d : List PyData} (r : RepL K M H v d) (k : Kpt M H H') : RepL K M H' v d := r.mono k fun _ h => .inl h
/-- what a drawing def promises -/
def SpS {α : Type} (K : PySem.W.Frag) (pre : α → Prop) (enc : α → List PyData) (post : α → PyData → Prop) : Sp := fun vs H Q _ => ∃ (M : MS) (a l : Addr) (c : Int) (k : Nat) (xs : List Int) (ws : List V) (x : α), vs = .ref a :: ws ∧ MOk M H ∧ M a ∧ H a = some (cl l c k) ∧ Rep K M H (.ref l) (.list (xs.map .int)) ∧ RepL K M H ws (enc x) ∧ pre x ∧
  ∀ d v (c' : Int) (k' : Nat) H2, post x d → (∀ b o, b ≠ a → H b = some o → H2 b = some o) → H2 a = some (cl l c' k') → Rep K M H2 v d → Q v H2
section
variable {K : PySem.W.Frag} {M0 W M1 : MS} {H0 H H' H2 : Hp} {a l p : Addr} {xs : List Int} {O : Ow} {G G2 : Gm} {E : List (V × PyData)} {σ σ2 : L2.St} {te ta tb : TE} {tt tu : TT} {as : TA} {R R1 R2 : PyData → Prop} {d : PyData} {ds : List PyData} {D : Ends} {tx : TS} {i : Nat} {c c' : Int} {k k' : Nat}
def Im (K : PySem.W.Frag) (M0 W : MS) (H0 : Hp) (a l : Addr) (xs : List Int) (O : Ow) (G : Gm) (te : TE) (R : PyData → Prop) : Prop :=
  ∀ (E : List (V × PyData)) (c : Int) (k : Nat) (σ : L2.St) (H : Hp), (V.ref l, PyData.list (xs.map .int)) ∈ E → S K M0 W H0 ((a, .raw (cl l c k)) :: O) G E σ H →
    ∀ Q : VK, (∀ v d (c' : Int) (k' : Nat) H', R d → S K M0 W H0 ((a, .raw (cl l c' k')) :: O) G E σ H' → Kpt (MM M0 ((a, .raw (cl l c k)) :: O)) H H' → Rep K (MM M0 ((a, .raw (cl l c k)) :: O)) H' v d → Q v H') → te σ H Q
def ImT (K : PySem.W.Frag) (M0 W : MS) (H0 : Hp) (a l : Addr) (xs : List Int) (O : Ow) (G : Gm) (tt : TT) (R : Bool → Prop) : Prop :=
  ∀ (E : List (V × PyData)) (c : Int) (k : Nat) (σ : L2.St) (H : Hp), (V.ref l, PyData.list (xs.map .int)) ∈ E → S K M0 W H0 ((a, .raw (cl l c k)) :: O) G E σ H →
    ∀ Q : Bool → Hp → Prop, (∀ b (c' : Int) (k' : Nat) H', R b → S K M0 W H0 ((a, .raw (cl l c' k')) :: O) G E σ H' → Kpt (MM M0 ((a, .raw (cl l c k)) :: O)) H H' → Q b H') → tt σ H Q
def ImA (K : PySem.W.Frag) (M0 W : MS) (H0 : Hp) (a l : Addr) (xs : List Int) (O : Ow) (G : Gm) (as : TA) (R : List PyData → Prop) : Prop :=
  ∀ (E : List (V × PyData)) (c : Int) (k : Nat) (σ : L2.St) (H : Hp), (V.ref l, PyData.list (xs.map .int)) ∈ E → S K M0 W H0 ((a, .raw (cl l c k)) :: O) G E σ H →
    ∀ Q : List V → Hp → Prop, (∀ vs ds (c' : Int) (k' : Nat) H', R ds → S K M0 W H0 ((a, .raw (cl l c' k')) :: O) G E σ H' → Kpt (MM M0 ((a, .raw (cl l c k)) :: O)) H H' → RepL K (MM M0 ((a, .raw (cl l c k)) :: O)) H' vs ds → Q vs H') → as σ H Q
theorem im_ev (h : Ev K te G d) (hR : R d) : Im K M0 W H0 a l xs O G te R := fun E c k σ H hl C Q q => Ev.at h C.en Q fun v H2 s r => q v d c k H2 hR (C.same s) (.of s) r
theorem im_at (h : ∀ (E : List (V × PyData)) (c : Int) (k : Nat) (σ : L2.St) (H : Hp), S K M0 W H0 ((a, .raw (cl l c k)) :: O) G E σ H → At K M0 te σ H d) (f : flat d = true) (hR : R d) : Im K M0 W H0 a l xs O G te R := fun E c k σ H hl C Q q => h E c k σ H C Q fun v H2 s r => q v d c k H2 hR (C.same s) (.of s) (r.ofFlat f)
theorem im_mono (h : Im K M0 W H0 a l xs O G te R1) (hR : ∀ d, R1 d → R d) : Im K M0 W H0 a l xs O G te R := fun E c k σ H hl C Q q => h E c k σ H hl C Q fun v d c' k' H' r => q v d c' k' H' (hR d r)
theorem im_op {r : L2.R2} (h1 : Im K M0 W H0 a l xs O G ta R1) (h2 : Im K M0 W H0 a l xs O G tb R2) (hr : ∀ x y, R1 x → R2 y → ∃ z, R z ∧ RV K r x y z) : Im K M0 W H0 a l xs O G (tOp r ta tb) R := fun E c k σ H hl C Q q =>
  h1 E c k σ H hl C _ fun v x c1 k1 H1 hx C1 p1 r1 => h2 E c1 k1 σ H1 hl C1 _ fun u y c2 k2 H2 hy C2 p2 r2 => by
    obtain ⟨z, hz, rv⟩ := hr x y hx hy
    exact rv _ H2 v u C2.en.mok (r1.kp p2) r2 Q fun w H3 s r3 => q w z c2 k2 H3 hz (C2.same s) ((p1.trans p2).trans (.of s)) r3
theorem ima_nil : ImA K M0 W H0 a l xs O G tNil (fun ds => ds = []) := fun E c k σ H hl C Q q => q [] [] c k H rfl C .refl .nil
theorem ima_cons {S1 S2 : List PyData → Prop} (h1 : Im K M0 W H0 a l xs O G te R) (h2 : ImA K M0 W H0 a l xs O G as S1) (hS : ∀ d ds, R d → S1 ds → S2 (d :: ds)) : ImA K M0 W H0 a l xs O G (tCons te as) S2 := fun E c k σ H hl C Q q =>
  h1 E c k σ H hl C _ fun v x c1 k1 H1 hx C1 p1 r1 => h2 E c1 k1 σ H1 hl C1 _ fun us ds c2 k2 H2 hy C2 p2 r2 => q _ _ c2 k2 H2 (hS _ _ hx hy) C2 (p1.trans p2) (.cons (r1.kp p2) r2)
theorem ima_ev (h : EvA K as G ds) {S1 : List PyData → Prop} (hS : S1 ds) : ImA K M0 W H0 a l xs O G as S1 := fun E c k σ H hl C Q q => EvA.at h C.en Q fun v H2 s r => q v ds c k H2 hS (C.same s) (.of s) r
theorem im_cb {r : List V → Hp → VK → Prop} {S1 : List PyData → Prop} (h : ImA K M0 W H0 a l xs O G as S1) (hr : ∀ ds, S1 ds → ∃ z, R z ∧ RC K r ds z) : Im K M0 W H0 a l xs O G (tCB r as) R := fun E c k σ H hl C Q q =>
  h E c k σ H hl C _ fun vs ds c1 k1 H1 hx C1 p1 r1 => by
    obtain ⟨z, hz, rc⟩ := hr ds hx
    exact rc _ H1 vs C1.en.mok r1 Q fun w H3 s r3 => q w z c1 k1 H3 hz (C1.same s) (p1.trans (.of s)) r3
theorem im_tup {S1 : List PyData → Prop} (h : ImA K M0 W H0 a l xs O G as S1) (hr : ∀ ds, S1 ds → ds.length ≤ 1000 ∧ R (.tuple ds)) : Im K M0 W H0 a l xs O G (tTup as) R := fun E c k σ H hl C Q q =>
  h E c k σ H hl C _ fun vs ds c1 k1 H1 hx C1 p1 r1 => ⟨Nat.le_of_lt (small1000 (by rw [r1.length]; exact (hr ds hx).1)), fun p hp => q _ _ c1 k1 _ (hr ds hx).2 (C1.same (same_new hp)) (p1.trans (.of (same_new hp))) (rep_newT C1.en.mok hp r1)⟩
theorem im_lst {S1 : List PyData → Prop} (h : ImA K M0 W H0 a l xs O G as S1) (hr : ∀ ds, S1 ds → ds.length ≤ 1000 ∧ R (.list ds)) : Im K M0 W H0 a l xs O G (tLst as) R := fun E c k σ H hl C Q q =>
  h E c k σ H hl C _ fun vs ds c1 k1 H1 hx C1 p1 r1 => ⟨Nat.le_of_lt (small1000 (by rw [r1.length]; exact (hr ds hx).1)), fun p hp => q _ _ c1 k1 _ (hr ds hx).2 (C1.same (same_new hp)) (p1.trans (.of (same_new hp))) (rep_newL C1.en.mok hp r1)⟩
/-- the cell has turned, what else there is stays -/
theorem S.turn (C : S K M0 W H0 ((a, .raw (cl l c k)) :: O) G E σ H) (h1 : ∀ b o, b ≠ a → H b = some o → H2 b = some o) (h2 : H2 a = some (cl l c' k')) : S K M0 W H0 ((a, .raw (cl l c' k')) :: O) G E σ H2 ∧ Kpt (MM M0 ((a, .raw (cl l c k)) :: O)) H H2 := by
  refine ⟨(C.putR (cl l c' k')).same fun b o e => ?_, fun b o n e => h1 b o (fun z => n (.inr (z ▸ List.mem_cons_self))) e⟩
  by_cases hb : b = a
  · subst hb
    rw [upd_same] at e
    rw [← e]
    exact h2
  · rw [upd_ne hb] at e
    exact h1 b o hb e
theorem im_callS {α : Type} {pre : α → Prop} {enc : α → List PyData} {post : α → PyData → Prop} {S1 : List PyData → Prop} {EX : XK} {j : Nat} (h0 : G[j]? = some (some (.r (.ref a)))) (h : ImA K M0 W H0 a l xs O G as S1) (hS : ∀ ds, S1 ds → ∃ x, pre x ∧ ds = enc x ∧ ∀ d, post x d → R d) : Im K M0 W H0 a l xs O G (tCall (SpS K pre enc post) [] EX (tCons (tVar j) as)) R := fun E c k σ H hl C Q q => by
  refine ⟨.ref a, C.raw h0, ?_⟩
  refine h E c k σ H hl C _ fun vs ds c1 k1 H1 hx C1 p1 r1 => ?_
  obtain ⟨x, hp, e, hR⟩ := hS ds hx
  subst e
  show SpS K pre enc post ((.ref a :: vs) ++ []) H1 Q EX
  rw [List.append_nil]
  refine ⟨_, a, l, c1, k1, xs, vs, x, rfl, C1.en.mok, .inr List.mem_cons_self, C1.rdR List.mem_cons_self, C1.ex _ hl, r1, hp, fun d v c' k' H2 hd h1 h2 r2 => ?_⟩
  obtain ⟨C2, p2⟩ := C1.turn h1 h2
  exact q v d c' k' H2 (hR d hd) C2 (p1.trans p2) r2
theorem imt_test {RB : Bool → Prop} (h : Im K M0 W H0 a l xs O G te R) (hR : ∀ d, R d → ∃ b, d = .bool b ∧ RB b) : ImT K M0 W H0 a l xs O G (tTest te) RB := fun E c k σ H hl C Q q =>
  h E c k σ H hl C _ fun v d c1 k1 H1 hd C1 p1 r1 => by
    obtain ⟨b, e, hb⟩ := hR d hd
    subst e
    exact ⟨b, r1.bool_inv, q b c1 k1 H1 hb C1 p1⟩
theorem imt_at {b : Bool} {RB : Bool → Prop} (h : ∀ (E : List (V × PyData)) (c : Int) (k : Nat) (σ : L2.St) (H : Hp), S K M0 W H0 ((a, .raw (cl l c k)) :: O) G E σ H → AtT tt σ H b) (hR : RB b) : ImT K M0 W H0 a l xs O G tt RB := fun E c k σ H hl C Q q => h E c k σ H C Q fun H2 s => q b c k H2 hR (C.same s) (.of s)
theorem imt_and {A B RB : Bool → Prop} (h1 : ImT K M0 W H0 a l xs O G tt A) (h2 : ImT K M0 W H0 a l xs O G tu B) (hR : ∀ x, RB x) : ImT K M0 W H0 a l xs O G (tAnd tt tu) RB := fun E c k σ H hl C Q q =>
  h1 E c k σ H hl C _ fun b c1 k1 H1 hb C1 p1 => by
    cases b with
    | true =>
      show tu σ H1 Q
      exact h2 E c1 k1 σ H1 hl C1 Q fun b2 c2 k2 H2 _ C2 p2 => q b2 c2 k2 H2 (hR _) C2 (p1.trans p2)
    | false =>
      show Q false H1
      exact q false c1 k1 H1 (hR _) C1 p1
/-! statements -/
theorem s_setI (hl : (V.ref l, PyData.list (xs.map .int)) ∈ E) (C : S K M0 W H0 ((a, .raw (cl l c k)) :: O) G E σ H) (h : Im K M0 W H0 a l xs O G te R) (q : ∀ d (c' : Int) (k' : Nat) σ' H', R d → S K M0 W H0 ((a, .raw (cl l c' k')) :: O) (G.set i (some (.d d))) E σ' H' → tx D σ' H') : tSeq (tAsg te (gName i)) tx D σ H :=
  h E c k σ H hl C _ fun v d c1 k1 H1 hd C1 p1 r1 => q d c1 k1 _ H1 hd (C1.set (s := .d d) r1 i)
theorem s_setE (hl : (V.ref l, PyData.list (xs.map .int)) ∈ E) (C : S K M0 W H0 ((a, .raw (cl l c k)) :: O) G E σ H) (h : Im K M0 W H0 a l xs O G te R) (q : ∀ d (c' : Int) (k' : Nat) σ' H', R d → S K M0 W H0 ((a, .raw (cl l c' k')) :: O) (G.set i (some (.d d))) E σ' H' → D.nx σ' H') : tAsg te (gName i) D σ H :=
  h E c k σ H hl C _ fun v d c1 k1 H1 hd C1 p1 r1 => q d c1 k1 _ H1 hd (C1.set (s := .d d) r1 i)
theorem s_asgI {g : TG} {is : List Nat} {G2 : PyData → Gm} (hl : (V.ref l, PyData.list (xs.map .int)) ∈ E) (C : S K M0 W H0 ((a, .raw (cl l c k)) :: O) G E σ H) (h : Im K M0 W H0 a l xs O G te R) (hg : ∀ d, R d → GEv K g G d is (G2 d)) (q : ∀ d (c' : Int) (k' : Nat) σ' H', R d → S K M0 W H0 ((a, .raw (cl l c' k')) :: O) (G2 d) E σ' H' → tx D σ' H') : tSeq (tAsg te g) tx D σ H :=
  h E c k σ H hl C _ fun v d c1 k1 H1 hd C1 p1 r1 => hg d hd _ _ _ _ _ C1.en r1 fun σ' e w => q d c1 k1 σ' H1 hd (C1.env e)
theorem s_ifI {RB : Bool → Prop} {t1 t2 : TS} (hl : (V.ref l, PyData.list (xs.map .int)) ∈ E) (C : S K M0 W H0 ((a, .raw (cl l c k)) :: O) G E σ H) (h : ImT K M0 W H0 a l xs O G tt RB) (h1 : RB true → ∀ (c' : Int) (k' : Nat) H', S K M0 W H0 ((a, .raw (cl l c' k')) :: O) G E σ H' → t1 D σ H') (h2 : RB false → ∀ (c' : Int) (k' : Nat) H', S K M0 W H0 ((a, .raw (cl l c' k')) :: O) G E σ H' → t2 D σ H') : tIfS tt t1 t2 D σ H :=
  h E c k σ H hl C _ fun b c1 k1 H1 hb C1 _ => by
    cases b with
    | true =>
      show t1 D σ H1
      exact h1 hb c1 k1 H1 C1
    | false =>
      show t2 D σ H1
      exact h2 hb c1 k1 H1 C1
theorem s_appI {es : List PyData} (hl : (V.ref l, PyData.list (xs.map .int)) ∈ E) (C : S K M0 W H0 ((a, .raw (cl l c k)) :: (p, .lst es) :: O) G E σ H) (hi : G[i]? = some (some (.r (.ref p)))) (hz : es.length < 100000) (h : Im K M0 W H0 a l xs ((p, .lst es) :: O) G te R) (q : ∀ d (c' : Int) (k' : Nat) H', R d → S K M0 W H0 ((a, .raw (cl l c' k')) :: (p, .lst (es ++ [d])) :: O) G E σ H' → D.nx σ H') :
    tDrop (tBM K "list" rAppend (tVar i) (tCons te tNil)) D σ H := by
  obtain ⟨xs0, hx0, _⟩ := (C.ow _ (List.mem_cons_of_mem _ List.mem_cons_self)).2
  refine ⟨.ref p, C.raw hi, .inl ⟨rfl, xs0, .inl (.inl hx0)⟩, ?_⟩
  refine h E c k σ H hl C _ fun v d c1 k1 H1 hd C1 p1 r1 => ?_
  obtain ⟨ys, hy, ry⟩ := (C1.ow _ (List.mem_cons_of_mem _ List.mem_cons_self)).2
  refine ⟨p, ys, v, rfl, rfl, hy, ?_, ?_⟩
  · rw [ry.length]
    exact Nat.lt_trans hz (by decide)
  · have r2 : RepL K (MM M0 ((p, .lst es) :: (a, .raw (cl l c1 k1)) :: O)) H1 (ys ++ [v]) (es ++ [d]) := (ry.app (.cons r1 .nil)).less (mm_perm (List.Perm.swap _ _ _))
    exact q d c1 k1 _ hd (C1.swap.put r2).swap
theorem s_retI (hl : (V.ref l, PyData.list (xs.map .int)) ∈ E) (C : S K M0 W H0 ((a, .raw (cl l c k)) :: O) G E σ H) (h : Im K M0 W H0 a l xs O G te R) (q : ∀ v d (c' : Int) (k' : Nat) H', R d → S K M0 W H0 ((a, .raw (cl l c' k')) :: O) G E σ H' → Rep K M0 H' v d → D.rt v H') : tRet te D σ H :=
  h E c k σ H hl C _ fun v d c1 k1 H1 hd C1 p1 r1 => q v d c1 k1 H1 hd C1 (r1.less fun b hb => .inl hb)
/-- a new list of one's own, in no slot -/
theorem S.own (C : S K M0 W H0 O G E σ H) (hp : H p = none) {ds : List PyData} {ys : List V} (r : RepL K (MM M0 O) H ys ds) : S K M0 W H0 ((p, .lst ds) :: O) G E σ (upd H p (.lst ys)) := by
  have C1 := C.new hp r G.length
  have s := same_new (o := .lst ys) hp
  have e1 : G.set G.length (some (.r (.ref p))) = G := List.set_eq_of_length_le (Nat.le_refl _)
  have e2 : σ.set G.length (some (.ref p)) = σ := List.set_eq_of_length_le (by rw [C.en.len]; exact Nat.le_refl _)
  rw [e1, e2] at C1
  exact C1
/-- other slots, the heap as it has come to be -/
theorem S.move {O2 : Ow} (C : S K M0 W H0 O G E σ H) (C2 : S K M0 W H0 O2 G2 E σ2 H2) (eO : O2.map (·.1) = O.map (·.1)) (k : Kpt (MM M0 O) H H2) : S K M0 W H0 O2 G E σ H2 := by
  have e : MM M0 O2 = MM M0 O := by
    funext b
    unfold MM
    rw [eO]
  have en : En K (MM M0 O) H2 σ G := C.en.mono k (fun b h => .inl h) (e ▸ C2.en.mok)
  exact ⟨e ▸ en, C2.mo, C2.sm, C2.ow, C2.nd, C2.wo, C2.ex⟩
/-- [e for x in it if t], the test drawing: some of the items, in a list of one's own -/
theorem lc_own {α : Type} {wi : TI} {g : TG} {is vs : List Nat} {RB : Bool → Prop} (ys : List α) (enc : α → PyData) (f : α → PyData) (hi : EvI K wi G (ys.map enc)) (hv : ∀ i ∈ is, i ∈ vs)
    (hb : ∀ y, y ∈ ys → ∃ G', GEv K g (wipeG G vs) (enc y) is G' ∧ (∀ D es, ImT K M0 W H0 a l xs ((D, .lst es) :: O) G' tt RB) ∧ Ev K te G' (f y)) (hz : ys.length ≤ 1000) (hl : (V.ref l, PyData.list (xs.map .int)) ∈ E) (C : S K M0 W H0 ((a, .raw (cl l c k)) :: O) G E σ H) {Q : VK}
    (q : ∀ (Da : Addr) (zs : List α) (c' : Int) (k' : Nat) H', H Da = none → zs.Sublist ys → S K M0 W H0 ((a, .raw (cl l c' k')) :: (Da, .lst (zs.map f)) :: O) G E σ H' → Kpt (MM M0 ((a, .raw (cl l c k)) :: O)) H H' → Q (.ref Da) H') : tLc wi g tt te vs σ H Q :=
  EvI.at hi C.en _ fun J H1 E1 s1 hE hJ Da hD => by
    have C1 := C.same s1
    have C2 := (C1.own hD (ds := []) .nil).swap
    have lift : ∀ {H' : Hp} {v : V} {d : PyData}, Rep K (MM M0 ((a, .raw (cl l c k)) :: O)) H1 v d → Rep K (MM M0 ((a, .raw (cl l c k)) :: (Da, .lst []) :: O)) (upd H1 Da (.lst [])) v d := fun {H' v d} r => r.mono (fun b o _ e => (same_new hD) b o e) fun b hb => by
      rcases hb with hb | hb
      · exact .inl (.inl hb)
      · rcases List.mem_cons.mp hb with hb | hb
        · exact .inl (.inr (hb ▸ List.mem_cons_self))
        · rcases List.mem_cons.mp hb with hb | hb
          · exact .inr (hb ▸ hD)
          · exact .inl (.inr (List.mem_cons_of_mem _ hb))
    have C3 : S K M0 W H0 ((a, .raw (cl l c k)) :: (Da, .lst []) :: O) G (E1 ++ E) σ (upd H1 Da (.lst [])) := C2.exs fun p hp => by
      rcases List.mem_append.mp hp with h | h
      · exact lift (H' := H1) (hE p h)
      · exact C2.ex p h
    refine ⟨fun i m H' => m = ys.length - i ∧ i ≤ ys.length ∧ ∃ (c2 : Int) (k2 : Nat) (zs : List α), zs.Sublist (ys.take i) ∧ S K M0 W H0 ((a, .raw (cl l c2 k2)) :: (Da, .lst (zs.map f)) :: O) G (E1 ++ E) σ H' ∧ Kpt (MM M0 ((a, .raw (cl l c k)) :: O)) H H',
      ⟨ys.length, rfl, Nat.zero_le _, c, k, [], .slnil, C3, (Kpt.of s1).trans (.of (same_new hD))⟩, ?_⟩
    rintro i m H' ⟨rfl, hle, c2, k2, zs, sub, C4, kp⟩
    have hE2 : ∀ p ∈ E1, Rep K (MM M0 ((a, .raw (cl l c2 k2)) :: (Da, .lst (zs.map f)) :: O)) H' p.1 p.2 := fun p hp => C4.ex p (List.mem_append_left _ hp)
    by_cases hlt : i < ys.length
    · have hlt2 : i < (ys.map enc).length := by rw [List.length_map]; exact hlt
      refine .inr ⟨hJ.go _ _ i hE2 hlt2, fun H3 => ∃ (c2 : Int) (k2 : Nat) (zs : List α), zs.Sublist (ys.take (i + 1)) ∧ S K M0 W H0 ((a, .raw (cl l c2 k2)) :: (Da, .lst (zs.map f)) :: O) G (E1 ++ E) σ H3 ∧ Kpt (MM M0 ((a, .raw (cl l c k)) :: O)) H H3, fun H3 h3 => ⟨ys.length - (i + 1), by omega, rfl, hlt, h3⟩, fun x H3 hy => ?_⟩
      obtain ⟨s3, dd, hd, rd⟩ := hJ.yld _ _ i x H3 C4.en.mok hE2 hlt2 hy
      rw [List.getElem?_map, List.getElem?_eq_getElem hlt] at hd
      have hd2 : enc ys[i] = dd := Option.some.inj hd
      subst hd2
      obtain ⟨G', hg, ht, he⟩ := hb ys[i] (List.getElem_mem hlt)
      have C5 := C4.same s3
      have tk : ys.take (i + 1) = ys.take i ++ [ys[i]] := by rw [List.take_add_one, List.getElem?_eq_getElem hlt]; rfl
      refine hg _ _ _ _ _ (C5.en.wipe vs) rd fun σ2 e2 w2 => ⟨by rw [w2 vs hv, wipe_wipe], ?_⟩
      have C6 := C5.env e2
      refine ht Da (zs.map f) (E1 ++ E) c2 k2 σ2 H3 (List.mem_append_right _ hl) C6 _ fun b c3 k3 H4 _ C7 kp4 => ?_
      have subM : ∀ b, ¬ MM M0 ((a, .raw (cl l c k)) :: O) b → ∀ {o : HO}, H b = some o → ¬ MM M0 ((a, .raw (cl l c2 k2)) :: (Da, .lst (zs.map f)) :: O) b := fun b n {o} e z => by
        rcases z with z | z
        · exact n (.inl z)
        · rcases List.mem_cons.mp z with z | z
          · have z : b = a := z
            rw [z] at n
            exact n (.inr List.mem_cons_self)
          · rcases List.mem_cons.mp z with z | z
            · have z : b = Da := z
              rw [z] at e
              have := s1 _ _ e
              rw [hD] at this
              cases this
            · exact n (.inr (List.mem_cons_of_mem _ z))
      have kpA : Kpt (MM M0 ((a, .raw (cl l c k)) :: O)) H H4 := fun b o n e => kp4 b o (subM b n e) (s3 b o (kp b o n e))
      cases b with
      | false =>
        show ∃ (c2 : Int) (k2 : Nat) (zs : List α), _
        refine ⟨c3, k3, zs, ?_, C5.move C7 rfl kp4, kpA⟩
        rw [tk]
        exact sub.trans (List.sublist_append_left _ _)
      | true =>
        show te σ2 H4 _
        refine Ev.at he C7.en _ fun y H5 s5 r5 => ?_
        have C8 := C7.same s5
        obtain ⟨acc, hacc, racc⟩ := (C8.ow _ (List.mem_cons_of_mem _ List.mem_cons_self)).2
        have hal : acc.length ≤ 1000 := by
          have h1 := racc.length
          rw [List.length_map] at h1
          have h2 := sub.length_le
          rw [List.length_take] at h2
          omega
        have r2 : RepL K (MM M0 ((Da, .lst (zs.map f)) :: (a, .raw (cl l c3 k3)) :: O)) H5 (acc ++ [y]) (zs.map f ++ [f ys[i]]) := (racc.app (.cons r5 .nil)).less (mm_perm (List.Perm.swap _ _ _))
        have C9 := (C8.swap.put r2).swap
        have kp9 : Kpt (MM M0 ((a, .raw (cl l c2 k2)) :: (Da, .lst (zs.map f)) :: O)) H3 (upd H5 Da (.lst (acc ++ [y]))) := fun b o n e => by
          have nb : b ≠ Da := fun z => by
            rw [z] at n
            exact n (.inr (List.mem_cons_of_mem _ List.mem_cons_self))
          rw [upd_ne nb]
          exact s5 b o (kp4 b o n e)
        refine ⟨acc, hacc, small1000 hal, c3, k3, zs ++ [ys[i]], ?_, ?_, ?_⟩
        · rw [tk]
          exact sub.append (List.Sublist.refl _)
        · rw [List.map_append]
          exact C5.move C9 rfl kp9
        · exact fun b o n e => kp9 b o (subM b n e) (s3 b o (kp b o n e))
    · have e0 : i = ys.length := by omega
      subst e0
      refine .inl ⟨?_, ?_⟩
      · have := hJ.stop _ _ hE2
        rw [List.length_map] at this
        exact this
      · rw [List.take_length] at sub
        have hDa : H Da = none := by
          cases e : H Da with
          | none => rfl
          | some o =>
            have := s1 _ _ e
            rw [hD] at this
            cases this
        exact q Da zs c2 k2 H' hDa sub (C4.exs fun p hp => C4.ex p (List.mem_append_right _ hp)) kp
theorem im_lc {α : Type} {wi : TI} {g : TG} {is vs : List Nat} {RB : Bool → Prop} (ys : List α) (enc : α → PyData) (f : α → PyData) (hi : EvI K wi G (ys.map enc)) (hv : ∀ i ∈ is, i ∈ vs)
    (hb : ∀ y, y ∈ ys → ∃ G', GEv K g (wipeG G vs) (enc y) is G' ∧ (∀ D es, ImT K M0 W H0 a l xs ((D, .lst es) :: O) G' tt RB) ∧ Ev K te G' (f y)) (hz : ys.length ≤ 1000) (hR : ∀ zs : List α, zs.Sublist ys → R (.list (zs.map f))) : Im K M0 W H0 a l xs O G (tLc wi g tt te vs) R := fun E c k σ H hl C Q q =>
  lc_own ys enc f hi hv hb hz hl C fun Da zs c2 k2 H' hDa sub C4 kp => by
    obtain ⟨acc, hacc, racc⟩ := (C4.ow _ (List.mem_cons_of_mem _ List.mem_cons_self)).2
    have C5 := C4.swap
    have less : ∀ b, MM M0 ((a, .raw (cl l c2 k2)) :: O) b → MM M0 ((Da, .lst (zs.map f)) :: (a, .raw (cl l c2 k2)) :: O) b := fun b h => h.elim .inl fun m => .inr (List.mem_cons_of_mem _ m)
    have hno := (List.nodup_cons.mp C5.nd).1
    have nW : ¬ W Da := fun z => by
      obtain ⟨q0, hq0, e⟩ := List.mem_map.mp (C.wo Da z)
      have := (C.ow q0 hq0).2.there
      rw [e] at this
      exact this hDa
    have nM : ¬ MM M0 ((a, .raw (cl l c2 k2)) :: O) Da := fun z => z.elim (C5.free List.mem_cons_self nW) hno
    have C6 : S K M0 W H0 ((a, .raw (cl l c2 k2)) :: O) G E σ H' := ⟨C5.en.less less, C5.mo, C5.sm, fun p hp => ⟨(C5.ow p (List.mem_cons_of_mem _ hp)).1, (C5.ow p (List.mem_cons_of_mem _ hp)).2.less less⟩, (List.nodup_cons.mp C5.nd).2, fun b w => by
      have h : b ∈ Da :: ((a, OD.raw (cl l c2 k2)) :: O).map (·.1) := C5.wo b w
      rcases List.mem_cons.mp h with e | h
      · rw [e] at w
        exact absurd w nW
      · exact h, fun p hp => (C5.ex p hp).less less⟩
    exact q _ _ c2 k2 H' (hR zs sub) C6 kp (.lst nM hacc (racc.less fun b hb => mm_perm (List.Perm.swap _ _ _) b (less b hb)))
/-- x = [e for .. if t], a list of one's own -/
theorem s_lcI {α : Type} {wi : TI} {g : TG} {is vs : List Nat} {RB : Bool → Prop} (ys : List α) (enc : α → PyData) (f : α → PyData) (hi : EvI K wi G (ys.map enc)) (hv : ∀ i ∈ is, i ∈ vs)
    (hb : ∀ y, y ∈ ys → ∃ G', GEv K g (wipeG G vs) (enc y) is G' ∧ (∀ D es, ImT K M0 W H0 a l xs ((D, .lst es) :: O) G' tt RB) ∧ Ev K te G' (f y)) (hz : ys.length ≤ 1000) (hl : (V.ref l, PyData.list (xs.map .int)) ∈ E) (C : S K M0 W H0 ((a, .raw (cl l c k)) :: O) G E σ H)
    (q : ∀ (p : Addr) (zs : List α) (c' : Int) (k' : Nat) σ' H', zs.Sublist ys → S K M0 W H0 ((a, .raw (cl l c' k')) :: (p, .lst (zs.map f)) :: O) (G.set i (some (.r (.ref p)))) E σ' H' → tx D σ' H') : tSeq (tAsg (tLc wi g tt te vs) (gName i)) tx D σ H := by
  show tLc wi g tt te vs σ H (fun x H1 => gName i x σ H1 (tx D))
  exact lc_own ys enc f hi hv hb hz hl C fun Da zs c2 k2 H' hDa sub C4 kp => show tx D (σ.set i (some (.ref Da))) H' from q Da zs c2 k2 _ H' sub (C4.set (s := .r (.ref Da)) rfl i)
/-- for _ in range(e), e drawing -/
theorem s_forI {as : TA} {g : TG} {tb2 : TS} {RN : Nat → Prop} (hl : (V.ref l, PyData.list (xs.map .int)) ∈ E) (C : S K M0 W H0 ((a, .raw (cl l c k)) :: O) G E σ H) (h : ImA K M0 W H0 a l xs O G as (fun ds => ∃ n : Nat, ds = [.int (n : Nat)] ∧ RN n)) (hR : ∀ n, RN n → n ≤ 100000)
    (q : ∀ (n : Nat) (c' : Int) (k' : Nat) H', RN n → S K M0 W H0 ((a, .raw (cl l c' k')) :: O) G E σ H' → tFor (iRng1 (tCons (tC (.int (n : Nat))) tNil)) g tb2 D σ H') : tFor (iRng1 as) g tb2 D σ H :=
  h E c k σ H hl C _ fun vs ds c1 k1 H1 hd C1 p1 r1 => by
    obtain ⟨n, rfl, hn⟩ := hd
    cases r1 with
    | cons r t =>
    cases t
    have e := r.int_inv
    subst e
    have h2 : ∃ j : Int, [V.int (n : Nat)] = [V.int j] ∧ _ := q n c1 k1 H1 hn C1
    exact h2
end
/-! ### the slots of such a def at its start; its end -/
theorem En.cons {K : PySem.W.Frag} {M : MS} {H : Hp} {σ : L2.St} {G : Gm} {s : Sl} {v : V} (e : En K M H σ G) (h : SlOk K M H s v) : En K M H (some v :: σ) (some s :: G) := by
  refine ⟨by rw [List.length_cons, List.length_cons, e.len], fun i x hx => ?_, e.mok⟩
  cases i with
  | zero =>
    have e1 := Option.some.inj (Option.some.inj hx)
    subst e1
    exact ⟨v, rfl, h⟩
  | succ i => exact e.at_ i x hx
section
variable {P : Program} {w : World} {K : PySem.W.Frag} {mg : Str → Option Value} {base : Heap} {x name : Str} {j k : Nat} {ps N : List Str} {n0 : Str} {st : Stmt} {f : Addr}
theorem mkS {α : Type} {pre : α → Prop} {enc : α → List PyData} {post : α → PyData → Prop} (D : DefAt K mg x name st f) (sc : FnScope (n0 :: N) ps (defScope st))
    (hb : ∀ (kV doc pm : Value) (an : Option Addr) (cdv ct : Value) (us : List Value), us.length = ps.length → bindArgs (PySem.W.fnOf name name (defArgs st) (defBody st) (defScope st) .none kV doc pm an cdv ct) ⟨us, []⟩ = pure (ps.zip us))
    (len : ∀ z, (enc z).length + 1 = ps.length)
    (hbody : ∀ (cdv : Value) (A : Around) (outer : List Env) (s : Shared) (H : Hp) (vs : List V) (Q : VK) (E : XK) (M : MS) (a l : Addr) (c : Int) (k1 : Nat) (xs : List Int) (z : α), Room k (A.deeper (envOfC name (defScope st) s.heap.objs.size f cdv)) → pre z →
      S K M (fun b => b = a) H [(a, .raw (cl l c k1))] (some (.r (.ref a)) :: gStart N.length (enc z)) [(.ref l, .list (xs.map .int))] (L2.start (n0 :: N) vs) H →
      (∀ {σ' : L2.St} {H2 : Hp} {O : Ow} {G : Gm} {E1 : List (V × PyData)} (c' : Int) (k' : Nat) v d, post z d → S K M (fun b => b = a) H ((a, .raw (cl l c' k')) :: O) G E1 σ' H2 → Rep K M H2 v d → Q v H2) →
      ∃ t, PSs (cxOf CX0 P w K mg base (n0 :: N) name (defScope st) f cdv A outer s H E).nox (defBody st) t ∧ t { nx := fun _ H' => Q .non H', rt := Q } (L2.start (n0 :: N) vs) H) : Callee P w K mg base x (k + 1) ps (SpS K pre enc post) := by
  refine mkC D sc hb (fun vs H Q E h => ?_) fun cdv A outer s H vs Q E hr h => ?_
  · obtain ⟨M, a, l, c, k1, xs, ws, z, rfl, _, _, _, _, rw', _, _⟩ := h
    rw [List.length_cons, rw'.length]
    exact len z
  · obtain ⟨M, a, l, c, k1, xs, ws, z, rfl, m, ma, ha, rl, rws, hp, q⟩ := h
    have e1 : ∀ b, MM M [(a, OD.raw (cl l c k1))] b → M b := fun b h => h.elim id fun z => by
      have z : b ∈ [a] := z
      rw [List.mem_singleton.mp z]
      exact ma
    have e0 : En K M H (L2.start (n0 :: N) (.ref a :: ws)) (some (.r (.ref a)) :: gStart N.length (enc z)) := by
      have e2 : L2.start (n0 :: N) (.ref a :: ws) = some (.ref a) :: L2.start N ws := by
        unfold L2.start
        rw [List.map_cons, List.length_cons, List.length_cons, Nat.succ_sub_succ]
        rfl
      rw [e2]
      exact (start_en m rws).cons rfl
    refine hbody cdv A outer s H _ Q E M a l c k1 xs z hr hp ⟨e0.less e1, m, fun _ _ _ h => h, fun p hp => ?_, by simp, fun b hb => by rw [hb]; exact List.mem_cons_self, fun p hp => ?_⟩ fun c' k' v d hd C r => ?_
    · rw [List.mem_singleton.mp hp]
      exact ⟨.inl rfl, ha⟩
    · rw [List.mem_singleton.mp hp]
      exact rl.less e1
    · exact q d v c' k' _ hd (fun b o hb e => C.sm b o hb e) (C.rdR List.mem_cons_self) r
end
end Tb
set_option Elab.async false
set_option linter.all false
set_option maxRecDepth 100000
set_option maxHeartbeats 4000000
/-! ## The law's own defs: the stream -/
namespace Tb
open PySem PySem.Spec PyProof.Rows PySem.W L2
abbrev s_52 : Stmt := top 52
theorem sc_52 : FnScope ["_law_script"] ["_law_script"] (defScope s_52) := ⟨rfl, rfl, rfl, by decide +kernel, rfl, by decide +kernel, by decide +kernel⟩
abbrev s_53 : Stmt := top 53
theorem sc_53 : FnScope ["_law_stream_here", "_law_many", "_law_k", "_law_cell", "_law_digit"] ["_law_stream_here", "_law_many"] (defScope s_53) := ⟨rfl, rfl, rfl, by decide +kernel, rfl, by decide +kernel, by decide +kernel⟩
section
variable {K : PySem.W.Frag} {M0 W M1 : MS} {H0 H H' H2 : Hp} {a l p : Addr} {xs : List Int} {O : Ow} {G G2 : Gm} {E : List (V × PyData)} {σ σ2 : L2.St} {te ta tb : TE} {D : Ends} {c c' : Int} {k k' : Nat}
def cellD (xs : List Int) (c : Int) (k : Nat) : PyData := .list [.list (xs.map .int), .int c, .int (k : Nat)]
/-- the stream read as data -/
theorem S.cell (C : S K M0 W H0 ((a, .raw (cl l c k)) :: O) G E σ H) (hl : (V.ref l, PyData.list (xs.map .int)) ∈ E) (h0 : G[0]? = some (some (.r (.ref a)))) : En K (fun b => MM M0 ((a, .raw (cl l c k)) :: O) b ∧ b ≠ a) H σ (G.set 0 (some (.d (cellD xs c k)))) := by
  have r1 : Rep K (fun b => MM M0 ((a, .raw (cl l c k)) :: O) b ∧ b ≠ a) H (.ref l) (.list (xs.map .int)) := (C.ex _ hl).less fun b h => h.1
  exact (C.en.less fun b h => h.1).view h0 (show SlOk K _ H (.d (cellD xs c k)) (.ref a) from .lst (fun z => z.2 rfl) (C.rdR List.mem_cons_self) (.cons r1 (.cons (.int _) (.cons (.int _) .nil))))
theorem s_cell1 (C : S K M0 W H0 ((a, .raw (cl l c k)) :: O) G E σ H) (h0 : G[0]? = some (some (.r (.ref a)))) (h : At K M1 te σ H (.int c')) (q : ∀ H', S K M0 W H0 ((a, .raw (cl l c' k)) :: O) G E σ H' → D.nx σ H') : tAsg te (gSub (tVar 0) (tC (.int 1)) rSetL) D σ H :=
  h _ fun v H1 s r => by
    have C1 := C.same s
    have ev := r.int_inv
    subst ev
    refine ⟨.ref a, C1.raw h0, ?_⟩
    refine ⟨a, _, 1, 1, rfl, rfl, C1.rdR List.mem_cons_self, rfl, ?_⟩
    exact q _ (C1.putR (cl l c' k))
theorem s_cell2 (C : S K M0 W H0 ((a, .raw (cl l c k)) :: O) G E σ H) (h0 : G[0]? = some (some (.r (.ref a)))) (h : At K M1 te σ H (.int (k' : Nat))) (q : ∀ H', S K M0 W H0 ((a, .raw (cl l c k')) :: O) G E σ H' → D.nx σ H') : tAsg te (gSub (tVar 0) (tC (.int 2)) rSetL) D σ H :=
  h _ fun v H1 s r => by
    have C1 := C.same s
    have ev := r.int_inv
    subst ev
    refine ⟨.ref a, C1.raw h0, ?_⟩
    refine ⟨a, _, 2, 2, rfl, rfl, C1.rdR List.mem_cons_self, rfl, ?_⟩
    exact q _ (C1.putR (cl l c k'))
theorem s_join {ta tb : TS} {I : L2.St → Hp → Prop} (h2 : ∀ σ' H', I σ' H' → tb D σ' H') (h1 : ∀ X : L2.St → Hp → Prop, (∀ σ' H', I σ' H' → X σ' H') → ta { D with nx := X } σ H) : tSeq ta tb D σ H := h1 (tb D) h2
theorem rv_mul {i j : Int} (h : CMul i j) : RV K (rI CMul fun i j => .int (i * j)) (.int i) (.int j) (.int (i * j)) := rv_I h rfl rfl
theorem rv_mod {i j : Int} (h : 0 < j) : RV K (rI (fun _ j => 0 < j) fun i j => .int (i % j)) (.int i) (.int j) (.int (i % j)) := rv_I h rfl rfl
theorem rv_divW {i j : Int} (h : CDivW i j) : RV K (rI CDivW fun i j => .int (i / j)) (.int i) (.int j) (.int (i / j)) := rv_I h rfl rfl
theorem rv_pow {i j : Int} (h : CPow i j) : RV K (rI CPow fun i j => .int (i ^ j.toNat)) (.int i) (.int j) (.int (i ^ j.toNat)) := rv_I h rfl rfl
end
section
variable {P : Program} {w : World} {K : PySem.W.Frag} {mg : Str → Option Value} {base : Heap} {k : Nat} {f aR aO : Addr}
def spStream (K : PySem.W.Frag) : Sp := fun vs H Q _ => ∃ (a0 : Addr) (xs : List Int), vs = [.ref a0] ∧ SqL K H a0 (xs.map V.int) ∧ ∀ p l H2, Same H H2 → H p = none → H l = none → l ≠ p → H2 p = some (cl l 0 0) → H2 l = some (.lst (xs.map V.int)) → Q (.ref p) H2
theorem c__law_stream (D : DefAt K mg "_law_stream" "_law_stream" s_52 f) (B : Bi mg) : Callee P w K mg base "_law_stream" (k + 1) ["_law_script"] (spStream K) := by
  refine mkC D sc_52 (fun _ _ _ _ _ _ us hl => match us, hl with | [_], _ => rfl) (fun vs H Q E h => ?_) fun cdv A outer s H vs Q E hr h => ?_
  · obtain ⟨a0, xs, rfl, _⟩ := h
    rfl
  · obtain ⟨a0, xs, rfl, hs, q⟩ := h
    refine ⟨_, (pss_one (ps_ret (pe_lst (pa_cons (pe_callTy (kLst K rfl) (by rfl) B.list_ (by decide +kernel) (pa_cons (pv 0) pa_nil)) (pa_cons pe_int (pa_cons pe_int pa_nil)))))), ?_⟩
    refine ⟨_, rfl, a0, _, rfl, .inl hs, fun l hl => ⟨small1000 (by decide : 3 ≤ 1000) |> Nat.le_of_lt, fun p hp => ?_⟩⟩
    have hpl : p ≠ l := fun e => by rw [e, upd_same] at hp; cases hp
    have hp0 : H p = none := by rw [upd_ne hpl] at hp; exact hp
    exact q p l _ ((same_new hl).trans (same_new hp)) hp0 hl (Ne.symm hpl) upd_same (by rw [upd_ne (Ne.symm hpl)]; exact upd_same)
abbrev preN : Int → Prop := fun m => 1 ≤ m ∧ m ≤ 1000
abbrev encN : Int → List PyData := fun m => [.int m]
abbrev postN : Int → PyData → Prop := fun m d => ∃ i : Int, d = .int i ∧ 0 ≤ i ∧ i < m
theorem c__law_next (D : DefAt K mg "_law_next" "_law_next" s_53 f) (B : Bi mg) : Callee P w K mg base "_law_next" (k + 1) ["_law_stream_here", "_law_many"] (SpS K preN encN postN) := by
  refine mkS D sc_53 (fun _ _ _ _ _ _ us hl => match us, hl with | [_, _], _ => rfl) (fun _ => rfl) fun cdv A outer s H vs Q E M a l c k1 xs m hr hp C q => ?_
  obtain ⟨m1, m2⟩ := hp
  have hl : (V.ref l, PyData.list (xs.map .int)) ∈ [(V.ref l, PyData.list (xs.map .int))] := List.mem_cons_self
  refine ⟨_, (pss_cons (ps_if (pt_cmpR op_eq (pe_ix (kIx K rfl) (pv 0) pe_int (fun _ _ => rfl)) pe_int (by rfl)) (pss_cons (ps_set (i := 2) sc_53.nd rfl (.inl rfl) (pe_ix (kIx K rfl) (pv 0) pe_int (fun _ _ => rfl)))
      (pss_cons (ps_set (i := 3) sc_53.nd rfl (.inl rfl) (pe_op op_add pe_int (pv 2)))
      (pss_cons (ps_if (pt_cmpR op_lt (pv 2) (pe_callB (kLen K rfl) (by rfl) B.len_ (by decide +kernel) (pa_cons (pe_ix (kIx K rfl) (pv 0) pe_int (fun _ _ => rfl)) pa_nil)) (by rfl)) (pss_one (ps_set (i := 3) sc_53.nd rfl (.inl rfl) (pe_callB call_abs (by rfl) B.abs_ (by decide +kernel) (pa_cons (pe_ix (kIx K rfl) (pe_ix (kIx K rfl) (pv 0) pe_int (fun _ _ => rfl)) (pv 2) (fun _ _ => rfl)) pa_nil)))) pss_nil)
      (pss_cons (ps_if (pt_cmpR op_lt (pv 3) (pe_op op_pow pe_int pe_int) (by rfl)) (pss_cons (ps_set (i := 3) sc_53.nd rfl (.inl rfl) (pe_op op_mod (pe_callTy call_int1 (by rfl) B.int_ (by decide +kernel) (pa_cons (pe_op op_add (pe_op op_add (pe_op op_mul (pv 3) pe_int) (pe_op op_mul (pv 2) pe_int)) pe_int) pa_nil)) pe_int))
      (pss_one (ps_set (i := 3) sc_53.nd rfl (.inl rfl) (pe_op op_add (pe_op op_mul (pe_op op_mod (pe_callTy call_int1 (by rfl) B.int_ (by decide +kernel) (pa_cons (pe_op op_add (pe_op op_mul (pv 3) pe_int) pe_int) pa_nil)) pe_int) pe_int) (pv 3))))) pss_nil)
      (pss_cons (ps_asg (pv 3) (pg_sub (pv 0) pe_int set_list))
      (pss_one (ps_asg (pe_op op_add (pv 2) pe_int) (pg_sub (pv 0) pe_int set_list)))))))) pss_nil)
      (pss_cons (ps_set (i := 4) sc_53.nd rfl (.inl rfl) (pe_op op_mod (pe_callTy call_int1 (by rfl) B.int_ (by decide +kernel) (pa_cons (pe_ix (kIx K rfl) (pv 0) pe_int (fun _ _ => rfl)) pa_nil)) (pv 1)))
      (pss_cons (ps_asg (pe_op op_fdivW (pe_ix (kIx K rfl) (pv 0) pe_int (fun _ _ => rfl)) (pv 1)) (pg_sub (pv 0) pe_int set_list))
      (pss_one (ps_ret (pv 4)))))), ?_⟩
  refine s_join (I := fun σ' H' => ∃ (c2 : Int) (k2 : Nat) (z2 z3 : Option Sl), S K M (fun b => b = a) H [(a, .raw (cl l c2 k2))] [some (.r (.ref a)), some (.d (.int m)), z2, z3, none] [(.ref l, .list (xs.map .int))] σ' H') ?_ fun X hX => ?_
  · rintro σ2 H2 ⟨c2, k2, z2, z3, C2⟩
    refine s_setFq C2 (Ev.at (ev_op (ev_cb (ea_cons (ev_op (x := cellD xs c2 k2) (ev_var rfl) ev_int (rv_ixL atI_1)) ea_nil) rc_intI) (ev_var rfl) (rv_mod (by omega))) (C2.cell hl rfl)) rfl fun σ3 H3 C3 => ?_
    refine s_seq ?_
    refine s_cell1 (c' := c2 / m) C3 rfl (Ev.at (ev_op (ev_op (x := cellD xs c2 k2) (ev_var rfl) ev_int (rv_ixL atI_1)) (ev_var rfl) (rv_divW (wide_div (b := 10) (by omega) (by omega) (by decide) (by decide)))) (C3.cell hl rfl)) fun H4 C4 => ?_
    refine s_retI (R := fun d => d = .int (c2 % m)) hl C4 (im_ev (ev_var rfl) rfl) fun v d c' k' H5 hd C5 r5 => ?_
    subst hd
    exact q c' k' v _ ⟨_, rfl, Int.emod_nonneg _ (by omega), Int.emod_lt_of_pos _ (by omega)⟩ C5 r5
  refine s_if (b := decide (c = 0)) C (EvT.at (et_test (ev_op (ev_op (x := cellD xs c k1) (ev_var rfl) ev_int (rv_ixL atI_1)) ev_int rv_eqI)) (C.cell hl rfl)) (fun hb H1 C1 => ?_) fun hb H1 C1 => hX _ _ ⟨_, _, _, _, C1⟩
  refine s_setFq C1 (Ev.at (ev_op (x := cellD xs c k1) (ev_var rfl) ev_int (rv_ixL atI_2)) (C1.cell hl rfl)) rfl fun σ2 H2 C2 => ?_
  refine s_setq C2 (Ev.at (ev_op ev_int (ev_var rfl) rv_add) C2.en) fun σ3 H3 C3 => ?_
  refine s_join (I := fun σ' H' => ∃ v : Int, S K M (fun b => b = a) H [(a, .raw (cl l c k1))] [some (.r (.ref a)), some (.d (.int m)), some (.d (.int (k1 : Nat))), some (.d (.int v)), none] [(.ref l, .list (xs.map .int))] σ' H') ?_ fun Y hY => ?_
  · rintro σ4 H4 ⟨v, C4⟩
    refine s_join (I := fun σ' H' => ∃ v : Int, S K M (fun b => b = a) H [(a, .raw (cl l c k1))] [some (.r (.ref a)), some (.d (.int m)), some (.d (.int (k1 : Nat))), some (.d (.int v)), none] [(.ref l, .list (xs.map .int))] σ' H') ?_ fun Z hZ => ?_
    · rintro σ5 H5 ⟨v2, C5⟩
      refine s_seq (s_cell1 C5 rfl (Ev.at (ev_var rfl) C5.en) fun H6 C6 => ?_)
      exact s_cell2 (k' := k1 + 1) C6 rfl (Ev.at (ev_op (ev_var rfl) ev_int rv_add) C6.en) fun H7 C7 => hX _ _ ⟨_, _, _, _, C7⟩
    · refine s_if (b := decide (v < 10 ^ 18)) C4 (EvT.at (et_test (ev_op (ev_var rfl) (ev_op ev_int ev_int (rv_pow (i := 10) (j := 18) ⟨by decide, by decide, by decide⟩)) rv_lt)) C4.en) (fun hb3 H5 C5 => ?_) fun hb3 H5 C5 => hZ _ _ ⟨_, C5⟩
      refine s_setq C5 (Ev.at (ev_op (ev_cb (ea_cons (ev_op (ev_op (ev_op (ev_var rfl) ev_int (rv_mul (.inr ⟨by decide, by decide⟩))) (ev_op (ev_var rfl) ev_int (rv_mul (.inr ⟨by decide, by decide⟩))) rv_add) ev_int rv_add) ea_nil) rc_intI) ev_int (rv_mod (by decide))) C5.en) fun σ6 H6 C6 => ?_
      exact s_set C6 (Ev.at (ev_op (ev_op (ev_op (ev_cb (ea_cons (ev_op (ev_op (ev_var rfl) ev_int (rv_mul (.inr ⟨by decide, by decide⟩))) ev_int rv_add) ea_nil) rc_intI) ev_int (rv_mod (by decide))) ev_int (rv_mul (.inr ⟨by decide, by decide⟩))) (ev_var rfl) rv_add) C6.en) fun σ7 H7 C7 => hZ _ _ ⟨_, C7⟩
  · refine s_if (b := decide (((k1 : Nat) : Int) < ((xs.length : Nat) : Int))) C3 (EvT.at (et_test (ev_op (ev_var rfl) (ev_is (ev_cb (ea_cons (ev_op (x := cellD xs c k1) (ev_var rfl) ev_int (rv_ixL atI_0)) ea_nil) rc_lenL) (by rw [List.length_map])) rv_lt)) (C3.cell hl rfl)) (fun hb2 H4 C4 => ?_) fun hb2 H4 C4 => hY _ _ ⟨_, C4⟩
    have hb2 := of_decide_eq_true hb2
    have hg : xs[k1]? = some xs[k1] := List.getElem?_eq_getElem (by omega)
    exact s_setF C4 (Ev.at (ev_cb (ea_cons (ev_op (ev_op (x := cellD xs c k1) (ev_var rfl) ev_int (rv_ixL atI_0)) (ev_var rfl) (rv_ixL (atI_nat (by rw [List.getElem?_map, hg]; rfl)))) ea_nil) rc_abs) (C4.cell hl rfl)) rfl fun σ5 H5 C5 => hY _ _ ⟨_, C5⟩
end
end Tb
set_option Elab.async false
set_option linter.all false
set_option maxRecDepth 100000
set_option maxHeartbeats 4000000
/-! ## The law's own defs: drawn plans -/
namespace Tb
open PySem PySem.Spec PyProof.Rows PySem.W L2
abbrev s_62 : Stmt := top 62
theorem sc_62 : FnScope ["_law_stream_here", "_law_tasks_here", "_law_word", "_law_row", "_law_parts", "_law_turn", "_law_size", "_law_block", "_law_k"] ["_law_stream_here", "_law_tasks_here", "_law_word"] (defScope s_62) := ⟨rfl, rfl, rfl, by decide +kernel, rfl, by decide +kernel, by decide +kernel⟩
abbrev s_63 : Stmt := top 63
theorem sc_63 : FnScope ["_law_stream_here", "_law_size"] ["_law_stream_here", "_law_size"] (defScope s_63) := ⟨rfl, rfl, rfl, by decide +kernel, rfl, by decide +kernel, by decide +kernel⟩
section
variable {K : PySem.W.Frag} {M0 W M1 : MS} {H0 H H' H2 : Hp} {a l p pr : Addr} {xs : List Int} {O : Ow} {G G2 : Gm} {E : List (V × PyData)} {σ σ2 : L2.St} {te ta tb : TE} {tx : TS} {D : Ends} {c c' : Int} {k k' : Nat}
abbrev tNextLen (K : PySem.W.Frag) : TE := tCall (SpS K preN encN postN) [] E0 (tCons (tVar 0) (tCons (tCB (fun xs H Q => ∃ p ys, xs = [.ref p] ∧ (SqL K H p ys ∨ SqT K H p ys) ∧ Q (.int ys.length) H) (tCons (tVar 3) tNil)) tNil))
theorem not_W (C : S K M0 (fun b => b = a) H0 ((a, .raw (cl l c k)) :: O) G E σ H) {q : Addr} (h : q ∈ O.map (·.1)) : ¬ (fun b => b = a) q := fun z => by
  have z : q = a := z
  rw [z] at h
  exact (List.nodup_cons.mp C.nd).1 h
/-- x = list(e), a list of one's own -/
theorem s_listq {i : Nat} {ds : List PyData} (C : S K M0 W H0 O G E σ H) (h : At K (MM M0 O) te σ H (.list ds)) (q : ∀ p σ' H', S K M0 W H0 ((p, .lst ds) :: O) (G.set i (some (.r (.ref p)))) E σ' H' → tx D σ' H') :
    tSeq (tAsg (tCB (fun xs H Q => ∃ p ys, xs = [.ref p] ∧ (SqL K H p ys ∨ SqT K H p ys) ∧ ∀ l, H l = none → Q (.ref l) (upd H l (.lst ys))) (tCons te tNil)) (gName i)) tx D σ H := by
  show te σ H _
  refine h _ fun v H1 s r => ?_
  obtain ⟨ax, ys, rfl, nx, hx, rx⟩ := r.lst_inv
  exact ⟨ax, ys, rfl, .inl (.inl (.inl hx)), fun pr hpr => q pr _ _ ((C.same s).new hpr rx i)⟩
/-- block = [row.pop(next(stream, len(row))) for _ in range(n)]: row stands at pr -/
theorem s_popLc {wi : TI} {n : Nat} {rowl : List Int} (hl : (V.ref l, PyData.list (xs.map .int)) ∈ E) (C : S K M0 (fun b => b = a) H0 ((a, .raw (cl l c k)) :: (pr, .lst (rowl.map PyData.int)) :: O) G E σ H) (h0 : G[0]? = some (some (.r (.ref a)))) (h3 : G[3]? = some (some (.r (.ref pr)))) (hn : n ≤ rowl.length) (hz : rowl.length ≤ 1000) (hi : EvI K wi G (rgD n))
    (q : ∀ (bl rowl' : List Int) (c' : Int) (k' : Nat) σ' H', bl.length = n → (bl ++ rowl').Perm rowl → S K M0 (fun b => b = a) H0 ((a, .raw (cl l c' k')) :: (pr, .lst (rowl'.map PyData.int)) :: O) (G.set 7 (some (.d (intsL bl)))) E σ' H' → tx D σ' H') :
    tSeq (tAsg (tLc wi (gName 8) tYes (tBM K "list" rPopAt (tVar 3) (tCons (tNextLen K) tNil)) [8]) (gName 7)) tx D σ H :=
  EvI.at hi C.en _ fun J H1 E1 s1 hE hJ Da hD => by
    have C1 := C.same s1
    have C2 := (C1.own hD (ds := []) .nil).swap
    have lift : ∀ {v : V} {d : PyData}, Rep K (MM M0 ((a, .raw (cl l c k)) :: (pr, .lst (rowl.map PyData.int)) :: O)) H1 v d → Rep K (MM M0 ((a, .raw (cl l c k)) :: (Da, .lst []) :: (pr, .lst (rowl.map PyData.int)) :: O)) (upd H1 Da (.lst [])) v d := fun {v d} r => r.mono (fun b o _ e => (same_new hD) b o e) fun b hb => by
      rcases hb with hb | hb
      · exact .inl (.inl hb)
      · rcases List.mem_cons.mp hb with hb | hb
        · exact .inl (.inr (hb ▸ List.mem_cons_self))
        · rcases List.mem_cons.mp hb with hb | hb
          · exact .inr (hb ▸ hD)
          · exact .inl (.inr (List.mem_cons_of_mem _ hb))
    have C3 : S K M0 (fun b => b = a) H0 ((a, .raw (cl l c k)) :: (Da, .lst []) :: (pr, .lst (rowl.map PyData.int)) :: O) G (E1 ++ E) σ (upd H1 Da (.lst [])) := C2.exs fun p hp => by
      rcases List.mem_append.mp hp with h | h
      · exact lift (hE p h)
      · exact C2.ex p h
    refine ⟨fun i m H' => m = n - i ∧ i ≤ n ∧ ∃ (c2 : Int) (k2 : Nat) (bl row2 : List Int), bl.length = i ∧ (bl ++ row2).Perm rowl ∧ S K M0 (fun b => b = a) H0 ((a, .raw (cl l c2 k2)) :: (Da, .lst (bl.map PyData.int)) :: (pr, .lst (row2.map PyData.int)) :: O) G (E1 ++ E) σ H',
      ⟨n, rfl, Nat.zero_le _, c, k, [], rowl, rfl, List.Perm.refl _, C3⟩, ?_⟩
    rintro i m H' ⟨rfl, hle, c2, k2, bl, row2, hbl, pm, C4⟩
    have hE2 : ∀ p ∈ E1, Rep K (MM M0 ((a, .raw (cl l c2 k2)) :: (Da, .lst (bl.map PyData.int)) :: (pr, .lst (row2.map PyData.int)) :: O)) H' p.1 p.2 := fun p hp => C4.ex p (List.mem_append_left _ hp)
    have pl := pm.length_eq
    rw [List.length_append] at pl
    by_cases hlt : i < n
    · have hlt2 : i < (rgD n).length := by rw [rgD_len]; exact hlt
      refine .inr ⟨hJ.go _ _ i hE2 hlt2, fun H3 => ∃ (c2 : Int) (k2 : Nat) (bl row2 : List Int), bl.length = i + 1 ∧ (bl ++ row2).Perm rowl ∧ S K M0 (fun b => b = a) H0 ((a, .raw (cl l c2 k2)) :: (Da, .lst (bl.map PyData.int)) :: (pr, .lst (row2.map PyData.int)) :: O) G (E1 ++ E) σ H3, fun H3 h3 => ⟨n - (i + 1), by omega, rfl, hlt, h3⟩, fun x H3 hy => ?_⟩
      obtain ⟨s3, dd, hd, rd⟩ := hJ.yld _ _ i x H3 C4.en.mok hE2 hlt2 hy
      have C5 := C4.same s3
      refine (g_name (K := K) (i := 8) (G := wipeG G [8]) (d := dd)) _ _ _ _ _ (C5.en.wipe [8]) rd fun σ2 e2 w2 => ⟨by rw [w2 [8] (fun i h => h), wipe_wipe], ?_⟩
      have C6 := C5.env e2
      have g0 : ((wipeG G [8]).set 8 (some (.d dd)))[0]? = some (some (.r (.ref a))) := by
        show ((G.set 8 none).set 8 _)[0]? = _
        rw [List.getElem?_set_ne (by decide), List.getElem?_set_ne (by decide)]
        exact h0
      have g3 : ((wipeG G [8]).set 8 (some (.d dd)))[3]? = some (some (.r (.ref pr))) := by
        show ((G.set 8 none).set 8 _)[3]? = _
        rw [List.getElem?_set_ne (by decide), List.getElem?_set_ne (by decide)]
        exact h3
      show tBM K "list" rPopAt (tVar 3) (tCons (tNextLen K) tNil) σ2 H3 _
      obtain ⟨ys0, hy0, _⟩ := (C6.ow (pr, .lst (row2.map PyData.int)) (List.mem_cons_of_mem _ (List.mem_cons_of_mem _ List.mem_cons_self))).2
      refine ⟨.ref pr, C6.raw g3, .inl ⟨rfl, ys0, .inl (.inl hy0)⟩, ?_⟩
      have im : Im K M0 (fun b => b = a) H0 a l xs ((Da, .lst (bl.map PyData.int)) :: (pr, .lst (row2.map PyData.int)) :: O) ((wipeG G [8]).set 8 (some (.d dd))) (tNextLen K) (fun d => ∃ j : Int, d = .int j ∧ 0 ≤ j ∧ j < row2.length) := by
        refine im_callS g0 (ima_cons (im_at (d := .int row2.length) (R := fun d => d = .int row2.length) (fun E c k σ H C => Ev.at (ev_is (ev_cb (ea_cons (ev_var (i := 3) (d := intsL row2) ?_) ea_nil) rc_lenL) (by rw [List.length_map])) (C.view (i := 3) g3 (List.mem_cons_of_mem _ (List.mem_cons_of_mem _ List.mem_cons_self)) (not_W C (List.mem_cons_of_mem _ List.mem_cons_self)))) rfl rfl) ima_nil (S2 := fun ds => ds = [.int row2.length]) fun d ds h1 h2 => by rw [h1, h2]) fun ds hds => ⟨(row2.length : Int), ⟨by omega, by omega⟩, hds, fun d h => h⟩
        rw [List.getElem?_set_self]
        · rfl
        · exact (List.getElem?_eq_some_iff.mp g3).1
      refine im (E1 ++ E) c2 k2 σ2 H3 (List.mem_append_right _ hl) C6 _ fun v d c3 k3 H4 hd4 C7 kp4 r4 => ?_
      obtain ⟨j, rfl, j0, j1⟩ := hd4
      have ev := r4.int_inv
      subst ev
      obtain ⟨ys, hys, rys⟩ := (C7.ow (pr, .lst (row2.map PyData.int)) (List.mem_cons_of_mem _ (List.mem_cons_of_mem _ List.mem_cons_self))).2
      have eys := rys.ints
      subst eys
      have hj : j.toNat < row2.length := by omega
      have hg : row2[j.toNat]? = some row2[j.toNat] := List.getElem?_eq_getElem hj
      refine ⟨pr, row2.map V.int, j, j.toNat, .int row2[j.toNat], rfl, rfl, hys, by omega, by omega, ?_, by rw [List.getElem?_map, hg]; rfl, ?_⟩
      · rw [List.length_map]
        exact seqIndex_of j0 (by omega)
      -- the row without the item; the item made one of the block
      have P1 : List.Perm ((a, OD.raw (cl l c3 k3)) :: (Da, .lst (bl.map PyData.int)) :: (pr, .lst (row2.map PyData.int)) :: O) ((pr, .lst (row2.map PyData.int)) :: (a, .raw (cl l c3 k3)) :: (Da, .lst (bl.map PyData.int)) :: O) := ((List.Perm.swap _ _ _).cons _).trans (List.Perm.swap _ _ _)
      have ee : (row2.map V.int).eraseIdx j.toNat = (row2.eraseIdx j.toNat).map V.int := by rw [List.eraseIdx_eq_take_drop_succ, List.eraseIdx_eq_take_drop_succ, List.map_append, List.map_take, List.map_drop]
      have C8 := (C7.perm P1).put (repL_ints (row2.eraseIdx j.toNat))
      rw [← ee] at C8
      have C9 := C8.perm ((List.Perm.swap _ _ _).trans ((List.Perm.swap _ _ _).cons _))
      obtain ⟨acc, hacc, racc⟩ := (C9.ow (Da, .lst (bl.map PyData.int)) (List.mem_cons_of_mem _ List.mem_cons_self)).2
      have eacc := racc.ints
      subst eacc
      have C10 := (C9.swap.put (x := .lst (bl.map PyData.int)) (ds := (bl ++ [row2[j.toNat]]).map PyData.int) (repL_ints _)).swap
      have ebl : (bl ++ [row2[j.toNat]]).map V.int = bl.map V.int ++ [V.int row2[j.toNat]] := by rw [List.map_append]; rfl
      refine ⟨_, hacc, small1000 (by rw [List.length_map]; omega), c3, k3, bl ++ [row2[j.toNat]], row2.eraseIdx j.toNat, by rw [List.length_append, hbl]; rfl, ?_, ?_⟩
      · refine List.Perm.trans ?_ pm
        rw [List.append_assoc]
        refine List.Perm.append_left _ ?_
        have e5 : row2 = row2.take j.toNat ++ row2[j.toNat] :: row2.drop (j.toNat + 1) := by
          rw [← List.drop_eq_getElem_cons hj, List.take_append_drop]
        rw [List.eraseIdx_eq_take_drop_succ]
        conv => rhs; rw [e5]
        show (row2[j.toNat] :: (row2.take j.toNat ++ row2.drop (j.toNat + 1))).Perm _
        exact List.perm_middle.symm
      · rw [← ebl]
        refine C5.move C10 rfl fun b o nb e => ?_
        have n1 : b ≠ Da := fun z => nb (.inr (z ▸ List.mem_cons_of_mem _ List.mem_cons_self))
        have n2 : b ≠ pr := fun z => nb (.inr (z ▸ List.mem_cons_of_mem _ (List.mem_cons_of_mem _ List.mem_cons_self)))
        rw [upd_ne n1, upd_ne n2]
        exact kp4 b o nb e
    · have e0 : i = n := by omega
      subst e0
      refine .inl ⟨?_, ?_⟩
      · have := hJ.stop _ _ hE2
        rw [rgD_len] at this
        exact this
      · obtain ⟨acc, hacc, racc⟩ := (C4.ow _ (List.mem_cons_of_mem _ List.mem_cons_self)).2
        have C5 := C4.swap
        have less : ∀ b, MM M0 ((a, .raw (cl l c2 k2)) :: (pr, .lst (row2.map PyData.int)) :: O) b → MM M0 ((Da, .lst (bl.map PyData.int)) :: (a, .raw (cl l c2 k2)) :: (pr, .lst (row2.map PyData.int)) :: O) b := fun b h => h.elim .inl fun m => .inr (List.mem_cons_of_mem _ m)
        have hno := (List.nodup_cons.mp C5.nd).1
        have nW : ¬ (fun b => b = a) Da := fun z => by
          have z : Da = a := z
          rw [z] at hno
          exact hno List.mem_cons_self
        have nM : ¬ MM M0 ((a, .raw (cl l c2 k2)) :: (pr, .lst (row2.map PyData.int)) :: O) Da := fun z => z.elim (C5.free List.mem_cons_self nW) hno
        have C6 : S K M0 (fun b => b = a) H0 ((a, .raw (cl l c2 k2)) :: (pr, .lst (row2.map PyData.int)) :: O) G E σ H' := ⟨C5.en.less less, C5.mo, C5.sm, fun p hp => ⟨(C5.ow p (List.mem_cons_of_mem _ hp)).1, (C5.ow p (List.mem_cons_of_mem _ hp)).2.less less⟩, (List.nodup_cons.mp C5.nd).2, fun b w => by
          have w : b = a := w
          rw [w]
          exact List.mem_cons_self, fun p hp => (C5.ex p (List.mem_append_right _ hp)).less less⟩
        have r : Rep K (MM M0 ((a, .raw (cl l c2 k2)) :: (pr, .lst (row2.map PyData.int)) :: O)) H' (.ref Da) (intsL bl) := .lst nM hacc (racc.less fun b hb => mm_perm (List.Perm.swap _ _ _) b (less b hb))
        exact q bl row2 c2 k2 _ H' hbl pm (C6.set (s := .d (intsL bl)) r 7)
end
section
variable {P : Program} {w : World} {K : PySem.W.Frag} {mg : Str → Option Value} {base : Heap} {k : Nat} {f aR aO : Addr}
theorem calleeS0 {x name : Str} {ps N : List Str} {st : Stmt} {α : Type} {pre : α → Prop} {enc : α → List PyData} {post : α → PyData → Prop} (D : DefAt K mg x name st f) (sc : FnScope N ps (defScope st))
    (hb : ∀ (kV doc pm : Value) (an : Option Addr) (cdv ct : Value) (us : List Value), us.length = ps.length → bindArgs (PySem.W.fnOf name name (defArgs st) (defBody st) (defScope st) .none kV doc pm an cdv ct) ⟨us, []⟩ = pure (ps.zip us)) (no : ∀ z, ¬ pre z) :
    Callee P w K mg base x k ps (SpS K pre enc post) := by
  obtain ⟨fd, F⟩ := D.f
  refine ⟨f, fd, D.g, F.kp, F.bindsN hb, ⟨fun vs H Q E h => ?_, fun A outer s H args us vs Q E _ _ _ _ h => ?_⟩⟩
  · obtain ⟨M, a, l, c, k, xs, ws, z, _, _, _, _, _, _, hp, _⟩ := h
    exact absurd hp (no z)
  · obtain ⟨M, a, l, c, k, xs, ws, z, _, _, _, _, _, _, hp, _⟩ := h
    exact absurd hp (no z)
/-- a plan of the tasks T -/
def PlanOf (T : List Int) (d : PyData) : Prop := ∃ Pn, d = plD Pn ∧ okP Pn = true ∧ depth Pn + 1 ≤ T.length ∧ (tasks Pn).length = T.length ∧ ∀ x, x ∈ T → x ∈ tasks Pn
abbrev preD (n : Nat) : List Int × Bool → Prop := fun z => z.1 ≠ [] ∧ z.1.length ≤ n ∧ z.1.length ≤ 4
abbrev encD : List Int × Bool → List PyData := fun z => [intsL z.1, .str (wd z.2)]
abbrev postD : List Int × Bool → PyData → Prop := fun z d => PlanOf z.1 d
theorem c__law_drawn_plan {j : Nat} (D : DefAt K mg "_law_drawn_plan" "_law_drawn_plan" s_62 f) (B : Bi mg) (c__law_next : Callee P w K mg base "_law_next" j ["_law_stream_here", "_law_many"] (SpS K preN encN postN)) : ∀ n : Nat, Callee P w K mg base "_law_drawn_plan" (j + n) ["_law_stream_here", "_law_tasks_here", "_law_word"] (SpS K (preD n) encD postD)
  | 0 => calleeS0 D sc_62 (fun _ _ _ _ _ _ us hl => match us, hl with | [_, _, _], _ => rfl) fun z h => h.1 (List.eq_nil_of_length_eq_zero (by have := h.2.1; omega))
  | n + 1 => by
    have c__law_drawn_plan := c__law_drawn_plan D B c__law_next n
    replace c__law_next := c__law_next.mono (Nat.le_add_right j n)
    refine mkS D sc_62 (fun _ _ _ _ _ _ us hl => match us, hl with | [_, _, _], _ => rfl) (fun _ => rfl) fun cdv A outer s H vs Q E M a l c k1 xs z hr hp C q => ?_
    obtain ⟨T, v⟩ := z
    obtain ⟨hne, hT, h4⟩ := hp
    have hne : T ≠ [] := hne
    have hT : T.length ≤ n + 1 := hT
    have h4 : T.length ≤ 4 := h4
    have hpos : 0 < T.length := List.length_pos_iff.mpr hne
    have hl : (V.ref l, PyData.list (xs.map .int)) ∈ [(V.ref l, PyData.list (xs.map .int))] := List.mem_cons_self
    refine ⟨_, (pss_cons (ps_if (pt_cmpR op_eq (pe_callB (kLen K rfl) (by rfl) B.len_ (by decide +kernel) (pa_cons (pv 1) pa_nil)) pe_int (by rfl)) (pss_one (ps_ret (pe_ix (kIx K rfl) (pv 1) pe_int (fun _ _ => rfl)))) pss_nil)
      (pss_cons (ps_set (i := 3) sc_62.nd rfl (.inr rfl) (pe_callTy (kLst K rfl) (by rfl) B.list_ (by decide +kernel) (pa_cons (pv 1) pa_nil)))
      (pss_cons (ps_set (i := 4) sc_62.nd rfl (.inl rfl) (pe_lst pa_nil))
      (pss_cons (ps_for PassesOwn.never (by rfl) (pi_range1 (by rfl) B.range_ (pa_cons (pe_callB (kLen K rfl) (by rfl) B.len_ (by decide +kernel) (pa_cons (pv 1) pa_nil)) pa_nil)) (pg_name (i := 5) sc_62.nd rfl (.inl rfl)) (pss_one (ps_if (kTru K rfl (pv 3) (by intro _; rfl)) (pss_cons (ps_set (i := 6) sc_62.nd rfl (.inl rfl) (pe_op op_add pe_int (pe_cc c__law_next hr (by rfl) (pa_cons (pv 0) (pa_cons (pe_op op_sub (pe_callB (kLen K rfl) (by rfl) B.len_ (by decide +kernel) (pa_cons (pv 3) pa_nil)) (pe_callTy call_int1 (by rfl) B.int_ (by decide +kernel) (pa_cons (pe_cmpR op_eq (pv 5) pe_int (by rfl)) pa_nil))) pa_nil)))))
      (pss_cons (ps_setLc (i := 7) (own := [("_law_k", 8)]) (by rfl) sc_62.nd rfl rfl (sw_true rfl rfl rfl (by decide +kernel)) (pi_range1 (by rfl) B.range_ (pa_cons (pv 6) pa_nil)) (blkOk_by (own := [("_law_k", 8)]) (N := ["_law_stream_here", "_law_tasks_here", "_law_word", "_law_row", "_law_parts", "_law_turn", "_law_size", "_law_block", "_law_k"]) (sc := defScope s_62) (by decide +kernel)) (fun _ _ _ _ _ => (pg_name (i := 8) sc_62.nd rfl (.inl rfl))) (fun _ _ _ _ _ => pts_nil) (fun _ _ _ _ _ => (kBM K rfl PySem.F.plainAttrs_list PySem.F.slot_list_pop PySem.F.type_list_pop mt_popAt (pv 3) (pa_cons (pe_cc c__law_next hr (by rfl) (pa_cons (pv 0) (pa_cons (pe_callB (kLen K rfl) (by rfl) B.len_ (by decide +kernel) (pa_cons (pv 3) pa_nil)) pa_nil))) pa_nil))))
      (pss_one (ps_expr (kBM K rfl PySem.F.plainAttrs_list PySem.F.slot_list_append PySem.F.type_list_append mt_append (pv 4) (pa_cons (pe_cc c__law_drawn_plan hr (by rfl) (pa_cons (pv 0) (pa_cons (pv 7) (pa_cons (pe_ix (kIx K rfl) (pe_lst (pa_cons pe_str (pa_cons pe_str pa_nil))) (pe_callTy call_int1 (by rfl) B.int_ (by decide +kernel) (pa_cons (pe_cmpR op_eq (pv 2) pe_str (by rfl)) pa_nil)) (fun _ _ => rfl)) pa_nil)))) pa_nil)))))) pss_nil)))
      (pss_one (ps_ret (pe_tup (pa_cons (pv 2) (pa_cons (pe_callTy (kTupC K rfl) (by rfl) B.tuple_ (by decide +kernel) (pa_cons (pv 4) pa_nil)) pa_nil))))))))), ?_⟩
    refine s_if1 (b := decide (((T.length : Nat) : Int) = 1)) C (EvT.at (et_test (ev_op (ev_is (ev_cb (ea_cons (ev_var (i := 1) rfl) ea_nil) rc_lenL) (by rw [List.length_map])) ev_int rv_eqI)) C.en) (fun hb H1 C1 => ?_) fun hb H1 C1 => ?_
    · have hb := of_decide_eq_true hb
      obtain ⟨t, rfl⟩ : ∃ t, T = [t] := List.length_eq_one_iff.mp (by omega)
      refine s_retI (R := fun d => d = .int t) hl C1 (im_ev (ev_op (x := intsL [t]) (ev_var (i := 1) rfl) ev_int (rv_ixL atI_0)) rfl) fun u d c' k' H2 hd C2 r2 => ?_
      subst hd
      exact q c' k' u _ ⟨.t t, rfl, rfl, Nat.le_refl _, rfl, fun x hx => hx⟩ C2 r2
    · have hb := of_decide_eq_false hb
      have h2 : 2 ≤ T.length := by omega
      -- row = list(T)
      refine s_listq (ds := T.map PyData.int) C1 (Ev.at (ev_var (i := 1) rfl) C1.en) fun pr σ3 H3 C3 => ?_
      -- parts = []
      refine s_newq C3 fun pp σ4 H4 C4 => ?_
      have P0 : List.Perm ((pp, OD.lst []) :: (pr, .lst (T.map PyData.int)) :: [(a, .raw (cl l c k1))]) ((a, .raw (cl l c k1)) :: (pp, .lst []) :: [(pr, .lst (T.map PyData.int))]) := ((List.Perm.swap _ _ _).cons _).trans (List.Perm.swap _ _ _)
      have C5 := C4.perm P0
      refine s_forq (is := [5]) (ds := rgD T.length) C5 (EvI.at (ei_rng (n := T.length) (ea_cons (ev_is (ev_cb (ea_cons (ev_var (i := 1) rfl) ea_nil) rc_lenL) (by rw [List.length_map])) ea_nil) (by omega)) C5.en)
        (fun i O G => ∃ (c2 : Int) (k2 : Nat) (ps : List Pl) (row : List Int), O = [(a, .raw (cl l c2 k2)), (pp, .lst (ps.map plD)), (pr, .lst (row.map PyData.int))] ∧ (i = 0 → row = T ∧ ps = []) ∧ (0 < i → ps ≠ []) ∧ row.length + i ≤ max T.length i ∧ (tasksL ps).length + row.length = T.length ∧ (∀ p, p ∈ ps → okP p = true ∧ depth p + 2 ≤ T.length) ∧ (∀ x, x ∈ T → x ∈ row ∨ x ∈ tasksL ps) ∧
          ∃ z5 z6 z7, G = [some (.r (.ref a)), some (.d (intsL T)), some (.d (.str (wd v))), some (.r (.ref pr)), some (.r (.ref pp)), z5, z6, z7, none])
        ⟨c, k1, [], T, rfl, fun _ => ⟨rfl, rfl⟩, fun h => absurd h (Nat.lt_irrefl _), by omega, (by show 0 + T.length = T.length; omega), (fun p hp => by cases hp), (fun x hx => .inl hx), _, _, _, rfl⟩ (fun i O' G' h => by obtain ⟨c2, k2, ps, row, rfl, _⟩ := h; rfl) ?_ ?_
      · rintro E1 i d1 O' G' hd ⟨c2, k2, ps, row, rfl, hi0, hi1, hrl, htot, hps, hall, z5, z6, z7, rfl⟩
        have hi : i < T.length := by
          have := (List.getElem?_eq_some_iff.mp hd).1
          rw [rgD_len] at this
          exact this
        rw [rgD_get hi] at hd
        have ed := Option.some.inj hd
        subst ed
        have hl1 : (V.ref l, PyData.list (xs.map .int)) ∈ E1 ++ [(V.ref l, PyData.list (xs.map .int))] := List.mem_append_right _ hl
        have hrow : row.length ≤ 4 := by omega
        refine ⟨_, g_name, fun σ6 H6 C6 => ?_⟩
        have mR : (pr, OD.lst (row.map PyData.int)) ∈ [(a, OD.raw (cl l c2 k2)), (pp, .lst (ps.map plD)), (pr, .lst (row.map PyData.int))] := List.mem_cons_of_mem _ (List.mem_cons_of_mem _ List.mem_cons_self)
        have vwR : ∀ {c3 : Int} {k3 : Nat} {E : List (V × PyData)} {σ : L2.St} {H7 : Hp} {y5 y6 y7 : Option Sl} (C : S K M (fun b => b = a) H [(a, OD.raw (cl l c3 k3)), (pp, .lst (ps.map plD)), (pr, .lst (row.map PyData.int))] [some (.r (.ref a)), some (.d (intsL T)), some (.d (.str (wd v))), some (.r (.ref pr)), some (.r (.ref pp)), y5, y6, y7, none] E σ H7), En K M H7 σ [some (.r (.ref a)), some (.d (intsL T)), some (.d (.str (wd v))), some (.d (intsL row)), some (.r (.ref pp)), y5, y6, y7, none] := fun {c3 k3 E σ H7 y5 y6 y7} C => C.view (i := 3) rfl (List.mem_cons_of_mem _ (List.mem_cons_of_mem _ List.mem_cons_self)) (not_W C (List.mem_cons_of_mem _ List.mem_cons_self))
        refine s_if (b := !row.isEmpty) C6 (EvT.at (et_tru (d := intsL row) (ev_var (i := 3) rfl) rfl (by show (!(row.map PyData.int).isEmpty) = _; rw [List.isEmpty_map])) (vwR C6)) (fun hb2 H7 C7 => ?_) fun hb2 H7 C7 => ?_
        · have hrne : row ≠ [] := fun e => by rw [e] at hb2; cases hb2
          have hrp : 0 < row.length := List.length_pos_iff.mpr hrne
          have bound : 1 ≤ (row.length : Int) - (if decide ((i : Int) = 0) = true then 1 else 0) := by
            by_cases e : i = 0
            · have := (hi0 e).1
              rw [this]
              split <;> omega
            · rw [if_neg (by rw [decide_eq_true_iff]; omega)]
              omega
          have sz : ∀ m : Int, 0 ≤ m → m < (row.length : Int) - (if decide ((i : Int) = 0) = true then 1 else 0) → 1 + m ≤ row.length ∧ 1 + m + 1 ≤ T.length := fun m m0 m1 => by
            by_cases e : i = 0
            · have := (hi0 e).1
              rw [if_pos (by rw [decide_eq_true_iff]; omega)] at m1
              rw [this] at m1 ⊢
              omega
            · rw [if_neg (by rw [decide_eq_true_iff]; omega)] at m1
              omega
          refine s_setI (R := fun d => ∃ m : Nat, d = .int (m : Nat) ∧ 1 ≤ m ∧ m ≤ row.length ∧ m + 1 ≤ T.length) hl1 C7 (im_op (R1 := fun d => d = .int 1) (im_ev ev_int rfl) (im_callS (R := fun d => ∃ m : Int, d = .int m ∧ 0 ≤ m ∧ m < (row.length : Int) - (if decide ((i : Int) = 0) = true then 1 else 0)) rfl (ima_cons (im_at (d := .int ((row.length : Int) - (if decide ((i : Int) = 0) = true then 1 else 0))) (R := fun d => d = .int ((row.length : Int) - (if decide ((i : Int) = 0) = true then 1 else 0))) (fun E c k σ H C => Ev.at (ev_op (ev_is (ev_cb (ea_cons (ev_var (i := 3) rfl) ea_nil) rc_lenL) (by rw [List.length_map])) (ev_cb (ea_cons (ev_op (ev_var (i := 5) rfl) ev_int rv_eqI) ea_nil) rc_intB) rv_sub) (vwR C)) rfl rfl) ima_nil (S2 := fun ds => ds = [.int ((row.length : Int) - (if decide ((i : Int) = 0) = true then 1 else 0))]) fun d ds e1 e2 => by rw [e1, e2]) fun ds hds => ⟨_, ⟨bound, by split <;> omega⟩, hds, fun d h => h⟩) fun x y hx hy => ?_) fun d c3 k3 σ8 H8 hd8 C8 => ?_
          · obtain ⟨m, rfl, m0, m1⟩ := hy
            rw [hx]
            obtain ⟨a1, a2⟩ := sz m m0 m1
            exact ⟨_, ⟨(1 + m).toNat, by rw [Int.toNat_of_nonneg (by omega)], by omega, by omega, by omega⟩, rv_add⟩
          · obtain ⟨m, rfl, m1, m2, m3⟩ := hd8
            have P2 : List.Perm [(a, OD.raw (cl l c3 k3)), (pp, .lst (ps.map plD)), (pr, .lst (row.map PyData.int))] [(a, .raw (cl l c3 k3)), (pr, .lst (row.map PyData.int)), (pp, .lst (ps.map plD))] := (List.Perm.swap _ _ _).cons _
            have C9 := C8.perm P2
            refine s_popLc (n := m) hl1 C9 rfl rfl m2 (by omega) (ei_rng (n := m) (ea_cons (ev_var (i := 6) rfl) ea_nil) (by omega)) fun bl row2 c4 k4 σ10 H10 hbl pm C10 => ?_
            have C11 := C10.perm ((List.Perm.swap _ _ _).cons _)
            have pl := pm.length_eq
            rw [List.length_append] at pl
            have psl : ps.length ≤ 4 := by
              have := tasksL_len ps (okL_all.mpr fun p hp => (hps p hp).1)
              omega
            refine s_appI (R := PlanOf bl) hl1 C11 rfl (by rw [List.length_map]; omega) (im_callS rfl (ima_ev (ds := [intsL bl, .str (wd (!v))]) (S1 := fun ds => ds = [intsL bl, .str (wd (!v))]) (ea_cons (ev_var (i := 7) rfl) (ea_cons (ev_op (ev_lst (ea_cons ev_str (ea_cons ev_str ea_nil)) (show 2 ≤ 1000 by decide)) (ev_cb (ea_cons (ev_is (ev_op (ev_var (i := 2) rfl) ev_str rv_eqS) (by rw [wd_str])) ea_nil) rc_intB) (rv_ixL (by cases v <;> first | exact atI_0 | exact atI_1))) ea_nil)) rfl) fun ds hds => ⟨(bl, !v), ⟨fun e => (by have e : bl = [] := e; rw [e] at hbl; simp at hbl; omega), by show bl.length ≤ n; omega, by show bl.length ≤ 4; omega⟩, hds, fun d h => h⟩) fun d c5 k5 H11 hd11 C12 => ?_
            obtain ⟨Pn, rfl, p1, p2, p3, p4⟩ := hd11
            have etl : tasksL (ps ++ [Pn]) = tasksL ps ++ tasks Pn := by
              rw [tasksL_app]
              show _ ++ (tasks Pn ++ []) = _
              rw [List.append_nil]
            refine ⟨_, _, ⟨c5, k5, ps ++ [Pn], row2, by rw [List.map_append]; rfl, fun h => absurd h (Nat.succ_ne_zero _), fun _ e => by simp at e, by omega, by rw [etl, List.length_append]; omega, fun p hp => ?_, fun x hx => ?_, _, _, _, rfl⟩, C12⟩
            · rcases List.mem_append.mp hp with hp | hp
              · exact hps p hp
              · rw [List.mem_singleton.mp hp]
                exact ⟨p1, by omega⟩
            · rw [etl]
              rcases hall x hx with h | h
              · have := pm.mem_iff.mpr h
                rcases List.mem_append.mp this with h | h
                · exact .inr (List.mem_append_right _ (p4 x h))
                · exact .inl h
              · exact .inr (List.mem_append_left _ h)
        · have hre : row = [] := by
            cases row with
            | nil => rfl
            | cons x r => cases hb2
          subst hre
          have hi2 : i ≠ 0 := fun e => by
            have := (hi0 e).1
            rw [← this] at hpos
            exact absurd hpos (Nat.lt_irrefl _)
          refine ⟨_, _, ⟨c2, k2, ps, [], rfl, fun h => absurd h (Nat.succ_ne_zero _), fun _ => hi1 (by omega), by show 0 + (i + 1) ≤ _; omega, htot, hps, hall, _, _, _, rfl⟩, C7⟩
      · rintro O' G' ⟨c2, k2, ps, row, rfl, hi0, hi1, hrl, htot, hps, hall, z5, z6, z7, rfl⟩ σ6 H6 C6
        rw [rgD_len] at hrl hi1
        have hre : row = [] := List.eq_nil_of_length_eq_zero (by omega)
        subst hre
        have htot : (tasksL ps).length = T.length := htot
        refine s_ret C6 (fun _ h => h) (Ev.at (ev_tup (ea_cons (ev_var (i := 2) rfl) (ea_cons (ev_cb (ea_cons (ev_var (i := 4) rfl) ea_nil) rc_tupL) ea_nil)) (show 2 ≤ 1000 by decide)) (C6.view (i := 4) rfl (List.mem_cons_of_mem _ List.mem_cons_self) (not_W C6 List.mem_cons_self))) fun u H7 _ C7 r7 => ?_
        refine q c2 k2 u _ ⟨.n v ps, (plD_n _ _).symm, okP_n.mpr ⟨hi1 hpos, fun p hp => (hps p hp).1⟩, ?_, htot, fun x hx => (hall x hx).resolve_left (by simp)⟩ C7 r7
        show depthL ps + 1 + 1 ≤ T.length
        have : depthL ps ≤ T.length - 2 := depthL_le.mpr fun p hp => by have := (hps p hp).2; omega
        omega
end
end Tb
set_option Elab.async false
set_option linter.all false
set_option maxRecDepth 100000
set_option maxHeartbeats 4000000
/-! ## The law's own defs: some plan, a rule, a problem -/
namespace Tb
open PySem PySem.Spec PyProof.Rows PySem.W L2
abbrev s_66 : Stmt := top 66
theorem sc_66 : FnScope ["_law_stream_here", "_law_size", "_law_plan", "_law_first", "_law_second", "_law_wanted", "_law_one"] ["_law_stream_here", "_law_size", "_law_plan"] (defScope s_66) := ⟨rfl, rfl, rfl, by decide +kernel, rfl, by decide +kernel, by decide +kernel⟩
abbrev s_67 : Stmt := top 67
theorem sc_67 : FnScope ["_law_stream_here", "_law_least", "_law_most", "_law_many", "_law_size", "_law_plan", "_law_wild", "_law_rules", "_law_turn"] ["_law_stream_here", "_law_least", "_law_most", "_law_many"] (defScope s_67) := ⟨rfl, rfl, rfl, by decide +kernel, rfl, by decide +kernel, by decide +kernel⟩
abbrev s_73 : Stmt := top 73
theorem sc_73 : FnScope ["_law_stream_here"] ["_law_stream_here"] (defScope s_73) := ⟨rfl, rfl, rfl, by decide +kernel, rfl, by decide +kernel, by decide +kernel⟩
theorem rel_some : ∀ (Pn : Pl) {x y : Int}, x ∈ tasks Pn → y ∈ tasks Pn → x ≠ y → ∃ r, relPl Pn x y = some r
  | .t i, x, y, hx, hy, ne => by
    have h1 : x ∈ [i] := hx
    have h2 : y ∈ [i] := hy
    exact absurd ((List.mem_singleton.mp h1).trans (List.mem_singleton.mp h2).symm) ne
  | .n w ps, x, y, hx, hy, ne => by
    have hx : x ∈ tasksL ps := hx
    have hy : y ∈ tasksL ps := hy
    by_cases h : idx x ps = idx y ps
    · obtain ⟨p, k1, k2, _⟩ := idx_spec hx
      obtain ⟨p2, k3, k4, _⟩ := idx_spec hy
      rw [← h, k1] at k3
      have e := Option.some.inj k3
      subst e
      have mp := List.mem_of_getElem? k1
      obtain ⟨r, hr⟩ := rel_some p k2 k4 ne
      exact ⟨r, by rw [relPl, if_pos h, relAt_get x y k1, hr]⟩
    · rw [relPl, if_neg h]
      cases w with
      | false => exact ⟨_, rfl⟩
      | true =>
        by_cases h2 : idx x ps < idx y ps
        · exact ⟨.b, by rw [if_pos rfl, if_pos h2]⟩
        · exact ⟨.a, by rw [if_pos rfl, if_neg h2]⟩
termination_by Pn => sizeOf Pn
decreasing_by
  simp_wf
  have := List.sizeOf_lt_of_mem mp
  omega
theorem few_le {n : Nat} (h : Few n) : 2 ≤ n ∧ n ≤ 4 := by rcases h with rfl | rfl | rfl <;> decide
section
variable {P : Program} {w : World} {K : PySem.W.Frag} {mg : Str → Option Value} {base : Heap} {k : Nat} {f aR aO : Addr}
section
variable {M0 W : MS} {H0 : Hp} {a l : Addr} {xs : List Int} {O : Ow} {G : Gm} {R : PyData → Prop}
/-- next(stream, m), m plain -/
theorem im_next {te : TE} {m : Int} {EX : XK} {j : Nat} (h0 : G[j]? = some (some (.r (.ref a)))) (h : Ev K te G (.int m)) (h1 : 1 ≤ m) (h2 : m ≤ 1000) (hR : ∀ i : Int, 0 ≤ i → i < m → R (.int i)) : Im K M0 W H0 a l xs O G (tCall (SpS K preN encN postN) [] EX (tCons (tVar j) (tCons te tNil))) R :=
  im_callS h0 (ima_ev (ds := [.int m]) (S1 := fun ds => ds = [.int m]) (ea_cons h ea_nil) rfl) fun ds hd => ⟨m, ⟨h1, h2⟩, hd, fun d hd => by
    obtain ⟨i, rfl, i0, i1⟩ := hd
    exact hR i i0 i1⟩
end
abbrev postP : Nat → PyData → Prop := fun n d => PlanOf (rg n) d
theorem c__law_some_plan (D : DefAt K mg "_law_some_plan" "_law_some_plan" s_63 f) (B : Bi mg) (c__law_next : Callee P w K mg base "_law_next" k ["_law_stream_here", "_law_many"] (SpS K preN encN postN)) (c__law_drawn_plan : Callee P w K mg base "_law_drawn_plan" k ["_law_stream_here", "_law_tasks_here", "_law_word"] (SpS K (preD 4) encD postD)) :
    Callee P w K mg base "_law_some_plan" (k + 1) ["_law_stream_here", "_law_size"] (SpS K Few (fun n => [.int n]) postP) := by
  refine mkS D sc_63 (fun _ _ _ _ _ _ us hl => match us, hl with | [_, _], _ => rfl) (fun _ => rfl) fun cdv A outer s H vs Q E M a l c k1 xs n hr hp C q => ?_
  have hl : (V.ref l, PyData.list (xs.map .int)) ∈ [(V.ref l, PyData.list (xs.map .int))] := List.mem_cons_self
  obtain ⟨n2, n4⟩ := few_le hp
  have rl := rg_len n
  refine ⟨_, (pss_one (ps_ret (pe_cc c__law_drawn_plan hr (by rfl) (pa_cons (pv 0) (pa_cons (pe_listRg (by rfl) (by rfl) B.list_ (prg_1 (by rfl) B.range_ (pv 1))) (pa_cons (pe_ix (kIx K rfl) (pe_lst (pa_cons pe_str (pa_cons pe_str pa_nil))) (pe_cc c__law_next hr (by rfl) (pa_cons (pv 0) (pa_cons pe_int pa_nil))) (fun _ _ => rfl)) pa_nil)))))), ?_⟩
  refine s_retI (R := PlanOf (rg n)) hl C (im_callS rfl (ima_cons (R := fun d => d = intsL (rg n)) (im_ev (ev_is (ev_listRg (n := n) (ev_var (i := 1) rfl) (by omega)) (by rw [rgD_rg]; rfl)) rfl) (ima_cons (R := fun d => ∃ b, d = .str (wd b)) (im_op (R1 := fun d => d = .list [.str "then", .str "beside"]) (im_ev (ev_lst (ea_cons ev_str (ea_cons ev_str ea_nil)) (show 2 ≤ 1000 by decide)) rfl) (im_next (R := fun d => d = .int 0 ∨ d = .int 1) rfl ev_int (by decide) (by decide) fun i i0 i1 => ?_) fun x y hx hy => ?_) ima_nil (S2 := fun ds => ∃ b, ds = [.str (wd b)]) fun d ds h1 h2 => ?_) (S2 := fun ds => ∃ b, ds = [intsL (rg n), .str (wd b)]) fun d ds h1 h2 => ?_) fun ds hds => ?_) fun v d c' k' H2 hd C2 r2 => q c' k' v d hd C2 r2
  · have e : i = 0 ∨ i = 1 := by omega
    rcases e with rfl | rfl
    · exact .inl rfl
    · exact .inr rfl
  · subst hx
    rcases hy with rfl | rfl
    · exact ⟨.str (wd true), ⟨true, rfl⟩, rv_ixL atI_0⟩
    · exact ⟨.str (wd false), ⟨false, rfl⟩, rv_ixL atI_1⟩
  · obtain ⟨b, rfl⟩ := h1
    rw [h2]
    exact ⟨b, rfl⟩
  · obtain ⟨b, rfl⟩ := h2
    rw [h1]
    exact ⟨b, rfl⟩
  · obtain ⟨b, rfl⟩ := hds
    exact ⟨(rg n, b), ⟨(rg_sub hp).ne, by show (rg n).length ≤ 4; omega, by show (rg n).length ≤ 4; omega⟩, rfl, fun d h => h⟩
/-! rule -/
abbrev preR : Nat × PyData → Prop := fun z => Few z.1 ∧ (z.2 = .none ∨ PlanOf (rg z.1) z.2)
abbrev encR : Nat × PyData → List PyData := fun z => [.int z.1, z.2]
abbrev postR : Nat × PyData → PyData → Prop := fun z d => ∃ q : Rule, d = rlD q ∧ RuleOk z.1 q
theorem sub_wds {ss : List R3} : (ss.map fun r => PyData.str r.s) = (ss.map R3.s).map PyData.str := by rw [List.map_map]; rfl
theorem planOf_non {T : List Int} {d : PyData} (h : PlanOf T d) : isNon d = false := by
  obtain ⟨Pn, rfl, _⟩ := h
  exact isNon_pl Pn
theorem c__law_rule (D : DefAt K mg "_law_rule" "_law_rule" s_66 f) (B : Bi mg) (c__law_next : Callee P w K mg base "_law_next" k ["_law_stream_here", "_law_many"] (SpS K preN encN postN)) (c__law_relations : Callee P w K mg base "_law_relations" k [] (PSp K fRels)) (c__law_relation : Callee P w K mg base "_law_relation" k ["_law_plan", "_law_first", "_law_second"] (PSp K (fRel 8))) :
    Callee P w K mg base "_law_rule" (k + 1) ["_law_stream_here", "_law_size", "_law_plan"] (SpS K preR encR postR) := by
  refine mkS D sc_66 (fun _ _ _ _ _ _ us hl => match us, hl with | [_, _, _], _ => rfl) (fun _ => rfl) fun cdv A outer s H vs Q E M a l c k1 xs z hr hp C q => ?_
  obtain ⟨n, pd⟩ := z
  obtain ⟨hn, hpd⟩ := hp
  have hn : Few n := hn
  have hpd : pd = .none ∨ PlanOf (rg n) pd := hpd
  have hl : (V.ref l, PyData.list (xs.map .int)) ∈ [(V.ref l, PyData.list (xs.map .int))] := List.mem_cons_self
  obtain ⟨n2, n4⟩ := few_le hn
  have rl := rg_len n
  refine ⟨_, (pss_cons (ps_set (i := 3) sc_66.nd rfl (.inl rfl) (pe_cc c__law_next hr (by rfl) (pa_cons (pv 0) (pa_cons (pv 1) pa_nil))))
      (pss_cons (ps_set (i := 4) sc_66.nd rfl (.inl rfl) (pe_cc c__law_next hr (by rfl) (pa_cons (pv 0) (pa_cons (pe_op op_sub (pv 1) pe_int) pa_nil))))
      (pss_cons (ps_set (i := 4) sc_66.nd rfl (.inl rfl) (pe_op op_add (pv 4) (pe_callTy call_int1 (by rfl) B.int_ (by decide +kernel) (pa_cons (pe_cmpR op_ge (pv 4) (pv 3) (by rfl)) pa_nil))))
      (pss_cons (ps_set (i := 5) sc_66.nd rfl (.inr rfl) (pe_lc (own := [("_law_one", 6)]) (by rfl) sc_66.nd (kpL K rfl (pe_cc0 c__law_relations hr (by rfl))) (blkOk_by (own := [("_law_one", 6)]) (N := ["_law_stream_here", "_law_size", "_law_plan", "_law_first", "_law_second", "_law_wanted", "_law_one"]) (sc := defScope s_66) (by decide +kernel)) (fun _ _ _ _ _ => (pg_name (i := 6) sc_66.nd rfl (.inl rfl))) (fun _ _ _ _ _ => (pts_one (pt_cmpR op_eq (pe_cc c__law_next hr (by rfl) (pa_cons (pv 0) (pa_cons pe_int pa_nil))) pe_int (by rfl)))) (fun _ _ _ _ _ => (pv 6))))
      (pss_cons (ps_if (pt_cmpR op_notN (pv 2) pe_non (by rfl)) (pss_one (ps_expr (kBM K rfl PySem.F.plainAttrs_list PySem.F.slot_list_append PySem.F.type_list_append mt_append (pv 5) (pa_cons (pe_cc c__law_relation hr (by rfl) (pa_cons (pv 2) (pa_cons (pv 3) (pa_cons (pv 4) pa_nil)))) pa_nil)))) pss_nil)
      (pss_cons (ps_if (pt_not (kTru K rfl (pv 5) (by intro _; rfl))) (pss_one (ps_set (i := 5) sc_66.nd rfl (.inr rfl) (pe_lst (pa_cons (pe_ix (kIx K rfl) (pe_cc0 c__law_relations hr (by rfl)) (pe_cc c__law_next hr (by rfl) (pa_cons (pv 0) (pa_cons pe_int pa_nil))) (fun _ _ => rfl)) pa_nil)))) pss_nil)
      (pss_one (ps_ret (pe_tup (pa_cons (pv 3) (pa_cons (pe_callTy (kTupC K rfl) (by rfl) B.tuple_ (by decide +kernel) (pa_cons (pe_lc (own := [("_law_one", 6)]) (by rfl) sc_66.nd (kpL K rfl (pe_cc0 c__law_relations hr (by rfl))) (blkOk_by (own := [("_law_one", 6)]) (N := ["_law_stream_here", "_law_size", "_law_plan", "_law_first", "_law_second", "_law_wanted", "_law_one"]) (sc := defScope s_66) (by decide +kernel)) (fun _ _ _ _ _ => (pg_name (i := 6) sc_66.nd rfl (.inl rfl))) (fun _ _ _ _ _ => (pts_one (pt_cmpR (kIn K rfl) (pv 6) (pv 5) (by rfl)))) (fun _ _ _ _ _ => (pv 6))) pa_nil)) (pa_cons (pv 4) pa_nil)))))))))))), ?_⟩
  refine s_setI (R := fun d => ∃ x : Int, d = .int x ∧ 0 ≤ x ∧ x < n) hl C (im_next rfl (ev_var (i := 1) rfl) (by omega) (by omega) fun i i0 i1 => ⟨i, rfl, i0, i1⟩) fun d c2 k2 σ2 H2 hd C2 => ?_
  obtain ⟨x, rfl, x0, x1⟩ := hd
  refine s_setI (R := fun d => ∃ y : Int, d = .int y ∧ 0 ≤ y ∧ y < (n : Int) - 1) hl C2 (im_next (m := (n : Int) - 1) rfl (ev_op (ev_var (i := 1) rfl) ev_int rv_sub) (by omega) (by omega) fun i i0 i1 => ⟨i, rfl, i0, i1⟩) fun d c3 k3 σ3 H3 hd C3 => ?_
  obtain ⟨y0, rfl, y1, y2⟩ := hd
  refine s_setq (d := .int (y0 + (if decide (x ≤ y0) = true then 1 else 0))) C3 (Ev.at (ev_op (ev_var (i := 4) rfl) (ev_cb (ea_cons (ev_op (ev_var (i := 4) rfl) (ev_var (i := 3) rfl) rv_ge) ea_nil) rc_intB) rv_add) C3.en) fun σ4 H4 C4 => ?_
  have hy : ∃ y : Int, y = y0 + (if decide (x ≤ y0) = true then 1 else 0) ∧ 0 ≤ y ∧ y < n ∧ x ≠ y := by
    refine ⟨_, rfl, ?_⟩
    by_cases h : x ≤ y0
    · rw [if_pos (decide_eq_true h)]
      omega
    · rw [if_neg (by rw [decide_eq_false h]; decide)]
      omega
  obtain ⟨y, ey, y3, y4, ne⟩ := hy
  rw [← ey] at C4
  have hx : x ∈ rg n := mem_rg.mpr ⟨x0, x1⟩
  have hyr : y ∈ rg n := mem_rg.mpr ⟨y3, y4⟩
  -- wanted
  refine s_lcI (is := [6]) (RB := fun _ => True) R3.all (fun r => .str r.s) (fun r => .str r.s) (ei_list (by rw [← wds_eq]; exact ev_callF () trivial ea_nil)) (fun i h => h) (fun r hr => ⟨_, g_name, fun D es => imt_test (R := fun d => ∃ b, d = .bool b) (im_op (R1 := fun d => ∃ i : Int, d = .int i) (im_next rfl ev_int (by decide) (by decide) fun i _ _ => ⟨i, rfl⟩) (R2 := fun d => d = .int 1) (im_ev ev_int rfl) fun u v hu hv => by
      obtain ⟨i, rfl⟩ := hu
      rw [hv]
      exact ⟨_, ⟨_, rfl⟩, rv_eqI⟩) fun d hd => by
      obtain ⟨b, rfl⟩ := hd
      exact ⟨b, rfl, trivial⟩, ev_var rfl⟩) (by decide) hl C4 fun p ss c5 k5 σ5 H5 hss C5 => ?_
  have ssl : ss.length ≤ 3 := hss.length_le
  rw [sub_wds] at C5
  -- the end, from what is wanted
  have fin : ∀ (ws : List Str) (z5 : Option Sl) (O2 : Ow) (c6 : Int) (k6 : Nat) (σ6 : L2.St) (H6 : Hp), (∃ r : R3, r.s ∈ ws) → ws.length ≤ 100 → S K M (fun b => b = a) H ((a, .raw (cl l c6 k6)) :: O2) [some (.r (.ref a)), some (.d (.int n)), some (.d pd), some (.d (.int x)), some (.d (.int y)), z5, none] [(.ref l, .list (xs.map .int))] σ6 H6 →
      En K M H6 σ6 [some (.r (.ref a)), some (.d (.int n)), some (.d pd), some (.d (.int x)), some (.d (.int y)), some (.d (.list (ws.map PyData.str))), none] →
      tRet (tTup (tCons (tVar 3) (tCons (tCB (fun xs H Q => ∃ p ys, xs = [.ref p] ∧ ((SqL K H p ys ∧ ∀ l, H l = none → Q (.ref l) (upd H l (.tup ys))) ∨ (SqT K H p ys ∧ Q (.ref p) H))) (tCons (tLc (iList K (tCall (PSp K fRels) [] E0 tNil)) (gName 6) (tTest (tOp (rIn K false) (tVar 6) (tVar 5))) (tVar 6) [6]) tNil)) (tCons (tVar 4) tNil)))) { nx := fun _ H' => Q .non H', rt := Q } σ6 H6 := fun ws z5 O2 c6 k6 σ6 H6 hw hwl C6 en => by
    refine s_ret C6 (fun _ h => h) (d := rlD ⟨x, R3.all.filter fun r => decide (r.s ∈ ws), y⟩) (Ev.at (ev_tup (ea_cons (ev_var (i := 3) rfl) (ea_cons (ev_cb (ea_cons (ev_is (ev_lc (is := [6]) R3.all (fun r => .str r.s) (fun r => decide (r.s ∈ ws)) (fun r => .str r.s) (ei_list (by rw [← wds_eq]; exact ev_callF () trivial ea_nil)) (fun i h => h) (fun r hr => ⟨_, g_name, et_test (ev_op (ev_var (i := 6) rfl) (ev_var (i := 5) rfl) rv_inSL), fun _ => ev_var rfl⟩) (by decide)) (by rw [← wds_eq])) ea_nil) rc_tupL) (ea_cons (ev_var (i := 4) rfl) ea_nil))) (show 3 ≤ 1000 by decide)) en) fun v H7 _ C7 r7 => ?_
    refine q c6 k6 v _ ⟨_, rfl, ⟨hx, hyr, ne⟩, ?_, ?_⟩ C7 r7
    · refine List.filter_congr fun r _ => ?_
      rw [Bool.eq_iff_iff, decide_eq_true_iff, decide_eq_true_iff, List.mem_filter, decide_eq_true_iff]
      exact ⟨fun h => ⟨r.mem_all, h⟩, fun h => h.2⟩
    · obtain ⟨r, hr⟩ := hw
      intro e
      have : r ∈ R3.all.filter fun r => decide (r.s ∈ ws) := List.mem_filter.mpr ⟨r.mem_all, decide_eq_true hr⟩
      have e : (R3.all.filter fun r => decide (r.s ∈ ws)) = [] := e
      rw [e] at this
      cases this
  -- behind the plan's word
  refine s_join (I := fun σ' H' => ∃ (ws : List Str) (c6 : Int) (k6 : Nat), (ws ≠ [] → ∃ r : R3, r.s ∈ ws) ∧ ws.length ≤ 100 ∧ S K M (fun b => b = a) H ((a, .raw (cl l c6 k6)) :: (p, .lst (ws.map PyData.str)) :: []) [some (.r (.ref a)), some (.d (.int n)), some (.d pd), some (.d (.int x)), some (.d (.int y)), some (.r (.ref p)), none] [(.ref l, .list (xs.map .int))] σ' H') ?_ fun X hX => ?_
  · rintro σ6 H6 ⟨ws, c6, k6, hw, hwl, C6⟩
    have vw : ∀ {c3 : Int} {k3 : Nat} {E : List (V × PyData)} {σ : L2.St} {H7 : Hp} (C : S K M (fun b => b = a) H [(a, OD.raw (cl l c3 k3)), (p, .lst (ws.map PyData.str))] [some (.r (.ref a)), some (.d (.int n)), some (.d pd), some (.d (.int x)), some (.d (.int y)), some (.r (.ref p)), none] E σ H7), En K M H7 σ [some (.r (.ref a)), some (.d (.int n)), some (.d pd), some (.d (.int x)), some (.d (.int y)), some (.d (.list (ws.map PyData.str))), none] := fun {c3 k3 E σ H7} C => C.view (i := 5) rfl (List.mem_cons_of_mem _ List.mem_cons_self) (not_W C List.mem_cons_self)
    refine s_if1 (b := ws.isEmpty) C6 (EvT.at (et_is (et_not (et_tru (d := .list (ws.map PyData.str)) (b := !ws.isEmpty) (ev_var (i := 5) rfl) rfl (by show (!(ws.map PyData.str).isEmpty) = _; rw [List.isEmpty_map]))) (by rw [Bool.not_not])) (vw C6)) (fun hb H7 C7 => ?_) fun hb H7 C7 => ?_
    · refine s_setI (R := fun d => ∃ r : R3, d = .list [.str r.s]) hl C7 ?_ fun d c8 k8 σ8 H8 hd8 C8 => ?_
      · have im1 : Im K M (fun b => b = a) H a l xs [(p, .lst (ws.map PyData.str))] [some (.r (.ref a)), some (.d (.int n)), some (.d pd), some (.d (.int x)), some (.d (.int y)), some (.r (.ref p)), none] (tOp (rIx K) (tCall (PSp K fRels) [] E0 tNil) (tCall (SpS K preN encN postN) [] E0 (tCons (tVar 0) (tCons (tC (.int 3)) tNil)))) (fun d => ∃ r : R3, d = .str r.s) := by
          refine im_op (R1 := fun d => d = .list (wds R3.all)) (im_ev (ev_callF () trivial ea_nil) rfl) (im_next (R := fun d => d = .int 0 ∨ d = .int 1 ∨ d = .int 2) rfl ev_int (by decide) (by decide) fun i i0 i1 => ?_) fun u v hu hv => ?_
          · have e : i = 0 ∨ i = 1 ∨ i = 2 := by omega
            rcases e with rfl | rfl | rfl
            · exact .inl rfl
            · exact .inr (.inl rfl)
            · exact .inr (.inr rfl)
          · subst hu
            rcases hv with rfl | rfl | rfl
            · exact ⟨_, ⟨.b, rfl⟩, rv_ixL atI_0⟩
            · exact ⟨_, ⟨.e, rfl⟩, rv_ixL atI_1⟩
            · exact ⟨_, ⟨.a, rfl⟩, rv_ixL atI_2⟩
        exact im_lst (S1 := fun ds => ∃ r : R3, ds = [.str r.s]) (ima_cons im1 ima_nil fun d ds h1 h2 => by
          obtain ⟨r, rfl⟩ := h1
          rw [h2]
          exact ⟨r, rfl⟩) fun ds hds => by
          obtain ⟨r, rfl⟩ := hds
          exact ⟨by show 1 ≤ 1000; decide, r, rfl⟩
      · obtain ⟨r, rfl⟩ := hd8
        exact fin [r.s] _ _ c8 k8 σ8 H8 ⟨r, List.mem_cons_self⟩ (by show 1 ≤ 100; decide) C8 C8.low
    · refine fin ws _ _ c6 k6 σ6 H7 (hw fun e => by rw [e] at hb; cases hb) hwl C7 (vw C7)
  · refine s_if (b := !isNon pd) C5 (EvT.at (et_test (ev_op (ev_var (i := 2) rfl) ev_non rv_notN)) C5.en) (fun hb H6 C6 => ?_) fun hb H6 C6 => hX _ _ ⟨ss.map R3.s, c5, k5, fun h => ?_, by rw [List.length_map]; omega, C6⟩
    · rcases hpd with e | ⟨Pn, e, p1, p2, p3, p4⟩
      · rw [e] at hb
        cases hb
      · subst e
        obtain ⟨r, er⟩ := rel_some Pn (p4 x hx) (p4 y hyr) ne
        refine s_appI (R := fun d => d = .str r.s) hl C6 rfl (by rw [List.length_map, List.length_map]; omega) (im_ev (ev_is (ev_callF (Pn, x, y) ⟨p1, by show depth Pn < 8; omega, by show (tasks Pn).length ≤ 1000; omega, p4 x hx, p4 y hyr⟩ (ea_cons (ev_var (i := 2) rfl) (ea_cons (ev_var (i := 3) rfl) (ea_cons (ev_var (i := 4) rfl) ea_nil)))) (by show PyData.str (relS (relPl Pn x y)) = .str r.s; rw [er]; rfl)) rfl) fun d c7 k7 H7 hd7 C7 => hX _ _ ⟨ss.map R3.s ++ [r.s], c7, k7, fun _ => ⟨r, List.mem_append_right _ List.mem_cons_self⟩, by rw [List.length_append, List.length_map]; show ss.length + 1 ≤ 100; omega, ?_⟩
        rw [hd7] at C7
        rw [List.map_append]
        exact C7
    · cases ss with
      | nil => exact absurd rfl h
      | cons r ss => exact ⟨r, List.mem_cons_self⟩
/-! problem, small -/
abbrev preB : Nat → Prop := fun m => m = 3 ∨ m = 4
abbrev postB {α : Type} : α → PyData → Prop := fun _ d => ∃ p : Prob, d = pbD p ∧ Few p.n ∧ ProbOk p ∧ p.rs.length ≤ 5
theorem c__law_problem (D : DefAt K mg "_law_problem" "_law_problem" s_67 f) (B : Bi mg) (c__law_next : Callee P w K mg base "_law_next" k ["_law_stream_here", "_law_many"] (SpS K preN encN postN)) (c__law_some_plan : Callee P w K mg base "_law_some_plan" k ["_law_stream_here", "_law_size"] (SpS K Few (fun n => [.int n]) postP)) (c__law_rule : Callee P w K mg base "_law_rule" k ["_law_stream_here", "_law_size", "_law_plan"] (SpS K preR encR postR)) :
    Callee P w K mg base "_law_problem" (k + 1) ["_law_stream_here", "_law_least", "_law_most", "_law_many"] (SpS K preB (fun m => [.int 2, .int m, .int 5]) postB) := by
  refine mkS D sc_67 (fun _ _ _ _ _ _ us hl => match us, hl with | [_, _, _, _], _ => rfl) (fun _ => rfl) fun cdv A outer s H vs Q E M a l c k1 xs m hr hp C q => ?_
  have hl : (V.ref l, PyData.list (xs.map .int)) ∈ [(V.ref l, PyData.list (xs.map .int))] := List.mem_cons_self
  have hm : 3 ≤ m ∧ m ≤ 4 := by rcases hp with rfl | rfl <;> decide
  refine ⟨_, (pss_cons (ps_set (i := 4) sc_67.nd rfl (.inl rfl) (pe_op op_add (pv 1) (pe_cc c__law_next hr (by rfl) (pa_cons (pv 0) (pa_cons (pe_op op_add (pe_op op_sub (pv 2) (pv 1)) pe_int) pa_nil)))))
      (pss_cons (ps_set (i := 5) sc_67.nd rfl (.inl rfl) pe_non)
      (pss_cons (ps_if (pt_cmpR op_gt (pe_cc c__law_next hr (by rfl) (pa_cons (pv 0) (pa_cons pe_int pa_nil))) pe_int (by rfl)) (pss_one (ps_set (i := 5) sc_67.nd rfl (.inl rfl) (pe_cc c__law_some_plan hr (by rfl) (pa_cons (pv 0) (pa_cons (pv 4) pa_nil))))) pss_nil)
      (pss_cons (ps_if (pt_cmpR op_eq (pv 4) pe_int (by rfl)) pss_never pss_nil)
      (pss_cons (ps_set (i := 6) sc_67.nd rfl (.inl rfl) (pe_cc c__law_next hr (by rfl) (pa_cons (pv 0) (pa_cons pe_int pa_nil))))
      (pss_cons (ps_set (i := 7) sc_67.nd rfl (.inl rfl) (pe_lst pa_nil))
      (pss_cons (ps_for PassesOwn.never (by rfl) (pi_range1 (by rfl) B.range_ (pa_cons (pe_cc c__law_next hr (by rfl) (pa_cons (pv 0) (pa_cons (pe_op op_add (pv 3) pe_int) pa_nil))) pa_nil)) (pg_name (i := 8) sc_67.nd rfl (.inl rfl)) (pss_one (ps_if (PW.pt (pw_and (pt_cmpR op_eq (pv 6) pe_int (by rfl)) (pw_and1 (pt_cmpR op_eq (pe_cc c__law_next hr (by rfl) (pa_cons (pv 0) (pa_cons pe_int pa_nil))) pe_int (by rfl))))) (pss_one (ps_expr (kBM K rfl PySem.F.plainAttrs_list PySem.F.slot_list_append PySem.F.type_list_append mt_append (pv 7) (pa_cons (pe_cc c__law_rule hr (by rfl) (pa_cons (pv 0) (pa_cons (pv 4) (pa_cons pe_non pa_nil)))) pa_nil)))) (pss_one (ps_expr (kBM K rfl PySem.F.plainAttrs_list PySem.F.slot_list_append PySem.F.type_list_append mt_append (pv 7) (pa_cons (pe_cc c__law_rule hr (by rfl) (pa_cons (pv 0) (pa_cons (pv 4) (pa_cons (pv 5) pa_nil)))) pa_nil)))))))
      (pss_one (ps_ret (pe_tup (pa_cons (pv 4) (pa_cons (pe_callTy (kTupC K rfl) (by rfl) B.tuple_ (by decide +kernel) (pa_cons (pv 7) pa_nil)) pa_nil)))))))))))), ?_⟩
  refine s_setI (R := fun d => ∃ n : Nat, d = .int (n : Nat) ∧ Few n) hl C (im_op (R1 := fun d => d = .int 2) (im_ev (ev_var (i := 1) rfl) rfl) (im_next (m := (m : Int) - 2 + 1) (R := fun d => ∃ i : Int, d = .int i ∧ 0 ≤ i ∧ i < (m : Int) - 2 + 1) rfl (ev_op (ev_op (ev_var (i := 2) rfl) (ev_var (i := 1) rfl) rv_sub) ev_int rv_add) (by omega) (by omega) fun i i0 i1 => ⟨i, rfl, i0, i1⟩) fun u v hu hv => ?_) fun d c2 k2 σ2 H2 hd C2 => ?_
  · obtain ⟨i, rfl, i0, i1⟩ := hv
    subst hu
    have e : i = 0 ∨ i = 1 ∨ i = 2 := by omega
    rcases e with rfl | rfl | rfl
    · exact ⟨_, ⟨2, rfl, .inl rfl⟩, rv_add⟩
    · exact ⟨_, ⟨3, rfl, .inr (.inl rfl)⟩, rv_add⟩
    · exact ⟨_, ⟨4, rfl, .inr (.inr rfl)⟩, rv_add⟩
  obtain ⟨n, rfl, hn⟩ := hd
  obtain ⟨n2, n4⟩ := few_le hn
  refine s_setq C2 (Ev.at ev_non C2.en) fun σ3 H3 C3 => ?_
  refine s_join (I := fun σ' H' => ∃ (pd : PyData) (c4 : Int) (k4 : Nat), (pd = .none ∨ PlanOf (rg n) pd) ∧ S K M (fun b => b = a) H [(a, .raw (cl l c4 k4))] [some (.r (.ref a)), some (.d (.int 2)), some (.d (.int m)), some (.d (.int 5)), some (.d (.int (n : Nat))), some (.d pd), none, none, none] [(.ref l, .list (xs.map .int))] σ' H') ?_ fun X hX => ?_
  · rintro σ4 H4 ⟨pd, c4, k4, hpd, C4⟩
    refine s_if1 (b := false) C4 (EvT.at (et_is (et_test (ev_op (ev_var (i := 4) rfl) ev_int rv_eqI)) (decide_eq_false (by omega))) C4.en) (fun h => nomatch h) fun _ H5 C5 => ?_
    refine s_setI (R := fun d => ∃ i : Int, d = .int i) hl C5 (im_next rfl ev_int (by decide) (by decide) fun i _ _ => ⟨i, rfl⟩) fun d c6 k6 σ6 H6 hd6 C6 => ?_
    obtain ⟨wi, rfl⟩ := hd6
    refine s_newq C6 fun pp σ7 H7 C7' => ?_
    have C7 := C7'.swap
    refine s_seq (s_forI (RN := fun j => j ≤ 5) hl C7 (ima_cons (R := fun d => ∃ j : Nat, d = .int (j : Nat) ∧ j ≤ 5) (im_next (m := 6) rfl (ev_op (ev_var (i := 3) rfl) ev_int rv_add) (by decide) (by decide) fun i i0 i1 => ⟨i.toNat, by rw [Int.toNat_of_nonneg i0], by omega⟩) ima_nil fun d ds h1 h2 => by
      obtain ⟨j, rfl, hj⟩ := h1
      rw [h2]
      exact ⟨j, rfl, hj⟩) (fun j hj => by omega) fun j c8 k8 H8 hj C8 => ?_)
    refine s_for (is := [8]) (ds := rgD j) C8 (EvI.at (ei_rng (n := j) (ea_cons ev_int ea_nil) (by omega)) C8.en)
      (fun i O G => ∃ (c9 : Int) (k9 : Nat) (rs : List Rule), O = [(a, .raw (cl l c9 k9)), (pp, .lst (rs.map rlD))] ∧ rs.length = i ∧ i ≤ 5 ∧ (∀ q, q ∈ rs → RuleOk n q) ∧ ∃ z8, G = [some (.r (.ref a)), some (.d (.int 2)), some (.d (.int m)), some (.d (.int 5)), some (.d (.int (n : Nat))), some (.d pd), some (.d (.int wi)), some (.r (.ref pp)), z8])
      ⟨c8, k8, [], rfl, rfl, Nat.zero_le _, (fun q h => by cases h), _, rfl⟩ (fun i O' G' h => by obtain ⟨c9, k9, rs, rfl, _⟩ := h; rfl) ?_ ?_
    · rintro E1 i d1 O' G' hd ⟨c9, k9, rs, rfl, hlen, hi5, hrs, z8, rfl⟩
      have hi : i < j := by
        have := (List.getElem?_eq_some_iff.mp hd).1
        rw [rgD_len] at this
        exact this
      rw [rgD_get hi] at hd
      have ed := Option.some.inj hd
      subst ed
      have hl1 : (V.ref l, PyData.list (xs.map .int)) ∈ E1 ++ [(V.ref l, PyData.list (xs.map .int))] := List.mem_append_right _ hl
      refine ⟨_, g_name, fun σ9 H9 C9 => ?_⟩
      have go : ∀ (pd2 : PyData) (te : TE) (c10 : Int) (k10 : Nat) (H10 : Hp) (Dn : Ends), (pd2 = .none ∨ PlanOf (rg n) pd2) → Ev K te [some (.r (.ref a)), some (.d (.int 2)), some (.d (.int m)), some (.d (.int 5)), some (.d (.int (n : Nat))), some (.d pd), some (.d (.int wi)), some (.r (.ref pp)), some (.d (.int (i : Nat)))] pd2 →
          S K M (fun b => b = a) H [(a, .raw (cl l c10 k10)), (pp, .lst (rs.map rlD))] [some (.r (.ref a)), some (.d (.int 2)), some (.d (.int m)), some (.d (.int 5)), some (.d (.int (n : Nat))), some (.d pd), some (.d (.int wi)), some (.r (.ref pp)), some (.d (.int (i : Nat)))] (E1 ++ [(V.ref l, PyData.list (xs.map .int))]) σ9 H10 →
          (∀ (q : Rule) (c11 : Int) (k11 : Nat) (H11 : Hp), RuleOk n q → S K M (fun b => b = a) H [(a, .raw (cl l c11 k11)), (pp, .lst ((rs ++ [q]).map rlD))] [some (.r (.ref a)), some (.d (.int 2)), some (.d (.int m)), some (.d (.int 5)), some (.d (.int (n : Nat))), some (.d pd), some (.d (.int wi)), some (.r (.ref pp)), some (.d (.int (i : Nat)))] (E1 ++ [(V.ref l, PyData.list (xs.map .int))]) σ9 H11 → Dn.nx σ9 H11) →
          tDrop (tBM K "list" rAppend (tVar 7) (tCons (tCall (SpS K preR encR postR) [] E0 (tCons (tVar 0) (tCons (tVar 4) (tCons te tNil)))) tNil)) Dn σ9 H10 := fun pd2 te c10 k10 H10 Dn h2 hte C10 kk => by
        refine s_appI (R := fun d => ∃ q : Rule, d = rlD q ∧ RuleOk n q) hl1 C10 rfl (by rw [List.length_map]; omega) (im_callS rfl (ima_ev (ds := [.int (n : Nat), pd2]) (S1 := fun ds => ds = [.int (n : Nat), pd2]) (ea_cons (ev_var (i := 4) rfl) (ea_cons hte ea_nil)) rfl) fun ds hds => ⟨(n, pd2), ⟨hn, h2⟩, hds, fun d h => h⟩) fun d c11 k11 H11 hd11 C11 => ?_
        obtain ⟨q, rfl, hq⟩ := hd11
        refine kk q c11 k11 H11 hq ?_
        rw [List.map_append]
        exact C11
      have out : ∀ (q : Rule) (c11 : Int) (k11 : Nat) (H11 : Hp), RuleOk n q → S K M (fun b => b = a) H [(a, .raw (cl l c11 k11)), (pp, .lst ((rs ++ [q]).map rlD))] [some (.r (.ref a)), some (.d (.int 2)), some (.d (.int m)), some (.d (.int 5)), some (.d (.int (n : Nat))), some (.d pd), some (.d (.int wi)), some (.r (.ref pp)), some (.d (.int (i : Nat)))] (E1 ++ [(V.ref l, PyData.list (xs.map .int))]) σ9 H11 →
          ∃ (O'' : Ow) (G'' : Gm), (∃ (c9 : Int) (k9 : Nat) (rs : List Rule), O'' = [(a, .raw (cl l c9 k9)), (pp, .lst (rs.map rlD))] ∧ rs.length = i + 1 ∧ i + 1 ≤ 5 ∧ (∀ q, q ∈ rs → RuleOk n q) ∧ ∃ z8, G'' = [some (.r (.ref a)), some (.d (.int 2)), some (.d (.int m)), some (.d (.int 5)), some (.d (.int (n : Nat))), some (.d pd), some (.d (.int wi)), some (.r (.ref pp)), z8]) ∧ S K M (fun b => b = a) H O'' G'' (E1 ++ [(V.ref l, PyData.list (xs.map .int))]) σ9 H11 := fun q c11 k11 H11 hq C11 =>
        ⟨_, _, ⟨c11, k11, rs ++ [q], rfl, by rw [List.length_append, hlen]; rfl, by omega, fun q2 h2 => by
          rcases List.mem_append.mp h2 with h2 | h2
          · exact hrs q2 h2
          · rw [List.mem_singleton.mp h2]
            exact hq, _, rfl⟩, C11⟩
      refine s_ifI (RB := fun _ => True) hl1 C9 (imt_and (A := fun _ => True) (B := fun _ => True) (imt_test (R := fun d => ∃ b, d = .bool b) (im_ev (ev_op (ev_var (i := 6) rfl) ev_int rv_eqI) ⟨_, rfl⟩) fun d hd => by
          obtain ⟨b, rfl⟩ := hd
          exact ⟨b, rfl, trivial⟩) (imt_test (R := fun d => ∃ b, d = .bool b) (im_op (R1 := fun d => ∃ i : Int, d = .int i) (im_next rfl ev_int (by decide) (by decide) fun i _ _ => ⟨i, rfl⟩) (R2 := fun d => d = .int 0) (im_ev ev_int rfl) fun u v hu hv => by
          obtain ⟨i, rfl⟩ := hu
          rw [hv]
          exact ⟨_, ⟨_, rfl⟩, rv_eqI⟩) fun d hd => by
          obtain ⟨b, rfl⟩ := hd
          exact ⟨b, rfl, trivial⟩) fun _ => trivial) (fun _ c10 k10 H10 C10 => ?_) fun _ c10 k10 H10 C10 => ?_
      · exact go .none _ c10 k10 H10 _ (.inl rfl) ev_non C10 fun q c11 k11 H11 hq C11 => out q c11 k11 H11 hq C11
      · exact go pd _ c10 k10 H10 _ hpd (ev_var (i := 5) rfl) C10 fun q c11 k11 H11 hq C11 => out q c11 k11 H11 hq C11
    · rintro O' G' ⟨c9, k9, rs, rfl, hlen, hi5, hrs, z8, rfl⟩ σ9 H9 C9
      refine s_ret C9 (fun _ h => h) (d := pbD ⟨n, rs⟩) (Ev.at (ev_tup (ea_cons (ev_var (i := 4) rfl) (ea_cons (ev_cb (ea_cons (ev_var (i := 7) rfl) ea_nil) rc_tupL) ea_nil)) (show 2 ≤ 1000 by decide)) (C9.view (i := 7) rfl (List.mem_cons_of_mem _ List.mem_cons_self) (not_W C9 List.mem_cons_self))) fun v H10 _ C10 r10 => ?_
      refine q c9 k9 v _ ⟨⟨n, rs⟩, rfl, hn, ⟨by show 1 ≤ n; omega, by show n ≤ 7; omega, by show rs.length ≤ 20; omega, hrs⟩, by show rs.length ≤ 5; omega⟩ C10 r10
  · refine s_ifI (RB := fun _ => True) hl C3 (imt_test (R := fun d => ∃ b, d = .bool b) (im_op (R1 := fun d => ∃ i : Int, d = .int i) (im_next rfl ev_int (by decide) (by decide) fun i _ _ => ⟨i, rfl⟩) (R2 := fun d => d = .int 0) (im_ev ev_int rfl) fun u v hu hv => by
        obtain ⟨i, rfl⟩ := hu
        rw [hv]
        exact ⟨_, ⟨_, rfl⟩, rv_gt⟩) fun d hd => by
        obtain ⟨b, rfl⟩ := hd
        exact ⟨b, rfl, trivial⟩) (fun _ c4 k4 H4 C4 => ?_) fun _ c4 k4 H4 C4 => hX _ _ ⟨.none, c4, k4, .inl rfl, C4⟩
    exact s_setE (R := PlanOf (rg n)) hl C4 (im_callS rfl (ima_ev (ds := [.int (n : Nat)]) (S1 := fun ds => ds = [.int (n : Nat)]) (ea_cons (ev_var (i := 4) rfl) ea_nil) rfl) fun ds hds => ⟨n, hn, hds, fun d h => h⟩) fun d c5 k5 σ5 H5 hd5 C5 => hX _ _ ⟨d, c5, k5, .inr hd5, C5⟩
theorem c__law_small (D : DefAt K mg "_law_small" "_law_small" s_73 f) (B : Bi mg) (c__law_next : Callee P w K mg base "_law_next" k ["_law_stream_here", "_law_many"] (SpS K preN encN postN)) (c__law_problem : Callee P w K mg base "_law_problem" k ["_law_stream_here", "_law_least", "_law_most", "_law_many"] (SpS K preB (fun m => [.int 2, .int m, .int 5]) postB)) :
    Callee P w K mg base "_law_small" (k + 1) ["_law_stream_here"] (SpS K (fun _ : Unit => True) (fun _ => []) postB) := by
  refine mkS D sc_73 (fun _ _ _ _ _ _ us hl => match us, hl with | [_], _ => rfl) (fun _ => rfl) fun cdv A outer s H vs Q E M a l c k1 xs m hr hp C q => ?_
  have hl : (V.ref l, PyData.list (xs.map .int)) ∈ [(V.ref l, PyData.list (xs.map .int))] := List.mem_cons_self
  refine ⟨_, (pss_one (ps_ret (pe_cc c__law_problem hr (by rfl) (pa_cons (pv 0) (pa_cons pe_int (pa_cons (pe_op op_add pe_int (pe_callTy call_int1 (by rfl) B.int_ (by decide +kernel) (pa_cons (pe_cmpR op_eq (pe_cc c__law_next hr (by rfl) (pa_cons (pv 0) (pa_cons pe_int pa_nil))) pe_int (by rfl)) pa_nil))) (pa_cons pe_int pa_nil))))))), ?_⟩
  refine s_retI (R := postB ()) hl C (im_callS rfl (ima_cons (R := fun d => d = .int 2) (im_ev ev_int rfl) (ima_cons (R := fun d => ∃ m : Nat, d = .int (m : Nat) ∧ preB m) (im_op (R1 := fun d => d = .int 3) (im_ev ev_int rfl) (R2 := fun d => d = .int 0 ∨ d = .int 1) (im_cb (S1 := fun ds => ∃ b, ds = [.bool b]) (ima_cons (R := fun d => ∃ b, d = .bool b) (im_op (R1 := fun d => ∃ i : Int, d = .int i) (im_next rfl ev_int (by decide) (by decide) fun i _ _ => ⟨i, rfl⟩) (R2 := fun d => d = .int 0) (im_ev ev_int rfl) fun u v hu hv => by
        obtain ⟨i, rfl⟩ := hu
        rw [hv]
        exact ⟨_, ⟨_, rfl⟩, rv_eqI⟩) ima_nil fun d ds h1 h2 => by
        obtain ⟨b, rfl⟩ := h1
        rw [h2]
        exact ⟨b, rfl⟩) fun ds hds => by
        obtain ⟨b, rfl⟩ := hds
        exact ⟨.int (if b then 1 else 0), by cases b <;> simp, rc_intB⟩) fun u v hu hv => by
      subst hu
      rcases hv with rfl | rfl
      · exact ⟨_, ⟨3, rfl, .inl rfl⟩, rv_add⟩
      · exact ⟨_, ⟨4, rfl, .inr rfl⟩, rv_add⟩) (ima_cons (R := fun d => d = .int 5) (im_ev ev_int rfl) ima_nil (S2 := fun ds => ds = [.int 5]) fun d ds h1 h2 => by rw [h1, h2]) (S2 := fun ds => ∃ m : Nat, ds = [.int (m : Nat), .int 5] ∧ preB m) fun d ds h1 h2 => by
      obtain ⟨m, rfl, hm⟩ := h1
      rw [h2]
      exact ⟨m, rfl, hm⟩) (S2 := fun ds => ∃ m : Nat, ds = [.int 2, .int (m : Nat), .int 5] ∧ preB m) fun d ds h1 h2 => by
      obtain ⟨m, rfl, hm⟩ := h2
      rw [h1]
      exact ⟨m, rfl, hm⟩) fun ds hds => by
      obtain ⟨m, rfl, hm⟩ := hds
      exact ⟨m, hm, rfl, fun d h => h⟩) fun v d c' k' H2 hd C2 r2 => q c' k' v d hd C2 r2
end
end Tb
set_option Elab.async false
set_option linter.all false
set_option maxRecDepth 100000
set_option maxHeartbeats 4000000
/-! ## The law's own defs: turned sets -/
namespace Tb
open PySem PySem.Spec PyProof.Rows PySem.W L2
abbrev s_79 : Stmt := top 79
theorem sc_79 : FnScope ["_law_stream_here", "_law_size", "_law_chosen", "_law_odd", "_law_one"] ["_law_stream_here", "_law_size", "_law_chosen"] (defScope s_79) := ⟨rfl, rfl, rfl, by decide +kernel, rfl, by decide +kernel, by decide +kernel⟩
abbrev s_80 : Stmt := top 80
theorem sc_80 : FnScope ["_law_stream_here", "_law_size", "_law_sets", "_law_pick", "_law_at"] ["_law_stream_here", "_law_size", "_law_sets"] (defScope s_80) := ⟨rfl, rfl, rfl, by decide +kernel, rfl, by decide +kernel, by decide +kernel⟩
theorem cut_len {α : Type} (ds : List α) (lo hi : Option Int) : (cutD ds lo hi).length ≤ ds.length := by
  unfold cutD
  rw [List.length_take, List.length_drop]
  omega
theorem cut_mem {α : Type} {ds : List α} {lo hi : Option Int} {x : α} (h : x ∈ cutD ds lo hi) : x ∈ ds := by
  unfold cutD at h
  exact List.mem_of_mem_drop (List.mem_of_mem_take h)
section
variable {P : Program} {w : World} {K : PySem.W.Frag} {mg : Str → Option Value} {base : Heap} {k : Nat} {f aR aO : Addr}
theorem ev_neg {G : Gm} {te : TE} {i : Int} (h : Ev K te G (.int i)) : Ev K (tUn (rU fun i => .int (-i)) te) G (.int (-i)) := fun M σ H e Q q =>
  h M σ H e _ fun v H1 s1 r1 => ⟨i, r1.int_inv, q _ H1 s1 (.int _)⟩
abbrev preT : Nat × List Int → Prop := fun z => z.1 ≤ 7 ∧ z.2.length ≤ 7
abbrev encT : Nat × List Int → List PyData := fun z => [.int z.1, setD z.2]
abbrev postT {α : Type} : α → PyData → Prop := fun _ d => okC d
theorem c__law_turned_set (D : DefAt K mg "_law_turned_set" "_law_turned_set" s_79 f) (B : Bi mg) (c__law_next : Callee P w K mg base "_law_next" k ["_law_stream_here", "_law_many"] (SpS K preN encN postN)) : Callee P w K mg base "_law_turned_set" (k + 1) ["_law_stream_here", "_law_size", "_law_chosen"] (SpS K preT encT postT) := by
  refine mkS D sc_79 (fun _ _ _ _ _ _ us hl => match us, hl with | [_, _, _], _ => rfl) (fun _ => rfl) fun cdv A outer s H vs Q E M a l c k1 xs z hr hp C q => ?_
  obtain ⟨n, st⟩ := z
  obtain ⟨hn, hs⟩ := hp
  have hn : n ≤ 7 := hn
  have hs : st.length ≤ 7 := hs
  have hl : (V.ref l, PyData.list (xs.map .int)) ∈ [(V.ref l, PyData.list (xs.map .int))] := List.mem_cons_self
  refine ⟨_, (pss_cons (ps_set (i := 3) sc_79.nd rfl (.inl rfl) (pe_lst (pa_cons pe_non (pa_cons (pe_callTy (kLst K rfl) (by rfl) B.list_ (by decide +kernel) (pa_cons (pv 2) pa_nil)) (pa_cons (pe_slice (kSlA K rfl) (pv 2) (po_some pe_int) po_none) (pa_cons (pe_slice (kSlA K rfl) (pv 2) po_none (po_some (pe_un un_neg pe_int))) (pa_cons (pe_revT K rfl (pv 2)) (pa_cons (pe_op (kCatA K rfl) (pv 2) (pe_tup (pa_cons (pv 1) pa_nil))) (pa_cons (pe_op (kCatA K rfl) (pe_tup (pa_cons (pe_un un_neg pe_int) pa_nil)) (pv 2)) (pa_cons (pe_op (kCatA K rfl) (pv 2) (pe_slice (kSlA K rfl) (pv 2) (po_some (pe_un un_neg pe_int)) po_none)) (pa_cons (pe_tup pa_nil) (pa_cons (pe_op (kCatA K rfl) (pe_tup (pa_cons pe_bl pa_nil)) (pe_slice (kSlA K rfl) (pv 2) (po_some pe_int) po_none)) pa_nil))))))))))))
      (pss_cons (ps_set (i := 3) sc_79.nd rfl (.inl rfl) (pe_op op_cat (pv 3) (pe_lst (pa_cons (pe_tupRg (by rfl) (by rfl) B.tuple_ (prg_1 (by rfl) B.range_ (pv 1))) (pa_cons (pe_callTy (kTupC K rfl) (by rfl) B.tuple_ (by decide +kernel) (pa_cons (pe_lc (own := [("_law_one", 4)]) (by rfl) sc_79.nd (pi_range1 (by rfl) B.range_ (pa_cons (pv 1) pa_nil)) (blkOk_by (own := [("_law_one", 4)]) (N := ["_law_stream_here", "_law_size", "_law_chosen", "_law_odd", "_law_one"]) (sc := defScope s_79) (by decide +kernel)) (fun _ _ _ _ _ => (pg_name (i := 4) sc_79.nd rfl (.inl rfl))) (fun _ _ _ _ _ => (pts_one (pt_cmpR op_eq (pe_cc c__law_next hr (by rfl) (pa_cons (pv 0) (pa_cons pe_int pa_nil))) pe_int (by rfl)))) (fun _ _ _ _ _ => (pv 4))) pa_nil)) (pa_cons (pe_tup (pa_cons (pv 2) pa_nil)) (pa_cons (pv 2) pa_nil)))))))
      (pss_one (ps_ret (pe_ix (kIx K rfl) (pv 3) (pe_cc c__law_next hr (by rfl) (pa_cons (pv 0) (pa_cons pe_int pa_nil))) (fun _ _ => rfl)))))), ?_⟩
  generalize hds : st.map PyData.int = ds at *
  have dl : ds.length ≤ 7 := by rw [← hds, List.length_map]; exact hs
  have c1 := fun lo hi => cut_len ds lo hi
  have v2 : ∀ {G : Gm}, G[2]? = some (some (.d (setD st))) → Ev K (tVar 2) G (.tuple ds) := fun {G} h => ev_var (by rw [← hds]; exact h)
  refine s_setq (d := .list [.none, .list ds, .tuple (cutD ds (some 1) none), .tuple (cutD ds none (some (-1))), .tuple ds.reverse, .tuple (ds ++ [.int n]), .tuple ([.int (-1)] ++ ds), .tuple (ds ++ cutD ds (some (-1)) none), .tuple [], .tuple ([.bool true] ++ cutD ds (some 1) none)]) C (Ev.at (ev_lst (ea_cons ev_non (ea_cons (ev_cb (ea_cons (v2 rfl) ea_nil) rc_listT) (ea_cons (ev_slT (v2 rfl) (eo_some ev_int) eo_none) (ea_cons (ev_slT (v2 rfl) eo_none (eo_some (ev_neg ev_int))) (ea_cons (ev_revT (v2 rfl)) (ea_cons (ev_op (v2 rfl) (ev_tup (ea_cons (ev_var (i := 1) rfl) ea_nil) (show 1 ≤ 1000 by decide)) (rv_catA (by show ds.length + 1 ≤ 100000; omega)))
    (ea_cons (ev_op (ev_tup (ea_cons (ev_neg ev_int) ea_nil) (show 1 ≤ 1000 by decide)) (v2 rfl) (rv_catA (by show 1 + ds.length ≤ 100000; omega))) (ea_cons (ev_op (v2 rfl) (ev_slT (v2 rfl) (eo_some (ev_neg ev_int)) eo_none) (rv_catA (by have := c1 (some (-1)) none; omega))) (ea_cons (ev_tup ea_nil (show 0 ≤ 1000 by decide)) (ea_cons (ev_op (ev_tup (ea_cons ev_bl ea_nil) (show 1 ≤ 1000 by decide)) (ev_slT (v2 rfl) (eo_some ev_int) eo_none) (rv_catA (by have := c1 (some 1) none; show 1 + _ ≤ 100000; omega))) ea_nil)))))))))) (show 10 ≤ 1000 by decide)) C.en) fun σ2 H2 C2 => ?_
  have vw2 : ∀ {G : Gm}, G[2]? = some (some (.d (setD st))) → Ev K (tVar 2) G (.tuple ds) := v2
  refine s_setI (R := fun d => ∃ items : List PyData, d = .list items ∧ items.length = 14 ∧ ∀ x, x ∈ items → okC x) hl C2 (im_op (R1 := fun d => d = .list [.none, .list ds, .tuple (cutD ds (some 1) none), .tuple (cutD ds none (some (-1))), .tuple ds.reverse, .tuple (ds ++ [.int n]), .tuple ([.int (-1)] ++ ds), .tuple (ds ++ cutD ds (some (-1)) none), .tuple [], .tuple ([.bool true] ++ cutD ds (some 1) none)]) (im_ev (ev_var (i := 3) rfl) rfl)
    (im_lst (R := fun d => ∃ zs : List PyData, zs.length ≤ 7 ∧ d = .list [.tuple (rgD n), .tuple zs, .tuple [.tuple ds], .tuple ds]) (ima_cons (R := fun d => d = .tuple (rgD n)) (im_ev (ev_tupRg (n := n) (ev_var (i := 1) rfl) (by omega)) rfl) (ima_cons (R := fun d => ∃ zs : List PyData, zs.length ≤ 7 ∧ d = .tuple zs)
      (im_cb (S1 := fun es => ∃ zs : List PyData, zs.length ≤ 7 ∧ es = [.list zs]) (ima_cons (R := fun d => ∃ zs : List PyData, zs.length ≤ 7 ∧ d = .list zs) (im_lc (is := [4]) (RB := fun _ => True) (List.range n) (fun (i : Nat) => PyData.int i) (fun (i : Nat) => PyData.int i) (ei_rng (n := n) (ea_cons (ev_var (i := 1) rfl) ea_nil) (by omega)) (fun i h => h) (fun i hi => ⟨_, g_name, fun D es => imt_test (R := fun d => ∃ b, d = .bool b) (im_op (R1 := fun d => ∃ i : Int, d = .int i) (im_next rfl ev_int (by decide) (by decide) fun i _ _ => ⟨i, rfl⟩) (R2 := fun d => d = .int 1) (im_ev ev_int rfl) fun u v hu hv => by
          obtain ⟨i, rfl⟩ := hu
          rw [hv]
          exact ⟨_, ⟨_, rfl⟩, rv_eqI⟩) fun d hd => by
          obtain ⟨b, rfl⟩ := hd
          exact ⟨b, rfl, trivial⟩, ev_var rfl⟩) (by rw [List.length_range]; omega) fun zs hz => ⟨_, by have := hz.length_le; rw [List.length_range] at this; rw [List.length_map]; omega, rfl⟩) ima_nil fun d ds h1 h2 => by
          obtain ⟨zs, hz, rfl⟩ := h1
          rw [h2]
          exact ⟨zs, hz, rfl⟩) fun es hes => by
          obtain ⟨zs, hz, rfl⟩ := hes
          exact ⟨_, ⟨zs, hz, rfl⟩, rc_tupL⟩) (ima_cons (R := fun d => d = .tuple [.tuple ds]) (im_ev (ev_tup (ea_cons (v2 rfl) ea_nil) (show 1 ≤ 1000 by decide)) rfl) (ima_cons (R := fun d => d = .tuple ds) (im_ev (v2 rfl) rfl) ima_nil (S2 := fun es => es = [.tuple ds]) fun d es h1 h2 => by rw [h1, h2]) (S2 := fun es => es = [.tuple [.tuple ds], .tuple ds]) fun d es h1 h2 => by rw [h1, h2]) (S2 := fun es => ∃ zs : List PyData, zs.length ≤ 7 ∧ es = [.tuple zs, .tuple [.tuple ds], .tuple ds]) fun d es h1 h2 => by
          obtain ⟨zs, hz, rfl⟩ := h1
          rw [h2]
          exact ⟨zs, hz, rfl⟩) (S2 := fun es => ∃ zs : List PyData, zs.length ≤ 7 ∧ es = [.tuple (rgD n), .tuple zs, .tuple [.tuple ds], .tuple ds]) fun d es h1 h2 => by
          obtain ⟨zs, hz, rfl⟩ := h2
          rw [h1]
          exact ⟨zs, hz, rfl⟩) fun es hes => by
          obtain ⟨zs, hz, rfl⟩ := hes
          exact ⟨by show 4 ≤ 1000; decide, zs, hz, rfl⟩) fun u v hu hv => ?_) fun d c3 k3 σ3 H3 hd C3 => ?_
  · obtain ⟨zs, hz, rfl⟩ := hv
    subst hu
    refine ⟨_, ⟨_, rfl, rfl, fun x hx => ?_⟩, rv_cat (by show 10 + 4 ≤ 100000; decide)⟩
    have e1 := c1 (some 1) none
    have e2 := c1 none (some (-1))
    have e3 := c1 (some (-1)) none
    have e4 := rgD_len n
    simp only [List.cons_append, List.nil_append, List.mem_cons, List.not_mem_nil, or_false] at hx
    rcases hx with rfl | rfl | rfl | rfl | rfl | rfl | rfl | rfl | rfl | rfl | rfl | rfl | rfl | rfl <;> first | trivial | (show List.length _ ≤ 1000; (try simp only [List.length_append, List.length_reverse, List.length_cons, List.length_nil]); omega)
  · obtain ⟨items, rfl, h14, hall⟩ := hd
    refine s_retI (R := okC) hl C3 (im_op (R1 := fun d => d = .list items) (im_ev (ev_var (i := 3) rfl) rfl) (im_next (m := 14) (R := fun d => ∃ i : Nat, d = .int (i : Nat) ∧ i < 14) rfl ev_int (by decide) (by decide) fun i i0 i1 => ⟨i.toNat, by rw [Int.toNat_of_nonneg i0], by omega⟩) fun u v hu hv => ?_) fun v d c' k' H4 hd C4 r4 => q c' k' v d hd C4 r4
    obtain ⟨i, rfl, hi⟩ := hv
    subst hu
    have hg : items[i]? = some items[i] := List.getElem?_eq_getElem (by omega)
    exact ⟨items[i], hall _ (List.getElem_mem _), rv_ixL (atI_nat hg)⟩
abbrev preTs : Nat × List (List Int) → Prop := fun z => z.1 ≤ 7 ∧ z.2.length ≤ 3 ∧ ∀ s, s ∈ z.2 → s.length ≤ 7
abbrev encTs : Nat × List (List Int) → List PyData := fun z => [.int z.1, .tuple (z.2.map setD)]
abbrev postTs {α : Type} : α → PyData → Prop := fun _ d => okV d
theorem c__law_turned_sets (D : DefAt K mg "_law_turned_sets" "_law_turned_sets" s_80 f) (B : Bi mg) (c__law_next : Callee P w K mg base "_law_next" k ["_law_stream_here", "_law_many"] (SpS K preN encN postN)) (c__law_turned_set : Callee P w K mg base "_law_turned_set" k ["_law_stream_here", "_law_size", "_law_chosen"] (SpS K preT encT postT)) : Callee P w K mg base "_law_turned_sets" (k + 1) ["_law_stream_here", "_law_size", "_law_sets"] (SpS K preTs encTs postTs) := by
  refine mkS D sc_80 (fun _ _ _ _ _ _ us hl => match us, hl with | [_, _, _], _ => rfl) (fun _ => rfl) fun cdv A outer s H vs Q E M a l c k1 xs z hr hp C q => ?_
  obtain ⟨n, zs⟩ := z
  obtain ⟨hn, hz, hs⟩ := hp
  have hn : n ≤ 7 := hn
  have hz : zs.length ≤ 3 := hz
  have hl : (V.ref l, PyData.list (xs.map .int)) ∈ [(V.ref l, PyData.list (xs.map .int))] := List.mem_cons_self
  have okS : ∀ d, d ∈ zs.map setD → okC d := fun d hd => by
    obtain ⟨s, hm, rfl⟩ := List.mem_map.mp hd
    show (s.map PyData.int).length ≤ 1000
    rw [List.length_map]
    have := hs s hm
    omega
  have dl : (zs.map setD).length ≤ 3 := by rw [List.length_map]; exact hz
  have c1 := fun lo hi => cut_len (zs.map setD) lo hi
  have v2 : ∀ {G : Gm}, G[2]? = some (some (.d (.tuple (zs.map setD)))) → Ev K (tVar 2) G (.tuple (zs.map setD)) := fun {G} h => ev_var h
  refine ⟨_, (pss_cons (ps_set (i := 3) sc_80.nd rfl (.inl rfl) (pe_cc c__law_next hr (by rfl) (pa_cons (pv 0) (pa_cons pe_int pa_nil))))
      (pss_cons (ps_if (PW.pt (pw_or (pt_cmpR op_eq (pv 3) pe_int (by rfl)) (pw_or1 (pt_not (kTru K rfl (pv 2) (by intro _; rfl)))))) (pss_one (ps_ret (pe_ix (kIx K rfl) (pe_lst (pa_cons pe_non (pa_cons (pe_callTy (kLst K rfl) (by rfl) B.list_ (by decide +kernel) (pa_cons (pv 2) pa_nil)) (pa_cons (pe_op (kCatA K rfl) (pv 2) (pe_tup (pa_cons (pe_tup (pa_cons pe_int (pa_cons pe_int pa_nil))) pa_nil))) (pa_cons (pe_slice (kSlA K rfl) (pv 2) (po_some pe_int) po_none) (pa_cons (pe_revT K rfl (pv 2)) (pa_cons (pe_op (kCatA K rfl) (pv 2) (pv 2)) pa_nil))))))) (pe_cc c__law_next hr (by rfl) (pa_cons (pv 0) (pa_cons pe_int pa_nil))) (fun _ _ => rfl)))) pss_nil)
      (pss_cons (ps_set (i := 4) sc_80.nd rfl (.inl rfl) (pe_ix (kIx K rfl) (pe_lst (pa_cons pe_int (pa_cons (pe_op op_fdivW (pe_callB (kLen K rfl) (by rfl) B.len_ (by decide +kernel) (pa_cons (pv 2) pa_nil)) pe_int) (pa_cons (pe_op op_sub (pe_callB (kLen K rfl) (by rfl) B.len_ (by decide +kernel) (pa_cons (pv 2) pa_nil)) pe_int) pa_nil)))) (pe_cc c__law_next hr (by rfl) (pa_cons (pv 0) (pa_cons pe_int pa_nil))) (fun _ _ => rfl)))
      (pss_one (ps_ret (pe_op (kCatA K rfl) (pe_op (kCatA K rfl) (pe_slice (kSlA K rfl) (pv 2) po_none (po_some (pv 4))) (pe_tup (pa_cons (pe_cc c__law_turned_set hr (by rfl) (pa_cons (pv 0) (pa_cons (pv 1) (pa_cons (pe_ix (kIx K rfl) (pv 2) (pv 4) (fun _ _ => rfl)) pa_nil)))) pa_nil))) (pe_slice (kSlA K rfl) (pv 2) (po_some (pe_op op_add (pv 4) pe_int)) po_none))))))), ?_⟩
  refine s_setI (R := fun d => ∃ i : Int, d = .int i) hl C (im_next rfl ev_int (by decide) (by decide) fun i _ _ => ⟨i, rfl⟩) fun d c2 k2 σ2 H2 hd C2 => ?_
  obtain ⟨pi, rfl⟩ := hd
  refine s_if1 (b := decide (pi = 0) || zs.isEmpty) C2 (EvT.at (et_or (et_test (ev_op (ev_var (i := 3) rfl) ev_int rv_eqI)) fun _ => et_is (et_not (et_tru (d := .tuple (zs.map setD)) (b := !zs.isEmpty) (v2 rfl) rfl (by show (!(zs.map setD).isEmpty) = _; rw [List.isEmpty_map]))) (by rw [Bool.not_not])) C2.en) (fun hb H3 C3 => ?_) fun hb H3 C3 => ?_
  · refine s_retI (R := okV) hl C3 (im_op (R1 := fun d => d = .list [.none, .list (zs.map setD), .tuple (zs.map setD ++ [.tuple [.int 0, .int 1]]), .tuple (cutD (zs.map setD) (some 1) none), .tuple (zs.map setD).reverse, .tuple (zs.map setD ++ zs.map setD)]) (im_ev (ev_lst (ea_cons ev_non (ea_cons (ev_cb (ea_cons (v2 rfl) ea_nil) rc_listT) (ea_cons (ev_op (v2 rfl) (ev_tup (ea_cons (ev_tup (ea_cons ev_int (ea_cons ev_int ea_nil)) (show 2 ≤ 1000 by decide)) ea_nil) (show 1 ≤ 1000 by decide)) (rv_catA (by show _ + 1 ≤ 100000; omega))) (ea_cons (ev_slT (v2 rfl) (eo_some ev_int) eo_none) (ea_cons (ev_revT (v2 rfl)) (ea_cons (ev_op (v2 rfl) (v2 rfl) (rv_catA (by omega))) ea_nil)))))) (show 6 ≤ 1000 by decide)) rfl)
      (im_next (m := 6) (R := fun d => ∃ i : Nat, d = .int (i : Nat) ∧ i < 6) rfl ev_int (by decide) (by decide) fun i i0 i1 => ⟨i.toNat, by rw [Int.toNat_of_nonneg i0], by omega⟩) fun u v hu hv => ?_) fun v d c' k' H4 hd C4 r4 => q c' k' v d hd C4 r4
    obtain ⟨i, rfl, hi⟩ := hv
    subst hu
    have go : ∀ (items : List PyData), items.length = 6 → (∀ x, x ∈ items → okV x) → ∃ z, okV z ∧ RV K (rIx K) (.list items) (.int (i : Nat)) z := fun items h6 hall =>
      ⟨items[i], hall _ (List.getElem_mem _), rv_ixL (atI_nat (List.getElem?_eq_getElem (by omega)))⟩
    refine go _ rfl fun x hx => ?_
    simp only [List.mem_cons, List.not_mem_nil, or_false] at hx
    rcases hx with rfl | rfl | rfl | rfl | rfl | rfl
    · trivial
    · trivial
    · intro d hd
      rcases List.mem_append.mp hd with h | h
      · exact okS d h
      · rw [List.mem_singleton.mp h]
        show 2 ≤ 1000
        decide
    · exact fun d hd => okS d (cut_mem hd)
    · exact fun d hd => okS d (List.mem_reverse.mp hd)
    · intro d hd
      rcases List.mem_append.mp hd with h | h <;> exact okS d h
  · rw [Bool.or_eq_false_iff] at hb
    have hpos : 0 < zs.length := by
      cases zs with
      | nil => exact absurd hb.2 (by decide)
      | cons s r => exact Nat.succ_pos _
    refine s_setI (R := fun d => ∃ j : Nat, d = .int (j : Nat) ∧ j < zs.length) hl C3 (im_op (R1 := fun d => d = .list [.int 0, .int ((zs.length : Int) / 2), .int ((zs.length : Int) - 1)]) (im_ev (ev_lst (ea_cons ev_int (ea_cons (ev_op (ev_is (ev_lenT (v2 rfl)) (by rw [List.length_map])) ev_int (rv_divW (wide_div (b := 10) (by decide) (by decide) (by decide) (by decide)))) (ea_cons (ev_op (ev_is (ev_lenT (v2 rfl)) (by rw [List.length_map])) ev_int rv_sub) ea_nil))) (show 3 ≤ 1000 by decide)) rfl) (im_next (m := 3) (R := fun d => d = .int 0 ∨ d = .int 1 ∨ d = .int 2) rfl ev_int (by decide) (by decide) fun i i0 i1 => ?_) fun u v hu hv => ?_) fun d c4 k4 σ4 H4 hd C4 => ?_
    · have e : i = 0 ∨ i = 1 ∨ i = 2 := by omega
      rcases e with rfl | rfl | rfl
      · exact .inl rfl
      · exact .inr (.inl rfl)
      · exact .inr (.inr rfl)
    · subst hu
      rcases hv with rfl | rfl | rfl
      · exact ⟨_, ⟨0, rfl, hpos⟩, rv_ixL atI_0⟩
      · exact ⟨_, ⟨zs.length / 2, by congr 1, by omega⟩, rv_ixL atI_1⟩
      · exact ⟨_, ⟨zs.length - 1, by congr 1; omega, by omega⟩, rv_ixL atI_2⟩
    · obtain ⟨j, rfl, hj⟩ := hd
      have hg : zs[j]? = some zs[j] := List.getElem?_eq_getElem hj
      refine s_retI (R := okV) hl C4 (im_op (R1 := fun d => ∃ es : List PyData, d = .tuple es ∧ es.length ≤ 10 ∧ ∀ x, x ∈ es → okC x) (im_op (R1 := fun d => d = .tuple (cutD (zs.map setD) none (some (j : Nat)))) (im_ev (ev_slT (v2 rfl) eo_none (eo_some (ev_var (i := 4) rfl))) rfl) (im_tup (R := fun d => ∃ e, d = .tuple [e] ∧ okC e) (ima_cons (R := okC) (im_callS rfl (ima_ev (ds := [.int (n : Nat), setD zs[j]]) (S1 := fun ds => ds = [.int (n : Nat), setD zs[j]]) (ea_cons (ev_var (i := 1) rfl) (ea_cons (ev_op (x := .tuple (zs.map setD)) (v2 rfl) (ev_var (i := 4) rfl) (rv_ixT (atI_nat (by rw [List.getElem?_map, hg]; rfl)))) ea_nil)) rfl) fun ds hds => ⟨(n, zs[j]), ⟨hn, hs _ (List.getElem_mem hj)⟩, hds, fun d h => h⟩) ima_nil (S2 := fun es => ∃ e, es = [e] ∧ okC e) fun d es h1 h2 => ⟨d, by rw [h2], h1⟩) fun es hes => by
          obtain ⟨e, rfl, he⟩ := hes
          exact ⟨by show 1 ≤ 1000; decide, e, rfl, he⟩) fun u v hu hv => ?_) (R2 := fun d => d = .tuple (cutD (zs.map setD) (some ((j : Int) + 1)) none)) (im_ev (ev_slT (v2 rfl) (eo_some (ev_op (ev_var (i := 4) rfl) ev_int rv_add)) eo_none) rfl) fun u v hu hv => ?_) fun v d c' k' H5 hd C5 r5 => q c' k' v d hd C5 r5
      · obtain ⟨e, rfl, he⟩ := hv
        subst hu
        have := c1 none (some (j : Nat))
        refine ⟨_, ⟨_, rfl, by rw [List.length_append]; show _ + 1 ≤ 10; omega, fun x hx => ?_⟩, rv_catA (by show _ + 1 ≤ 100000; omega)⟩
        rcases List.mem_append.mp hx with h | h
        · exact okS x (cut_mem h)
        · rw [List.mem_singleton.mp h]
          exact he
      · obtain ⟨es, rfl, hel, hes⟩ := hu
        subst hv
        have := c1 (some ((j : Int) + 1)) none
        refine ⟨.tuple _, fun x hx => ?_, rv_catA (by omega)⟩
        rcases List.mem_append.mp hx with h | h
        · exact hes x h
        · exact okS x (cut_mem h)
end
end Tb
set_option Elab.async false
set_option linter.all false
set_option maxRecDepth 100000
set_option maxHeartbeats 4000000
/-! ## law -/
namespace Tb
open PySem PySem.Spec PyProof.Rows PySem.W L2
abbrev s_82 : Stmt := top 82
theorem sc_82 : FnScope ["_law_script", "_law_stream_here", "_law_size", "_law_rules", "_law_problem_here", "_law_tables_here", "_law_collection", "_law_index", "_law_possible", "_law_more", "_law_implied", "_law_told_here", "_law_turn", "_law_value", "_law_answer"] ["_law_script"] (defScope s_82) := ⟨rfl, rfl, rfl, by decide +kernel, rfl, by decide +kernel, by decide +kernel⟩
/-! what is small, by the kernel -/
theorem lay_all : [2, 3, 4].all (fun n => (plans n).all fun Pn => noDict (plD Pn) && PyData.canLay0 (plD Pn) && decide (PyData.depth (plD Pn) ≤ 20)) = true := by decide +kernel
theorem plan_lay {n : Nat} (hn : Few n) {Pn : Pl} (h : Pn ∈ plans n) : noDict (plD Pn) = true ∧ PyData.canLay0 (plD Pn) = true ∧ PyData.depth (plD Pn) ≤ 20 := by
  have h1 := List.all_eq_true.mp (List.all_eq_true.mp lay_all n (by rcases hn with rfl | rfl | rfl <;> decide)) Pn h
  rw [Bool.and_eq_true, Bool.and_eq_true] at h1
  exact ⟨h1.1.1, h1.1.2, of_decide_eq_true h1.2⟩
theorem lay_list {ds : List PyData} (h : ∀ d, d ∈ ds → noDict d = true ∧ PyData.canLay0 d = true ∧ PyData.depth d ≤ 20) : noDict (.list ds) = true ∧ SeqAt.shaped (.list ds) = true := by
  have k1 : noDictL ds = true := by
    induction ds with
    | nil => rfl
    | cons d ds ih =>
      show (noDict d && noDictL ds) = true
      rw [(h d List.mem_cons_self).1, ih fun x hx => h x (List.mem_cons_of_mem _ hx)]
      rfl
  have k2 : PyData.canLayAll0 ds = true := by
    clear k1
    induction ds with
    | nil => rfl
    | cons d ds ih =>
      show (PyData.canLay0 d && PyData.canLayAll0 ds) = true
      rw [(h d List.mem_cons_self).2.1, ih fun x hx => h x (List.mem_cons_of_mem _ hx)]
      rfl
  have k3 : PyData.depthAll ds ≤ 20 := by
    clear k1 k2
    induction ds with
    | nil => exact Nat.zero_le _
    | cons d ds ih =>
      show max (PyData.depth d) (PyData.depthAll ds) ≤ 20
      have a := (h d List.mem_cons_self).2.2
      have b := ih fun x hx => h x (List.mem_cons_of_mem _ hx)
      omega
  refine ⟨k1, ?_⟩
  show (PyData.canLayAll0 ds && decide (PyData.depthAll ds + 1 ≤ 64)) = true
  rw [k2, decide_eq_true (by omega)]
  rfl
theorem sets_all : [2, 3, 4].all (fun n => (subs (rg n)).all fun c => isSet n (setD c) && decide (setOf (setD c) = c)) = true := by decide +kernel
theorem set_of_sub {n : Nat} (hn : Few n) {c : List Int} (h : c ∈ subs (rg n)) : isSet n (setD c) = true ∧ setOf (setD c) = c := by
  have h1 := List.all_eq_true.mp (List.all_eq_true.mp sets_all n (by rcases hn with rfl | rfl | rfl <;> decide)) c h
  rw [Bool.and_eq_true] at h1
  exact ⟨h1.1, of_decide_eq_true h1.2⟩
open Classical in
theorem stB_of {n : Nat} {rs : List Rule} {c : PyData} (h : stB n rs c = true) : Stuck ⟨n, rs⟩ (setOf c) ∧ setOf c ∈ subs (rg n) := by
  unfold stB at h
  rw [Bool.and_eq_true] at h
  obtain ⟨_, g2, g3⟩ := isSet_of h.1
  refine ⟨?_, set_subs g2 g3⟩
  have h2 := h.2
  unfold stuckB at h2
  exact of_decide_eq_true h2
theorem acc_stuck {n : Nat} : ∀ {l : List (List Rule)} {v : PyData}, accB n l v = true → ∃ z, StuckL n l z := by
  have key : ∀ {l : List (List Rule)} {vs : List PyData}, vs.length = l.length → ((l.zip vs).all fun z => stB n z.1 z.2) = true → ∃ z, StuckL n l z := fun {l} => by
    induction l with
    | nil => exact fun _ _ => ⟨[], .nil⟩
    | cons rs l ih =>
      intro vs hl h
      cases vs with
      | nil => cases hl
      | cons v vs =>
        rw [List.zip_cons_cons, List.all_cons, Bool.and_eq_true] at h
        obtain ⟨z, hz⟩ := ih (Nat.succ.inj hl) h.2
        obtain ⟨s1, s2⟩ := stB_of h.1
        exact ⟨_, .cons s1 s2 hz⟩
  intro l v h
  cases v with
  | tuple vs =>
    have h : (decide (vs.length = l.length) && (l.zip vs).all fun z => stB n z.1 z.2) = true := h
    rw [Bool.and_eq_true] at h
    exact key (of_decide_eq_true h.1) h.2
  | none => cases h
  | bool b => cases h
  | int b => cases h
  | str b => cases h
  | list b => cases h
  | dict b => cases h
open Classical in
theorem stuck_acc {n : Nat} (hn : Few n) {l : List (List Rule)} {z : List (List Int)} (h : StuckL n l z) : accB n l (.tuple (z.map setD)) = true := by
  have key : (z.map setD).length = l.length ∧ ((l.zip (z.map setD)).all fun z => stB n z.1 z.2) = true := by
    induction h with
    | nil => exact ⟨rfl, rfl⟩
    | cons s1 s2 _ ih =>
      refine ⟨congrArg Nat.succ ih.1, ?_⟩
      rw [List.map_cons, List.zip_cons_cons, List.all_cons, ih.2, Bool.and_true]
      obtain ⟨g1, g2⟩ := set_of_sub hn s2
      unfold stB
      rw [g1, g2, Bool.true_and]
      unfold stuckB
      exact decide_eq_true s1
  show (decide ((z.map setD).length = l.length) && _) = true
  rw [decide_eq_true key.1, key.2]
  rfl
theorem stuck_len {n : Nat} {l : List (List Rule)} {z : List (List Int)} (h : StuckL n l z) : z.length = l.length ∧ ∀ c, c ∈ z → c ∈ subs (rg n) := by
  induction h with
  | nil => exact ⟨rfl, fun c h => by cases h⟩
  | cons s1 s2 _ ih =>
    refine ⟨congrArg Nat.succ ih.1, fun c hc => ?_⟩
    rcases List.mem_cons.mp hc with e | hc
    · rw [e]
      exact s2
    · exact ih.2 c hc
theorem subs_len {n : Nat} (hn : Few n) {c : List Int} (h : c ∈ subs (rg n)) : c.length ≤ 4 := by
  obtain ⟨g1, g2⟩ := set_of_sub hn h
  obtain ⟨_, h2, h3⟩ := isSet_of g1
  rw [g2] at h2 h3
  exact Nat.le_trans (set_len h2 h3) (few_le hn).2
theorem posB_kept {p : Prob} (hn : Few p.n) (hp : ProbOk p) : posB p = !(keptL p.n p.rs).isEmpty := by
  have h := taken_iff hn (p := p) fun q hq => (hp.rs q hq).tk
  unfold posB
  cases ht : taken p p.n (rg p.n) with
  | inl c =>
    have : ¬ ∃ P, P ∈ plans p.n ∧ keeps P p.rs = true := fun z => by
      obtain ⟨t, e⟩ := h.mpr z
      rw [ht] at e
      cases e
    have e : keptL p.n p.rs = [] := by
      unfold keptL
      rw [List.filter_eq_nil_iff]
      exact fun P hP hk => this ⟨P, hP, hk⟩
    rw [e]
    rfl
  | inr t =>
    obtain ⟨P, hP, hk⟩ := h.mp ⟨t, ht⟩
    have : P ∈ keptL p.n p.rs := List.mem_filter.mpr ⟨hP, hk⟩
    cases e : keptL p.n p.rs with
    | nil => rw [e] at this; cases this
    | cons a r => rfl
/-- what is told -/
noncomputable def toldD (p : Prob) (i : Nat) (q : Rule) : PyData := if posB p then grD (grounds p.n (agst p.rs i q)) else .tuple ((List.replicate (agst p.rs i q).length ([0, 1] : List Int)).map setD)
section
variable {P : Program} {w : World} {K : PySem.W.Frag} {mg : Str → Option Value} {base : Heap} {k : Nat} {f aR aO : Addr}
abbrev fToldL := FSpec (α := Prob × Nat × Rule) (fun z => ProbOk z.1 ∧ z.1.rs[z.2.1]? = some z.2.2) (fun z => [pbD z.1, .tuple (rgD z.1.rs.length), .int z.2.1]) (fun z => toldD z.1 z.2.1 z.2.2)
def spLaw (K : PySem.W.Frag) : Sp := fun vs H Q _ => ∃ (a0 : Addr) (xs : List Int), vs = [.ref a0] ∧ SqL K H a0 (xs.map V.int) ∧ ∀ H2, Q (.bl true) H2
theorem S.adopt {M0 W : MS} {H0 H H2 : Hp} {O : Ow} {G : Gm} {E : List (V × PyData)} {σ : L2.St} {p : Addr} {o : HO} (C : S K M0 W H0 O G E σ H) (hp : H p = none) (s : Same H H2) (e : H2 p = some o) : S K M0 W H0 ((p, .raw o) :: O) G E σ H2 := by
  have hm : ∀ b, MM M0 ((p, OD.raw o) :: O) b → MM M0 O b ∨ H b = none := fun b h => by
    rcases h with h | h
    · exact .inl (.inl h)
    · rcases List.mem_cons.mp h with h | h
      · exact .inr (by rw [show b = p from h]; exact hp)
      · exact .inl (.inr h)
  have mo : MOk (MM M0 ((p, OD.raw o) :: O)) H2 := fun b h z => by
    by_cases hb : b = p
    · rw [hb, e] at z
      cases z
    · have : MM M0 O b := by
        rcases h with h | h
        · exact .inl h
        · exact .inr ((List.mem_cons.mp h).resolve_left hb)
      exact (C.en.mok.same s) b this z
  obtain ⟨np, no⟩ := C.np hp
  refine ⟨C.en.mono (fun b o _ h => s b o h) hm mo, C.mo, fun b o w e => s b o (C.sm b o w e), fun q hq => ?_, List.nodup_cons.mpr ⟨no, C.nd⟩, fun b w => List.mem_cons_of_mem _ (C.wo b w), fun q hq => (C.ex q hq).mono (fun b o _ h => s b o h) hm⟩
  rcases List.mem_cons.mp hq with h | hq
  · subst h
    exact ⟨.inr np, e⟩
  · exact ⟨(C.ow q hq).1, (C.ow q hq).2.mono (fun b o _ h => s b o h) hm fun o h => s _ o h⟩
theorem rv_neB {i j : Bool} : RV K rNe (.bool i) (.bool j) (.bool (!decide (i = j))) := rv_neF rfl rfl rfl (congrArg _ dec_vbl)
def pairG (G : Gm) (i j : Nat) : PyData → Gm
  | .tuple [x, y] => (G.set i (some (.d x))).set j (some (.d y))
  | _ => G
abbrev PrR (n : Nat) : PyData → Prop := fun d => ∃ p : Prob, d = pbD p ∧ p.n = n ∧ ProbOk p ∧ 1 ≤ p.rs.length ∧ p.rs.length ≤ 6
theorem mkG {name : Str} {st : Stmt} {N ps : List Str} {sp : Sp} {fd : FuncData} (F : FunD K name name (defArgs st) (defBody st) (defScope st) [] [] f fd) (sc : FnScope N ps (defScope st))
    (_ : ∀ (kV doc pm : Value) (an : Option Addr) (cdv ct : Value) (us : List Value), us.length = ps.length → bindArgs (PySem.W.fnOf name name (defArgs st) (defBody st) (defScope st) .none kV doc pm an cdv ct) ⟨us, []⟩ = pure (ps.zip us))
    (len : ∀ vs H Q E, sp vs H Q E → vs.length = ps.length)
    (hbody : ∀ (cdv : Value) (A : Around) (outer : List Env) (s : Shared) (H : Hp) (vs : List V) (Q : VK) (E : XK), Room k (A.deeper (envOfC name (defScope st) s.heap.objs.size f cdv)) → sp vs H Q E →
      ∃ t, PSs (cxOf CX0 P w K mg base N name (defScope st) f cdv A outer s H E).nox (defBody st) t ∧ t { nx := fun _ H' => Q .non H', rt := Q } (L2.start N vs) H) : FnOk P w K mg base CX0 (k + 1) f fd ps sp :=
  F.ok sc len fun cdv A outer s H vs Q E hr h => by
    obtain ⟨t, h1, h2⟩ := hbody cdv A outer s H vs Q E hr h
    exact ⟨t, h1.nox, h2⟩
theorem c_law {fd : FuncData} (F : FunD K "law" "law" (defArgs s_82) (defBody s_82) (defScope s_82) [] [] f fd) (B : Bi mg) (c__law_stream : Callee P w K mg base "_law_stream" k ["_law_script"] (spStream K)) (c__law_small : Callee P w K mg base "_law_small" k ["_law_stream_here"] (SpS K (fun _ : Unit => True) (fun _ => []) postB)) (c__law_rule : Callee P w K mg base "_law_rule" k ["_law_stream_here", "_law_size", "_law_plan"] (SpS K preR encR postR))
    (c__law_next : Callee P w K mg base "_law_next" k ["_law_stream_here", "_law_many"] (SpS K preN encN postN)) (c__law_some_plan : Callee P w K mg base "_law_some_plan" k ["_law_stream_here", "_law_size"] (SpS K Few (fun n => [.int n]) postP)) (c__law_tables : Callee P w K mg base "_law_tables" k ["_law_size"] (PSp K fTables)) (c__law_kept : Callee P w K mg base "_law_kept" k ["_law_tables_here", "_law_rules"] (PSp K fKept))
    (c__law_by : Callee P w K mg base "_law_by" k ["_law_problem_here", "_law_collection"] (PSp K fProbBy)) (c__law_less : Callee P w K mg base "_law_less" k ["_law_collection", "_law_index"] (PSp K fLess)) (c__law_told : Callee P w K mg base "_law_told" k ["_law_problem_here", "_law_collection", "_law_index"] (PSp K fToldL)) (c__law_are_grounds : Callee P w K mg base "_law_are_grounds" k ["_law_problem_here", "_law_collection", "_law_index", "_law_value"] (PSp K fAccepts))
    (c_accepts_grounds : Callee P w K mg base "accepts_grounds" k ["problem", "collection", "index", "value"] (PSp K fAccepts)) (c__law_against : Callee P w K mg base "_law_against" k ["_law_problem_here", "_law_collection", "_law_index"] (PSp K fAgainst)) (c__law_turned_sets : Callee P w K mg base "_law_turned_sets" k ["_law_stream_here", "_law_size", "_law_sets"] (SpS K preTs encTs postTs)) (c__law_equal : Callee P w K mg base "_law_equal" k ["_law_actual", "_law_due"] (PSp K fEqual)) :
    FnOk P w K mg base CX0 (k + 1) f fd ["_law_script"] (spLaw K) := by
  refine mkG F sc_82 (fun _ _ _ _ _ _ us hl => match us, hl with | [_], _ => rfl) (fun vs H Q E h => ?_) fun cdv A outer s H vs Q E hr h => ?_
  · obtain ⟨a0, xs, rfl, _⟩ := h
    rfl
  obtain ⟨a0, xs, rfl, hs, q⟩ := h
  refine ⟨_, (pss_cons (ps_set (i := 1) sc_82.nd rfl (.inl rfl) (pe_cc c__law_stream hr (by rfl) (pa_cons (pv 0) pa_nil)))
      (pss_cons (ps_asg (pe_cc c__law_small hr (by rfl) (pa_cons (pv 1) pa_nil)) (kgT 2 K rfl (by rfl) (pgs_cons (pg_name (i := 2) sc_82.nd rfl (.inl rfl)) (pgs_cons (pg_name (i := 3) sc_82.nd rfl (.inl rfl)) pgs_nil))))
      (pss_cons (ps_set (i := 4) sc_82.nd rfl (.inl rfl) (pe_tup (pa_cons (pv 2) (pa_cons (pe_op (kCatA K rfl) (pv 3) (pe_tup (pa_cons (pe_cc c__law_rule hr (by rfl) (pa_cons (pv 1) (pa_cons (pv 2) (pa_cons pe_non pa_nil)))) pa_nil))) pa_nil))))
      (pss_cons (ps_if (pt_cmpR op_eq (pe_cc c__law_next hr (by rfl) (pa_cons (pv 1) (pa_cons pe_int pa_nil))) pe_int (by rfl)) (pss_one (ps_set (i := 4) sc_82.nd rfl (.inl rfl) (pe_tup (pa_cons (pv 2) (pa_cons (pe_op (kCatA K rfl) (pv 3) (pe_tup (pa_cons (pe_cc c__law_rule hr (by rfl) (pa_cons (pv 1) (pa_cons (pv 2) (pa_cons (pe_cc c__law_some_plan hr (by rfl) (pa_cons (pv 1) (pa_cons (pv 2) pa_nil))) pa_nil)))) pa_nil))) pa_nil))))) pss_nil)
      (pss_cons (ps_set (i := 5) sc_82.nd rfl (.inl rfl) (pe_cc c__law_tables hr (by rfl) (pa_cons (pv 2) pa_nil)))
      (pss_cons (ps_set (i := 6) sc_82.nd rfl (.inl rfl) (pe_tupRg (by rfl) (by rfl) B.tuple_ (prg_1 (by rfl) B.range_ (pe_callB (kLen K rfl) (by rfl) B.len_ (by decide +kernel) (pa_cons (pe_ix (kIx K rfl) (pv 4) pe_int (fun _ _ => rfl)) pa_nil)))))
      (pss_cons (ps_set (i := 7) sc_82.nd rfl (.inl rfl) (pe_ix (kIx K rfl) (pv 6) (pe_cc c__law_next hr (by rfl) (pa_cons (pv 1) (pa_cons (pe_callB (kLen K rfl) (by rfl) B.len_ (by decide +kernel) (pa_cons (pv 6) pa_nil)) pa_nil))) (fun _ _ => rfl)))
      (pss_cons (ps_set (i := 8) sc_82.nd rfl (.inl rfl) (pe_cmpR (kNeD K rfl hr.units) (pe_cc c__law_kept hr (by rfl) (pa_cons (pv 5) (pa_cons (pe_ix (kIx K rfl) (pv 4) pe_int (fun _ _ => rfl)) pa_nil))) (pe_lst pa_nil) (by rfl)))
      (pss_cons (ps_set (i := 9) sc_82.nd rfl (.inl rfl) (pe_cc c__law_kept hr (by rfl) (pa_cons (pv 5) (pa_cons (pe_ix (kIx K rfl) (pe_cc c__law_by hr (by rfl) (pa_cons (pv 4) (pa_cons (pe_cc c__law_less hr (by rfl) (pa_cons (pv 6) (pa_cons (pv 7) pa_nil))) pa_nil))) pe_int (fun _ _ => rfl)) pa_nil))))
      (pss_cons (ps_set (i := 10) sc_82.nd rfl (.inl rfl) (pe_cmpR op_eq (pe_callB (kLen K rfl) (by rfl) B.len_ (by decide +kernel) (pa_cons (pv 9) pa_nil)) (pe_callB (kLen K rfl) (by rfl) B.len_ (by decide +kernel) (pa_cons (pe_cc c__law_kept hr (by rfl) (pa_cons (pv 5) (pa_cons (pe_ix (kIx K rfl) (pv 4) pe_int (fun _ _ => rfl)) pa_nil))) pa_nil)) (by rfl)))
      (pss_cons (ps_set (i := 11) sc_82.nd rfl (.inl rfl) (pe_cc c__law_told hr (by rfl) (pa_cons (pv 4) (pa_cons (pv 6) (pa_cons (pv 7) pa_nil)))))
      (pss_cons (ps_if (PW.pt (pw_and (pt_val (pv 8)) (pw_and1 (pt_cmpR op_ne (pe_cmpR op_notN (pv 11) pe_non (by rfl)) (pv 10) (by rfl))))) (pss_one (ps_ret pe_bl)) pss_nil)
      (pss_cons (ps_if (PW.pt (pw_and (pt_val (pv 8)) (pw_and1 (pt_cmpR op_notN (pv 11) pe_non (by rfl))))) (pss_one (ps_if (PW.pt (pw_or (pt_not (pt_val (pe_cc c__law_are_grounds hr (by rfl) (pa_cons (pv 4) (pa_cons (pv 6) (pa_cons (pv 7) (pa_cons (pv 11) pa_nil))))))) (pw_or1 (pt_cmpR op_notBl (pe_cc c_accepts_grounds hr (by rfl) (pa_cons (pv 4) (pa_cons (pv 6) (pa_cons (pv 7) (pa_cons (pv 11) pa_nil))))) pe_bl (by rfl))))) (pss_one (ps_ret pe_bl)) pss_nil)) pss_nil)
      (pss_cons (ps_if (pt_cmpR op_isN (pv 11) pe_non (by rfl)) (pss_one (ps_set (i := 11) sc_82.nd rfl (.inl rfl) (pe_op (kMulT K rfl) (pe_tup (pa_cons (pe_tupRg (by rfl) (by rfl) B.tuple_ (prg_1 (by rfl) B.range_ (pv 2))) pa_nil)) (pe_callB (kLen K rfl) (by rfl) B.len_ (by decide +kernel) (pa_cons (pe_cc c__law_against hr (by rfl) (pa_cons (pv 4) (pa_cons (pv 6) (pa_cons (pv 7) pa_nil)))) pa_nil))))) pss_nil)
      (pss_cons (ps_for PassesOwn.never (by rfl) (pi_range1 (by rfl) B.range_ (pa_cons pe_int pa_nil)) (pg_name (i := 12) sc_82.nd rfl (.inl rfl)) (pss_cons (ps_set (i := 13) sc_82.nd rfl (.inl rfl) (pe_cc c__law_turned_sets hr (by rfl) (pa_cons (pv 1) (pa_cons (pv 2) (pa_cons (pv 11) pa_nil)))))
      (pss_cons (ps_set (i := 14) sc_82.nd rfl (.inl rfl) (pe_cc c_accepts_grounds hr (by rfl) (pa_cons (pv 4) (pa_cons (pv 6) (pa_cons (pv 7) (pa_cons (pv 13) pa_nil))))))
      (pss_one (ps_if (PW.pt (pw_or (pt_not (pt_val (pe_cc c__law_equal hr (by rfl) (pa_cons (pv 14) (pa_cons (pe_cc c__law_are_grounds hr (by rfl) (pa_cons (pv 4) (pa_cons (pv 6) (pa_cons (pv 7) (pa_cons (pv 13) pa_nil))))) pa_nil))))) (pw_or1 (PW.pt (pw_and (pt_val (pv 14)) (pw_and1 (pt_not (pt_val (pv 10))))))))) (pss_one (ps_ret pe_bl)) pss_nil)))))
      (pss_one (ps_ret pe_bl))))))))))))))))), ?_⟩
  have m0 : MOk (fun _ => False) H := fun a h => h.elim
  have e0 : En K (fun _ => False) H (L2.start ["_law_script", "_law_stream_here", "_law_size", "_law_rules", "_law_problem_here", "_law_tables_here", "_law_collection", "_law_index", "_law_possible", "_law_more", "_law_implied", "_law_told_here", "_law_turn", "_law_value", "_law_answer"] [.ref a0]) (some (.r (.ref a0)) :: List.replicate 14 none) := by
    have e2 : L2.start ["_law_script", "_law_stream_here", "_law_size", "_law_rules", "_law_problem_here", "_law_tables_here", "_law_collection", "_law_index", "_law_possible", "_law_more", "_law_implied", "_law_told_here", "_law_turn", "_law_value", "_law_answer"] [.ref a0] = some (.ref a0) :: L2.start ((["_law_script", "_law_stream_here", "_law_size", "_law_rules", "_law_problem_here", "_law_tables_here", "_law_collection", "_law_index", "_law_possible", "_law_more", "_law_implied", "_law_told_here", "_law_turn", "_law_value", "_law_answer"] : List Str).tail) [] := by
      unfold L2.start
      rfl
    rw [e2]
    exact En.cons (start_en (N := (["_law_script", "_law_stream_here", "_law_size", "_law_rules", "_law_problem_here", "_law_tables_here", "_law_collection", "_law_index", "_law_possible", "_law_more", "_law_implied", "_law_told_here", "_law_turn", "_law_value", "_law_answer"] : List Str).tail) (ds := []) m0 .nil) rfl
  have C := S.start m0 e0
  -- the stream
  refine s_seq ?_
  refine ⟨.ref a0, C.raw rfl, ?_⟩
  refine ⟨a0, xs, rfl, hs, fun p l H1 s1 hp hl0 hlp e1 e2 => ?_⟩
  have C1 := ((C.adopt hp s1 e1).set (s := .r (.ref p)) rfl 1)
  have hlM : ¬ MM (fun _ => False) [(p, OD.raw (cl l 0 0))] l := fun z => z.elim (fun h => h) fun h => hlp (List.mem_singleton.mp h)
  have C2 : S K (fun _ => False) (fun _ => False) H [(p, .raw (cl l 0 0))] _ [(.ref l, .list (xs.map .int))] _ H1 := C1.exs fun q hq => by
    rw [List.mem_singleton.mp hq]
    exact .lst hlM e2 (repL_ints xs)
  have hl : (V.ref l, PyData.list (xs.map .int)) ∈ [(V.ref l, PyData.list (xs.map .int))] := List.mem_cons_self
  -- the problem
  refine s_asgI (is := [2] ++ ([3] ++ [])) (R := postB ()) (G2 := pairG ((some (.r (.ref a0)) :: List.replicate 14 none).set 1 (some (.r (.ref p)))) 2 3) hl C2 (im_callS (j := 1) rfl ima_nil fun ds hds => ⟨(), trivial, hds, fun d h => h⟩) (fun d hd => ?_) fun d c3 k3 σ3 H3 hd C3 => ?_
  · obtain ⟨p0, rfl, _⟩ := hd
    exact g_tup (gs_cons g_name (gs_cons g_name gs_nil)) rfl
  obtain ⟨p0, rfl, hn, po0, hl5⟩ := hd
  have hl20 : p0.rs.length ≤ 5 := hl5
  have mkP : ∀ (O : Ow) (G : Gm) (te : TE), G[2]? = some (some (.d (.int p0.n))) → G[3]? = some (some (.d (.tuple (p0.rs.map rlD)))) → Im K (fun _ => False) (fun _ => False) H p l xs O G te (postR (p0.n, PyData.none)) →
      Im K (fun _ => False) (fun _ => False) H p l xs O G (tTup (tCons (tVar 2) (tCons (tOp (rCatA K) (tVar 3) (tTup (tCons te tNil))) tNil))) (PrR p0.n) := fun O G te h2 h3 im => by
    refine im_tup (S1 := fun ds => ∃ q : Rule, RuleOk p0.n q ∧ ds = [.int p0.n, .tuple ((p0.rs ++ [q]).map rlD)]) (ima_cons (R := fun d => d = .int p0.n) (im_ev (ev_var h2) rfl) (ima_cons (R := fun d => ∃ q : Rule, RuleOk p0.n q ∧ d = .tuple ((p0.rs ++ [q]).map rlD)) (im_op (R1 := fun d => d = .tuple (p0.rs.map rlD)) (im_ev (ev_var h3) rfl) (im_tup (R := fun d => ∃ q : Rule, RuleOk p0.n q ∧ d = .tuple [rlD q]) (ima_cons im ima_nil (S2 := fun ds => ∃ q : Rule, RuleOk p0.n q ∧ ds = [rlD q]) fun d ds h1 h2 => ?_) fun ds hds => ?_) fun u v hu hv => ?_) ima_nil (S2 := fun ds => ∃ q : Rule, RuleOk p0.n q ∧ ds = [.tuple ((p0.rs ++ [q]).map rlD)]) fun d ds h1 h2 => ?_) fun d ds h1 h2 => ?_) fun ds hds => ?_
    · obtain ⟨q, rfl, hq⟩ := h1
      rw [h2]
      exact ⟨q, hq, rfl⟩
    · obtain ⟨q, hq, rfl⟩ := hds
      exact ⟨by show 1 ≤ 1000; decide, q, hq, rfl⟩
    · obtain ⟨q, hq, rfl⟩ := hv
      subst hu
      refine ⟨_, ⟨q, hq, rfl⟩, ?_⟩
      rw [List.map_append]
      exact rv_catA (by rw [List.length_map]; show p0.rs.length + 1 ≤ 100000; omega)
    · obtain ⟨q, hq, rfl⟩ := h1
      rw [h2]
      exact ⟨q, hq, rfl⟩
    · obtain ⟨q, hq, rfl⟩ := h2
      rw [h1]
      exact ⟨q, hq, rfl⟩
    · obtain ⟨q, hq, rfl⟩ := hds
      refine ⟨by show 2 ≤ 1000; decide, ⟨p0.n, p0.rs ++ [q]⟩, rfl, rfl, ⟨po0.lo, po0.hi, ?_, fun z hz => ?_⟩, ?_, ?_⟩
      · show (p0.rs ++ [q]).length ≤ 20
        rw [List.length_append, List.length_singleton]
        omega
      · rcases List.mem_append.mp hz with h | h
        · exact po0.rs z h
        · rw [List.mem_singleton.mp h]
          exact hq
      · show 1 ≤ (p0.rs ++ [q]).length
        rw [List.length_append, List.length_singleton]
        omega
      · show (p0.rs ++ [q]).length ≤ 6
        rw [List.length_append, List.length_singleton]
        omega
  refine s_setI (R := PrR p0.n) hl C3 (mkP _ _ _ rfl rfl (im_callS (j := 1) rfl (ima_ev (ds := [.int p0.n, .none]) (S1 := fun ds => ds = [.int p0.n, .none]) (ea_cons (ev_var (i := 2) rfl) (ea_cons ev_non ea_nil)) rfl) fun ds hds => ⟨(p0.n, PyData.none), ⟨hn, .inl rfl⟩, hds, fun d h => h⟩)) fun d c4 k4 σ4 H4 hd4 C4 => ?_
  refine s_join (I := fun σ' H' => ∃ (pr : Prob) (c5 : Int) (k5 : Nat), pr.n = p0.n ∧ ProbOk pr ∧ 1 ≤ pr.rs.length ∧ pr.rs.length ≤ 6 ∧ S K (fun _ => False) (fun _ => False) H [(p, .raw (cl l c5 k5))] [some (.r (.ref a0)), some (.r (.ref p)), some (.d (.int p0.n)), some (.d (.tuple (p0.rs.map rlD))), some (.d (pbD pr)), none, none, none, none, none, none, none, none, none, none] [(.ref l, .list (xs.map .int))] σ' H') ?_ fun X hX => ?_
  · rintro σ5 H5 ⟨pr, c5, k5, en, po, hr1, hr6, C5⟩
    obtain ⟨n, rs⟩ := pr
    have en : n = p0.n := en
    subst en
    have hr1 : 1 ≤ rs.length := hr1
    have hr6 : rs.length ≤ 6 := hr6
    obtain ⟨n2, n4⟩ := few_le hn
    have rl := rg_len p0.n
    have ro : ∀ q, q ∈ rs → RuleOk p0.n q := po.rs
    refine s_setq C5 (Ev.at (ev_callF p0.n hn (ea_cons (ev_var (i := 2) rfl) ea_nil)) C5.en) fun σ6 H6 C6 => ?_
    refine s_setq (d := .tuple (rgD rs.length)) C6 (Ev.at (ev_tupRg (n := rs.length) (ev_is (ev_lenT (ev_op (x := pbD ⟨p0.n, rs⟩) (ev_var (i := 4) rfl) ev_int (rv_ixT atI_1))) (by rw [List.length_map])) (by omega)) C6.en) fun σ7 H7 C7 => ?_
    refine s_setI (R := fun d => ∃ i : Nat, d = .int (i : Nat) ∧ i < rs.length) hl C7 (im_op (R1 := fun d => d = .tuple (rgD rs.length)) (im_ev (ev_var (i := 6) rfl) rfl) (im_next (j := 1) (m := (rs.length : Nat)) (R := fun d => ∃ i : Nat, d = .int (i : Nat) ∧ i < rs.length) rfl (ev_is (ev_lenT (ds := rgD rs.length) (ev_var (i := 6) rfl)) (by rw [rgD_len])) (by omega) (by omega) fun i i0 i1 => ⟨i.toNat, by rw [Int.toNat_of_nonneg i0], by omega⟩) fun u v hu hv => ?_) fun d c8 k8 σ8 H8 hd8 C8 => ?_
    · obtain ⟨i, rfl, hi⟩ := hv
      subst hu
      exact ⟨_, ⟨i, rfl, hi⟩, rv_ixT (rgD_get2 hi)⟩
    obtain ⟨i, rfl, hi⟩ := hd8
    have hq : rs[i]? = some rs[i] := List.getElem?_eq_getElem hi
    have rok : RuleOk p0.n rs[i] := ro _ (List.getElem_mem hi)
    generalize hqq : rs[i] = rq at hq rok
    have hpos : posB ⟨p0.n, rs⟩ = !(keptL p0.n rs).isEmpty := posB_kept (p := ⟨p0.n, rs⟩) hn po
    have rin : ∀ q, q ∈ rs → RuleIn p0.n q := fun q hq => (ro q hq).tk
    have L3 : (agst rs i rq).length ≤ 3 := agst_len
    -- possible
    have lay := lay_list (ds := (keptL p0.n rs).map plD) fun d hd => by
      obtain ⟨Pn, hP, rfl⟩ := List.mem_map.mp hd
      exact plan_lay hn (List.mem_filter.mp hP).1
    refine s_setq (d := .bool (posB ⟨p0.n, rs⟩)) C8 (Ev.at (ev_op (ev_callF (p0.n, rs) ⟨hn, ro, by show rs.length ≤ 20; omega⟩ (ea_cons (ev_var (i := 5) rfl) (ea_cons (ev_op (x := pbD ⟨p0.n, rs⟩) (ev_var (i := 4) rfl) ev_int (rv_ixT atI_1)) ea_nil))) (ev_lst ea_nil (show 0 ≤ 1000 by decide)) (rv_neD lay.1 rfl lay.2 rfl (by rw [hpos]; show (!PyData.eqv (.list ((keptL p0.n rs).map plD)) (.list [])) = _; cases keptL p0.n rs <;> rfl))) C8.en) fun σ9 H9 C9 => ?_
    refine s_setq (d := .list ((keptL p0.n (rs.eraseIdx i)).map plD)) C9 (Ev.at (ev_callF (p0.n, rs.eraseIdx i) ⟨hn, fun q hq => ro q (List.mem_of_mem_eraseIdx hq), by show (rs.eraseIdx i).length ≤ 20; rw [List.length_eraseIdx, if_pos hi]; omega⟩ (ea_cons (ev_var (i := 5) rfl) (ea_cons (ev_op (x := pbD ⟨p0.n, rs.eraseIdx i⟩) (ev_is (ev_callF ((⟨p0.n, rs⟩ : Prob), lessI rs.length i) ⟨fun j hj => List.mem_range.mp (List.mem_filter.mp hj).1, Nat.le_trans (List.length_filter_le _ _) (by rw [List.length_range]; omega)⟩ (ea_cons (ev_var (i := 4) rfl) (ea_cons (ev_callF (rs.length, i) (by show rs.length ≤ 1000; omega) (ea_cons (ev_var (i := 6) rfl) (ea_cons (ev_var (i := 7) rfl) ea_nil))) ea_nil))) (by show pbD ⟨p0.n, pick rs (lessI rs.length i)⟩ = _; rw [pick_less hi])) ev_int (rv_ixT atI_1)) ea_nil))) C9.en) fun σ10 H10 C10 => ?_
    refine s_setq (d := .bool (implied p0.n rs i)) C10 (Ev.at (ev_is (ev_op (ev_is (ev_cb (ea_cons (ev_var (i := 9) rfl) ea_nil) rc_lenL) (by rw [List.length_map])) (ev_is (ev_cb (ea_cons (ev_callF (p0.n, rs) ⟨hn, ro, by show rs.length ≤ 20; omega⟩ (ea_cons (ev_var (i := 5) rfl) (ea_cons (ev_op (x := pbD ⟨p0.n, rs⟩) (ev_var (i := 4) rfl) ev_int (rv_ixT atI_1)) ea_nil))) ea_nil) rc_lenL) (by rw [List.length_map])) rv_eqI) (by unfold implied; congr 1; rw [Bool.eq_iff_iff, decide_eq_true_iff, decide_eq_true_iff]; exact Int.ofNat_inj)) C10.en) fun σ11 H11 C11 => ?_
    refine s_setq C11 (Ev.at (ev_callF ((⟨p0.n, rs⟩ : Prob), i, rq) ⟨po, hq⟩ (ea_cons (ev_var (i := 4) rfl) (ea_cons (ev_var (i := 6) rfl) (ea_cons (ev_var (i := 7) rfl) ea_nil)))) C11.en) fun σ12 H12 C12 => ?_
    -- what is told
    have glaw := grounds_law hn hq rin
    have told : (∃ zs : List (List Int), toldD ⟨p0.n, rs⟩ i rq = .tuple (zs.map setD) ∧ zs.length ≤ 3 ∧ ∀ s, s ∈ zs → s.length ≤ 7) ∨ toldD ⟨p0.n, rs⟩ i rq = .none := by
      unfold toldD
      by_cases hp : posB ⟨p0.n, rs⟩ = true
      · rw [if_pos hp]
        show (∃ zs : List (List Int), grD (grounds p0.n (agst rs i rq)) = .tuple (zs.map setD) ∧ _) ∨ grD (grounds p0.n (agst rs i rq)) = .none
        cases hg : grounds p0.n (agst rs i rq) with
        | none => exact .inr rfl
        | some z =>
          obtain ⟨h1, h2⟩ := stuck_len (grounds_some hn hg)
          exact .inl ⟨z, rfl, by omega, fun s hs => by have := subs_len hn (h2 s hs); omega⟩
      · rw [if_neg hp]
        refine .inl ⟨_, rfl, by rw [List.length_replicate]; exact L3, fun s hs => ?_⟩
        rw [(List.mem_replicate.mp hs).2]
        decide
    have f1 : (posB ⟨p0.n, rs⟩ && !decide ((!isNon (toldD ⟨p0.n, rs⟩ i rq)) = implied p0.n rs i)) = false := by
      by_cases hp : posB ⟨p0.n, rs⟩ = true
      · rw [hp, Bool.true_and]
        have e : toldD ⟨p0.n, rs⟩ i rq = grD (grounds p0.n (agst rs i rq)) := if_pos hp
        rw [e, ← glaw, Bool.not_eq_false', decide_eq_true_iff]
        cases grounds p0.n (agst rs i rq) <;> rfl
      · rw [Bool.not_eq_true] at hp
        rw [hp]
        rfl
    have f2 : ∀ v : PyData, accB p0.n (agst rs i rq) v = true → implied p0.n rs i = true := fun v hv => by
      obtain ⟨z, hz⟩ := acc_stuck hv
      exact stuckL_implied hn hq rok.tk hz
    have okS : ∀ zs : List (List Int), (∀ s, s ∈ zs → s.length ≤ 7) → okV (.tuple (zs.map setD)) := fun zs h c hc => by
      obtain ⟨s, hs, rfl⟩ := List.mem_map.mp hc
      show (s.map PyData.int).length ≤ 1000
      rw [List.length_map]
      have := h s hs
      omega
    refine s_if1 (b := false) C12 (EvT.at (et_is (et_and (et_B (ev_var (i := 8) rfl)) fun _ => et_test (ev_op (ev_op (ev_var (i := 11) rfl) ev_non rv_notN) (ev_var (i := 10) rfl) rv_neB)) f1) C12.en) (fun h => nomatch h) fun _ H13 C13 => ?_
    refine s_join (I := fun σ' H' => S K (fun _ => False) (fun _ => False) H [(p, .raw (cl l c8 k8))] [some (.r (.ref a0)), some (.r (.ref p)), some (.d (.int p0.n)), some (.d (.tuple (p0.rs.map rlD))), some (.d (pbD ⟨p0.n, rs⟩)), some (.d (.list ((plans p0.n).map (tbD p0.n)))), some (.d (.tuple (rgD rs.length))), some (.d (.int (i : Nat))), some (.d (.bool (posB ⟨p0.n, rs⟩))), some (.d (.list ((keptL p0.n (rs.eraseIdx i)).map plD))), some (.d (.bool (implied p0.n rs i))), some (.d (toldD ⟨p0.n, rs⟩ i rq)), none, none, none] [(.ref l, .list (xs.map .int))] σ' H') ?_ fun Y hY => ?_
    · intro σ14 H14 C14
      refine s_join (I := fun σ' H' => ∃ zs : List (List Int), zs.length ≤ 3 ∧ (∀ s, s ∈ zs → s.length ≤ 7) ∧ S K (fun _ => False) (fun _ => False) H [(p, .raw (cl l c8 k8))] [some (.r (.ref a0)), some (.r (.ref p)), some (.d (.int p0.n)), some (.d (.tuple (p0.rs.map rlD))), some (.d (pbD ⟨p0.n, rs⟩)), some (.d (.list ((plans p0.n).map (tbD p0.n)))), some (.d (.tuple (rgD rs.length))), some (.d (.int (i : Nat))), some (.d (.bool (posB ⟨p0.n, rs⟩))), some (.d (.list ((keptL p0.n (rs.eraseIdx i)).map plD))), some (.d (.bool (implied p0.n rs i))), some (.d (.tuple (zs.map setD))), none, none, none] [(.ref l, .list (xs.map .int))] σ' H') ?_ fun Z hZ => ?_
      · rintro σ15 H15 ⟨zs, z3, z7, C15⟩
        refine s_forq (is := [12]) (ds := rgD 5) C15 (EvI.at (ei_rng (n := 5) (ea_cons ev_int ea_nil) (by decide)) C15.en)
          (fun j O G => ∃ (c9 : Int) (k9 : Nat) (y12 y13 y14 : Option Sl), O = [(p, .raw (cl l c9 k9))] ∧ G = [some (.r (.ref a0)), some (.r (.ref p)), some (.d (.int p0.n)), some (.d (.tuple (p0.rs.map rlD))), some (.d (pbD ⟨p0.n, rs⟩)), some (.d (.list ((plans p0.n).map (tbD p0.n)))), some (.d (.tuple (rgD rs.length))), some (.d (.int (i : Nat))), some (.d (.bool (posB ⟨p0.n, rs⟩))), some (.d (.list ((keptL p0.n (rs.eraseIdx i)).map plD))), some (.d (.bool (implied p0.n rs i))), some (.d (.tuple (zs.map setD))), y12, y13, y14])
          ⟨c8, k8, _, _, _, rfl, rfl⟩ (fun j O' G' h => by obtain ⟨c9, k9, _, _, _, rfl, _⟩ := h; rfl) ?_ ?_
        · rintro E1 j d1 O' G' hdd ⟨c9, k9, y12, y13, y14, rfl, rfl⟩
          have hl1 : (V.ref l, PyData.list (xs.map .int)) ∈ E1 ++ [(V.ref l, PyData.list (xs.map .int))] := List.mem_append_right _ hl
          refine ⟨_, g_name, fun σ16 H16 C16 => ?_⟩
          refine s_setI (R := okV) hl1 C16 (im_callS (j := 1) rfl (ima_ev (ds := [.int p0.n, .tuple (zs.map setD)]) (S1 := fun ds => ds = [.int p0.n, .tuple (zs.map setD)]) (ea_cons (ev_var (i := 2) rfl) (ea_cons (ev_var (i := 11) rfl) ea_nil)) rfl) fun ds hds => ⟨(p0.n, zs), ⟨by show p0.n ≤ 7; omega, z3, z7⟩, hds, fun d h => h⟩) fun v c17 k17 σ17 H17 hv C17 => ?_
          refine s_setq C17 (Ev.at (ev_callF ((⟨p0.n, rs⟩ : Prob), i, rq, v) ⟨⟨po, hq⟩, hv⟩ (ea_cons (ev_var (i := 4) rfl) (ea_cons (ev_var (i := 6) rfl) (ea_cons (ev_var (i := 7) rfl) (ea_cons (ev_var (i := 13) rfl) ea_nil))))) C17.en) fun σ18 H18 C18 => ?_
          refine s_if (b := false) C18 (EvT.at (et_is (et_or (et_not (et_B (ev_callF (accB p0.n (agst rs i rq) v, accB p0.n (agst rs i rq) v) trivial (ea_cons (ev_var (i := 14) rfl) (ea_cons (ev_callF ((⟨p0.n, rs⟩ : Prob), i, rq, v) ⟨⟨po, hq⟩, hv⟩ (ea_cons (ev_var (i := 4) rfl) (ea_cons (ev_var (i := 6) rfl) (ea_cons (ev_var (i := 7) rfl) (ea_cons (ev_var (i := 13) rfl) ea_nil))))) ea_nil))))) fun _ => et_and (et_B (ev_var (i := 14) rfl)) fun _ => et_not (et_B (ev_var (i := 10) rfl))) ?_) C18.en) (fun h => nomatch h) fun _ H19 C19 => ⟨_, _, ⟨c17, k17, _, _, _, rfl, rfl⟩, C19⟩
          show (!decide (accB p0.n (agst rs i rq) v = accB p0.n (agst rs i rq) v) || (accB p0.n (agst rs i rq) v && !implied p0.n rs i)) = false
          rw [decide_eq_true rfl]
          cases ha : accB p0.n (agst rs i rq) v with
          | false => rfl
          | true => rw [f2 v ha]; rfl
        · rintro O' G' ⟨c9, k9, y12, y13, y14, rfl, rfl⟩ σ16 H16 C16
          refine s_ret C16 (fun _ h => h) (Ev.at ev_bl C16.low) fun v H17 _ _ r17 => ?_
          rw [r17.bool_inv]
          exact q H17
      · rcases told with ⟨zs, e, z3, z7⟩ | e
        · rw [e] at C14
          exact s_if (b := false) C14 (EvT.at (et_test (ev_is (ev_op (ev_var (i := 11) rfl) ev_non rv_isN) rfl)) C14.en) (fun h => nomatch h) fun _ H15 C15 => hZ _ _ ⟨zs, z3, z7, C15⟩
        · rw [e] at C14
          refine s_if (b := true) C14 (EvT.at (et_test (ev_is (ev_op (ev_var (i := 11) rfl) ev_non rv_isN) rfl)) C14.en) (fun _ H15 C15 => ?_) (fun h => nomatch h)
          refine s_set (d := .tuple ((List.replicate (agst rs i rq).length (rg p0.n)).map setD)) C15 (Ev.at (ev_is (ev_op (ev_tup (ea_cons (ev_tupRg (n := p0.n) (ev_var (i := 2) rfl) (by omega)) ea_nil) (show 1 ≤ 1000 by decide)) (ev_is (ev_cb (ea_cons (ev_callF ((⟨p0.n, rs⟩ : Prob), i, rq) ⟨po, hq⟩ (ea_cons (ev_var (i := 4) rfl) (ea_cons (ev_var (i := 6) rfl) (ea_cons (ev_var (i := 7) rfl) ea_nil)))) ea_nil) rc_lenL) (by rw [List.length_map])) (rv_mulT nofun (by omega) (by dsimp only; omega) (by show 1 ≤ 1000; decide))) ?_) C15.en) fun σ16 H16 C16 => hZ _ _ ⟨_, by rw [List.length_replicate]; exact L3, fun s hs => ?_, C16⟩
          · show PyData.tuple (List.replicate (((agst rs i rq).length : Nat) : Int).toNat [PyData.tuple (rgD p0.n)]).flatten = _
            rw [Int.toNat_natCast, List.map_replicate]
            generalize (agst rs i rq).length = m
            congr 1
            induction m with
            | zero => rfl
            | succ m ih =>
              rw [List.replicate_succ, List.replicate_succ, List.flatten_cons, ih, rgD_rg]
              rfl
          · rw [(List.mem_replicate.mp hs).2, rl]
            omega
    · refine s_if (b := posB ⟨p0.n, rs⟩ && !isNon (toldD ⟨p0.n, rs⟩ i rq)) C13 (EvT.at (et_and (et_B (ev_var (i := 8) rfl)) fun _ => et_test (ev_op (ev_var (i := 11) rfl) ev_non rv_notN)) C13.en) (fun hb H14 C14 => ?_) fun hb H14 C14 => hY _ _ C14
      rw [Bool.and_eq_true] at hb
      have e : toldD ⟨p0.n, rs⟩ i rq = grD (grounds p0.n (agst rs i rq)) := if_pos hb.1
      obtain ⟨z, hz⟩ : ∃ z, grounds p0.n (agst rs i rq) = some z := by
        cases hg : grounds p0.n (agst rs i rq) with
        | none =>
          have h2 := hb.2
          rw [e, hg] at h2
          cases h2
        | some z => exact ⟨z, rfl⟩
      have e2 : toldD ⟨p0.n, rs⟩ i rq = .tuple (z.map setD) := by rw [e, hz]; rfl
      have sl := grounds_some hn hz
      have acc : accB p0.n (agst rs i rq) (toldD ⟨p0.n, rs⟩ i rq) = true := by
        rw [e2]
        exact stuck_acc hn sl
      have okt : okV (toldD ⟨p0.n, rs⟩ i rq) := by
        rw [e2]
        exact okS z fun s hs => by have := subs_len hn ((stuck_len sl).2 s hs); omega
      refine s_if (b := false) C14 (EvT.at (et_is (et_or (b := false) (c := false) (et_is (et_not (et_B (b := true) (ev_is (ev_callF ((⟨p0.n, rs⟩ : Prob), i, rq, toldD ⟨p0.n, rs⟩ i rq) ⟨⟨po, hq⟩, okt⟩ (ea_cons (ev_var (i := 4) rfl) (ea_cons (ev_var (i := 6) rfl) (ea_cons (ev_var (i := 7) rfl) (ea_cons (ev_var (i := 11) rfl) ea_nil))))) (congrArg PyData.bool acc)))) rfl) fun _ => et_test (ev_is (ev_op (ev_callF ((⟨p0.n, rs⟩ : Prob), i, rq, toldD ⟨p0.n, rs⟩ i rq) ⟨⟨po, hq⟩, okt⟩ (ea_cons (ev_var (i := 4) rfl) (ea_cons (ev_var (i := 6) rfl) (ea_cons (ev_var (i := 7) rfl) (ea_cons (ev_var (i := 11) rfl) ea_nil))))) ev_bl rv_notB) ?_)) rfl) C14.en) (fun h => nomatch h) fun _ H15 C15 => hY _ _ C15
      show PyData.bool (!decide (accB p0.n (agst rs i rq) (toldD ⟨p0.n, rs⟩ i rq) = true)) = .bool false
      rw [decide_eq_true acc]
      rfl
  · obtain ⟨pr, rfl, en, po, hr1, hr6⟩ := hd4
    refine s_ifI (RB := fun _ => True) hl C4 (imt_test (R := fun d => ∃ b, d = .bool b) (im_op (R1 := fun d => ∃ i : Int, d = .int i) (im_next (j := 1) rfl ev_int (by decide) (by decide) fun i _ _ => ⟨i, rfl⟩) (R2 := fun d => d = .int 1) (im_ev ev_int rfl) fun u v hu hv => by
        obtain ⟨i, rfl⟩ := hu
        rw [hv]
        exact ⟨_, ⟨_, rfl⟩, rv_eqI⟩) fun d hd => by
        obtain ⟨b, rfl⟩ := hd
        exact ⟨b, rfl, trivial⟩) (fun _ c5 k5 H5 C5 => ?_) fun _ c5 k5 H5 C5 => hX _ _ ⟨pr, c5, k5, en, po, hr1, hr6, C5⟩
    refine s_setE (R := PrR p0.n) hl C5 (mkP _ _ _ rfl rfl (im_callS (j := 1) rfl (ima_cons (R := fun d => d = .int p0.n) (im_ev (ev_var (i := 2) rfl) rfl) (ima_cons (R := PlanOf (rg p0.n)) (im_callS (j := 1) rfl (ima_ev (ds := [.int p0.n]) (S1 := fun ds => ds = [.int p0.n]) (ea_cons (ev_var (i := 2) rfl) ea_nil) rfl) fun ds hds => ⟨p0.n, hn, hds, fun d h => h⟩) ima_nil (S2 := fun ds => ∃ d, PlanOf (rg p0.n) d ∧ ds = [d]) fun d ds h1 h2 => ⟨d, h1, by rw [h2]⟩) (S2 := fun ds => ∃ d, PlanOf (rg p0.n) d ∧ ds = [.int p0.n, d]) fun d ds h1 h2 => by
        obtain ⟨e, he, rfl⟩ := h2
        exact ⟨e, he, by rw [h1]⟩) fun ds hds => by
        obtain ⟨d, hd, rfl⟩ := hds
        exact ⟨(p0.n, d), ⟨hn, .inr hd⟩, rfl, fun d h => h⟩)) fun d c6 k6 σ6 H6 hd6 C6 => ?_
    obtain ⟨pr2, rfl, en2, po2, g1, g6⟩ := hd6
    exact hX _ _ ⟨pr2, c6, k6, en2, po2, g1, g6, C6⟩
end
end Tb
set_option Elab.async false
set_option linter.all false
set_option maxRecDepth 100000
set_option maxHeartbeats 4000000
/-! ## While an exception is handled: the ends of lists and tuples, targets, comprehensions -/
namespace Tb
open PySem PySem.Spec PyProof.Rows PySem.W L2 L2H HotX
section
variable {prog : Program} {w : World} {A : Around} {E : Value → Shared → Prop} {s : Shared}
/-- HotAt goes on where x1's object stays -/
theorem hot_keeps {x1 : Addr} {h h' : Heap} (hot : HotAt A x1 h) (k : ∀ o, h.get? x1 = some o → h'.get? x1 = some o) : HotAt A x1 h' := by
  obtain ⟨a, o, vs, b, c, d⟩ := hot
  exact ⟨a, o, vs, k o b, c, d⟩
/-- the StopIteration of a walk's end: made, its context the handled exception -/
theorem stop_new {α : Type} {x1 : Addr} {Q : α → Shared → Prop} {F : Value → Shared → Prop} (hot : HotAt A x1 s.heap)
    (k : ∀ (e : Addr) (g : Heap), ({ s with heap := g } : Shared).TypeIs (.ref e) "StopIteration" → (∀ b o, s.heap.get? b = some o → g.get? b = some o) → F (.ref e) { s with heap := g }) :
    wpAny (model prog w) A (newExc (.type "StopIteration") [] >>= fun e => (raiseNew e : Sem α)) Q F s := by
  refine wpAny_bind ?_
  simp only [newExc, newTuple]
  refine wpAny_bind (wpAny_newObj_type ?_ (by size_fits))
  refine wpAny_bind (wpAny_of_eq (a := Value.none) (by first | rfl | (simp only [firstArgMember]; rfl)) ?_)
  refine wpAny_newObj_type ?_ (by size_fits)
  have hot2 := hot_keeps (h' := s.heap.push { cls := .type "tuple", data := .seq #[] }) hot fun o z => Heap.get?_push_of_some _ z
  have lt : x1 ≠ (s.heap.push { cls := .type "tuple", data := .seq #[] }).objs.size := by
    obtain ⟨_, o, _, z, _⟩ := hot2
    exact Nat.ne_of_lt (Heap.lt_size z)
  refine raiseNew_hot (hot_keeps hot2 fun o z => Heap.get?_push_of_some _ z) lt (Heap.get?_push_size _ rfl) rfl (by first | (simp; done) | (simp; omega) | (simp only [Array.size_append]; simp; omega)) ?_
  refine k _ _ ⟨_, Heap.get?_update_self _ (Heap.get?_push_size _ rfl) rfl, rfl⟩ fun b o z => ?_
  have z2 := Heap.get?_push_of_some { cls := .type "tuple", data := .seq #[] } z
  rw [Heap.get?_update_other _ _ (Nat.ne_of_gt (Heap.lt_size z2))]
  exact Heap.get?_push_of_some _ z2
theorem end_listH {it l x1 : Addr} {i : Nat} {items : Array Value} {Q : Option Value → Shared → Prop} (hot : HotAt A x1 s.heap) (ne : x1 ≠ it) (st : s.heap.IsListIter it l i) (hl : s.heap.IsList l items) (hx : items[i]? = none)
    (k : ∀ g, Heap.ExtBut it s.heap g → Q none { s with heap := g }) : wpAny (model prog w) A (pyNext (.ref it)) Q E s := by
  have ty := st.typeIs
  obtain ⟨o, ho, hc, hd⟩ := st
  obtain ⟨ol, hol, _, _, hdl⟩ := hl
  unfold pyNext
  refine wpAny_bind (wpAny_attempt (wpAny_callSpecial?_slot (name := Str.ofString "__next__") ty slot_listiter_next (wpAny_call_entry slot_listiter_next ty entry_listiter_next ?_ (args_listiter_next _))))
  show wpAny _ A.in1 (field (.ref it) 0 >>= _) _ _ s
  refine wpAny_bind (wpAny_field ho hd (x := Value.ref l) rfl ?_)
  show wpAny _ A.in1 (if (Value.ref l == Value.none) = true then _ else _) _ _ s
  rw [if_neg (show ¬ (Value.ref l == Value.none) = true from Bool.false_ne_true)]
  show wpAny _ A.in1 (field (.ref it) 1 >>= _) _ _ s
  refine wpAny_bind (wpAny_field ho hd (x := Value.int i 0) rfl ?_)
  show wpAny _ A.in1 (seqItems? (.ref l) >>= _) _ _ s
  refine wpAny_bind (wpAny_seqItems hol hdl ?_)
  simp only [Int.toNat_natCast, hx]
  refine wpAny_bind (wpAny_rule (wpAny_bind (wpAny_setField ho hd (by simp) ?_)))
  refine stop_new (hot_keeps hot fun o z => (Heap.get?_update_other _ _ (Ne.symm ne)).trans z) fun e g te kp => ?_
  refine wpAny_bind (wpAny_isInstance (T := "StopIteration") (b := true) te isSubtype_stop ?_)
  exact wpAny_pure (k _ fun b o hb z => kp b o ((Heap.get?_update_other _ _ (Ne.symm hb)).trans z))
theorem end_tupH {it l x1 : Addr} {i : Nat} {items : Array Value} {Q : Option Value → Shared → Prop} (hot : HotAt A x1 s.heap) (ne : x1 ≠ it) (st : IsTupIter s.heap it l i) (hl : IsTup s.heap l items) (hx : items[i]? = none)
    (k : ∀ g, Heap.ExtBut it s.heap g → Q none { s with heap := g }) : wpAny (model prog w) A (pyNext (.ref it)) Q E s := by
  have ty := st.typeIs
  obtain ⟨o, ho, hc, hd⟩ := st
  obtain ⟨ol, hol, _, _, hdl⟩ := hl
  unfold pyNext
  refine wpAny_bind (wpAny_attempt (wpAny_callSpecial?_slot (name := Str.ofString "__next__") ty slot_tupleiter_next (wpAny_call_entry slot_tupleiter_next ty entry_tupleiter_next ?_ (args_tupleiter_next _))))
  show wpAny _ A.in1 (field (.ref it) 0 >>= _) _ _ s
  refine wpAny_bind (wpAny_field ho hd (x := Value.ref l) rfl ?_)
  show wpAny _ A.in1 (if (Value.ref l == Value.none) = true then _ else _) _ _ s
  rw [if_neg (show ¬ (Value.ref l == Value.none) = true from Bool.false_ne_true)]
  show wpAny _ A.in1 (field (.ref it) 1 >>= _) _ _ s
  refine wpAny_bind (wpAny_field ho hd (x := Value.int i 0) rfl ?_)
  show wpAny _ A.in1 (seqItems? (.ref l) >>= _) _ _ s
  refine wpAny_bind (wpAny_seqItems hol hdl ?_)
  simp only [Int.toNat_natCast, hx]
  refine wpAny_bind (wpAny_rule (wpAny_bind (wpAny_setField ho hd (by simp) ?_)))
  refine stop_new (hot_keeps hot fun o z => (Heap.get?_update_other _ _ (Ne.symm ne)).trans z) fun e g te kp => ?_
  refine wpAny_bind (wpAny_isInstance (T := "StopIteration") (b := true) te isSubtype_stop ?_)
  exact wpAny_pure (k _ fun b o hb z => kp b o ((Heap.get?_update_other _ _ (Ne.symm hb)).trans z))
/-- a, b, .. = a tuple -/
theorem items_tupH {t x1 : Addr} {items : Array Value} {Q : List Value → Shared → Prop} (hot : HotAt A x1 s.heap) (ht : IsTup s.heap t items)
    (k : ∀ g, Heap.ExtBut s.heap.objs.size s.heap g → Q items.toList { s with heap := g }) : wpAny (model prog w) A (unpackItems (.ref t) items.size none) Q E s := by
  have lt : ∀ {b : Addr} {o : Obj}, s.heap.get? b = some o → b ≠ s.heap.objs.size := fun z => Nat.ne_of_lt (Heap.lt_size z)
  have tne : t ≠ s.heap.objs.size := by
    obtain ⟨o, z, _⟩ := ht
    exact lt z
  have xne : x1 ≠ s.heap.objs.size := by
    obtain ⟨_, o, _, z, _⟩ := hot
    exact lt z
  unfold unpackItems notIterableAtAll
  refine wpAny_bind (wpAny_bind (wpAny_specialOf ht.typeIs slot_tuple_iter.lookup (wpAny_pure ?_)))
  simp only [Bool.false_eq_true, if_false]
  refine wpAny_bind (wpAny_holding (iter_tuple ht ?_))
  refine wpAny_bind (wpAny_holding (draw_tuple tne items.size 0 _ _ ⟨_, Heap.get?_push_size _ rfl, rfl, rfl⟩ (ht.push _) (by omega) fun g1 st1 e1 => ?_))
  rw [List.drop_zero, List.take_of_length_le (show items.toList.length ≤ items.size by simp), if_neg (by simp)]
  have hot1 : HotAt A x1 g1 := hot_keeps hot fun o z => e1.extBut _ _ xne (Heap.get?_push_of_some _ z)
  refine wpAny_bind (wpAny_holding (end_tupH (s := { s with heap := g1 }) hot1 xne st1 ((ht.push _).extBut e1.extBut tne) (by simp) fun g2 e2 => ?_))
  simp only [Option.isSome_none, Bool.false_eq_true, if_false]
  exact wpAny_pure (k g2 fun b o hb z => e2 b o hb (e1.extBut b o hb (Heap.get?_push_of_some _ z)))
end
/-! the handled exception stands among the pins -/
def HotP (A : Around) (l : List (Addr × Obj)) : Prop := ∃ p : Addr × Obj, Hot1 A p ∧ p ∈ l
section
variable {X : Cx} {pins : List (Addr × Obj)} {σ : L2.St} {H : Hp} {s : Shared}
theorem HotP.at (c : HotP X.A (X.pn ++ pins)) (I : Inv X pins σ H s) : ∃ p : Addr × Obj, p ∈ X.pn ++ pins ∧ HotAt X.A p.1 s.heap := by
  obtain ⟨p, ⟨a, vs, b, d⟩, hp⟩ := c
  exact ⟨p, hp, a, p.2, vs, (I.pin p hp).1, b, d⟩
theorem HotC.p (c : HotC X) : HotP X.A (X.pn ++ pins) := by
  obtain ⟨p, a, b⟩ := c
  exact ⟨p, a, List.mem_append_left _ b⟩
/-- a tuple as target -/
theorem kgTH {es : List Expr} {k : Nat} {t : TGs} {pos : Pos} (n : Nat) (K : PySem.W.Frag) (h : X.K = K) (hc : HotC X) (hg : PGs X es t)
    (hn : (assignEach es X.env).length = n := by rfl) (hst : (assignEach es X.env).findIdx? (·.1) = none := by rfl) : PG X (.Tuple es k pos) (gTup K n t) := by
  subst h
  refine ⟨fun pins s σ H v u Q I r hw => ?_⟩
  obtain ⟨a, xs, rfl, sq, hl, rd⟩ := hw
  cases r
  obtain ⟨its, rv, ht, _⟩ := I.tuple sq
  obtain ⟨x1, hot⟩ := hc.at I
  have hz : (assignEach es X.env).length = its.toArray.size := by
    rw [hn, ← hl, rv.length]
    simp
  rw [assign_Tuple]
  refine wpAny_bind (wpAny_standAt ?_)
  unfold unpack
  rw [hz, hst]
  refine wpAny_bind (wpAny_holding (items_tupH hot ht fun g e => ?_))
  have J : Inv X pins σ H { s with heap := g } := I.kept (t' := s.toks) fun b o z => e b o (Nat.ne_of_lt (Heap.lt_size z)) z
  refine hg.run pins _ σ H xs _ Q J ?_ rd
  simpa using rv
end
/-! a walk while an exception is handled: the iterator at it, i items behind it -/
structure ItH (P : Program) (w : World) (K : PySem.W.Frag) (J : It) (it : Addr) (tn : Nat → Heap → Prop) : Prop where
  obj : ∀ i h, tn i h → ∃ o, h.get? it = some o ∧ ∀ v, o.data ≠ .cell v
  keep : ∀ i h h', tn i h → (∀ o, h.get? it = some o → h'.get? it = some o) → tn i h'
  item : ∀ (X : Cx), X.prog = P → X.w = w → X.K = K → ∀ {i : Nat} {pins : List (Addr × Obj)} {s : Shared} {σ : L2.St} {H : Hp} {E : Value → Shared → Prop}, Inv X pins σ H s → FpOk X pins H it → tn i s.heap → J.go i H →
    wpAny (model P w) X.A (pyNext (.ref it)) (fun r s1 => ∃ u x, r = some u ∧ RelV x u ∧ J.yld i H x H ∧ Inv X pins σ H s1 ∧ tn (i + 1) s1.heap ∧ ∀ (tg : Expr) (Q : Unit → Shared → Prop), Q () s1 → wpAny (model P w) X.A (letOwnedTupleGo tg (.ref it) u) Q E s1) E s
  done : ∀ (X : Cx), X.prog = P → X.w = w → X.K = K → ∀ {i : Nat} {pins : List (Addr × Obj)} {s : Shared} {σ : L2.St} {H : Hp} {E : Value → Shared → Prop}, HotP X.A (X.pn ++ pins) → Inv X pins σ H s → FpOk X pins H it → tn i s.heap → J.stop i H →
    wpAny (model P w) X.A (pyNext (.ref it)) (fun r s1 => r = none ∧ Inv X pins σ H s1) E s
  self : ∀ (A : Around) {i : Nat} {s : Shared} {Q : Value → Shared → Prop} {E : Value → Shared → Prop}, tn i s.heap → Q (.ref it) s → wpAny (model P w) A (pyIter (.ref it)) Q E s
section
variable {P : Program} {w : World} {K : PySem.W.Frag} {a it : Addr}
theorem out_of {X : Cx} {pins : List (Addr × Obj)} {σ : L2.St} {H : Hp} {s : Shared} {g : Heap} (I : Inv X pins σ H s) (f : FpOk X pins H it) (e : Heap.ExtBut it s.heap g) : Inv X pins σ H { s with heap := g } :=
  I.turned (t' := s.toks) (fun b o hb z => e b o hb z) f.1 f.2.1 f.2.2.2.1 f.2.2.2.2.1 f.2.2.2.2.2
theorem it_listH : ItH P w K (Itl K a) it (fun i h => h.IsListIter it a i) where
  obj := fun i h st => by
    obtain ⟨o, e, _, d⟩ := st
    exact ⟨o, e, fun v z => by rw [d] at z; cases z⟩
  keep := fun i h h' st k => st.at fun o e => k o e
  item := fun X hP hw hK {i pins s σ H E} I f st hg => by
    subst hP hw hK
    obtain ⟨xs, x, sq, hx⟩ := hg
    obtain ⟨its, rv, p, _⟩ := I.list sq
    obtain ⟨u, hu, ru⟩ := rv.get hx
    refine wpAny_pyNext_list_item st p.isList (x := u) (by simpa using hu) fun g st2 sb => ?_
    obtain ⟨o, e, c, d⟩ := id st2
    exact ⟨u, x, rfl, ru, ⟨rfl, fun ys hy => by rw [I.list_inj hy sq]; exact hx⟩, out_of I f sb.extBut, st2, fun tg Q q => go_of (s := { s with heap := g }) e c d (by decide) q⟩
  done := fun X hP hw hK {i pins s σ H E} hot I f st hg => by
    subst hP hw hK
    obtain ⟨xs, sq, hx⟩ := hg
    obtain ⟨its, rv, p, _⟩ := I.list sq
    obtain ⟨q, hq, hat⟩ := hot.at I
    have hl := rv.length
    exact end_listH hat (f.2.2.2.2.2 q hq) st p.isList (by simp; omega) fun g e => ⟨rfl, out_of I f e⟩
  self := fun A {i s Q E} st q => wpAny_pyIter_listiter st q
theorem it_tupH : ItH P w K (Itt K a) it (fun i h => IsTupIter h it a i) where
  obj := fun i h st => by
    obtain ⟨o, e, _, d⟩ := st
    exact ⟨o, e, fun v z => by rw [d] at z; cases z⟩
  keep := fun i h h' st k => by
    obtain ⟨o, e, c⟩ := st
    exact ⟨o, k o e, c⟩
  item := fun X hP hw hK {i pins s σ H E} I f st hg => by
    subst hP hw hK
    obtain ⟨xs, x, sq, hx⟩ := hg
    obtain ⟨its, rv, p, _⟩ := I.tuple sq
    obtain ⟨u, hu, ru⟩ := rv.get hx
    refine next_tuple_item st p (x := u) (by simpa using hu) fun g st2 sb => ?_
    obtain ⟨o, e, c, d⟩ := id st2
    exact ⟨u, x, rfl, ru, ⟨rfl, fun ys hy => by rw [I.tuple_inj hy sq]; exact hx⟩, out_of I f sb.extBut, st2, fun tg Q q => go_of (s := { s with heap := g }) e c d (by decide) q⟩
  done := fun X hP hw hK {i pins s σ H E} hot I f st hg => by
    subst hP hw hK
    obtain ⟨xs, sq, hx⟩ := hg
    obtain ⟨its, rv, p, _⟩ := I.tuple sq
    obtain ⟨q, hq, hat⟩ := hot.at I
    have hl := rv.length
    exact end_tupH hat (f.2.2.2.2.2 q hq) st p (by simp; omega) fun g e => ⟨rfl, out_of I f e⟩
  self := fun A {i s Q E} st q => wpAny_pyIter_tupleiter st q
/-- iter's walk -/
structure PIh (X : Cx) (iter : Expr) (wi : TI) : Prop where
  run : ∀ (pins : List (Addr × Obj)) (s : Shared) (σ : L2.St) (H : Hp) (R : It → Hp → Prop), Inv X pins σ H s → wi σ H R → wpAny (model X.prog X.w) X.A (eval iter X.env) (fun v s1 => wpAny (model X.prog X.w) X.A (pyIter v) (fun iv s2 =>
    ∃ (it : Addr) (tn : Nat → Heap → Prop) (J : It) (H2 : Hp), iv = .ref it ∧ Inv X pins σ H2 s2 ∧ ItH X.prog X.w X.K J it tn ∧ tn 0 s2.heap ∧ FpOk X pins H2 it ∧ R J H2) X.xe s1) X.xe s
theorem kpLH {X : Cx} {l : Expr} {tl : TE} (K : PySem.W.Frag) (h : X.K = K) (hl : PE X l tl) : PIh X l (iList K tl) := by
  subst h
  refine ⟨fun pins s σ H R I hr => thn (hl.run pins s σ H _ I hr) fun v s1 ⟨x, H1, I1, r1, q1⟩ => ?_⟩
  obtain ⟨a, rfl, ⟨xs, sq⟩, q⟩ := q1
  cases r1
  obtain ⟨its, rv, p, _⟩ := I1.list sq
  refine wpAny_pyIter_list p.isList ⟨s1.heap.objs.size, _, _, H1, rfl, I1.kept (t' := s1.toks) fun b o e => Heap.get?_push_of_some _ e, it_listH, ⟨_, Heap.get?_push_size _ rfl, rfl, rfl⟩, I1.fpOk (Nat.le_refl _) (I1.hok.fresh (Nat.le_refl _)), q⟩
theorem kpTH {X : Cx} {l : Expr} {tl : TE} (K : PySem.W.Frag) (h : X.K = K) (hl : PE X l tl) : PIh X l (iTup K tl) := by
  subst h
  refine ⟨fun pins s σ H R I hr => thn (hl.run pins s σ H _ I hr) fun v s1 ⟨x, H1, I1, r1, q1⟩ => ?_⟩
  obtain ⟨a, rfl, ⟨xs, sq⟩, q⟩ := q1
  cases r1
  obtain ⟨its, rv, p, _⟩ := I1.tuple sq
  refine wpAny_pyIter_tuple (show s1.heap.IsTuple a its.toArray from p) ⟨s1.heap.objs.size, _, _, H1, rfl, I1.kept (t' := s1.toks) fun b o e => Heap.get?_push_of_some _ e, it_tupH, ⟨_, Heap.get?_push_size _ rfl, rfl, rfl⟩, I1.fpOk (Nat.le_refl _) (I1.hok.fresh (Nat.le_refl _)), q⟩
end
/-- [elt for tg in iter if ..] while an exception is handled; it stands among the block's pins -/
theorem pe_lcH {X : Cx} {elt tg iter : Expr} {ifs : List Expr} {scope : Scope} {own : List (Str × Nat)} {pos : Pos} {wi : TI} {g : TG} {tt : TT} {te : TE} (hc : HotC X) (hN : X.N.Nodup) (hi : PIh X iter wi) (ok : BlkOk X.N X.env.scope scope own)
    (hg : ∀ (t : Shared) (G : Hp) (C : Addr) (cl : List (Str × Addr)) (fp : List Addr), PG (X.blk t G scope (compEnvC scope cl C X.env) fp) tg g) (ht : ∀ (t : Shared) (G : Hp) (C : Addr) (cl : List (Str × Addr)) (fp : List Addr), PTs (X.blk t G scope (compEnvC scope cl C X.env) fp) ifs tt)
    (he : ∀ (t : Shared) (G : Hp) (C : Addr) (cl : List (Str × Addr)) (fp : List Addr), PE (X.blk t G scope (compEnvC scope cl C X.env) fp) elt te) (hs : ∀ x, foldedSetIterable iter X.env x = pure x := by intro _; rfl) :
    PE X (.ListComp elt [⟨tg, iter, ifs, 0⟩] scope pos) (tLc wi g tt te (own.map (·.2))) := by
  obtain ⟨p, hp1, hp2⟩ := hc
  refine ⟨fun pins s σ H Q I h => ?_⟩
  have cells : ∀ y ∈ scope.names, y.2 = .free → ∃ c, X.env.cells.lookup y.1 = some c := fun y hy e => (ok.free y hy e).elim (fun z => I.ok.has _ (.inl z)) fun z => I.ok.has _ (.inr z)
  rw [eval_ListComp]
  refine wpAny_comprehension_free rfl hs (closure_ok cells) ok.kind (fun y hy e => by rw [ok.uniq y hy, e]) (thn (hi.run pins s σ H _ I h) fun xv u1 hx => thn hx fun iv u2 h2 => ?_)
  obtain ⟨it, tn, J, H2, rfl, I2, T, st2, f2, q⟩ := h2
  refine wpAny_newObj_type (newEnv_comp ?_) (by show 0 ≤ sizeLine; decide)
  generalize eL : u2.heap.objs.size = L
  obtain ⟨W, ⟨m0, w0⟩, turn⟩ := q L (I2.hok.fresh (Nat.le_of_eq eL))
  generalize e3 : ({ u2 with heap := u2.heap.push { cls := .type "list", data := .seq ([] : List Value).toArray } } : Shared) = u3
  have h3 : u3.heap = u2.heap.push { cls := .type "list", data := .seq ([] : List Value).toArray } := by rw [← e3]
  have grow : ∀ b o, u2.heap.get? b = some o → u3.heap.get? b = some o := fun b o z => by
    rw [h3]
    exact Heap.get?_push_of_some _ z
  have I3 : Inv X pins σ (upd H2 L (.lst [])) u3 := by
    rw [← e3]
    refine I2.laid (t' := u2.toks) (fun b o z => Heap.get?_push_of_some _ z) (Nat.le_of_eq eL) ⟨Nat.zero_le _, [], 0, .nil, ?_⟩
    rw [← eL]
    exact Heap.get?_push_size _ rfl
  have ilt : it < L := by
    obtain ⟨o, z, _⟩ := T.obj _ _ st2
    rw [← eL]
    exact Heap.lt_size z
  have f3 : FpOk X pins (upd H2 L (.lst [])) it := ⟨by rw [upd_ne (Nat.ne_of_lt ilt)]; exact f2.1, f2.2⟩
  have ilt3 : it < u3.heap.objs.size := by
    rw [h3, Heap.size_push, eL]
    exact Nat.lt_succ_of_lt ilt
  have pne : p.1 ≠ it := f2.2.2.2.2.2 p (List.mem_append_left _ hp2)
  have I4 := block_start I3 ok hN (fp := [it]) fun b hb => by
    rw [List.mem_singleton.mp hb]
    exact ⟨f3, ilt3⟩
  have pg := hg u3 (upd H2 L (.lst [])) u3.heap.objs.size (cellsFrom (u3.heap.objs.size + 1) scope.names (cloFrom X.env.cells scope.names [])) [it]
  have pt := ht u3 (upd H2 L (.lst [])) u3.heap.objs.size (cellsFrom (u3.heap.objs.size + 1) scope.names (cloFrom X.env.cells scope.names [])) [it]
  have pe := he u3 (upd H2 L (.lst [])) u3.heap.objs.size (cellsFrom (u3.heap.objs.size + 1) scope.names (cloFrom X.env.cells scope.names [])) [it]
  show codeAny _ X.A (.compStart (.ListComp elt [⟨tg, iter, ifs, 0⟩] scope pos) 0 (.ref it) (.ref L) (compEnvC scope (cellsFrom (u3.heap.objs.size + 1) scope.names (cloFrom X.env.cells scope.names [])) u3.heap.objs.size X.env)) (compPost (model X.prog X.w) X.A X.xe none _ (.ref L) u3.heap.objs.size) { u3 with heap := pushCells (u3.heap.push { cls := .type "dict", data := .dict #[] }) scope.names }
  have kp4 : ∀ b o, u3.heap.get? b = some o → (pushCells (u3.heap.push { cls := .type "dict", data := .dict #[] }) scope.names).get? b = some o := fun b o z => pushCells_keeps _ _ _ _ (Heap.get?_push_of_some _ z)
  generalize ec : compEnvC scope (cellsFrom (u3.heap.objs.size + 1) scope.names (cloFrom X.env.cells scope.names [])) u3.heap.objs.size X.env = ce at I4 pg pt pe ⊢
  have cL : ce.locals = u3.heap.objs.size := by rw [← ec]; rfl
  have P3 := I3.pin p (List.mem_append_left _ hp2)
  generalize eG : upd H2 L (.lst []) = G at I3 I4 pg pt pe w0 f3 P3
  generalize e4 : ({ u3 with heap := pushCells (u3.heap.push { cls := .type "dict", data := .dict #[] }) scope.names } : Shared) = u4 at I4 ⊢
  have g4 : ∀ b o, u3.heap.get? b = some o → u4.heap.get? b = some o := fun b o z => by
    rw [← e4]
    exact kp4 b o z
  have st4 : tn 0 u4.heap := T.keep _ _ _ st2 fun o z => g4 _ _ (grow _ _ z)
  have psky : p.1 ∉ frs X.stack := fun hm => (List.mem_cons.mp (I3.stkSub p.1 hm)).elim P3.2.2.1 P3.2.2.2.1
  have I5 : Inv (X.blk u3 G scope ce [it]) [p] (wipe σ (own.map (·.2))) G u4 := Inv.pins_of (pins := []) I4 fun z hz => by
    rw [List.mem_singleton.mp hz]
    refine ⟨g4 _ _ P3.1, P3.2.1, ?_, psky, P3.2.2.2.2⟩
    show p.1 ≠ ce.locals
    rw [cL]
    exact Nat.ne_of_lt (Heap.lt_size P3.1)
  have stat : ∀ {σ' : L2.St} {H' : Hp} {u : Shared}, Inv (X.blk u3 G scope ce [it]) [p] σ' H' u → H' it = none → FpOk (X.blk u3 G scope ce [it]) [p] H' it := fun {σ' H' u} K hn =>
    ⟨hn, (K.ok.exf it List.mem_cons_self).1, K.ok.exfs it List.mem_cons_self, .inl List.mem_cons_self, fun x c z => (K.ok.exf it List.mem_cons_self).2 x c z, fun z hz => by
      rw [List.mem_singleton.mp (show z ∈ [p] from hz)]
      exact pne⟩
  have loop : codeAny (model X.prog X.w) X.A (.compLoop (.ListComp elt [⟨tg, iter, ifs, 0⟩] scope pos) 0 (.ref it) (.ref L) ce) (compPost (model X.prog X.w) X.A X.xe none (EP X pins σ Q) (.ref L) u3.heap.objs.size) u4 := by
    refine compLoop_any (fun n u => ∃ i H', Inv (X.blk u3 G scope ce [it]) [p] (wipe σ (own.map (·.2))) H' u ∧ tn i u.heap ∧ H' it = none ∧ W i n H') ?_ m0 ⟨0, G, I5, st4, f3.1, w0⟩
    rintro n u5 ⟨i, H5, I5, st5, n5, w5⟩
    rcases turn i n H5 w5 with ⟨stop, qq⟩ | ⟨go, Nx, hNx, step⟩
    · refine thnF (T.done (X.blk u3 G scope ce [it]) rfl rfl rfl (E := fun _ _ => False) ⟨p, hp1, List.mem_cons_self⟩ I5 (stat I5 n5) st5 stop) fun r u6 ⟨hr, I6⟩ => ?_
      subst hr
      have I7 : Inv X pins σ H5 u6 := I3.call' (ch := [it]) I6.os I6.base I6.hok I6.bare fun b hb => by
        rw [List.mem_singleton.mp hb]
        exact ⟨f3.2.2.2.1, f3.2.1, f3.2.2.2.2.1, f3.2.2.2.2.2⟩
      obtain ⟨m, hn, _⟩ := I6.loc
      have hn : u6.heap.Ns ce.locals m := hn
      have nC : H5 ce.locals = none := I6.free
      rw [cL] at hn nC
      refine ⟨m, hn, fun g sb => ?_⟩
      exact ⟨.ref L, H5, out_of I7 (I3.fpOk (Nat.le_refl _) nC) sb.extBut, rfl, qq⟩
    · refine thnF (T.item (X.blk u3 G scope ce [it]) rfl rfl rfl (E := fun _ _ => False) I5 (stat I5 n5) st5 go) fun r u7 ⟨u, x, hr, rx, y7, I7, st7, gone⟩ => ?_
      subst hr
      refine thnF (gone tg (fun _ z => z = u7) rfl) fun _ u8 e8 => ?_
      subst e8
      obtain ⟨o, ho, hd⟩ := T.obj _ _ st7
      have f7 := stat I7 n5
      have I8 : Inv (X.blk u3 G scope ce [it]) ([p] ++ [(it, o)]) (wipe σ (own.map (·.2))) H5 u8 := I7.pins_of fun z hz => by
        rcases List.mem_append.mp hz with hz | hz
        · exact I7.pin z hz
        · rw [List.mem_singleton.mp hz]
          exact ⟨ho, f7.1, f7.2.1, f7.2.2.1, hd⟩
      refine thnF (pg.run _ u8 _ H5 x u _ I8 rx (step x H5 y7)) fun _ u9 ⟨σ9, H9, I9, hw9, q9⟩ => ?_
      refine thnF (pt.run _ u9 σ9 H9 _ I9 q9) fun b u10 ⟨H10, I10, q10⟩ => ?_
      have fin : ∀ {u : Shared} {H' : Hp}, Inv (X.blk u3 G scope ce [it]) ([p] ++ [(it, o)]) σ9 H' u → Nx H' → ∃ m, m < n ∧ ∃ i H', Inv (X.blk u3 G scope ce [it]) [p] (wipe σ (own.map (·.2))) H' u ∧ tn i u.heap ∧ H' it = none ∧ W i m H' := fun {u H'} K nx => by
        obtain ⟨m, hm, w2⟩ := hNx H' nx
        have kit := K.pin (it, o) (List.mem_append_right _ (List.mem_append_right _ List.mem_cons_self))
        have hl : (wipe σ (own.map (·.2))).length = σ9.length := by rw [← hw9, wipe_length]
        refine ⟨m, hm, i + 1, H', K.unpinned.weak hl (fun j v e => ?_), T.keep _ _ _ st7 fun o2 z => ?_, kit.2.1, w2⟩
        · rw [← hw9] at e
          exact (wipe_some e).1
        · rw [ho] at z
          cases z
          exact kit.1
      cases b with
      | false =>
        simp only [Bool.false_eq_true, if_false] at q10 ⊢
        exact fin I10 q10
      | true =>
        simp only [if_true] at q10 ⊢
        refine thnF (pe.run _ u10 σ9 H10 _ I10 q10) fun z u11 ⟨yv, H11, I11, r11, acc, hL, hz, nx⟩ => ?_
        exact app_ok (X := X.blk u3 G scope ce [it]) I11 hL hz r11 fun u12 I12 => fin I12 nx
  exact codeAny_compStart_list loop (T.self X.A st4 loop)
end Tb
set_option Elab.async false
set_option linter.all false
set_option maxRecDepth 100000
set_option maxHeartbeats 4000000
/-! ## The exception: its class, __init__, what raises it -/
namespace Tb
open PySem PySem.Spec PyProof.Rows PySem.W L2
section
variable {X : Cx} {ta : TA}
/-- C(e, ..) where nothing is handled: the new exception's context is None -/
theorem pmk_new {x : Str} {e : Expr} {es : List Expr} {p pos : Pos} {C fI : Addr} {k : Nat} {fd : FuncData} {ps : List Str} {sp : Sp} (T : OexC X.K C) (iC : PySem.W.findIn X.K (.ref C) "__init__" = some (some (.ref fI))) (tI : PySem.W.typeIn X.K (.ref fI) = some (.type "function"))
    (FI : FnOk X.prog X.w X.K X.mg X.base CX0 k fI fd ps sp) (hr : Room (k + 1) X.A) (hb : Binds X.K fd ps []) (hg : Gl X x) (hm : X.mg x = some (.ref C)) (ha : PA X (e :: es) ta)
    (hdb : (x == ("__debug__" : Str)) = false := by decide) (he : starEach (e :: es) X.env = (false, eval e X.env) :: starEach es X.env := by rfl) (hpl : (backTo pos (starEach es X.env)).any (·.1) = false := by rfl) :
    L2N.PMk X (.Call (.Name x p) (e :: es) [] pos) (tMkO C sp [] ta) := fun pins s σ H Q I h => by
  obtain ⟨nm, q, N, bs, bm, sn, sub, ab, col, dd, k0, k1, k2, k3, k5, lC, rC⟩ := T.cls
  refine wpAny_Call_Name_kw (ld_glob I hg hm ?_ hdb)
  refine PySem.W.callWith_K (h₀ := X.base) I.ok.mod.kin T.kC (thn (ha.run pos pins s σ H _ I h) fun us s1 ⟨vs, H1, I1, r1, hz, q1⟩ => ⟨I1.kIn, ?_⟩) he hpl
  obtain ⟨hp, g, dr, tk, os⟩ := s1
  show wpAny _ X.A (call (.ref C) us) _ _ _
  generalize en : hp.objs.size = n
  have old : ∀ {b : Addr} {o : Obj}, hp.get? b = some o → ((hp.push (PySem.W.kdv_tup us)).push (PySem.HandSPX.excO C n)).get? b = some o := fun z => Heap.get?_push_of_some _ (Heap.get?_push_of_some _ z)
  have at1 : ((hp.push (PySem.W.kdv_tup us)).push (PySem.HandSPX.excO C n)).get? (n + 1) = some (PySem.HandSPX.excO C n) := by
    rw [← en]
    heap_get
  have above : hp.objs.size ≤ n + 1 := by omega
  have go := q1 (n + 1) (I1.hok.fresh above)
  rw [List.append_nil] at go
  have I2 : Inv X pins σ (upd H1 (n + 1) (exo (n + 1) C none)) ⟨(hp.push (PySem.W.kdv_tup us)).push (PySem.HandSPX.excO C n), g, dr, tk, os⟩ := I1.laid (t' := tk) (fun b o z => old z) above (exo_ok at1)
  have rr : Vals (V.ref (n + 1) :: vs) (Value.ref (n + 1) :: us) := .cons rfl r1
  have len : (Value.ref (n + 1) :: us ++ []).length = ps.length := by
    rw [List.append_nil, ← rr.length]
    exact FI.len _ _ _ _ go
  have bnd := hb _ (Value.ref (n + 1) :: us) I2.kIn len
  rw [List.append_nil] at bnd
  have few : us.length ≤ sizeLine := by
    rw [← Paired.length r1, sizeLine_eq]
    omega
  rw [← en] at *
  refine wpAny_call (PySem.HandSPX.call_own PySem.F.excBase_ValueError (fun Y => PySem.HandSPX.refsVE_contains Y bm rC) (I1.kIn _ _ lC) (PySem.W.looks_findIn I1.kIn iC) (fun self => PySem.W.bind_fn I1.kIn self tI) few
    (codeAny_mono (FI.run _ X.stack _ _ ⟨Value.ref (hp.objs.size + 1) :: us, []⟩ (Value.ref (hp.objs.size + 1) :: us) _ _ (fun _ _ _ => False) (hr.make C us []) (I2.env0.make C us []) bnd rr go) fun r s' z => ?_))
  cases r with
  | error er => exact z.elim
  | ok fl =>
    cases fl with
    | ret u =>
      obtain ⟨v, H2, oq, bare, un, hok, rv, ev, d, fs, ea, ed, hd1, q2⟩ := z
      subst ev
      obtain ⟨h2, g2, d2, t2, os2⟩ := s'
      obtain ⟨t0, G, J, kG, ge, hoe, na⟩ := mk_end0 (d2 := d2) (t2 := t2) I1 above (fun b o z => old z) un hok oq bare ea ed hd1
      refine ⟨rv, hp.objs.size + 1, _, _, ⟨G, g2, d2, t2, os2⟩, _, .ref C, some d, rfl, J, kG, ge, hoe, ⟨rfl, rfl, fun ws hw => ?_⟩, rfl, rfl, na, rfl, bare, raises_own T.exC T.tyC, q2⟩
      cases hw
      rfl
    | next => exact z.elim
    | brk => exact z.elim
    | cont => exact z.elim
end
/-! the class's facts -/
structure ClsX (K : PySem.W.Frag) (mg : Str → Option Value) (C fI : Addr) : Prop where
  g : mg "NotPossible" = some (.ref C)
  ox : OexC K C
  i : PySem.W.findIn K (.ref C) "__init__" = some (some (.ref fI))
  ti : PySem.W.typeIn K (.ref fI) = some (.type "function")
  why : PySem.W.findIn K (.ref C) "why" = some none
  one : PySem.W.exmOne K (.ref C) (.ref C) = some true
  f : ∃ fd, FunD K "__init__" "NotPossible.__init__" (defArgs (inClass (top 3) 0)) (defBody (inClass (top 3) 0)) (defScope (inClass (top 3) 0)) [] [] fI fd
/-- self.why = v -/
def spInit (C : Addr) : Sp := fun vs H Q _ => ∃ (a : Addr) (v : V), vs = [.ref a, v] ∧ H a = some (exo a C none) ∧ ∀ dx, H dx = none → dx ≠ a → Q .non (upd (upd H dx (exd dx [("why", v)])) a (exo a C (some dx)))
theorem sc_I : FnScope ["self", "why"] ["self", "why"] (defScope (inClass (top 3) 0)) := ⟨rfl, rfl, rfl, by decide +kernel, rfl, by decide +kernel, by decide +kernel⟩
section
variable {P : Program} {w : World} {K : PySem.W.Frag} {mg : Str → Option Value} {base : Heap} {k : Nat} {C fI f : Addr}
theorem init_ok (c : ClsX K mg C fI) : ∃ fd, Binds K fd ["self", "why"] [] ∧ FnOk P w K mg base CX0 (k + 1) fI fd ["self", "why"] (spInit C) := by
  obtain ⟨fd, F⟩ := c.f
  refine ⟨fd, F.bindsN (fun _ _ _ _ _ _ us hl => match us, hl with | [_, _], _ => rfl), F.ok sc_I (fun vs H Q E h => ?_) fun cdv A outer s H vs Q E hr h => ?_⟩
  · obtain ⟨a, v, rfl, _⟩ := h
    rfl
  · obtain ⟨a, v, rfl, ha, q⟩ := h
    refine ⟨_, PSs.nox (pss_one (ps_ost (pv 0) (pv 1))), v, rfl, .ref a, rfl, a, C, rfl, c.ox, c.why, .inl ⟨ha, fun dx h1 h2 => q dx h1 h2⟩⟩
end
end Tb
set_option Elab.async false
set_option linter.all false
set_option maxRecDepth 100000
set_option maxHeartbeats 4000000
/-! ## check_droppable, grounds_for: what they raise -/
namespace Tb
open PySem PySem.Spec PyProof.Rows PySem.W L2
abbrev s_48 : Stmt := top 48
theorem sc_48 : FnScope ["problem", "collection", "index"] ["problem", "collection", "index"] (defScope s_48) := ⟨rfl, rfl, rfl, by decide +kernel, rfl, by decide +kernel, by decide +kernel⟩
/-- a def that may raise: exceptions whose context is None -/
structure CalleeX (P : Program) (w : World) (K : PySem.W.Frag) (mg : Str → Option Value) (base : Heap) (x : Str) (k : Nat) (ps : List Str) (sp : Sp) : Prop where
  ex : ∃ (f : Addr) (fd : FuncData), mg x = some (.ref f) ∧ PySem.W.keepIn K (.ref f) = true ∧ Binds K fd ps [] ∧ FnOk P w K mg base (L2N.CX P w) k f fd ps sp
/-- a problem, its whole collection and an index of it; possible: res, contradictory: the exception -/
def spX (K : PySem.W.Frag) (C : Addr) (res : Prob → Nat → Rule → PyData) : Sp := fun vs H Q E => ∃ (M : MS) (p : Prob) (i : Nat) (r : Rule), MOk M H ∧ ProbOk p ∧ p.rs[i]? = some r ∧ RepL K M H vs [pbD p, .tuple (rgD p.rs.length), .int i] ∧
  (posB p = true → ∀ u H2, Same H H2 → Rep K M H2 u (res p i r) → Q u H2) ∧ (posB p = false → ∀ d H2, Same H H2 → E (.ref C) (some d) H2)
section
variable {P : Program} {w : World} {K : PySem.W.Frag} {mg : Str → Option Value} {base : Heap} {j k : Nat} {C fI f : Addr} {x name : Str} {N ps : List Str} {st : Stmt} {res : Prob → Nat → Rule → PyData}
theorem CalleeX.mono {sp : Sp} (C : CalleeX P w K mg base x j ps sp) (h : j ≤ k) : CalleeX P w K mg base x k ps sp := by
  obtain ⟨f, fd, h1, h2, h3, h4⟩ := C.ex
  exact ⟨f, fd, h1, h2, h3, h4.mono h⟩
theorem mkX (D : DefAt K mg x name st f) (sc : FnScope N ps (defScope st))
    (hb : ∀ (kV doc pm : Value) (an : Option Addr) (cdv ct : Value) (us : List Value), us.length = ps.length → bindArgs (PySem.W.fnOf name name (defArgs st) (defBody st) (defScope st) .none kV doc pm an cdv ct) ⟨us, []⟩ = pure (ps.zip us)) (len : ps.length = 3)
    (hbody : ∀ (cdv : Value) (A : Around) (outer : List Env) (s : Shared) (H : Hp) (vs : List V) (Q : VK) (E : XK) (M : MS) (p : Prob) (i : Nat) (r : Rule), Room k (A.deeper (envOfC name (defScope st) s.heap.objs.size f cdv)) → ProbOk p → p.rs[i]? = some r →
      S K M (fun _ => False) H [] (gStart N.length [pbD p, .tuple (rgD p.rs.length), .int i]) [] (L2.start N vs) H → (posB p = true → ∀ u H2, Same H H2 → Rep K M H2 u (res p i r) → Q u H2) → (posB p = false → ∀ d H2, Same H H2 → E (.ref C) (some d) H2) →
      ∃ t, PSs (cxOf (L2N.CX P w) P w K mg base N name (defScope st) f cdv A outer s H E) (defBody st) t ∧ t { nx := fun _ H' => Q .non H', rt := Q } (L2.start N vs) H) : CalleeX P w K mg base x (k + 1) ps (spX K C res) := by
  obtain ⟨fd, F⟩ := D.f
  refine ⟨f, fd, D.g, F.kp, F.bindsN hb, F.ok sc (fun vs H Q E h => ?_) fun cdv A outer s H vs Q E hr h => ?_⟩
  · obtain ⟨M, p, i, r, _, _, _, rr, _⟩ := h
    rw [rr.length, len]
    rfl
  · obtain ⟨M, p, i, r, m, po, hi, rr, q, e⟩ := h
    exact hbody cdv A outer s H vs Q E M p i r hr po hi (S.begin0 m rr) q e
/-- a call that may raise, as a statement -/
theorem s_dropX {M0 W M1 : MS} {H0 H : Hp} {O : Ow} {σ : L2.St} {G : Gm} {Ex : List (V × PyData)} {sp : Sp} {E : L2.St → XK} {ta : TA} {ds : List PyData} {D : Ends} {tb : TS} (C : S K M0 W H0 O G Ex σ H) (h : AtA K M1 ta σ H ds)
    (q : ∀ us H', Same H H' → RepL K M1 H' us ds → S K M0 W H0 O G Ex σ H' → sp us H' (fun _ H2 => tb D σ H2) (E σ)) : tSeq (tDrop (tCallS sp E ta)) tb D σ H :=
  s_seq (show tDrop (tCallS sp E ta) _ σ H from h (fun us H2 => sp us H2 (fun _ H3 => tb D σ H3) (E σ)) fun us H2 s r => q us H2 s r (C.same s))
theorem c_check_droppable (D : DefAt K mg "check_droppable" "check_droppable" s_48 f) (B : Bi mg) (c : ClsX K mg C fI) (c_check_index : Callee P w K mg base "check_index" (k + 2) ["problem", "collection", "index"] (PSp K fChkIdx)) (c_can_be : Callee P w K mg base "can_be" (k + 2) ["problem", "collection"] (PSp K fCanBe)) :
    CalleeX P w K mg base "check_droppable" (k + 3) ["problem", "collection", "index"] (spX K C fun _ _ _ => .none) := by
  refine mkX D sc_48 (fun _ _ _ _ _ _ us hl => match us, hl with | [_, _, _], _ => rfl) rfl fun cdv A outer s H vs Q E M p i r hr po hi Cs q e => ?_
  have hlt : i < p.rs.length := (List.getElem?_eq_some_iff.mp hi).1
  obtain ⟨fd, bI, FI⟩ := init_ok (P := P) (w := w) (base := base) (k := k) c
  refine ⟨_, pss_cons (ps_expr (pe_cc c_check_index hr (by rfl) (pa_cons (pv 0) (pa_cons (pv 1) (pa_cons (pv 2) pa_nil)))))
      (pss_one (ps_if (pt_not (pt_val (pe_cc c_can_be hr (by rfl) (pa_cons (pv 0) (pa_cons (pv 1) pa_nil)))))
        (pss_one (L2N.ps_raise rfl (L2N.takes_of rfl rfl rfl rfl) (pmk_new c.ox c.i c.ti FI hr bI (by rfl) c.g (pa_cons pe_str pa_nil)))) pss_nil)), ?_⟩
  refine s_dropq Cs (Ev.at (ev_callF (p, i) ⟨po, hlt⟩ (ea_cons (ev_var rfl) (ea_cons (ev_var rfl) (ea_cons (ev_var rfl) ea_nil)))) Cs.en) fun H1 C1 => ?_
  refine s_if (b := !posB p) C1 (EvT.at (et_not (et_B (ev_callF p po (ea_cons (ev_var rfl) (ea_cons (ev_var rfl) ea_nil))))) C1.low) (fun hb H2 C2 => ?_) fun hb H2 C2 => ?_
  · have hb : posB p = false := by simpa using hb
    refine EvA.at (ds := [.str "contradictory"]) (ea_cons ev_str ea_nil) C2.low _ fun us H3 s3 r3 => ?_
    have sm : Same H H3 := fun a o z => s3 a o (C2.sm a o (fun z => z) z)
    cases r3 with
    | @cons v0 _ _ _ r4 rn =>
      cases rn
      refine ⟨by show 1 ≤ 1000; decide, fun a ha => ⟨a, v0, rfl, upd_same, fun dx h1 h2 => ⟨rfl, dx, [("why", v0)], upd_same, ?_, ?_, ?_⟩⟩⟩
      · rw [upd_ne h2, upd_same]
      · rw [upd_ne h2] at h1
        exact h1
      · rw [upd_ne h2] at h1
        refine e hb dx _ fun b o z => ?_
        have z3 := sm b o z
        have nb : ∀ {y : Addr}, H3 y = none → b ≠ y := fun {y} hy w => by
          rw [w, hy] at z3
          cases z3
        rw [upd_ne (nb h1), del_ne (nb ha), upd_ne (nb ha), upd_ne (nb h1), upd_ne (nb ha)]
        exact z3
  · have hb : posB p = true := by simpa using hb
    exact q hb _ _ (fun a o z => C2.sm a o (fun z => z) z) .non
theorem c_grounds_for (D : DefAt K mg "grounds_for" "grounds_for" s_49 f) (B : Bi mg) (c_check_droppable : CalleeX P w K mg base "check_droppable" k ["problem", "collection", "index"] (spX K C fun _ _ _ => .none)) (c_grounds_of : Callee P w K mg base "grounds_of" k ["problem", "collection", "index"] (PSp K fGrounds)) :
    CalleeX P w K mg base "grounds_for" (k + 1) ["problem", "collection", "index"] (spX K C fun p i r => grD (grounds p.n (agst p.rs i r))) := by
  refine mkX D sc_49 (fun _ _ _ _ _ _ us hl => match us, hl with | [_, _, _], _ => rfl) rfl fun cdv A outer s H vs Q E M p i r hr po hi Cs q e => ?_
  obtain ⟨fc, fdc, g1, g2, g3, F1⟩ := c_check_droppable.ex
  refine ⟨_, pss_cons (ps_expr (pe_callS (E := fun _ => E) F1 hr (by rfl) g1 g2 g3 (fun σ => L2N.passAt (W := fun cls d _ H => E cls d H) (L2N.takes_of rfl rfl rfl rfl) σ) (pa_cons (pv 0) (pa_cons (pv 1) (pa_cons (pv 2) pa_nil)))))
      (pss_one (ps_ret (pe_cc c_grounds_of hr (by rfl) (pa_cons (pv 0) (pa_cons (pv 1) (pa_cons (pv 2) pa_nil)))))), ?_⟩
  refine s_dropX Cs (EvA.at (ds := [pbD p, .tuple (rgD p.rs.length), .int i]) (ea_cons (ev_var (i := 0) rfl) (ea_cons (ev_var (i := 1) rfl) (ea_cons (ev_var (i := 2) rfl) ea_nil))) Cs.low) fun us H1 s1 r1 C1 => ?_
  refine ⟨M, p, i, r, Cs.mo.same (fun a o z => s1 a o (Cs.sm a o (fun z => z) z)), po, hi, r1, fun hb u H2 s2 r2 => ?_, fun hb d H2 s2 => e hb d H2 fun a o z => s2 a o (s1 a o z)⟩
  have C2 := C1.same s2
  exact s_end C2 (fun _ h => h) (Ev.at (ev_callF (p, i, r) ⟨po, hi⟩ (ea_cons (ev_var rfl) (ea_cons (ev_var rfl) (ea_cons (ev_var rfl) ea_nil)))) C2.low) fun u H3 s3 r3 => q hb u H3 s3 r3
end
end Tb
set_option Elab.async false
set_option linter.all false
set_option maxRecDepth 100000
set_option maxHeartbeats 4000000
/-! ## Defs called while an exception is handled -/
namespace Tb
open PySem PySem.Spec PyProof.Rows PySem.W L2 L2H
structure CalleeH (P : Program) (w : World) (K : PySem.W.Frag) (mg : Str → Option Value) (base : Heap) (x : Str) (k : Nat) (ps : List Str) (sp : Sp) : Prop where
  ex : ∃ (f : Addr) (fd : FuncData), mg x = some (.ref f) ∧ PySem.W.keepIn K (.ref f) = true ∧ Binds K fd ps [] ∧ FnH P w K mg base CX0 k f fd ps sp
section
variable {P : Program} {w : World} {K : PySem.W.Frag} {mg : Str → Option Value} {base : Heap} {x name : Str} {j k : Nat} {ps N : List Str} {sp : Sp} {st : Stmt} {f : Addr}
theorem call_nil {t : TA} {σ : L2.St} {H : Hp} {Q : VK} (h : tCall sp [] E0 t σ H Q) : tCallS sp (fun _ => E0) t σ H Q := by
  have e : (fun (vs : List V) (H1 : Hp) => sp (vs ++ []) H1 Q E0) = fun vs H1 => sp vs H1 Q E0 := by
    funext vs H1
    rw [List.append_nil]
  have h : t σ H (fun vs H1 => sp (vs ++ []) H1 Q E0) := h
  rw [e] at h
  exact h
theorem pe_ch {X : Cx} {e : Expr} {es : List Expr} {t : TA} {p pos : Pos} (C : CalleeH X.prog X.w X.K X.mg X.base x k ps sp) (hr : RoomH k X.A) (hc : HotC X) (hg : Gl X x) (ha : PA X (e :: es) t) (hdb : (x == ("__debug__" : Str)) = false := by decide)
    (he : starEach (e :: es) X.env = (false, eval e X.env) :: starEach es X.env := by rfl) (hpl : (backTo pos (starEach es X.env)).any (·.1) = false := by rfl) : PE X (.Call (.Name x p) (e :: es) [] pos) (tCall sp [] E0 t) := by
  obtain ⟨f, fd, h1, h2, h3, h4⟩ := C.ex
  exact ⟨fun pins s σ H Q I h => (L2H.pe_callH (E := fun _ => E0) h4 hr hc hg h1 h2 h3 (fun _ _ _ _ _ _ _ z => False.elim z) ha hdb he hpl).run pins s σ H Q I (call_nil h)⟩
theorem pe_ch0 {X : Cx} {p pos : Pos} (C : CalleeH X.prog X.w X.K X.mg X.base x k ps sp) (hr : RoomH k X.A) (hc : HotC X) (hg : Gl X x) (hdb : (x == ("__debug__" : Str)) = false := by decide) : PE X (.Call (.Name x p) [] [] pos) (tCall sp [] E0 tNil) := by
  obtain ⟨f, fd, h1, h2, h3, h4⟩ := C.ex
  exact ⟨fun pins s σ H Q I h => wpAny_Call_Name_kw (ld_glob I hg h1 (PySem.W.callWith_K0 I.kIn h2 (L2H.run_fnH (us := []) (E := fun _ => E0) h4 hr hc h3 (fun _ _ _ _ _ _ z => False.elim z) I .nil (call_nil h))) hdb)⟩
theorem hotC_in {CX : CXT} {qual : Str} {scope : Scope} {cd : Value} {A : Around} {outer : List Env} {s : Shared} {H : Hp} {E : XK} {p : Addr × Obj} (h : Hot1 A p) : HotC (cxH CX P w K mg base N qual scope f cd A outer s H E p) := ⟨p, ⟨h.1, h.2⟩, List.mem_cons_self⟩
theorem mkFH {α : Type} {pre : α → Prop} {enc : α → List PyData} {res : α → PyData} (D : DefAt K mg x name st f) (sc : FnScope N ps (defScope st))
    (hb : ∀ (kV doc pm : Value) (an : Option Addr) (cdv ct : Value) (us : List Value), us.length = ps.length → bindArgs (PySem.W.fnOf name name (defArgs st) (defBody st) (defScope st) .none kV doc pm an cdv ct) ⟨us, []⟩ = pure (ps.zip us))
    (len : ∀ z, (enc z).length = ps.length)
    (hbody : ∀ (cdv : Value) (A : Around) (outer : List Env) (s : Shared) (H : Hp) (vs : List V) (Q : VK) (E : XK) (M : MS) (z : α) (p : Addr × Obj), Hot1 A p → RoomH k (A.deeper (envOfC name (defScope st) s.heap.objs.size f cdv)) → pre z →
      S K M (fun _ => False) H [] (gStart N.length (enc z)) [] (L2.start N vs) H → (∀ w H2, Same H H2 → Rep K M H2 w (res z) → Q w H2) →
      ∃ t, PSs (cxH CX0 P w K mg base N name (defScope st) f cdv A outer s H E p) (defBody st) t ∧ t { nx := fun _ H' => Q .non H', rt := Q } (L2.start N vs) H) : CalleeH P w K mg base x (k + 1) ps (PSp K (FSpec pre enc res)) := by
  obtain ⟨fd, F⟩ := D.f
  have F0 := F
  obtain ⟨oc, od, dV, kV, doc, pm, an, cdv, ct, osl, rfl, lk, hcd, _, _⟩ := F0.ex
  refine ⟨f, _, D.g, F.kp, F.bindsN hb, fn_ofH lk hcd sc (psp_len fun ds d h => ?_) fun A outer s H vs Q E p hot hr h => ?_⟩
  · obtain ⟨z, _, rfl, _⟩ := h
    exact len z
  · obtain ⟨M, ds, d, m, r, ⟨z, hp, rfl, rfl⟩, q⟩ := h
    exact hbody cdv A outer s H vs Q E M z p hot hr hp (S.begin0 m r) q
end
end Tb
set_option Elab.async false
set_option linter.all false
set_option maxRecDepth 100000
set_option maxHeartbeats 4000000
/-! ## _law_told's except suite: what it calls -/
namespace Tb
open PySem PySem.Spec PyProof.Rows PySem.W L2 L2H
section
variable {P : Program} {w : World} {K : PySem.W.Frag} {mg : Str → Option Value} {base : Heap} {k : Nat} {f : Addr}
theorem h__law_relations (D : DefAt K mg "_law_relations" "_law_relations" s_64 f) : CalleeH P w K mg base "_law_relations" (k + 1) [] (PSp K fRels) := by
  refine mkFH D sc_64 (fun _ _ _ _ _ _ us hl => match us, hl with | [], _ => rfl) (fun _ => rfl) fun cdv A outer s H vs Q E M z pin hot hr hp C q => ?_
  refine ⟨_, (pss_one (ps_ret (pe_lst (pa_cons pe_str (pa_cons pe_str (pa_cons pe_str pa_nil)))))), ?_⟩
  exact s_end C (fun _ h => h) (Ev.at (ev_lst (ea_cons ev_str (ea_cons ev_str (ea_cons ev_str ea_nil))) (show 3 ≤ 1000 by decide)) C.low) q
theorem h__law_less (D : DefAt K mg "_law_less" "_law_less" s_72 f) (B : Bi mg) : CalleeH P w K mg base "_law_less" (k + 1) ["_law_collection", "_law_index"] (PSp K fLess) := by
  refine mkFH D sc_72 (fun _ _ _ _ _ _ us hl => match us, hl with | [_, _], _ => rfl) (fun _ => rfl) fun cdv A outer s H vs Q E M z pin hot hr hp C q => ?_
  obtain ⟨m, i⟩ := z
  have hp : m ≤ 1000 := hp
  refine ⟨_, (pss_one (ps_ret (pe_callTy (kTupC K rfl) (by rfl) B.tuple_ (by decide +kernel) (pa_cons (pe_lcH (own := [("_law_at", 2)]) (hotC_in hot) sc_72.nd (kpTH K rfl (pv 0)) (blkOk_by (own := [("_law_at", 2)]) (N := ["_law_collection", "_law_index", "_law_at"]) (sc := defScope s_72) (by decide +kernel)) (fun _ _ _ _ _ => (pg_name (i := 2) sc_72.nd rfl (.inl rfl))) (fun _ _ _ _ _ => (pts_one (pt_cmpR op_ne (pv 2) (pv 1) (by rfl)))) (fun _ _ _ _ _ => (pv 2))) pa_nil)))), ?_⟩
  exact s_end C (fun _ h => h) (Ev.at (ev_cb (ea_cons (ev_lc (is := [2]) (List.range m) (fun (i : Nat) => PyData.int i) (fun j => !decide ((j : Int) = (i : Int))) (fun (i : Nat) => PyData.int i) (ei_tup (ev_var rfl)) (fun i h => h) (fun j hj => ⟨_, g_name, et_test (ev_op (ev_var rfl) (ev_var rfl) rv_neI), fun _ => ev_var rfl⟩) (by rw [List.length_range]; omega)) ea_nil) rc_tupL) C.low) q
theorem h__law_by (D : DefAt K mg "_law_by" "_law_by" s_71 f) (B : Bi mg) : CalleeH P w K mg base "_law_by" (k + 1) ["_law_problem_here", "_law_collection"] (PSp K fProbBy) := by
  refine mkFH D sc_71 (fun _ _ _ _ _ _ us hl => match us, hl with | [_, _], _ => rfl) (fun _ => rfl) fun cdv A outer s H vs Q E M z pin hot hr hp C q => ?_
  obtain ⟨p, ixs⟩ := z
  obtain ⟨h1, h2⟩ := hp
  have h2 : ixs.length ≤ 1000 := h2
  refine ⟨_, (pss_one (ps_ret (pe_tup (pa_cons (pe_ix (kIx K rfl) (pv 0) pe_int (fun _ _ => rfl)) (pa_cons (pe_callTy (kTupC K rfl) (by rfl) B.tuple_ (by decide +kernel) (pa_cons (pe_lcH (own := [("_law_at", 2)]) (hotC_in hot) sc_71.nd (kpTH K rfl (pv 1)) (blkOk_by (own := [("_law_at", 2)]) (N := ["_law_problem_here", "_law_collection", "_law_at"]) (sc := defScope s_71) (by decide +kernel)) (fun _ _ _ _ _ => (pg_name (i := 2) sc_71.nd rfl (.inl rfl))) (fun _ _ _ _ _ => pts_nil) (fun _ _ _ _ _ => (pe_ix (kIx K rfl) (pe_ix (kIx K rfl) (pv 0) pe_int (fun _ _ => rfl)) (pv 2) (fun _ _ => rfl)))) pa_nil)) pa_nil))))), ?_⟩
  refine s_end C (fun _ h => h) (Ev.at (ev_is (ev_tup (ea_cons (ev_op (ev_var rfl) ev_int (rv_ixT atI_0)) (ea_cons (ev_cb (ea_cons (ev_lc1 (is := [2]) ixs (fun (i : Nat) => PyData.int i) (fun i => rlD (p.rs.getD i r0)) (ei_tup (ev_var rfl)) (fun i h => h) (fun i hi => ⟨_, g_name, ev_op (ev_op (ev_var rfl) ev_int (rv_ixT atI_1)) (ev_var rfl) (rv_ixT (rule_at (h1 i hi)))⟩) (by omega)) ea_nil) rc_tupL) ea_nil)) (show 2 ≤ 1000 by decide)) ?_) C.low) q
  show PyData.tuple [.int p.n, .tuple (ixs.map fun i => rlD (p.rs.getD i r0))] = .tuple [.int p.n, .tuple ((ixs.map fun i => p.rs.getD i r0).map rlD)]
  rw [List.map_map]
  rfl
theorem h__law_against (D : DefAt K mg "_law_against" "_law_against" s_77 f) (B : Bi mg) (h__law_by : CalleeH P w K mg base "_law_by" k ["_law_problem_here", "_law_collection"] (PSp K fProbBy)) (h__law_less : CalleeH P w K mg base "_law_less" k ["_law_collection", "_law_index"] (PSp K fLess)) (h__law_relations : CalleeH P w K mg base "_law_relations" k [] (PSp K fRels)) :
    CalleeH P w K mg base "_law_against" (k + 1) ["_law_problem_here", "_law_collection", "_law_index"] (PSp K fAgainst) := by
  refine mkFH D sc_77 (fun _ _ _ _ _ _ us hl => match us, hl with | [_, _, _], _ => rfl) (fun _ => rfl) fun cdv A outer s H vs Q E M z pin hot hr hp C q => ?_
  obtain ⟨p, i, r⟩ := z
  obtain ⟨po, hi⟩ := hp
  have hi : p.rs[i]? = some r := hi
  have hl : p.rs.length ≤ 20 := po.len
  have hlt := (List.getElem?_eq_some_iff.mp hi).1
  have er : p.rs.getD i r0 = r := by rw [List.getD_eq_getElem?_getD, hi]; rfl
  refine ⟨_, (pss_cons (ps_asg (pe_ix (kIx K rfl) (pe_ix (kIx K rfl) (pv 0) pe_int (fun _ _ => rfl)) (pv 2) (fun _ _ => rfl)) (kgTH 3 K rfl (hotC_in hot) (pgs_cons (pg_name (i := 3) sc_77.nd rfl (.inr rfl)) (pgs_cons (pg_name (i := 4) sc_77.nd rfl (.inr rfl)) (pgs_cons (pg_name (i := 5) sc_77.nd rfl (.inr rfl)) pgs_nil)))))
      (pss_cons (ps_set (i := 6) sc_77.nd rfl (.inr rfl) (pe_ch h__law_by hr (hotC_in hot) (by rfl) (pa_cons (pv 0) (pa_cons (pe_ch h__law_less hr (hotC_in hot) (by rfl) (pa_cons (pv 1) (pa_cons (pv 2) pa_nil))) pa_nil))))
      (pss_one (ps_ret (pe_lcH (own := [("_law_one", 7)]) (hotC_in hot) sc_77.nd (kpLH K rfl (pe_ch0 h__law_relations hr (hotC_in hot) (by rfl))) (blkOk_by (own := [("_law_one", 7)]) (N := ["_law_problem_here", "_law_collection", "_law_index", "_law_first", "_law_relations_here", "_law_second", "_law_others", "_law_one"]) (sc := defScope s_77) (by decide +kernel)) (fun _ _ _ _ _ => (pg_name (i := 7) sc_77.nd rfl (.inl rfl))) (fun _ _ _ _ _ => (pts_one (pt_cmpR (kNi K rfl) (pv 7) (pv 4) (by rfl)))) (fun _ _ _ _ _ => (pe_tup (pa_cons (pe_ix (kIx K rfl) (pv 6) pe_int (fun _ _ => rfl)) (pa_cons (pe_op (kCatA K rfl) (pe_ix (kIx K rfl) (pv 6) pe_int (fun _ _ => rfl)) (pe_tup (pa_cons (pe_tup (pa_cons (pv 3) (pa_cons (pe_tup (pa_cons (pv 7) pa_nil)) (pa_cons (pv 5) pa_nil)))) pa_nil))) pa_nil))))))))), ?_⟩
  refine s_asgq (d := rlD r) (is := [3] ++ ([4] ++ ([5] ++ []))) C (Ev.at (ev_op (ev_op (ev_var rfl) ev_int (rv_ixT atI_1)) (ev_var rfl) (rv_ixT (by rw [rule_at hlt, er]))) C.en) (g_tup (gs_cons g_name (gs_cons g_name (gs_cons g_name gs_nil))) rfl) fun σ2 H2 C2 => ?_
  refine s_setq C2 (Ev.at (d := pbD ⟨p.n, p.rs.eraseIdx i⟩) (ev_is (ev_callF (p, lessI p.rs.length i) ⟨fun j hj => ?_, ?_⟩ (ea_cons (ev_var rfl) (ea_cons (ev_callF (p.rs.length, i) (by dsimp only; omega) (ea_cons (ev_var rfl) (ea_cons (ev_var rfl) ea_nil))) ea_nil))) ?_) C2.en) fun σ3 H3 C3 => ?_
  · exact List.mem_range.mp (List.mem_filter.mp hj).1
  · refine Nat.le_trans (List.length_filter_le _ _) ?_
    rw [List.length_range]
    omega
  · show pbD ⟨p.n, pick p.rs (lessI p.rs.length i)⟩ = _
    rw [pick_less hlt]
  refine s_end C3 (fun _ h => h) (Ev.at (ev_is (ev_lc (is := [7]) R3.all (fun r => .str r.s) (fun x => !decide (x ∈ r.al)) (fun x => pbD ⟨p.n, p.rs.eraseIdx i ++ [⟨r.x, [x], r.y⟩]⟩) (ei_list (by rw [← wds_eq]; exact ev_callF () trivial ea_nil)) (fun i h => h) (fun x hx => ⟨_, g_name, et_test (ev_op (ev_var rfl) (ev_var rfl) rv_niRT), fun _ => ev_is (ev_tup (ea_cons (ev_op (ev_var rfl) ev_int (rv_ixT atI_0)) (ea_cons (ev_op (ev_op (ev_var rfl) ev_int (rv_ixT atI_1)) (ev_tup (ea_cons (ev_tup (ea_cons (ev_var rfl) (ea_cons (ev_tup (ea_cons (ev_var rfl) ea_nil) (show 1 ≤ 1000 by decide)) (ea_cons (ev_var rfl) ea_nil))) (show 3 ≤ 1000 by decide)) ea_nil) (show 1 ≤ 1000 by decide)) (rv_catA ?_)) ea_nil)) (show 2 ≤ 1000 by decide)) ?_⟩) (by decide)) ?_) C3.low) q
  · rw [List.length_map, List.length_eraseIdx, if_pos hlt]
    show p.rs.length - 1 + 1 ≤ 100000
    omega
  · unfold pbD
    rw [List.map_append]
    rfl
  · unfold agst
    rw [List.map_map]
    rfl
end
end Tb
set_option Elab.async false
set_option linter.all false
set_option maxRecDepth 100000
set_option maxHeartbeats 4000000
/-! ## _law_told -/
namespace Tb
open PySem PySem.Spec PyProof.Rows PySem.W L2 L2H
abbrev s_81 : Stmt := top 81
theorem sc_81 : FnScope ["_law_problem_here", "_law_collection", "_law_index"] ["_law_problem_here", "_law_collection", "_law_index"] (defScope s_81) := ⟨rfl, rfl, rfl, by decide +kernel, rfl, by decide +kernel, by decide +kernel⟩
theorem nothing_out {X : Cx} : L2N.Takes X (fun _ _ _ _ => False) := fun _ _ z => by
  obtain ⟨_, _, _, _, _, _, _, _, _, _, _, _, _, _, _, _, z⟩ := z
  exact z.elim
section
variable {P : Program} {w : World} {K : PySem.W.Frag} {mg : Str → Option Value} {base : Heap} {k : Nat} {C fI f : Addr}
theorem c__law_told (D : DefAt K mg "_law_told" "_law_told" s_81 f) (B : Bi mg) (c : ClsX K mg C fI) (c_grounds_for : CalleeX P w K mg base "grounds_for" k ["problem", "collection", "index"] (spX K C fun p i r => grD (grounds p.n (agst p.rs i r))))
    (h__law_against : CalleeH P w K mg base "_law_against" k ["_law_problem_here", "_law_collection", "_law_index"] (PSp K fAgainst)) : Callee P w K mg base "_law_told" (k + 1) ["_law_problem_here", "_law_collection", "_law_index"] (PSp K fToldL) := by
  refine mkF D sc_81 (fun _ _ _ _ _ _ us hl => match us, hl with | [_, _, _], _ => rfl) (fun _ => rfl) fun cdv A outer s H vs Q E M z hr hp Cs q => ?_
  obtain ⟨p, i, r⟩ := z
  have hp : ProbOk p ∧ p.rs[i]? = some r := hp
  have q : ∀ w H2, Same H H2 → Rep K M H2 w (toldD p i r) → Q w H2 := q
  have hl3 : (agst p.rs i r).length ≤ 3 := agst_len
  obtain ⟨fc, fdc, g1, g2, g3, F1⟩ := c_grounds_for.ex
  refine ⟨_, pss_one (L2N.ps_try_many (Wout := fun _ _ _ _ => False) (tb := fun W => tRet (tCallS (spX K C fun p i r => grD (grounds p.n (agst p.rs i r))) (WE W) (tCons (tVar 0) (tCons (tVar 1) (tCons (tVar 2) tNil))))) rfl rfl nothing_out
    (fun W pn xe tk _ => pss_one (ps_ret (pe_callS F1 hr (by rfl) g1 g2 g3 (fun σ => L2N.passAt tk σ) (pa_cons (pv 0) (pa_cons (pv 1) (pa_cons (pv 2) pa_nil))))))
    (L2N.HdsOk.cons (c := .ref C) (ts := fun _ _ _ => tRet (tOp (rMulT K) (tTup (tCons (tTup (tCons (tC (.int 0)) (tCons (tC (.int 1)) tNil))) tNil)) (tCB (fun xs H Q => ∃ p ys, xs = [.ref p] ∧ (SqL K H p ys ∨ SqT K H p ys) ∧ Q (.int ys.length) H) (tCons (tCall (PSp K fAgainst) [] E0 (tCons (tVar 0) (tCons (tVar 1) (tCons (tVar 2) tNil)))) tNil)))) ⟨by rfl, by decide, .inl c.g⟩
      (fun a oe cls d pn hz hf => pss_one (ps_ret (pe_op (kMulT K rfl) (pe_tup (pa_cons (pe_tup (pa_cons pe_int (pa_cons pe_int pa_nil))) pa_nil)) (pe_callB (kLen K rfl) (by rfl) B.len_ (by decide +kernel) (pa_cons (pe_ch h__law_against ⟨hr.dp, hr.un⟩ (by
          obtain ⟨ws, hw⟩ := hf
          exact ⟨(a, oe), ⟨rfl, ws, hw, hz.2.2 ws hw⟩, List.mem_cons_self⟩) (by rfl) (pa_cons (pv 0) (pa_cons (pv 1) (pa_cons (pv 2) pa_nil)))) pa_nil))))) .nil)), ?_⟩
  refine (EvA.at (ds := [pbD p, .tuple (rgD p.rs.length), .int i]) (ea_cons (ev_var (i := 0) rfl) (ea_cons (ev_var (i := 1) rfl) (ea_cons (ev_var (i := 2) rfl) ea_nil))) Cs.low) (fun us H1 => spX K C (fun p i r => grD (grounds p.n (agst p.rs i r))) us H1 Q _) fun us H1 s1 r1 => ?_
  refine ⟨M, p, i, r, Cs.mo.same (fun a o z => s1 a o (Cs.sm a o (fun z => z) z)), hp.1, hp.2, r1, fun hb u H2 s2 r2 => ?_, fun hb d H2 s2 => ⟨true, c.one, fun _ a _ => ?_, fun h => nomatch h⟩⟩
  · have e : toldD p i r = grD (grounds p.n (agst p.rs i r)) := if_pos hb
    rw [e] at q
    exact q u H2 (fun a o z => s2 a o (s1 a o z)) r2
  · have e : toldD p i r = .tuple ((List.replicate (agst p.rs i r).length ([0, 1] : List Int)).map setD) := if_neg (by rw [hb]; decide)
    rw [e] at q
    have C2 := (Cs.same s1).same s2
    refine s_end (d := .tuple ((List.replicate (agst p.rs i r).length ([0, 1] : List Int)).map setD)) C2 (fun _ h => h) (Ev.at (ev_is (ev_op (ev_tup (ea_cons (ev_tup (ea_cons ev_int (ea_cons ev_int ea_nil)) (show 2 ≤ 1000 by decide)) ea_nil) (show 1 ≤ 1000 by decide)) (ev_is (ev_cb (ea_cons (ev_callF (p, i, r) hp (ea_cons (ev_var (i := 0) rfl) (ea_cons (ev_var (i := 1) rfl) (ea_cons (ev_var (i := 2) rfl) ea_nil)))) ea_nil) rc_lenL) (by rw [List.length_map])) (rv_mulT (by simp) (by omega) (show (((agst p.rs i r).length : Nat) : Int) ≤ 1000 by omega) (by decide))) ?_) C2.low) q
    rw [List.map_replicate]
    congr 1
    generalize (agst p.rs i r).length = m
    show (List.replicate (Int.toNat (m : Int)) [setD [0, 1]]).flatten = _
    rw [Int.toNat_natCast]
    induction m with
    | zero => rfl
    | succ m ih =>
      rw [List.replicate_succ, List.flatten_cons, ih, List.replicate_succ]
      rfl
end
end Tb
set_option Elab.async false
set_option linter.all false
set_option maxRecDepth 100000
set_option maxHeartbeats 4000000
/-! ## The join -/
namespace Tb
open PySem PySem.Spec PyProof.Rows PySem.W L2 L2H
section
variable {P : Program} {w : World} {K : PySem.W.Frag} {h base : Heap} {mg : Str → Option Value}
theorem bi_of (X : K.In h) (G : h.Ns mainGlobals mg) (c : He.SaysD TbH.fa TbH.fn K) : Bi mg where
  isinstance_ := He.free_ok X G (c.fact 69 (f := .free "isinstance") rfl)
  int_ := He.free_ok X G (c.fact 70 (f := .free "int") rfl)
  bool_ := He.free_ok X G (c.fact 74 (f := .free "bool") rfl)
  str_ := He.free_ok X G (c.fact 76 (f := .free "str") rfl)
  tuple_ := He.free_ok X G (c.fact 72 (f := .free "tuple") rfl)
  list_ := He.free_ok X G (c.fact 80 (f := .free "list") rfl)
  len_ := He.free_ok X G (c.fact 77 (f := .free "len") rfl)
  all_ := He.free_ok X G (c.fact 75 (f := .free "all") rfl)
  min_ := He.free_ok X G (c.fact 71 (f := .free "min") rfl)
  sorted_ := He.free_ok X G (c.fact 73 (f := .free "sorted") rfl)
  range_ := He.free_ok X G (c.fact 78 (f := .free "range") rfl)
  zip_ := He.free_ok X G (c.fact 79 (f := .free "zip") rfl)
  abs_ := He.free_ok X G (c.fact 81 (f := .free "abs") rfl)
theorem ktup_of {a : Addr} {vs : List V} (s : SqT K (fun _ => none) a vs) : KTup K a vs := by
  rcases s with (s | ⟨o, s⟩) | s
  · cases s
  · cases s
  · exact s
theorem cs_of (X : K.In h) (G : h.Ns mainGlobals mg) (c : He.SaysT TbH.fa TbH.fn TbH.ts w K) (hR : He.tupB K "RELATIONS" [.str "before", .str "beside", .str "after"] = true) (hO : He.valsB K (He.ga K "OPPOSITES") TbH.opp = true) : Cs K w mg (He.ga K "RELATIONS") (He.ga K "OPPOSITES") where
  gR := He.glo_ok X G (c.d.fact 67 (f := .glo "RELATIONS") rfl)
  kR := ktup_of (He.tupB_ok hR _)
  gO := He.glo_ok X G (c.d.fact 68 (f := .glo "OPPOSITES") rfl)
  kO := fun r => by
    obtain ⟨es, n, d⟩ := c.tab 0
    have hq : (r.s, He.Dv.str r.opp.s) ∈ TbH.opp := by
      cases r
      · exact .head _
      · exact .tail _ (.head _)
      · exact .tail _ (.tail _ (.head _))
    obtain ⟨u, h1, h2⟩ := He.valsB_ok hO hq
    exact ⟨es, n, u, d.at_, d.lit, h1, h2⟩
  gT := He.int_ok X G (c.d.fact 82 (f := .int "MOST_TASKS" 7) rfl)
  gU := He.int_ok X G (c.d.fact 83 (f := .int "MOST_RULES" 20) rfl)
theorem cls_of (X : K.In h) (G : h.Ns mainGlobals mg) (c : He.SaysD TbH.fa TbH.fn K) (hx : TbH.exB K = true) (hc : TbH.clsB K = true) : ClsX K mg (He.ga K "NotPossible") (He.ma K (He.ga K "NotPossible") "__init__") := by
  unfold TbH.clsB at hc
  simp only [Bool.and_eq_true, decide_eq_true_eq] at hc
  obtain ⟨h1, h2, h3, h4, h5, h6, h7, h8⟩ := hc
  exact ⟨He.glo_ok X G (c.fact 66 (f := .glo "NotPossible") rfl), ⟨TbH.exB_ok hx, He.eqO_ok h1, h2, h3, h4⟩, He.eqO_ok h6, h7, He.eqO_ok h5, h8, c.def_ 66 (d := TbH.dI) rfl⟩
theorem D_is_integer (X : K.In h) (G : h.Ns mainGlobals mg) (c : He.SaysD TbH.fa TbH.fn K) : DefAt K mg "is_integer" "is_integer" s_15 (He.ga K "is_integer") := ⟨He.glo_ok X G (c.fact 4 (f := .glo "is_integer") rfl), c.def_ 4 (d := TbH.d15) rfl⟩
theorem D_is_task_rules (X : K.In h) (G : h.Ns mainGlobals mg) (c : He.SaysD TbH.fa TbH.fn K) : DefAt K mg "is_task_rules" "is_task" s_16 (He.ga K "is_task_rules") := ⟨He.glo_ok X G (c.fact 5 (f := .glo "is_task_rules") rfl), c.def_ 5 (d := TbH.d16) rfl⟩
theorem D_is_task_sticking (X : K.In h) (G : h.Ns mainGlobals mg) (c : He.SaysD TbH.fa TbH.fn K) : DefAt K mg "is_task_sticking" "is_task" s_26 (He.ga K "is_task_sticking") := ⟨He.glo_ok X G (c.fact 13 (f := .glo "is_task_sticking") rfl), c.def_ 13 (d := TbH.d26) rfl⟩
theorem D_opposite (X : K.In h) (G : h.Ns mainGlobals mg) (c : He.SaysD TbH.fa TbH.fn K) : DefAt K mg "opposite" "opposite" s_10 (He.ga K "opposite") := ⟨He.glo_ok X G (c.fact 3 (f := .glo "opposite") rfl), c.def_ 3 (d := TbH.d10) rfl⟩
theorem D_is_allowed (X : K.In h) (G : h.Ns mainGlobals mg) (c : He.SaysD TbH.fa TbH.fn K) : DefAt K mg "is_allowed" "is_allowed" s_18 (He.ga K "is_allowed") := ⟨He.glo_ok X G (c.fact 6 (f := .glo "is_allowed") rfl), c.def_ 6 (d := TbH.d18) rfl⟩
theorem D_is_rule (X : K.In h) (G : h.Ns mainGlobals mg) (c : He.SaysD TbH.fa TbH.fn K) : DefAt K mg "is_rule" "is_rule" s_19 (He.ga K "is_rule") := ⟨He.glo_ok X G (c.fact 7 (f := .glo "is_rule") rfl), c.def_ 7 (d := TbH.d19) rfl⟩
theorem D_is_size (X : K.In h) (G : h.Ns mainGlobals mg) (c : He.SaysD TbH.fa TbH.fn K) : DefAt K mg "is_size" "is_size" s_20 (He.ga K "is_size") := ⟨He.glo_ok X G (c.fact 8 (f := .glo "is_size") rfl), c.def_ 8 (d := TbH.d20) rfl⟩
theorem D_is_problem (X : K.In h) (G : h.Ns mainGlobals mg) (c : He.SaysD TbH.fa TbH.fn K) : DefAt K mg "is_problem" "is_problem" s_21 (He.ga K "is_problem") := ⟨He.glo_ok X G (c.fact 9 (f := .glo "is_problem") rfl), c.def_ 9 (d := TbH.d21) rfl⟩
theorem D_check_problem (X : K.In h) (G : h.Ns mainGlobals mg) (c : He.SaysD TbH.fa TbH.fn K) : DefAt K mg "check_problem" "check_problem" s_22 (He.ga K "check_problem") := ⟨He.glo_ok X G (c.fact 10 (f := .glo "check_problem") rfl), c.def_ 10 (d := TbH.d22) rfl⟩
theorem D_opposites (X : K.In h) (G : h.Ns mainGlobals mg) (c : He.SaysD TbH.fa TbH.fn K) : DefAt K mg "opposites" "opposites" s_23 (He.ga K "opposites") := ⟨He.glo_ok X G (c.fact 11 (f := .glo "opposites") rfl), c.def_ 11 (d := TbH.d23) rfl⟩
theorem D_allowed_of (X : K.In h) (G : h.Ns mainGlobals mg) (c : He.SaysD TbH.fa TbH.fn K) : DefAt K mg "allowed_of" "allowed_of" s_24 (He.ga K "allowed_of") := ⟨He.glo_ok X G (c.fact 12 (f := .glo "allowed_of") rfl), c.def_ 12 (d := TbH.d24) rfl⟩
theorem D_ties (X : K.In h) (G : h.Ns mainGlobals mg) (c : He.SaysD TbH.fa TbH.fn K) : DefAt K mg "ties" "ties" s_29 (He.ga K "ties") := ⟨He.glo_ok X G (c.fact 15 (f := .glo "ties") rfl), c.def_ 15 (d := TbH.d29) rfl⟩
theorem D_bars (X : K.In h) (G : h.Ns mainGlobals mg) (c : He.SaysD TbH.fa TbH.fn K) : DefAt K mg "bars" "bars" s_30 (He.ga K "bars") := ⟨He.glo_ok X G (c.fact 16 (f := .glo "bars") rfl), c.def_ 16 (d := TbH.d30) rfl⟩
theorem D_is_set (X : K.In h) (G : h.Ns mainGlobals mg) (c : He.SaysD TbH.fa TbH.fn K) : DefAt K mg "is_set" "is_set" s_28 (He.ga K "is_set") := ⟨He.glo_ok X G (c.fact 14 (f := .glo "is_set") rfl), c.def_ 14 (d := TbH.d28) rfl⟩
theorem D_reach (X : K.In h) (G : h.Ns mainGlobals mg) (c : He.SaysD TbH.fa TbH.fn K) : DefAt K mg "reach" "reach" s_31 (He.ga K "reach") := ⟨He.glo_ok X G (c.fact 17 (f := .glo "reach") rfl), c.def_ 17 (d := TbH.d31) rfl⟩
theorem D_told_split (X : K.In h) (G : h.Ns mainGlobals mg) (c : He.SaysD TbH.fa TbH.fn K) : DefAt K mg "told_split" "told_split" s_32 (He.ga K "told_split") := ⟨He.glo_ok X G (c.fact 18 (f := .glo "told_split") rfl), c.def_ 18 (d := TbH.d32) rfl⟩
theorem D_stuck (X : K.In h) (G : h.Ns mainGlobals mg) (c : He.SaysD TbH.fa TbH.fn K) : DefAt K mg "stuck" "stuck" s_33 (He.ga K "stuck") := ⟨He.glo_ok X G (c.fact 19 (f := .glo "stuck") rfl), c.def_ 19 (d := TbH.d33) rfl⟩
theorem D_all_tasks (X : K.In h) (G : h.Ns mainGlobals mg) (c : He.SaysD TbH.fa TbH.fn K) : DefAt K mg "all_tasks" "all_tasks" s_5 (He.ga K "all_tasks") := ⟨He.glo_ok X G (c.fact 0 (f := .glo "all_tasks") rfl), c.def_ 0 (d := TbH.d5) rfl⟩
theorem D_least_task (X : K.In h) (G : h.Ns mainGlobals mg) (c : He.SaysD TbH.fa TbH.fn K) : DefAt K mg "least_task" "least_task" s_6 (He.ga K "least_task") := ⟨He.glo_ok X G (c.fact 1 (f := .glo "least_task") rfl), c.def_ 1 (d := TbH.d6) rfl⟩
theorem D_normal_of (X : K.In h) (G : h.Ns mainGlobals mg) (c : He.SaysD TbH.fa TbH.fn K) : DefAt K mg "normal_of" "normal_of" s_7 (He.ga K "normal_of") := ⟨He.glo_ok X G (c.fact 2 (f := .glo "normal_of") rfl), c.def_ 2 (d := TbH.d7) rfl⟩
theorem D_joined (X : K.In h) (G : h.Ns mainGlobals mg) (c : He.SaysD TbH.fa TbH.fn K) : DefAt K mg "joined" "joined" s_35 (He.ga K "joined") := ⟨He.glo_ok X G (c.fact 20 (f := .glo "joined") rfl), c.def_ 20 (d := TbH.d35) rfl⟩
theorem D_taken_apart (X : K.In h) (G : h.Ns mainGlobals mg) (c : He.SaysD TbH.fa TbH.fn K) : DefAt K mg "taken_apart" "taken_apart" s_36 (He.ga K "taken_apart") := ⟨He.glo_ok X G (c.fact 21 (f := .glo "taken_apart") rfl), c.def_ 21 (d := TbH.d36) rfl⟩
theorem D_solved (X : K.In h) (G : h.Ns mainGlobals mg) (c : He.SaysD TbH.fa TbH.fn K) : DefAt K mg "solved" "solved" s_37 (He.ga K "solved") := ⟨He.glo_ok X G (c.fact 22 (f := .glo "solved") rfl), c.def_ 22 (d := TbH.d37) rfl⟩
theorem D_is_collection (X : K.In h) (G : h.Ns mainGlobals mg) (c : He.SaysD TbH.fa TbH.fn K) : DefAt K mg "is_collection" "is_collection" s_39 (He.ga K "is_collection") := ⟨He.glo_ok X G (c.fact 23 (f := .glo "is_collection") rfl), c.def_ 23 (d := TbH.d39) rfl⟩
theorem D_check_collection (X : K.In h) (G : h.Ns mainGlobals mg) (c : He.SaysD TbH.fa TbH.fn K) : DefAt K mg "check_collection" "check_collection" s_40 (He.ga K "check_collection") := ⟨He.glo_ok X G (c.fact 24 (f := .glo "check_collection") rfl), c.def_ 24 (d := TbH.d40) rfl⟩
theorem D_check_index (X : K.In h) (G : h.Ns mainGlobals mg) (c : He.SaysD TbH.fa TbH.fn K) : DefAt K mg "check_index" "check_index" s_41 (He.ga K "check_index") := ⟨He.glo_ok X G (c.fact 25 (f := .glo "check_index") rfl), c.def_ 25 (d := TbH.d41) rfl⟩
theorem D_problem_by (X : K.In h) (G : h.Ns mainGlobals mg) (c : He.SaysD TbH.fa TbH.fn K) : DefAt K mg "problem_by" "problem_by" s_42 (He.ga K "problem_by") := ⟨He.glo_ok X G (c.fact 26 (f := .glo "problem_by") rfl), c.def_ 26 (d := TbH.d42) rfl⟩
theorem D_less (X : K.In h) (G : h.Ns mainGlobals mg) (c : He.SaysD TbH.fa TbH.fn K) : DefAt K mg "less" "less" s_43 (He.ga K "less") := ⟨He.glo_ok X G (c.fact 27 (f := .glo "less") rfl), c.def_ 27 (d := TbH.d43) rfl⟩
theorem D_plan_by (X : K.In h) (G : h.Ns mainGlobals mg) (c : He.SaysD TbH.fa TbH.fn K) : DefAt K mg "plan_by" "plan_by" s_44 (He.ga K "plan_by") := ⟨He.glo_ok X G (c.fact 28 (f := .glo "plan_by") rfl), c.def_ 28 (d := TbH.d44) rfl⟩
theorem D_can_be (X : K.In h) (G : h.Ns mainGlobals mg) (c : He.SaysD TbH.fa TbH.fn K) : DefAt K mg "can_be" "can_be" s_45 (He.ga K "can_be") := ⟨He.glo_ok X G (c.fact 29 (f := .glo "can_be") rfl), c.def_ 29 (d := TbH.d45) rfl⟩
theorem D_problems_against (X : K.In h) (G : h.Ns mainGlobals mg) (c : He.SaysD TbH.fa TbH.fn K) : DefAt K mg "problems_against" "problems_against" s_46 (He.ga K "problems_against") := ⟨He.glo_ok X G (c.fact 30 (f := .glo "problems_against") rfl), c.def_ 30 (d := TbH.d46) rfl⟩
theorem D_grounds_of (X : K.In h) (G : h.Ns mainGlobals mg) (c : He.SaysD TbH.fa TbH.fn K) : DefAt K mg "grounds_of" "grounds_of" s_47 (He.ga K "grounds_of") := ⟨He.glo_ok X G (c.fact 31 (f := .glo "grounds_of") rfl), c.def_ 31 (d := TbH.d47) rfl⟩
theorem D_accepts_grounds (X : K.In h) (G : h.Ns mainGlobals mg) (c : He.SaysD TbH.fa TbH.fn K) : DefAt K mg "accepts_grounds" "accepts_grounds" s_50 (He.ga K "accepts_grounds") := ⟨He.glo_ok X G (c.fact 34 (f := .glo "accepts_grounds") rfl), c.def_ 34 (d := TbH.d50) rfl⟩
theorem D__law_is_integer (X : K.In h) (G : h.Ns mainGlobals mg) (c : He.SaysD TbH.fa TbH.fn K) : DefAt K mg "_law_is_integer" "_law_is_integer" s_54 (He.ga K "_law_is_integer") := ⟨He.glo_ok X G (c.fact 37 (f := .glo "_law_is_integer") rfl), c.def_ 37 (d := TbH.d54) rfl⟩
theorem D__law_equal (X : K.In h) (G : h.Ns mainGlobals mg) (c : He.SaysD TbH.fa TbH.fn K) : DefAt K mg "_law_equal" "_law_equal" s_55 (He.ga K "_law_equal") := ⟨He.glo_ok X G (c.fact 38 (f := .glo "_law_equal") rfl), c.def_ 38 (d := TbH.d55) rfl⟩
theorem D__law_blocks (X : K.In h) (G : h.Ns mainGlobals mg) (c : He.SaysD TbH.fa TbH.fn K) : DefAt K mg "_law_blocks" "_law_blocks" s_57 (He.ga K "_law_blocks") := ⟨He.glo_ok X G (c.fact 40 (f := .glo "_law_blocks") rfl), c.def_ 40 (d := TbH.d57) rfl⟩
theorem D__law_heads (X : K.In h) (G : h.Ns mainGlobals mg) (c : He.SaysD TbH.fa TbH.fn K) : DefAt K mg "_law_heads" "_law_heads" s_58 (He.ga K "_law_heads") := ⟨He.glo_ok X G (c.fact 41 (f := .glo "_law_heads") rfl), c.def_ 41 (d := TbH.d58) rfl⟩
theorem D__law_rows (X : K.In h) (G : h.Ns mainGlobals mg) (c : He.SaysD TbH.fa TbH.fn K) : DefAt K mg "_law_rows" "_law_rows" s_56 (He.ga K "_law_rows") := ⟨He.glo_ok X G (c.fact 39 (f := .glo "_law_rows") rfl), c.def_ 39 (d := TbH.d56) rfl⟩
theorem D__law_plans (X : K.In h) (G : h.Ns mainGlobals mg) (c : He.SaysD TbH.fa TbH.fn K) : DefAt K mg "_law_plans" "_law_plans" s_59 (He.ga K "_law_plans") := ⟨He.glo_ok X G (c.fact 42 (f := .glo "_law_plans") rfl), c.def_ 42 (d := TbH.d59) rfl⟩
theorem D__law_tasks (X : K.In h) (G : h.Ns mainGlobals mg) (c : He.SaysD TbH.fa TbH.fn K) : DefAt K mg "_law_tasks" "_law_tasks" s_60 (He.ga K "_law_tasks") := ⟨He.glo_ok X G (c.fact 43 (f := .glo "_law_tasks") rfl), c.def_ 43 (d := TbH.d60) rfl⟩
theorem D__law_relation (X : K.In h) (G : h.Ns mainGlobals mg) (c : He.SaysD TbH.fa TbH.fn K) : DefAt K mg "_law_relation" "_law_relation" s_61 (He.ga K "_law_relation") := ⟨He.glo_ok X G (c.fact 44 (f := .glo "_law_relation") rfl), c.def_ 44 (d := TbH.d61) rfl⟩
theorem D__law_relations (X : K.In h) (G : h.Ns mainGlobals mg) (c : He.SaysD TbH.fa TbH.fn K) : DefAt K mg "_law_relations" "_law_relations" s_64 (He.ga K "_law_relations") := ⟨He.glo_ok X G (c.fact 47 (f := .glo "_law_relations") rfl), c.def_ 47 (d := TbH.d64) rfl⟩
theorem D__law_opposite (X : K.In h) (G : h.Ns mainGlobals mg) (c : He.SaysD TbH.fa TbH.fn K) : DefAt K mg "_law_opposite" "_law_opposite" s_65 (He.ga K "_law_opposite") := ⟨He.glo_ok X G (c.fact 48 (f := .glo "_law_opposite") rfl), c.def_ 48 (d := TbH.d65) rfl⟩
theorem D__law_allowed (X : K.In h) (G : h.Ns mainGlobals mg) (c : He.SaysD TbH.fa TbH.fn K) : DefAt K mg "_law_allowed" "_law_allowed" s_68 (He.ga K "_law_allowed") := ⟨He.glo_ok X G (c.fact 51 (f := .glo "_law_allowed") rfl), c.def_ 51 (d := TbH.d68) rfl⟩
theorem D__law_by (X : K.In h) (G : h.Ns mainGlobals mg) (c : He.SaysD TbH.fa TbH.fn K) : DefAt K mg "_law_by" "_law_by" s_71 (He.ga K "_law_by") := ⟨He.glo_ok X G (c.fact 54 (f := .glo "_law_by") rfl), c.def_ 54 (d := TbH.d71) rfl⟩
theorem D__law_less (X : K.In h) (G : h.Ns mainGlobals mg) (c : He.SaysD TbH.fa TbH.fn K) : DefAt K mg "_law_less" "_law_less" s_72 (He.ga K "_law_less") := ⟨He.glo_ok X G (c.fact 55 (f := .glo "_law_less") rfl), c.def_ 55 (d := TbH.d72) rfl⟩
theorem D__law_reaches (X : K.In h) (G : h.Ns mainGlobals mg) (c : He.SaysD TbH.fa TbH.fn K) : DefAt K mg "_law_reaches" "_law_reaches" s_74 (He.ga K "_law_reaches") := ⟨He.glo_ok X G (c.fact 57 (f := .glo "_law_reaches") rfl), c.def_ 57 (d := TbH.d74) rfl⟩
theorem D__law_is_set (X : K.In h) (G : h.Ns mainGlobals mg) (c : He.SaysD TbH.fa TbH.fn K) : DefAt K mg "_law_is_set" "_law_is_set" s_75 (He.ga K "_law_is_set") := ⟨He.glo_ok X G (c.fact 58 (f := .glo "_law_is_set") rfl), c.def_ 58 (d := TbH.d75) rfl⟩
theorem D__law_is_stuck (X : K.In h) (G : h.Ns mainGlobals mg) (c : He.SaysD TbH.fa TbH.fn K) : DefAt K mg "_law_is_stuck" "_law_is_stuck" s_76 (He.ga K "_law_is_stuck") := ⟨He.glo_ok X G (c.fact 59 (f := .glo "_law_is_stuck") rfl), c.def_ 59 (d := TbH.d76) rfl⟩
theorem D__law_against (X : K.In h) (G : h.Ns mainGlobals mg) (c : He.SaysD TbH.fa TbH.fn K) : DefAt K mg "_law_against" "_law_against" s_77 (He.ga K "_law_against") := ⟨He.glo_ok X G (c.fact 60 (f := .glo "_law_against") rfl), c.def_ 60 (d := TbH.d77) rfl⟩
theorem D__law_are_grounds (X : K.In h) (G : h.Ns mainGlobals mg) (c : He.SaysD TbH.fa TbH.fn K) : DefAt K mg "_law_are_grounds" "_law_are_grounds" s_78 (He.ga K "_law_are_grounds") := ⟨He.glo_ok X G (c.fact 61 (f := .glo "_law_are_grounds") rfl), c.def_ 61 (d := TbH.d78) rfl⟩
theorem D__law_tables (X : K.In h) (G : h.Ns mainGlobals mg) (c : He.SaysD TbH.fa TbH.fn K) : DefAt K mg "_law_tables" "_law_tables" s_69 (He.ga K "_law_tables") := ⟨He.glo_ok X G (c.fact 52 (f := .glo "_law_tables") rfl), c.def_ 52 (d := TbH.d69) rfl⟩
theorem D__law_kept (X : K.In h) (G : h.Ns mainGlobals mg) (c : He.SaysD TbH.fa TbH.fn K) : DefAt K mg "_law_kept" "_law_kept" s_70 (He.ga K "_law_kept") := ⟨He.glo_ok X G (c.fact 53 (f := .glo "_law_kept") rfl), c.def_ 53 (d := TbH.d70) rfl⟩
theorem D__law_stream (X : K.In h) (G : h.Ns mainGlobals mg) (c : He.SaysD TbH.fa TbH.fn K) : DefAt K mg "_law_stream" "_law_stream" s_52 (He.ga K "_law_stream") := ⟨He.glo_ok X G (c.fact 35 (f := .glo "_law_stream") rfl), c.def_ 35 (d := TbH.d52) rfl⟩
theorem D__law_next (X : K.In h) (G : h.Ns mainGlobals mg) (c : He.SaysD TbH.fa TbH.fn K) : DefAt K mg "_law_next" "_law_next" s_53 (He.ga K "_law_next") := ⟨He.glo_ok X G (c.fact 36 (f := .glo "_law_next") rfl), c.def_ 36 (d := TbH.d53) rfl⟩
theorem D__law_drawn_plan (X : K.In h) (G : h.Ns mainGlobals mg) (c : He.SaysD TbH.fa TbH.fn K) : DefAt K mg "_law_drawn_plan" "_law_drawn_plan" s_62 (He.ga K "_law_drawn_plan") := ⟨He.glo_ok X G (c.fact 45 (f := .glo "_law_drawn_plan") rfl), c.def_ 45 (d := TbH.d62) rfl⟩
theorem D__law_some_plan (X : K.In h) (G : h.Ns mainGlobals mg) (c : He.SaysD TbH.fa TbH.fn K) : DefAt K mg "_law_some_plan" "_law_some_plan" s_63 (He.ga K "_law_some_plan") := ⟨He.glo_ok X G (c.fact 46 (f := .glo "_law_some_plan") rfl), c.def_ 46 (d := TbH.d63) rfl⟩
theorem D__law_rule (X : K.In h) (G : h.Ns mainGlobals mg) (c : He.SaysD TbH.fa TbH.fn K) : DefAt K mg "_law_rule" "_law_rule" s_66 (He.ga K "_law_rule") := ⟨He.glo_ok X G (c.fact 49 (f := .glo "_law_rule") rfl), c.def_ 49 (d := TbH.d66) rfl⟩
theorem D__law_problem (X : K.In h) (G : h.Ns mainGlobals mg) (c : He.SaysD TbH.fa TbH.fn K) : DefAt K mg "_law_problem" "_law_problem" s_67 (He.ga K "_law_problem") := ⟨He.glo_ok X G (c.fact 50 (f := .glo "_law_problem") rfl), c.def_ 50 (d := TbH.d67) rfl⟩
theorem D__law_small (X : K.In h) (G : h.Ns mainGlobals mg) (c : He.SaysD TbH.fa TbH.fn K) : DefAt K mg "_law_small" "_law_small" s_73 (He.ga K "_law_small") := ⟨He.glo_ok X G (c.fact 56 (f := .glo "_law_small") rfl), c.def_ 56 (d := TbH.d73) rfl⟩
theorem D__law_turned_set (X : K.In h) (G : h.Ns mainGlobals mg) (c : He.SaysD TbH.fa TbH.fn K) : DefAt K mg "_law_turned_set" "_law_turned_set" s_79 (He.ga K "_law_turned_set") := ⟨He.glo_ok X G (c.fact 62 (f := .glo "_law_turned_set") rfl), c.def_ 62 (d := TbH.d79) rfl⟩
theorem D__law_turned_sets (X : K.In h) (G : h.Ns mainGlobals mg) (c : He.SaysD TbH.fa TbH.fn K) : DefAt K mg "_law_turned_sets" "_law_turned_sets" s_80 (He.ga K "_law_turned_sets") := ⟨He.glo_ok X G (c.fact 63 (f := .glo "_law_turned_sets") rfl), c.def_ 63 (d := TbH.d80) rfl⟩
theorem D_check_droppable (X : K.In h) (G : h.Ns mainGlobals mg) (c : He.SaysD TbH.fa TbH.fn K) : DefAt K mg "check_droppable" "check_droppable" s_48 (He.ga K "check_droppable") := ⟨He.glo_ok X G (c.fact 32 (f := .glo "check_droppable") rfl), c.def_ 32 (d := TbH.d48) rfl⟩
theorem D_grounds_for (X : K.In h) (G : h.Ns mainGlobals mg) (c : He.SaysD TbH.fa TbH.fn K) : DefAt K mg "grounds_for" "grounds_for" s_49 (He.ga K "grounds_for") := ⟨He.glo_ok X G (c.fact 33 (f := .glo "grounds_for") rfl), c.def_ 33 (d := TbH.d49) rfl⟩
theorem D__law_told (X : K.In h) (G : h.Ns mainGlobals mg) (c : He.SaysD TbH.fa TbH.fn K) : DefAt K mg "_law_told" "_law_told" s_81 (He.ga K "_law_told") := ⟨He.glo_ok X G (c.fact 64 (f := .glo "_law_told") rfl), c.def_ 64 (d := TbH.d81) rfl⟩
theorem D_law (X : K.In h) (G : h.Ns mainGlobals mg) (c : He.SaysD TbH.fa TbH.fn K) : DefAt K mg "law" "law" s_82 (He.ga K "law") := ⟨He.glo_ok X G (c.fact 65 (f := .glo "law") rfl), c.def_ 65 (d := TbH.d82) rfl⟩
theorem facts {f : Addr} (X : K.In h) (G : h.Ns mainGlobals mg) (hfa : mg ("law" : Str) = some (.ref f)) (c : He.SaysT TbH.fa TbH.fn TbH.ts w K) (e : TbH.ex K = true) :
    ∃ fd : FuncData, (∀ (s : Shared) (v : Value), BindsTo s fd ⟨[v], []⟩ [("_law_script", v)]) ∧ ∀ base : Heap, K.In base → base.Ns mainGlobals mg → FnOk P w K mg base CX0 60 f fd ["_law_script"] (spLaw K) := by
  unfold TbH.ex at e
  simp only [Bool.and_eq_true] at e
  obtain ⟨e1, e2, e3, e4⟩ := e
  have B := bi_of X G c.d
  have cs := cs_of X G c e3 e4
  have cx := cls_of X G c.d e1 e2
  have ee := hfa.symm.trans (D_law X G c.d).g
  cases ee
  obtain ⟨fd, F⟩ := (D_law X G c.d).f
  have b := FunD.bindsA (ps := ["_law_script"]) F fun _ _ _ _ _ _ us hl => match us, hl with | [_], _ => rfl
  refine ⟨fd, fun s v => b s [v] rfl, fun base hK hN => ?_⟩
  have all : FnOk P w K mg base CX0 60 (He.ga K "law") fd ["_law_script"] (spLaw K) := by
    have q_is_integer := c_is_integer (P := P) (w := w) (base := base) (k := 0) (D_is_integer X G c.d) B
    have q_is_task_rules := c_is_task (P := P) (w := w) (base := base) (k := 1) (D_is_task_rules X G c.d) (q_is_integer.mono (by decide))
    have q_is_task_sticking := c_is_task2 (P := P) (w := w) (base := base) (k := 0) (D_is_task_sticking X G c.d) B
    have q_opposite := c_opposite (P := P) (w := w) (base := base) (k := 0) (D_opposite X G c.d) cs
    have q_is_allowed := c_is_allowed (P := P) (w := w) (base := base) (k := 0) (D_is_allowed X G c.d) B cs
    have q_is_rule := c_is_rule (P := P) (w := w) (base := base) (k := 2) (D_is_rule X G c.d) B (q_is_task_rules.mono (by decide)) (q_is_allowed.mono (by decide))
    have q_is_size := c_is_size (P := P) (w := w) (base := base) (k := 1) (D_is_size X G c.d) cs (q_is_integer.mono (by decide))
    have q_is_problem := c_is_problem (P := P) (w := w) (base := base) (k := 3) (D_is_problem X G c.d) B cs (q_is_size.mono (by decide)) (q_is_rule.mono (by decide))
    have q_check_problem := c_check_problem (P := P) (w := w) (base := base) (k := 4) (D_check_problem X G c.d) (q_is_problem.mono (by decide))
    have q_opposites := c_opposites (P := P) (w := w) (base := base) (k := 1) (D_opposites X G c.d) B cs (q_opposite.mono (by decide))
    have q_allowed_of := c_allowed_of (P := P) (w := w) (base := base) (k := 2) (D_allowed_of X G c.d) B cs (q_opposites.mono (by decide))
    have q_ties := c_ties (P := P) (w := w) (base := base) (k := 3) (D_ties X G c.d) (q_allowed_of.mono (by decide))
    have q_bars := c_bars (P := P) (w := w) (base := base) (k := 3) (D_bars X G c.d) (q_allowed_of.mono (by decide))
    have q_is_set := c_is_set (P := P) (w := w) (base := base) (k := 1) (D_is_set X G c.d) B (q_is_task_sticking.mono (by decide))
    obtain ⟨aT, gT, hT⟩ := q_ties.held
    obtain ⟨aB, gB, hB⟩ := q_bars.held
    have q_reach := c_reach (P := P) (w := w) (base := base) (k := 4) (aT := aT) (D_reach X G c.d) B
    have q_told_split := c_told_split (P := P) (w := w) (base := base) (k := 4) (D_told_split X G c.d) B q_reach gT hT gB hB
    have q_stuck := c_stuck (P := P) (w := w) (base := base) (k := 6) (D_stuck X G c.d) B (q_told_split.mono (by decide))
    have q_all_tasks := c_all_tasks (P := P) (w := w) (base := base) (k := 0) (D_all_tasks X G c.d) B 8
    have q_least_task := c_least_task (P := P) (w := w) (base := base) (k := 8) (D_least_task X G c.d) B (q_all_tasks.mono (by decide))
    have q_normal_of := c_normal_of (P := P) (w := w) (base := base) (D_normal_of X G c.d) B (D_least_task X G c.d).g q_least_task 8 (Nat.le_refl _)
    have q_joined := c_joined (P := P) (w := w) (base := base) (k := 0) (D_joined X G c.d) B
    have q_taken_apart := c_taken_apart (P := P) (w := w) (base := base) (j := 6) (D_taken_apart X G c.d) B q_told_split (q_joined.mono (by decide))
    have q_solved := c_solved (P := P) (w := w) (base := base) (k := 19) (D_solved X G c.d) B (fun d hd => (q_taken_apart d).mono (by omega)) (q_normal_of.mono (by decide))
    have q_is_collection := c_is_collection (P := P) (w := w) (base := base) (k := 2) (D_is_collection X G c.d) B (q_is_task_rules.mono (by decide))
    have q_check_collection := c_check_collection (P := P) (w := w) (base := base) (k := 5) (D_check_collection X G c.d) B (q_check_problem.mono (by decide)) (q_is_collection.mono (by decide))
    have q_check_index := c_check_index (P := P) (w := w) (base := base) (k := 6) (D_check_index X G c.d) B (q_check_collection.mono (by decide)) (q_is_task_rules.mono (by decide))
    have q_problem_by := c_problem_by (P := P) (w := w) (base := base) (k := 0) (D_problem_by X G c.d) B
    have q_less := c_less (P := P) (w := w) (base := base) (k := 0) (D_less X G c.d) B
    have q_plan_by := c_plan_by (P := P) (w := w) (base := base) (k := 20) (D_plan_by X G c.d) (q_solved.mono (by decide))
    have q_can_be := c_can_be (P := P) (w := w) (base := base) (k := 21) (D_can_be X G c.d) (q_plan_by.mono (by decide)) (q_problem_by.mono (by decide))
    have q_problems_against := c_problems_against (P := P) (w := w) (base := base) (k := 1) (D_problems_against X G c.d) B cs (q_problem_by.mono (by decide)) (q_less.mono (by decide))
    have q_grounds_of := c_grounds_of (P := P) (w := w) (base := base) (k := 20) (D_grounds_of X G c.d) B (q_problems_against.mono (by decide)) (q_solved.mono (by decide))
    have q_accepts_grounds := c_accepts_grounds (P := P) (w := w) (base := base) (k := 7) (D_accepts_grounds X G c.d) B (q_check_index.mono (by decide)) (q_problems_against.mono (by decide)) (q_is_set.mono (by decide)) (q_stuck.mono (by decide))
    have q__law_is_integer := c__law_is_integer (P := P) (w := w) (base := base) (k := 0) (D__law_is_integer X G c.d) B
    have q__law_equal := c__law_equal (P := P) (w := w) (base := base) (k := 0) (D__law_equal X G c.d) B
    have q__law_blocks := c__law_blocks (P := P) (w := w) (base := base) (k := 0) (D__law_blocks X G c.d) B
    have q_rh := c__law_rows (P := P) (w := w) (base := base) (j := 1) (D__law_rows X G c.d) (D__law_heads X G c.d) B q__law_blocks 12 (Nat.le_refl _)
    have q__law_heads := q_rh.2
    have q__law_plans := c__law_plans (P := P) (w := w) (base := base) (k := 26) (D__law_plans X G c.d) B (q__law_heads.mono (by decide))
    have q__law_tasks := c__law_tasks (P := P) (w := w) (base := base) (k := 0) (D__law_tasks X G c.d) B 8
    have q__law_relation := c__law_relation (P := P) (w := w) (base := base) (D__law_relation X G c.d) B q__law_tasks 8 (Nat.le_refl _)
    have q__law_relations := c__law_relations (P := P) (w := w) (base := base) (k := 0) (D__law_relations X G c.d) 
    have q__law_opposite := c__law_opposite (P := P) (w := w) (base := base) (k := 1) (D__law_opposite X G c.d) (q__law_relations.mono (by decide))
    have q__law_allowed := c__law_allowed (P := P) (w := w) (base := base) (k := 2) (D__law_allowed X G c.d) B (q__law_relations.mono (by decide)) (q__law_opposite.mono (by decide))
    have q__law_by := c__law_by (P := P) (w := w) (base := base) (k := 0) (D__law_by X G c.d) B
    have q__law_less := c__law_less (P := P) (w := w) (base := base) (k := 0) (D__law_less X G c.d) B
    have q__law_reaches := c__law_reaches (P := P) (w := w) (base := base) (k := 3) (D__law_reaches X G c.d) B (q__law_allowed.mono (by decide))
    have q__law_is_set := c__law_is_set (P := P) (w := w) (base := base) (k := 1) (D__law_is_set X G c.d) B (q__law_is_integer.mono (by decide))
    have q__law_is_stuck := c__law_is_stuck (P := P) (w := w) (base := base) (k := 4) (D__law_is_stuck X G c.d) B (q__law_is_set.mono (by decide)) (q__law_reaches.mono (by decide))
    have q__law_against := c__law_against (P := P) (w := w) (base := base) (k := 1) (D__law_against X G c.d) B (q__law_by.mono (by decide)) (q__law_less.mono (by decide)) (q__law_relations.mono (by decide))
    have q__law_are_grounds := c__law_are_grounds (P := P) (w := w) (base := base) (k := 5) (D__law_are_grounds X G c.d) B (q__law_against.mono (by decide)) (q__law_is_stuck.mono (by decide))
    have q__law_tables := c__law_tables (P := P) (w := w) (base := base) (k := 27) (D__law_tables X G c.d) B (q__law_plans.mono (by decide)) (q__law_relation.mono (by decide))
    have q__law_kept := c__law_kept (P := P) (w := w) (base := base) (k := 0) (D__law_kept X G c.d) B
    have q__law_stream := c__law_stream (P := P) (w := w) (base := base) (k := 0) (D__law_stream X G c.d) B
    have q__law_next := c__law_next (P := P) (w := w) (base := base) (k := 0) (D__law_next X G c.d) B
    have q__law_drawn_plan := c__law_drawn_plan (P := P) (w := w) (base := base) (D__law_drawn_plan X G c.d) B q__law_next 4
    have q__law_some_plan := c__law_some_plan (P := P) (w := w) (base := base) (k := 5) (D__law_some_plan X G c.d) B (q__law_next.mono (by decide)) (q__law_drawn_plan.mono (by decide))
    have q__law_rule := c__law_rule (P := P) (w := w) (base := base) (k := 16) (D__law_rule X G c.d) B (q__law_next.mono (by decide)) (q__law_relations.mono (by decide)) (q__law_relation.mono (by decide))
    have q__law_problem := c__law_problem (P := P) (w := w) (base := base) (k := 17) (D__law_problem X G c.d) B (q__law_next.mono (by decide)) (q__law_some_plan.mono (by decide)) (q__law_rule.mono (by decide))
    have q__law_small := c__law_small (P := P) (w := w) (base := base) (k := 18) (D__law_small X G c.d) B (q__law_next.mono (by decide)) (q__law_problem.mono (by decide))
    have q__law_turned_set := c__law_turned_set (P := P) (w := w) (base := base) (k := 1) (D__law_turned_set X G c.d) B (q__law_next.mono (by decide))
    have q__law_turned_sets := c__law_turned_sets (P := P) (w := w) (base := base) (k := 2) (D__law_turned_sets X G c.d) B (q__law_next.mono (by decide)) (q__law_turned_set.mono (by decide))
    have q_check_droppable := c_check_droppable (P := P) (w := w) (base := base) (k := 20) (D_check_droppable X G c.d) B cx (q_check_index.mono (by decide)) (q_can_be.mono (by decide))
    have q_grounds_for := c_grounds_for (P := P) (w := w) (base := base) (k := 23) (D_grounds_for X G c.d) B (q_check_droppable.mono (by decide)) (q_grounds_of.mono (by decide))
    have h_by := h__law_by (P := P) (w := w) (base := base) (k := 22) (D__law_by X G c.d) B
    have h_less := h__law_less (P := P) (w := w) (base := base) (k := 22) (D__law_less X G c.d) B
    have h_rel := h__law_relations (P := P) (w := w) (base := base) (k := 22) (D__law_relations X G c.d)
    have h_ag := h__law_against (P := P) (w := w) (base := base) (k := 23) (D__law_against X G c.d) B h_by h_less h_rel
    have q__law_told := c__law_told (P := P) (w := w) (base := base) (k := 24) (D__law_told X G c.d) B cx q_grounds_for h_ag
    exact c_law (P := P) (w := w) (base := base) (k := 59) F B (q__law_stream.mono (by decide)) (q__law_small.mono (by decide)) (q__law_rule.mono (by decide)) (q__law_next.mono (by decide)) (q__law_some_plan.mono (by decide)) (q__law_tables.mono (by decide)) (q__law_kept.mono (by decide)) (q__law_by.mono (by decide)) (q__law_less.mono (by decide)) (q__law_told.mono (by decide)) (q__law_are_grounds.mono (by decide)) (q_accepts_grounds.mono (by decide)) (q__law_against.mono (by decide)) (q__law_turned_sets.mono (by decide)) (q__law_equal.mono (by decide))
  exact all
end
end Tb
open PySem PySem.W PySem.Calls PyProof.Rows
theorem PySem.Challenge.cw_thenbeside_k57_whole_grounds_for_droppin_holds : PySem.Challenge.rw_thenbeside_k57_whole_grounds_for_droppin.Holds := by
  w_on; o_law
  refine HandSHeadRun.head_any (r := OpenLaw.row PySem.Challenge.rw_thenbeside_k57_whole_grounds_for_droppin) (q := view (OpenLaw.row PySem.Challenge.rw_thenbeside_k57_whole_grounds_for_droppin).prog [82]) (H := TbH.hk) (ob := TbH.ob) (M := 4000) (loose := TbH.loose)
    (d := HandSHeadRun.topDef (OpenLaw.row PySem.Challenge.rw_thenbeside_k57_whole_grounds_for_droppin).prog 82) (kwd := []) TbH.ob_eq
    (by kernel_rfl) (fun s => by kernel_rfl) TbH.run (by kernel_rfl) (by kernel_rfl) (by kernel_rfl) (by rfl) (by first | assumption | decide +kernel) (by decide +kernel) ⟨rfl, rfl, rfl, rfl, rfl, by decide +kernel⟩ ?hw ?hc
  case hw => w_witness2
  case hc =>
    refine L2.walk_ofE (l := PySem.Challenge.rw_thenbeside_k57_whole_grounds_for_droppin) (n := 63) (k := 60) (x := "_law_script") (CX := L2.CX0) rfl (by decide) (by kernel_rfl) ⟨rfl, by decide, by decide⟩ ?F (fun _ _ _ _ z => z)
    intro w mg fa h Y G hmg0
    obtain ⟨K, KX, c, ce⟩ := Y
    have hmg : mg ("law" : PySem.Str) = some (.ref fa) := by
      have e : (HandSHeadRun.topDef (OpenLaw.row PySem.Challenge.rw_thenbeside_k57_whole_grounds_for_droppin).prog 82).name = ("law" : PySem.Str) := by kernel_rfl
      rw [← e]
      exact hmg0
    obtain ⟨fd, hb, hF⟩ := Tb.facts (P := (PySem.Challenge.rw_thenbeside_k57_whole_grounds_for_droppin).prog) (w := w) KX G hmg c ce
    exact ⟨K, fd, Tb.spLaw K, KX, hb, fun H a ns hl _ hS => ⟨a, ns, rfl, hS, fun _ => rfl⟩, hF⟩
