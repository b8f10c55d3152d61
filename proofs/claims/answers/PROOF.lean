import PyProof.Rows.All
import Wide.All
import OpenK.AllK
import Wide.FinOn
import KE.KStateDown
import KE.OsHead
import HandS.Base
import HandS.Call
import HandS.Ends
import HandS.More
import HandS.Words
import HandS.WordsExc
import HandS.Defaults
import HandS.Spec
import HandS.Head0
import HandS.Head1
import HandS.Head2
import HandS.Head3
import HandS.Head4
import HandS.HeadHook1
import HandS.HeadHook2
import PySem.Challenge.RW_plotversions_s01_answers
import PyProof.EqAt
import PyProof.EqKinds
import PyProof.TupleCall
import HandS.List
import HandS.Comp
import HandS.Dict
import HandS.Iter
import HandS.TupAny
import HandS.Wide
import HandS.Walk
import HandS.Zip
import HandS.Rev
import HandS.Style
import HandS.Set
import HandS.SetFor
import HandS.Strs
import HandS.SortOrd
import HandS.TupSets
import PyProof.AutoSeq1
import HandS.Text
import PyFlatLaws
set_option Elab.async false
set_option linter.all false
set_option maxRecDepth 100000
set_option maxHeartbeats 0
/-! ### The program's top: which def stands where, and what the run of the top leaves -/
namespace Pv
open PySem PySem.Spec PyProof.Rows L2
def top (i : Nat) : Stmt := PySem.Challenge.pw_plotversions_s01_answers.main.body.getD i (.Pass ⟨0, 0, 0, 0⟩)
def dF (x : Str) (i : Nat) : He.DefD := ⟨(x, none), x, x, defArgs (top i), defBody (top i), defScope (top i), [], []⟩
def dM (x q : Str) (j : Nat) : He.DefD := ⟨("Keeper", some x), x, q, defArgs (inClass (top 42) j), defBody (inClass (top 42) j), defScope (inClass (top 42) j), [], []⟩
def fnL0 : List He.DefD := [dF "is_value" 10, dF "is_coordinate" 11, dF "is_feature" 12, dF "pairs_of" 13, dF "feature_at" 14, dF "with_feature" 15, dF "without_feature" 16, dF "put_at" 17, dF "put_ahead" 18, dF "left_out" 19, dF "numbers_of" 20, dF "parts_of" 21, dF "change_of" 22, dF "changes_between" 23, dF "put_feature" 29, dF "remove_feature" 30, dF "set_attribute" 31, dF "put_vertices" 32, dF "move_vertex" 33, dF "insert_vertex" 34]
def fnL1 : List He.DefD := [dF "remove_vertex" 35, dF "edited" 36, dF "commit_named" 39, dF "with_name" 40, dF "without_name" 41, dM "__init__" "Keeper.__init__" 0, dM "head" "Keeper.head" 1, dM "head_version" "Keeper.head_version" 2, dM "is_changed" "Keeper.is_changed" 3, dM "has_commit" "Keeper.has_commit" 4, dM "version_at" "Keeper.version_at" 5, dM "set_working" "Keeper.set_working" 6, dM "point" "Keeper.point" 7, dM "add_commit" "Keeper.add_commit" 8, dM "add_branch" "Keeper.add_branch" 9, dM "drop_branch" "Keeper.drop_branch" 10, dM "switch" "Keeper.switch" 11, dM "put_tag" "Keeper.put_tag" 12, dM "drop_tag" "Keeper.drop_tag" 13, dM "keep_commits" "Keeper.keep_commits" 14]
def fnL2 : List He.DefD := [dF "ancestors_of" 48, dF "common_ancestor_of" 49, dF "attribute_in" 50, dF "vertices_in" 51, dF "parent_with_attribute" 52, dF "parent_with_vertices" 53, dF "attribute_origin" 54, dF "vertices_origin" 55, dF "reached_from" 56, dF "hash_of_bytes" 57, dF "bytes_of" 58, dF "numbers_in" 59, dF "version_hash" 60, dF "hash_behind" 61, dF "commit_hash" 62, dF "is_clear" 69, dF "clear_value" 70, dF "of_side" 71, dF "merged_one_by_one" 72, dF "merged_vertices" 73]
def fnL3 : List He.DefD := [dF "merged_feature" 74, dF "merged_version" 75, dF "commit" 86, dF "discard" 87, dF "create_branch" 88, dF "switch_branch" 89, dF "delete_branch" 90, dF "reset_branch" 91, dF "set_tag" 92, dF "delete_tag" 93, dF "collect_garbage" 94, dF "named" 95, dF "refused_by" 96, dF "is_too_much" 97, dF "merged_commits" 98, dF "merge_by" 99, dF "merge_with" 100, dF "applied" 101, dF "apply_commit" 102, dF "joined" 103]
def fnL4 : List He.DefD := [dF "squared" 108, dF "is_moved" 109, dF "farthest" 110, dF "pair_of" 111, dF "possible_pairs" 112, dF "taken_pairs" 113, dF "numbers_without" 114, dF "matched" 115, dF "get_feature" 118, dF "list_features" 119, dF "told_changes" 120, dF "diff" 121, dF "log" 122, dF "common_ancestor" 123, dF "origin_of_attribute" 124, dF "origin_of_vertices" 125, dF "told_hash" 126, dF "match_features" 127, dF "told_names" 128, dF "get_state" 129]
def fnL5 : List He.DefD := [dF "looked" 130, dF "put_at_place" 137, dF "call_at" 138, dF "answer_of" 139, dF "answered" 140, dF "answers" 141]
def fnL : List He.DefD := fnL0 ++ fnL1 ++ fnL2 ++ fnL3 ++ fnL4 ++ fnL5
def faL0 : List He.Fa := [.glo "is_value", .glo "is_coordinate", .glo "is_feature", .glo "pairs_of", .glo "feature_at", .glo "with_feature", .glo "without_feature", .glo "put_at", .glo "put_ahead", .glo "left_out", .glo "numbers_of", .glo "parts_of", .glo "change_of", .glo "changes_between", .glo "put_feature", .glo "remove_feature", .glo "set_attribute", .glo "put_vertices", .glo "move_vertex", .glo "insert_vertex"]
def faL1 : List He.Fa := [.glo "remove_vertex", .glo "edited", .glo "commit_named", .glo "with_name", .glo "without_name", .glo "ancestors_of", .glo "common_ancestor_of", .glo "attribute_in", .glo "vertices_in", .glo "parent_with_attribute", .glo "parent_with_vertices", .glo "attribute_origin", .glo "vertices_origin", .glo "reached_from", .glo "hash_of_bytes", .glo "bytes_of", .glo "numbers_in", .glo "version_hash", .glo "hash_behind", .glo "commit_hash"]
def faL2 : List He.Fa := [.glo "is_clear", .glo "clear_value", .glo "of_side", .glo "merged_one_by_one", .glo "merged_vertices", .glo "merged_feature", .glo "merged_version", .glo "commit", .glo "discard", .glo "create_branch", .glo "switch_branch", .glo "delete_branch", .glo "reset_branch", .glo "set_tag", .glo "delete_tag", .glo "collect_garbage", .glo "named", .glo "refused_by", .glo "is_too_much", .glo "merged_commits"]
def faL3 : List He.Fa := [.glo "merge_by", .glo "merge_with", .glo "applied", .glo "apply_commit", .glo "joined", .glo "squared", .glo "is_moved", .glo "farthest", .glo "pair_of", .glo "possible_pairs", .glo "taken_pairs", .glo "numbers_without", .glo "matched", .glo "get_feature", .glo "list_features", .glo "told_changes", .glo "diff", .glo "log", .glo "common_ancestor", .glo "origin_of_attribute"]
def faL4 : List He.Fa := [.glo "origin_of_vertices", .glo "told_hash", .glo "match_features", .glo "told_names", .glo "get_state", .glo "looked", .glo "put_at_place", .glo "call_at", .glo "answer_of", .glo "answered", .glo "answers", .glo "Keeper", .glo "MISSING_edits", .glo "OUTSIDE_edits", .glo "TOO_MANY_edits", .glo "ONLY_ONE", .glo "MISSING_names", .glo "NOTHING", .glo "CHANGED_names", .glo "TAKEN"]
def faL5 : List He.Fa := [.glo "OUTSIDE_names", .glo "TOO_MANY_names", .glo "NO_PARENT", .glo "MISSING_queries", .glo "SIZES", .free "len", .free "all", .free "tuple", .free "range", .free "sorted", .free "set", .free "zip", .free "list", .free "enumerate", .free "reversed", .free "max", .free "min", .int "MOST_NUMBER" 65535, .int "MOST_VALUE" 1000000000, .int "MOST_COORDINATE" 1000000]
def faL6 : List He.Fa := [.int "MOST_VERTICES" 12, .int "MOST_FEATURES" 16, .int "VERTICES_PART" 1024, .int "ADDED" 1, .int "REMOVED" 2, .int "CHANGED_features" 3, .int "WORKING" 4294967295, .int "FIRST_HASH" 14695981039346656037, .int "FACTOR" 1099511628211, .int "WORD" 4294967296, .int "LONG_WORD" 18446744073709551616, .int "REMOVED_AND_CHANGED" 1, .int "ADDED_TWICE" 2, .int "ATTRIBUTE" 3, .int "VERTEX" 4, .int "VERTICES" 5, .int "MOST_COMMITS" 40, .int "MOST_NAMES" 8, .int "KEPT" 0, .int "MOVED" 1]
def faL7 : List He.Fa := [.int "RESHAPED" 2, .int "MOST_ATTRIBUTES" 8, .int "CREATE" 0, .int "PUT" 1, .int "COLLECT" 28, .cls "Keeper", .mkr "Keeper", .noat "Keeper" "width", .noat "Keeper" "working", .noat "Keeper" "commits", .noat "Keeper" "branches", .noat "Keeper" "tags", .noat "Keeper" "current", .meth "Keeper" "head", .meth "Keeper" "head_version", .meth "Keeper" "is_changed", .meth "Keeper" "has_commit", .meth "Keeper" "version_at", .meth "Keeper" "set_working", .meth "Keeper" "point"]
def faL8 : List He.Fa := [.meth "Keeper" "add_commit", .meth "Keeper" "add_branch", .meth "Keeper" "drop_branch", .meth "Keeper" "switch", .meth "Keeper" "put_tag", .meth "Keeper" "drop_tag", .meth "Keeper" "keep_commits"]
def faL : List He.Fa := faL0 ++ faL1 ++ faL2 ++ faL3 ++ faL4 ++ faL5 ++ faL6 ++ faL7 ++ faL8
def exL (K : PySem.W.Frag) : List Bool := [He.lstB K "MISSING_edits" [.int (-2)], He.lstB K "OUTSIDE_edits" [.int (-22)], He.lstB K "TOO_MANY_edits" [.int (-28)], He.lstB K "ONLY_ONE" [.int (-33)], He.lstB K "MISSING_names" [.int (-2)], He.lstB K "NOTHING" [.int (-6)], He.lstB K "CHANGED_names" [.int (-16)], He.lstB K "TAKEN" [.int (-17)], He.lstB K "OUTSIDE_names" [.int (-22)], He.lstB K "TOO_MANY_names" [.int (-28)], He.lstB K "NO_PARENT" [.int (-33)], He.lstB K "MISSING_queries" [.int (-2)], He.tupB K "SIZES" [.int 1, .int 0, .int 1, .int 3, .int 4, .int 4, .int 2, .int 2, .int 1, .int 0, .int 0, .int 1, .int 1, .int 1, .int 1, .int 2, .int 1, .int 2, .int 0, .int 1, .int 2, .int 1, .int 1, .int 1, .int 2, .int 2, .int 1, .int 1, .int 0, .int 3, .int 0]]
def exB (K : PySem.W.Frag) : Bool := (exL K).all id
def loose0 : List PySem.Str := ["MOST_NUMBER", "MOST_VALUE", "MOST_COORDINATE", "MOST_VERTICES", "MOST_FEATURES", "VERTICES_PART", "ADDED", "REMOVED", "CHANGED_features", "is_value", "is_coordinate", "is_feature", "pairs_of", "feature_at", "with_feature", "without_feature", "put_at", "put_ahead", "left_out", "numbers_of"]
def loose1 : List PySem.Str := ["parts_of", "change_of", "changes_between", "MISSING_edits", "OUTSIDE_edits", "TOO_MANY_edits", "ONLY_ONE", "put_feature", "remove_feature", "set_attribute", "put_vertices", "move_vertex", "insert_vertex", "remove_vertex", "edited", "WORKING", "commit_named", "with_name", "without_name", "Keeper"]
def loose2 : List PySem.Str := ["FIRST_HASH", "FACTOR", "WORD", "LONG_WORD", "ancestors_of", "common_ancestor_of", "attribute_in", "vertices_in", "parent_with_attribute", "parent_with_vertices", "attribute_origin", "vertices_origin", "reached_from", "hash_of_bytes", "bytes_of", "numbers_in", "version_hash", "hash_behind", "commit_hash", "REMOVED_AND_CHANGED"]
def loose3 : List PySem.Str := ["ADDED_TWICE", "ATTRIBUTE", "VERTEX", "VERTICES", "is_clear", "clear_value", "of_side", "merged_one_by_one", "merged_vertices", "merged_feature", "merged_version", "MOST_COMMITS", "MOST_NAMES", "MISSING_names", "NOTHING", "CHANGED_names", "TAKEN", "OUTSIDE_names", "TOO_MANY_names", "NO_PARENT"]
def loose4 : List PySem.Str := ["commit", "discard", "create_branch", "switch_branch", "delete_branch", "reset_branch", "set_tag", "delete_tag", "collect_garbage", "named", "refused_by", "is_too_much", "merged_commits", "merge_by", "merge_with", "applied", "apply_commit", "joined", "KEPT", "MOVED"]
def loose5 : List PySem.Str := ["RESHAPED", "squared", "is_moved", "farthest", "pair_of", "possible_pairs", "taken_pairs", "numbers_without", "matched", "MISSING_queries", "get_feature", "list_features", "told_changes", "diff", "log", "common_ancestor", "origin_of_attribute", "origin_of_vertices", "told_hash", "match_features"]
def loose6 : List PySem.Str := ["told_names", "get_state", "looked", "MOST_ATTRIBUTES", "CREATE", "PUT", "COLLECT", "SIZES", "put_at_place", "call_at", "answer_of", "answered"]
def loose : List PySem.Str := loose0 ++ loose1 ++ loose2 ++ loose3 ++ loose4 ++ loose5 ++ loose6
abbrev R : PySem.W.OpenSpec := PySem.Challenge.rw_plotversions_s01_answers
abbrev qv : Program := PySem.W.view R.prog [141]
abbrev AlP : Type := He.AlD × Bool
/-- a function's code -/
def codesOf (g : Addr → Option Obj) (a : Addr) : List Addr := match g a with
  | some ⟨_, _, .func fd, _⟩ => He.refV fd.code
  | _ => []
def valsOf (g : Addr → Option Obj) (a : Addr) : List Addr := match g a with
  | some ⟨_, _, .dict es _, _⟩ => es.toList.flatMap fun e => He.refV e.val
  | _ => []
def classOf (g : Addr → Option Obj) (a : Addr) : List Addr := match g a with
  | some ⟨_, _, .cls cd, _⟩ => cd.ns :: (valsOf g cd.ns ++ (valsOf g cd.ns).flatMap (codesOf g))
  | _ => []
def asP (g : Addr → Option Obj) : List Addr := mainGlobals :: (valsOf g mainGlobals ++ (valsOf g mainGlobals).flatMap fun a => codesOf g a ++ classOf g a)
def obP (g : Addr → Option Obj) : AlP := (He.obsD faL fnL (He.frG g (asP g)), exB (He.frG g (asP g)))
structure SaysP (K : PySem.W.Frag) : Prop where
  d : He.SaysD faL fnL K
  ex : exB K = true
def hookP : PySem.W.Hook where
  α := AlP
  obs := fun s => obP s.heap.get?
  val := fun _ => (He.valD fnL, true)
  says := fun _ h => ∃ K : PySem.W.Frag, K.In h ∧ SaysP K
  of := fun _ _ e => ⟨_, He.frG_in, congrArg (fun z : AlP => z.1) e, congrArg (fun z : AlP => z.2) e⟩
  keeps := fun _ _ _ ⟨K, hK, c⟩ k => ⟨K, PySem.W.Frag.In.keeps hK k, c⟩
abbrev hk : PySem.W.Hook := hookP
def ob (s : PySem.W.SharedT) : AlP := obP (HandSHeadRun.getT s)
theorem ob_eq (s : PySem.W.SharedT) : ob s = hk.obs s.abs := by
  have e : HandSHeadRun.getT s = s.abs.heap.get? := funext (HandSHeadRun.getT_eq s)
  unfold ob
  rw [e] <;> rfl
theorem run (w : World) : HandSHeadRun.RunEqS R qv hk ob 20000 loose w := by
  intro os
  kernel_rfl
end Pv
namespace Pv
open PySem PySem.W PySem.Calls PyProof.Rows
theorem holds_of (hc : WalkOS Pv.qv Pv.loose (XL Pv.qv []) Pv.hk.says Pv.R (HandSHeadRun.topDef Pv.R.prog 141) [] fun f vs => call f vs) : PySem.Challenge.rw_plotversions_s01_answers.Holds := by
  w_on
  refine HandSHeadRun.head_spec (r := Pv.R) (q := Pv.qv) (H := Pv.hk) (ob := Pv.ob) (M := 20000) (loose := Pv.loose) (d := HandSHeadRun.topDef Pv.R.prog 141) (kwd := []) Pv.ob_eq (by kernel_rfl) (fun s => by kernel_rfl) Pv.run (by kernel_rfl) (by kernel_rfl) (by kernel_rfl) os_shapes (by first | assumption | decide +kernel) (by decide +kernel) ⟨rfl, rfl, rfl, rfl, rfl, by decide +kernel⟩ ?hw ?hc
  case hw => exact ⟨[.list [.int 30]], by decide +kernel, by decide +kernel⟩
  case hc => exact hc
end Pv
/-! ### 1. Data over the abstract heap: the heap G holds what never changes, the heap H all that is tracked -/
namespace Pv
open PySem PySem.Spec PyProof.Rows L2

abbrev Fg := PySem.W.Frag
abbrev Sg := L2.St
/-- an object's attributes, as data -/
abbrev Ob := List (Str × PyData)
/-- a slot: unknown, a datum, a list or a dict that is this frame's own (and may change), the object -/
inductive Sl where
  | u | v (d : PyData) | own (d : PyData) | obj
structure Fr where
  H0 : Hp
  C : Addr
  ka : Option Addr

theorem same_upd {G : Hp} {a : Addr} {o : HO} (h : G a = none) : Same G (upd G a o) := fun b u e => by
  rw [upd_ne (ne_of_none e h)]
  exact e
theorem Same.sqT {K : Fg} {H H' : Hp} {a : Addr} {xs : List V} (e : Same H H') (h : SqT K H a xs) : SqT K H' a xs := by
  rcases h with (h | ⟨o, h⟩) | h
  · exact .inl (.inl (e _ _ h))
  · exact .inl (.inr ⟨o, e _ _ h⟩)
  · exact .inr h
mutual
/-- v stands for the datum d, whose lists are tracked in G -/
inductive Dt (K : Fg) (G : Hp) : V → PyData → Prop
  | non : Dt K G .non .none
  | bl (b : Bool) : Dt K G (.bl b) (.bool b)
  | int (i : Int) : Dt K G (.int i) (.int i)
  | lst {a : Addr} {xs : List V} {ds : List PyData} : G a = some (.lst xs) → DtAll K G xs ds → Dt K G (.ref a) (.list ds)
  | tup {a : Addr} {xs : List V} {ds : List PyData} : SqT K G a xs → DtAll K G xs ds → Dt K G (.ref a) (.tuple ds)
inductive DtAll (K : Fg) (G : Hp) : List V → List PyData → Prop
  | nil : DtAll K G [] []
  | cons {v : V} {vs : List V} {d : PyData} {ds : List PyData} : Dt K G v d → DtAll K G vs ds → DtAll K G (v :: vs) (d :: ds)
end
mutual
theorem Dt.dp {K : Fg} {G : Hp} : ∀ (d : PyData) (v : V), Dt K G v d → Dp K G v d
  | .none, _, h => by
    cases h
    exact .non
  | .bool b, _, h => by
    cases h
    exact .bl b
  | .int i, _, h => by
    cases h
    exact .int i
  | .str x, _, h => by cases h
  | .list ds, _, h => by
    cases h with
    | lst hs ha => exact .lst (SqL.of hs) (DtAll.dp ds _ ha)
  | .tuple ds, _, h => by
    cases h with
    | tup hs ha => exact .tup hs (DtAll.dp ds _ ha)
  | .dict _, _, h => by cases h
theorem DtAll.dp {K : Fg} {G : Hp} : ∀ (ds : List PyData) (vs : List V), DtAll K G vs ds → DpAll K G vs ds
  | [], _, h => by
    cases h
    exact .nil
  | d :: ds, _, h => by
    cases h with
    | cons h1 h2 => exact .cons (Dt.dp d _ h1) (DtAll.dp ds _ h2)
end
mutual
theorem Dt.mono {K : Fg} {G G' : Hp} (e : Same G G') : ∀ (d : PyData) (v : V), Dt K G v d → Dt K G' v d
  | .none, _, h => by
    cases h
    exact .non
  | .bool b, _, h => by
    cases h
    exact .bl b
  | .int i, _, h => by
    cases h
    exact .int i
  | .str x, _, h => by cases h
  | .list ds, _, h => by
    cases h with
    | lst hs ha => exact .lst (e _ _ hs) (DtAll.mono e ds _ ha)
  | .tuple ds, _, h => by
    cases h with
    | tup hs ha => exact .tup (Same.sqT e hs) (DtAll.mono e ds _ ha)
  | .dict _, _, h => by cases h
theorem DtAll.mono {K : Fg} {G G' : Hp} (e : Same G G') : ∀ (ds : List PyData) (vs : List V), DtAll K G vs ds → DtAll K G' vs ds
  | [], _, h => by
    cases h
    exact .nil
  | d :: ds, _, h => by
    cases h with
    | cons h1 h2 => exact .cons (Dt.mono e d _ h1) (DtAll.mono e ds _ h2)
end
theorem DtAll.len {K : Fg} {G : Hp} : ∀ {ds : List PyData} {vs : List V}, DtAll K G vs ds → vs.length = ds.length
  | [], _, h => by
    cases h
    rfl
  | d :: ds, _, h => by
    cases h with
    | cons h1 h2 => exact congrArg Nat.succ (DtAll.len h2)
theorem DtAll.get {K : Fg} {G : Hp} : ∀ {ds : List PyData} {vs : List V} {i : Nat} {d : PyData}, DtAll K G vs ds → ds[i]? = some d → ∃ v, vs[i]? = some v ∧ Dt K G v d
  | [], _, i, d, h, e => by simp at e
  | c :: ds, _, 0, d, h, e => by
    cases h with
    | cons h1 h2 =>
      have q : c = d := by simpa using e
      subst q
      exact ⟨_, rfl, h1⟩
  | c :: ds, _, i + 1, d, h, e => by
    cases h with
    | cons h1 h2 =>
      obtain ⟨v, q1, q2⟩ := DtAll.get (i := i) (d := d) h2 (by simpa using e)
      exact ⟨v, by simpa using q1, q2⟩
theorem DtAll.back {K : Fg} {G : Hp} {ds : List PyData} {vs : List V} {i : Nat} {v : V} (h : DtAll K G vs ds) (e : vs[i]? = some v) : ∃ d, ds[i]? = some d ∧ Dt K G v d := by
  have hi : i < ds.length := by rw [← DtAll.len h]; exact (List.getElem?_eq_some_iff.mp e).1
  obtain ⟨u, q1, q2⟩ := DtAll.get h (List.getElem?_eq_getElem hi)
  rw [e] at q1
  cases q1
  exact ⟨_, List.getElem?_eq_getElem hi, q2⟩
theorem DtAll.app {K : Fg} {G : Hp} : ∀ {ds es : List PyData} {vs us : List V}, DtAll K G vs ds → DtAll K G us es → DtAll K G (vs ++ us) (ds ++ es)
  | [], _, _, _, h, k => by
    cases h
    exact k
  | d :: ds, _, _, _, h, k => by
    cases h with
    | cons h1 h2 => exact .cons h1 (DtAll.app h2 k)
theorem DtAll.one {K : Fg} {G : Hp} {v : V} {d : PyData} (h : Dt K G v d) : DtAll K G [v] [d] := .cons h .nil
theorem DtAll.take {K : Fg} {G : Hp} : ∀ (n : Nat) {ds : List PyData} {vs : List V}, DtAll K G vs ds → DtAll K G (vs.take n) (ds.take n)
  | 0, ds, vs, _ => by
    rw [List.take_zero, List.take_zero]
    exact .nil
  | n + 1, [], _, h => by
    cases h
    exact .nil
  | n + 1, d :: ds, _, h => by
    cases h with
    | cons h1 h2 => exact .cons h1 (DtAll.take n h2)
theorem DtAll.drop {K : Fg} {G : Hp} : ∀ (n : Nat) {ds : List PyData} {vs : List V}, DtAll K G vs ds → DtAll K G (vs.drop n) (ds.drop n)
  | 0, ds, vs, h => h
  | n + 1, [], _, h => by
    cases h
    exact .nil
  | n + 1, d :: ds, _, h => by
    cases h with
    | cons h1 h2 => exact DtAll.drop n h2
theorem dp_ints {K : Fg} {G : Hp} : ∀ ns : List Int, DtAll K G (ns.map V.int) (ns.map PyData.int)
  | [] => .nil
  | n :: r => .cons (.int n) (dp_ints r)
theorem ints_dp {K : Fg} {G : Hp} : ∀ (ns : List Int) (vs : List V), DtAll K G vs (ns.map PyData.int) → vs = ns.map V.int
  | [], vs, h => by
    cases h
    rfl
  | n :: r, vs, h => by
    cases h with
    | cons h1 h2 =>
      cases h1
      rw [ints_dp r _ h2] <;> rfl
theorem bls_dp {K : Fg} {G : Hp} : ∀ (bs : List Bool) (vs : List V), DtAll K G vs (bs.map PyData.bool) → vs = bs.map V.bl
  | [], vs, h => by
    cases h
    rfl
  | b :: r, vs, h => by
    cases h with
    | cons h1 h2 =>
      cases h1
      rw [bls_dp r _ h2] <;> rfl

/-! dicts whose keys are ints -/
def dk (m : List (Int × PyData)) : List (PyData × PyData) := m.map fun p => (.int p.1, p.2)
def dGet (m : List (Int × PyData)) (k : Int) : Option PyData := (m.find? fun p => decide (p.1 = k)).map (·.2)
def dPut (m : List (Int × PyData)) (k : Int) (d : PyData) : List (Int × PyData) :=
  if (m.any fun p => decide (p.1 = k)) = true then m.map (fun p => if p.1 = k then (p.1, d) else p) else m ++ [(k, d)]
def KvAll (K : Fg) (G : Hp) : List (Key × V) → List (Int × PyData) → Prop := Paired fun p q => p.1 = Sum.inl q.1 ∧ Dt K G p.2 q.2
theorem dk_inj : ∀ {m n : List (Int × PyData)}, dk m = dk n → m = n
  | [], [], _ => rfl
  | [], q :: n, h => by cases h
  | p :: m, [], h => by cases h
  | p :: m, q :: n, h => by
    obtain ⟨k, d⟩ := p
    obtain ⟨j, e⟩ := q
    have h1 : (PyData.int k, d) :: dk m = (PyData.int j, e) :: dk n := h
    injection h1 with h2 h3
    injection h2 with h4 h5
    injection h4 with h6
    rw [h6, h5, dk_inj h3]
theorem KvAll.mono {K : Fg} {G G' : Hp} (e : Same G G') {xs : List (Key × V)} {m : List (Int × PyData)} (h : KvAll K G xs m) : KvAll K G' xs m :=
  Paired.mapP h fun _ _ q => ⟨q.1, Dt.mono e _ _ q.2⟩
theorem KvAll.val {K : Fg} {G : Hp} (k : Int) : ∀ {xs : List (Key × V)} {m : List (Int × PyData)}, KvAll K G xs m →
    (dGet m k = none ∧ valV xs (Sum.inl k) = none) ∨ ∃ d v, dGet m k = some d ∧ valV xs (Sum.inl k) = some v ∧ Dt K G v d
  | [], _, h => by
    cases h
    exact .inl ⟨rfl, rfl⟩
  | p :: xs, _, h => by
    cases h with
    | @cons _ q _ m h1 h2 =>
      obtain ⟨e1, e2⟩ := h1
      by_cases c : q.1 = k
      · refine .inr ⟨q.2, p.2, ?_, valV_pos (by rw [e1, c]), e2⟩
        unfold dGet
        rw [List.find?_cons, decide_eq_true c] <;> rfl
      · have n1 : ¬ p.1 = (Sum.inl k : Key) := fun z => c (Sum.inl.inj (e1.symm.trans z))
        have n2 : dGet (q :: m) k = dGet m k := by
          unfold dGet
          rw [List.find?_cons, decide_eq_false c]
        rw [valV_neg n1, n2]
        exact KvAll.val k h2
theorem KvAll.any {K : Fg} {G : Hp} (k : Int) : ∀ {xs : List (Key × V)} {m : List (Int × PyData)}, KvAll K G xs m → (xs.any fun kv => decide (kv.1 = (Sum.inl k : Key))) = m.any fun p => decide (p.1 = k)
  | [], _, h => by
    cases h
    rfl
  | p :: xs, _, h => by
    cases h with
    | @cons _ q _ m h1 h2 =>
      rw [List.any_cons, List.any_cons, KvAll.any k h2]
      have e : decide (p.1 = (Sum.inl k : Key)) = decide (q.1 = k) := by
        rw [h1.1]
        exact decide_eq_decide.mpr ⟨fun z => Sum.inl.inj z, fun z => congrArg Sum.inl z⟩
      rw [e]
theorem KvAll.put {K : Fg} {G : Hp} (k : Int) {v : V} {d : PyData} (hv : Dt K G v d) {xs : List (Key × V)} {m : List (Int × PyData)} (h : KvAll K G xs m) : KvAll K G (putK xs (Sum.inl k) v) (dPut m k d) := by
  unfold putK dPut
  rw [KvAll.any k h]
  by_cases c : (m.any fun p => decide (p.1 = k)) = true
  · rw [if_pos c, if_pos c]
    clear c
    induction h with
    | nil => exact .nil
    | @cons p q xs m h1 h2 ih =>
      refine .cons ?_ ih
      show (if p.1 = (Sum.inl k : Key) then (p.1, v) else p).1 = Sum.inl (if q.1 = k then (q.1, d) else q).1 ∧ Dt K G (if p.1 = (Sum.inl k : Key) then (p.1, v) else p).2 (if q.1 = k then (q.1, d) else q).2
      by_cases z : q.1 = k
      · rw [if_pos (show p.1 = (Sum.inl k : Key) by rw [h1.1, z]), if_pos z]
        exact ⟨h1.1, hv⟩
      · rw [if_neg (show ¬ p.1 = (Sum.inl k : Key) from fun y => z (Sum.inl.inj (h1.1.symm.trans y))), if_neg z]
        exact h1
  · rw [if_neg c, if_neg c]
    exact Paired.snoc h ⟨rfl, hv⟩
theorem KvAll.len {K : Fg} {G : Hp} {xs : List (Key × V)} {m : List (Int × PyData)} (h : KvAll K G xs m) : xs.length = m.length := Paired.length h

/-! ### 2. What a value stands for -/
/-- a list that is only read (handed in, or the module's own) -/
def fz (ds : List PyData) : PyData := .dict [(.none, .list ds)]
def Rp (K : Fg) (G : Hp) (v : V) (d : PyData) : Prop := Dt K G v d ∨ (∃ a m xs, v = .ref a ∧ d = .dict (dk m) ∧ G a = some (.dK xs) ∧ KvAll K G xs m) ∨ ∃ a ds xs, v = .ref a ∧ d = fz ds ∧ SqL K G a xs ∧ DtAll K G xs ds
section
variable {K : Fg} {G G' : Hp} {v : V} {d : PyData}
theorem Rp.of (h : Dt K G v d) : Rp K G v d := .inl h
theorem Rp.mono (e : Same G G') (h : Rp K G v d) : Rp K G' v d := by
  rcases h with h | ⟨a, m, xs, h1, h2, h3, h4⟩ | ⟨a, ds, xs, h1, h2, h3, h4⟩
  · exact .inl (Dt.mono e _ _ h)
  · exact .inr (.inl ⟨a, m, xs, h1, h2, e _ _ h3, h4.mono e⟩)
  · exact .inr (.inr ⟨a, ds, xs, h1, h2, Same.seq e h3, DtAll.mono e _ _ h4⟩)
/-- no dict itself -/
def nd : PyData → Bool
  | .dict _ => false
  | _ => true
theorem Rp.dt (h : Rp K G v d) (n : nd d = true := by rfl) : Dt K G v d := by
  rcases h with h | ⟨a, m, xs, h1, h2, h3, h4⟩ | ⟨a, ds, xs, h1, h2, h3, h4⟩
  · exact h
  · subst h2
    cases n
  · subst h2
    cases n
theorem Rp.int {i : Int} (h : Rp K G v (.int i)) : v = .int i := by
  cases h.dt
  rfl
theorem Rp.bool {b : Bool} (h : Rp K G v (.bool b)) : v = .bl b := by
  cases h.dt
  rfl
theorem Rp.non (h : Rp K G v .none) : v = .non := by
  cases h.dt
  rfl
theorem Rp.tup {ds : List PyData} (h : Rp K G v (.tuple ds)) : ∃ a xs, v = .ref a ∧ SqT K G a xs ∧ DtAll K G xs ds := by
  cases h.dt with
  | tup h1 h2 => exact ⟨_, _, rfl, h1, h2⟩
theorem Rp.lst {ds : List PyData} (h : Rp K G v (.list ds)) : ∃ a xs, v = .ref a ∧ G a = some (.lst xs) ∧ DtAll K G xs ds := by
  cases h.dt with
  | lst h1 h2 => exact ⟨_, _, rfl, h1, h2⟩
theorem Rp.dic {m : List (Int × PyData)} (h : Rp K G v (.dict (dk m))) : ∃ a xs, v = .ref a ∧ G a = some (.dK xs) ∧ KvAll K G xs m := by
  rcases h with h | ⟨a, n, xs, h1, h2, h3, h4⟩ | ⟨a, ds, xs, h1, h2, h3, h4⟩
  · cases h
  · have e : m = n := dk_inj (by injection h2)
    subst e
    exact ⟨a, xs, h1, h3, h4⟩
  · cases m with
    | nil => cases h2
    | cons p m =>
      have q : PyData.dict ((.int p.1, p.2) :: dk m) = .dict [(.none, .list ds)] := h2
      injection q with q
      injection q with q _
      injection q with q _
      cases q
theorem Rp.frz {ds : List PyData} (h : Rp K G v (fz ds)) : ∃ a xs, v = .ref a ∧ SqL K G a xs ∧ DtAll K G xs ds := by
  rcases h with h | ⟨a, m, xs, h1, h2, h3, h4⟩ | ⟨a, es, xs, h1, h2, h3, h4⟩
  · cases h
  · cases m with
    | nil => cases h2
    | cons p m =>
      have q : PyData.dict [(.none, .list ds)] = .dict ((.int p.1, p.2) :: dk m) := h2
      injection q with q
      injection q with q _
      injection q with q _
      cases q
  · have q : PyData.dict [(.none, .list ds)] = .dict [(.none, .list es)] := h2
    injection q with q
    injection q with q _
    injection q with _ q
    injection q with q
    subst q
    exact ⟨a, xs, h1, h3, h4⟩
end
abbrev RpAll (K : Fg) (G : Hp) : List V → List PyData → Prop := Paired fun v d => Rp K G v d
theorem RpAll.mono {K : Fg} {G G' : Hp} (e : Same G G') {vs : List V} {ds : List PyData} (h : RpAll K G vs ds) : RpAll K G' vs ds := Paired.mapP h fun _ _ q => q.mono e
theorem RpAll.dt {K : Fg} {G : Hp} : ∀ {vs : List V} {ds : List PyData}, RpAll K G vs ds → ds.all nd = true → DtAll K G vs ds
  | _, _, .nil, _ => .nil
  | _, _, .cons h t, n => by
    rw [List.all_cons, Bool.and_eq_true] at n
    exact .cons (h.dt n.1) (RpAll.dt t n.2)

/-! ### 3. The frame -/
/-- what is this frame's own, at a -/
def OwnAt (K : Fg) (G H : Hp) (a : Addr) (d : PyData) : Prop :=
  (∃ ds xs, d = .list ds ∧ H a = some (.lst xs) ∧ DtAll K G xs ds) ∨ ∃ m xs, d = .dict (dk m) ∧ H a = some (.dK xs) ∧ KvAll K G xs m
theorem OwnAt.is {K : Fg} {G H : Hp} {a : Addr} {d : PyData} (h : OwnAt K G H a d) : ∃ o, H a = some o ∧ ∀ C dx fs, o ≠ .ins C dx fs := by
  rcases h with ⟨_, xs, _, h, _⟩ | ⟨_, xs, _, h, _⟩
  · exact ⟨_, h, fun _ _ _ z => by cases z⟩
  · exact ⟨_, h, fun _ _ _ z => by cases z⟩
theorem OwnAt.mono {K : Fg} {G G' H H' : Hp} {a : Addr} {d : PyData} (e : Same G G') (hh : ∀ o, H a = some o → H' a = some o) (h : OwnAt K G H a d) : OwnAt K G' H' a d := by
  rcases h with ⟨ds, xs, h1, h2, h3⟩ | ⟨m, xs, h1, h2, h3⟩
  · exact .inl ⟨ds, xs, h1, hh _ h2, DtAll.mono e _ _ h3⟩
  · exact .inr ⟨m, xs, h1, hh _ h2, h3.mono e⟩
/-- the object -/
def ObOk (K : Fg) (F : Fr) (G H : Hp) : Option Ob → Prop
  | none => F.ka = none
  | some fs => ∃ a dx vs, F.ka = some a ∧ G a = none ∧ H a = some (.ins F.C dx vs) ∧ Paired (fun (p : Str × V) (q : Str × PyData) => p.1 = q.1 ∧ Dt K G p.2 q.2) vs fs
def SlotOk (K : Fg) (F : Fr) (G H : Hp) (x : Option (Option V)) : Sl → Prop
  | .u => True
  | .v d => ∃ v, x = some (some v) ∧ Rp K G v d
  | .own d => ∃ a, x = some (some (.ref a)) ∧ F.H0 a = none ∧ G a = none ∧ OwnAt K G H a d
  | .obj => ∃ a, F.ka = some a ∧ x = some (some (.ref a))
structure Rel (K : Fg) (F : Fr) (G H : Hp) (m : Option Ob) (σ : Sg) (δ : List Sl) : Prop where
  gh : Same G H
  len : δ.length = σ.length
  sl : ∀ (i : Nat) (s : Sl), δ[i]? = some s → SlotOk K F G H σ[i]? s
  inj : ∀ (i j : Nat) (d e : PyData) (a : Addr), i ≠ j → δ[i]? = some (.own d) → δ[j]? = some (.own e) → σ[i]? = some (some (.ref a)) → σ[j]? ≠ some (some (.ref a))
  ob : ObOk K F G H m
/-- from (G, H) to (G', H') -/
structure Ext (K : Fg) (F : Fr) (G H G' H' : Hp) (m : Option Ob) : Prop where
  gg : Same G G'
  gh : Same G' H'
  hh : ∀ b o, H b = some o → F.ka ≠ some b → H' b = some o
  nw : ∀ b, G b = none → H b ≠ none → G' b = none
  ob : ObOk K F G' H' m
section
variable {K : Fg} {F : Fr} {G H G' H' G2 H2 : Hp} {m m' m2 : Option Ob} {σ : Sg} {δ : List Sl}
theorem Rel.self (r : Rel K F G H m σ δ) : Ext K F G H G H m := ⟨Same.refl _, r.gh, fun _ _ h _ => h, fun _ h _ => h, r.ob⟩
theorem ObOk.ins (h : ObOk K F G H m) {b : Addr} (e : F.ka = some b) : ∃ dx vs, H b = some (.ins F.C dx vs) := by
  cases m with
  | none =>
    have h1 : F.ka = none := h
    rw [h1] at e
    cases e
  | some fs =>
    obtain ⟨a, dx, vs, h1, h2, h3, h4⟩ := h
    rw [h1] at e
    cases e
    exact ⟨dx, vs, h3⟩
theorem ObOk.gnone (h : ObOk K F G H m) {b : Addr} (e : F.ka = some b) : G b = none := by
  cases m with
  | none =>
    have h1 : F.ka = none := h
    rw [h1] at e
    cases e
  | some fs =>
    obtain ⟨a, dx, vs, h1, h2, h3, h4⟩ := h
    rw [h1] at e
    cases e
    exact h2
theorem OwnAt.nka {a : Addr} {d : PyData} (o : ObOk K F G H m) (h : OwnAt K G H a d) : F.ka ≠ some a := fun e => by
  obtain ⟨dx, vs, q⟩ := o.ins e
  obtain ⟨u, q2, q3⟩ := h.is
  rw [q] at q2
  cases q2
  exact q3 _ _ _ rfl
theorem Rel.ext (r : Rel K F G H m σ δ) (x : Ext K F G H G' H' m') : Rel K F G' H' m' σ δ := by
  refine ⟨x.gh, r.len, fun i s e => ?_, r.inj, x.ob⟩
  have h := r.sl i s e
  cases s with
  | u => exact h
  | v d =>
    obtain ⟨v, h1, h2⟩ := h
    exact ⟨v, h1, h2.mono x.gg⟩
  | own d =>
    obtain ⟨a, h1, h2, h3, h4⟩ := h
    obtain ⟨o, q, _⟩ := h4.is
    exact ⟨a, h1, h2, x.nw a h3 (by rw [q]; exact fun z => by cases z), h4.mono x.gg fun o q => x.hh a o q (h4.nka r.ob)⟩
  | obj => exact h
theorem Ext.trans (ob : ObOk K F G H m) (x : Ext K F G H G' H' m') (y : Ext K F G' H' G2 H2 m2) : Ext K F G H G2 H2 m2 := by
  refine ⟨x.gg.trans y.gg, y.gh, fun b o h n => y.hh b o (x.hh b o h n) n, fun b h n => ?_, y.ob⟩
  have h1 := x.nw b h n
  by_cases c : F.ka = some b
  · exact y.ob.gnone c
  · refine y.nw b h1 ?_
    cases q : H b with
    | none => exact absurd q n
    | some o =>
      rw [x.hh b o q c]
      exact fun z => by cases z
end
/-- since the frame's beginning -/
structure Frm (F : Fr) (G0 G H : Hp) : Prop where
  g0 : Same G0 G
  h0 : ∀ b o, F.H0 b = some o → F.ka ≠ some b → H b = some o
  nw : ∀ b, G0 b = none → F.H0 b ≠ none → G b = none
theorem Frm.ext {K : Fg} {F : Fr} {G0 G H G' H' : Hp} {m m' : Option Ob} (f : Frm F G0 G H) (ob : ObOk K F G H m) (x : Ext K F G H G' H' m') : Frm F G0 G' H' := by
  refine ⟨f.g0.trans x.gg, fun b o h n => x.hh b o (f.h0 b o h n) n, fun b h n => ?_⟩
  have h1 := f.nw b h n
  by_cases c : F.ka = some b
  · exact x.ob.gnone c
  · refine x.nw b h1 ?_
    cases q : F.H0 b with
    | none => exact absurd q n
    | some o =>
      rw [f.h0 b o q c]
      exact fun z => by cases z
/-- a new thing p is laid in both heaps -/
theorem ObOk.laid {K : Fg} {F : Fr} {G H : Hp} {m : Option Ob} {p : Addr} {o u : HO} (ob : ObOk K F G H m) (g : G p = none) (h : H p = none) : ObOk K F (upd G p o) (upd H p u) m := by
  cases m with
  | none => exact ob
  | some fs =>
    obtain ⟨a, dx, vs, h1, h2, h3, h4⟩ := ob
    have ne : a ≠ p := ne_of_none h3 h
    exact ⟨a, dx, vs, h1, by rw [upd_ne ne]; exact h2, by rw [upd_ne ne]; exact h3, Paired.mapP h4 fun _ _ q => ⟨q.1, Dt.mono (same_upd g) _ _ q.2⟩⟩
theorem same_none {G H : Hp} {p : Addr} (e : Same G H) (h : H p = none) : G p = none := Same.free e h
theorem Ext.lay {K : Fg} {F : Fr} {G H : Hp} {m : Option Ob} {p : Addr} {o : HO} (gh : Same G H) (ob : ObOk K F G H m) (h : H p = none) : Ext K F G H (upd G p o) (upd H p o) m := by
  have g := same_none gh h
  refine ⟨same_upd g, fun b u e => ?_, fun b u e _ => by rw [upd_ne (ne_of_none e h)]; exact e, fun b e n => ?_, ob.laid g h⟩
  · by_cases c : b = p
    · subst c
      rw [upd_same] at e ⊢
      exact e
    · rw [upd_ne c] at e ⊢
      exact gh b u e
  · rw [upd_ne (fun z => n (by rw [z]; exact h))]
    exact e
/-- .. in H alone: it is the frame's own -/
theorem Ext.layH {K : Fg} {F : Fr} {G H : Hp} {m : Option Ob} {p : Addr} {o : HO} (gh : Same G H) (ob : ObOk K F G H m) (h : H p = none) : Ext K F G H G (upd H p o) m := by
  refine ⟨Same.refl _, fun b u e => ?_, fun b u e _ => by rw [upd_ne (ne_of_none e h)]; exact e, fun b e n => e, ?_⟩
  · have q := gh b u e
    rw [upd_ne (ne_of_none q h)]
    exact q
  · cases m with
    | none => exact ob
    | some fs =>
      obtain ⟨a, dx, vs, h1, h2, h3, h4⟩ := ob
      exact ⟨a, dx, vs, h1, h2, by rw [upd_ne (ne_of_none h3 h)]; exact h3, h4⟩
/-- a thing of H becomes one that never changes -/
theorem Ext.freeze {K : Fg} {F : Fr} {G H : Hp} {m : Option Ob} {p : Addr} {o : HO} (gh : Same G H) (ob : ObOk K F G H m) (h : H p = some o) (g : G p = none) (n : ∀ C dx fs, o ≠ .ins C dx fs) : Same G (upd G p o) ∧ Same (upd G p o) H ∧ ObOk K F (upd G p o) H m := by
  refine ⟨same_upd g, fun b u e => ?_, ?_⟩
  · by_cases c : b = p
    · subst c
      rw [upd_same] at e
      cases e
      exact h
    · rw [upd_ne c] at e
      exact gh b u e
  · cases m with
    | none => exact ob
    | some fs =>
      obtain ⟨a, dx, vs, h1, h2, h3, h4⟩ := ob
      have ne : a ≠ p := fun z => by
        subst z
        rw [h] at h3
        cases h3
        exact n _ _ _ rfl
      exact ⟨a, dx, vs, h1, by rw [upd_ne ne]; exact h2, h3, Paired.mapP h4 fun _ _ q => ⟨q.1, Dt.mono (same_upd g) _ _ q.2⟩⟩
end Pv
/-! ### 4. Judgements: an expression gives a datum -/
namespace Pv
open PySem PySem.Spec PyProof.Rows L2

section
variable (X : Cx)
def WE (e : Expr) : TE := fun σ H Q => ∃ t, PE X e t ∧ t σ H Q
def WT (e : Expr) : TT := fun σ H Q => ∃ t, PT X e t ∧ t σ H Q
def WW (e : Expr) : TT := fun σ H Q => ∃ t, PW X e t ∧ t σ H Q
def WA (es : List Expr) : TA := fun σ H Q => ∃ t, PA X es t ∧ t σ H Q
def WC (op : CmpOp) (a b : Expr) : TE := fun σ H Q => ∃ t, PC X op a b t ∧ t σ H Q
def WO (o : Option Expr) : TO := fun σ H Q => ∃ t, PO X o t ∧ t σ H Q
end
section
variable {X : Cx}
theorem pe_w {e : Expr} : PE X e (WE X e) := ⟨fun pins s σ H Q I ⟨_, h, q⟩ => h.run pins s σ H Q I q⟩
theorem pt_w {e : Expr} : PT X e (WT X e) := ⟨fun pins s σ H Q I ⟨_, h, q⟩ => h.run pins s σ H Q I q⟩
theorem pw_w {e : Expr} : PW X e (WW X e) := ⟨fun w pins s σ H Q I ⟨_, h, q⟩ => h.run w pins s σ H Q I q⟩
theorem pa_w {es : List Expr} : PA X es (WA X es) := ⟨fun pos pins s σ H Q I ⟨_, h, q⟩ => h.run pos pins s σ H Q I q⟩
theorem pc_w {op : CmpOp} {a b : Expr} : PC X op a b (WC X op a b) := ⟨fun pins s σ H Q I ⟨_, h, q⟩ => h.run pins s σ H Q I q⟩
theorem po_w {o : Option Expr} : PO X o (WO X o) := ⟨fun pins s σ H Q I ⟨_, h, q⟩ => h.run pins s σ H Q I q⟩
end

/-- e gives d; m the object ahead of it, m' behind it -/
def DE (X : Cx) (F : Fr) (m : Option Ob) (δ : List Sl) (e : Expr) (d : PyData) (m' : Option Ob) : Prop :=
  ∀ (G H : Hp) (σ : Sg), Rel X.K F G H m σ δ → ∀ Q : VK, (∀ v G' H', Ext X.K F G H G' H' m' → Rp X.K G' v d → Q v H') → WE X e σ H Q
/-- e gives a new list, which is known to nobody else -/
def DO (X : Cx) (F : Fr) (m : Option Ob) (δ : List Sl) (e : Expr) (ds : List PyData) (m' : Option Ob) : Prop :=
  ∀ (G H : Hp) (σ : Sg), Rel X.K F G H m σ δ → ∀ Q : VK, (∀ a xs G' H', Ext X.K F G H G' H' m' → H a = none → G' a = none → H' a = some (.lst xs) → DtAll X.K G' xs ds → Q (.ref a) H') → WE X e σ H Q
def DT (X : Cx) (F : Fr) (m : Option Ob) (δ : List Sl) (e : Expr) (k : Bool) : Prop :=
  ∀ (G H : Hp) (σ : Sg), Rel X.K F G H m σ δ → ∀ Q : Bool → Hp → Prop, (∀ G' H', Ext X.K F G H G' H' m → Q k H') → WT X e σ H Q
def DW (X : Cx) (F : Fr) (m : Option Ob) (δ : List Sl) (e : Expr) (k : Bool) : Prop :=
  ∀ (G H : Hp) (σ : Sg), Rel X.K F G H m σ δ → ∀ Q : Bool → Hp → Prop, (∀ G' H', Ext X.K F G H G' H' m → Q k H') → WW X e σ H Q
def DC (X : Cx) (F : Fr) (m : Option Ob) (δ : List Sl) (op : CmpOp) (a b : Expr) (k : Bool) : Prop :=
  ∀ (G H : Hp) (σ : Sg), Rel X.K F G H m σ δ → ∀ Q : VK, (∀ G' H', Ext X.K F G H G' H' m → Q (.bl k) H') → WC X op a b σ H Q
def DA (X : Cx) (F : Fr) (m : Option Ob) (δ : List Sl) (es : List Expr) (ds : List PyData) (m' : Option Ob) : Prop :=
  ∀ (G H : Hp) (σ : Sg), Rel X.K F G H m σ δ → ∀ Q : List V → Hp → Prop, (∀ vs G' H', Ext X.K F G H G' H' m' → RpAll X.K G' vs ds → Q vs H') → WA X es σ H Q
/-- a slice's part -/
def DP (X : Cx) (F : Fr) (m : Option Ob) (δ : List Sl) (o : Option Expr) (i : Option Int) : Prop :=
  ∀ (G H : Hp) (σ : Sg), Rel X.K F G H m σ δ → ∀ Q : Option Int → Hp → Prop, (∀ G' H', Ext X.K F G H G' H' m → Q i H') → WO X o σ H Q

section
variable {X : Cx} {F : Fr} {m m1 m2 m3 : Option Ob} {δ : List Sl} {e a b c : Expr} {es : List Expr} {pos : Pos} {d : PyData} {ds : List PyData}

theorem DO.de (h : DO X F m δ e ds m1) : DE X F m δ e (.list ds) m1 := fun G H σ R Q k => h G H σ R Q fun a xs G' H' x n1 n2 h1 h2 => by
  obtain ⟨q1, q2, q3⟩ := Ext.freeze x.gh x.ob h1 n2 (fun _ _ _ z => by cases z)
  refine k _ _ _ ⟨x.gg.trans q1, q2, x.hh, fun b g n => ?_, q3⟩ (.inl (.lst upd_same (DtAll.mono q1 _ _ h2)))
  rw [upd_ne (fun z => n (by rw [z]; exact n1))]
  exact x.nw b g n

/-! names, constants -/
theorem de_var {i : Nat} {x : Str} (hN : X.N[i]? = some x) (hv : Vis X.env.scope x) (hd : δ[i]? = some (.v d)) (h1 : (x == ("__debug__" : Str)) = false := by decide) (h2 : (x == ("__classdict__" : Str)) = false := by decide) : DE X F m δ (.Name x pos) d m := fun G H σ R Q k => by
  obtain ⟨v, e1, e2⟩ := R.sl i _ hd
  exact ⟨_, pe_var hN hv h1 h2, v, e1, k _ _ _ R.self e2⟩
theorem de_int {i : Int} {j pos} : DE X F m δ (.Constant (.int i) j pos) (.int i) m := fun G H σ R Q k => ⟨_, pe_int, k _ _ _ R.self (.inl (.int i))⟩
theorem de_bl {i : Bool} {j pos} : DE X F m δ (.Constant (.bool i) j pos) (.bool i) m := fun G H σ R Q k => ⟨_, pe_bl, k _ _ _ R.self (.inl (.bl i))⟩
theorem de_non {j pos} : DE X F m δ (.Constant .none j pos) .none m := fun G H σ R Q k => ⟨_, pe_non, k _ _ _ R.self (.inl .non)⟩
theorem de_gint {x : Str} {i : Int} (hm : ∃ t, X.mg x = some (.int i t)) (h1 : (x == ("__debug__" : Str)) = false := by decide) (hg : Gl X x := by rfl) : DE X F m δ (.Name x pos) (.int i) m := fun G H σ R Q k => by
  obtain ⟨t, hm⟩ := hm
  exact ⟨_, pe_glob (v := .int i) hg hm ⟨t, rfl⟩ h1, k _ _ _ R.self (.inl (.int i))⟩
/-- a list of the module's -/
theorem de_glst {x : Str} {a : Addr} {ns : List Int} (hm : X.mg x = some (.ref a)) (hl : ∀ H, SqL X.K H a (ns.map V.int)) (h1 : (x == ("__debug__" : Str)) = false := by decide) (hg : Gl X x := by rfl) : DE X F m δ (.Name x pos) (fz (ns.map .int)) m := fun G H σ R Q k =>
  ⟨_, pe_glob (v := .ref a) hg hm rfl h1, k _ _ _ R.self (.inr (.inr ⟨a, _, _, rfl, rfl, hl G, dp_ints ns⟩))⟩
theorem de_gtup {x : Str} {a : Addr} {ns : List Int} (hm : X.mg x = some (.ref a)) (hl : ∀ H, SqT X.K H a (ns.map V.int)) (h1 : (x == ("__debug__" : Str)) = false := by decide) (hg : Gl X x := by rfl) : DE X F m δ (.Name x pos) (.tuple (ns.map .int)) m := fun G H σ R Q k =>
  ⟨_, pe_glob (v := .ref a) hg hm rfl h1, k _ _ _ R.self (.inl (.tup (hl G) (dp_ints ns)))⟩

/-! operators -/
theorem de_bin {op : Operator} {r : R2} {da db : PyData} (ho : OpR X (binaryOp op) r) (ha : DE X F m δ a da m1) (hb : DE X F m1 δ b db m2)
    (hr : ∀ G H x y Q, Same G H → ObOk X.K F G H m2 → Rp X.K G x da → Rp X.K G y db → (∀ v G' H', Ext X.K F G H G' H' m2 → Rp X.K G' v d → Q v H') → r x y H Q) : DE X F m δ (.BinOp a op b pos) d m2 := fun G H σ R Q k => by
  refine ⟨_, pe_op ho pe_w pe_w, ?_⟩
  refine ha G H σ R _ fun x G1 H1 x1 rx => ?_
  refine hb G1 H1 σ (R.ext x1) _ fun y G2 H2 x2 ry => ?_
  exact hr G2 H2 x y Q x2.gh x2.ob (rx.mono x2.gg) ry fun v G' H' x3 rv => k v G' H' ((x1.trans R.ob x2).trans R.ob x3) rv
theorem self_ext {K : Fg} {G H : Hp} (gh : Same G H) (ob : ObOk K F G H m) : Ext K F G H G H m := ⟨Same.refl _, gh, fun _ _ h _ => h, fun _ h _ => h, ob⟩
theorem de_binI {op : Operator} {C : Int → Int → Prop} {g : Int → Int → Int} {i j : Int} (ho : OpR X (binaryOp op) (rI C fun i j => .int (g i j))) (ha : DE X F m δ a (.int i) m1) (hb : DE X F m1 δ b (.int j) m2) (hc : C i j) : DE X F m δ (.BinOp a op b pos) (.int (g i j)) m2 :=
  de_bin ho ha hb fun G H x y Q gh ob rx ry k => by
    rw [rx.int, ry.int]
    exact ⟨i, j, rfl, rfl, hc, k _ _ _ (self_ext gh ob) (.inl (.int _))⟩
theorem de_binI0 {op : Operator} {g : Int → Int → Int} {i j : Int} (ho : OpR X (binaryOp op) (rI0 fun i j => .int (g i j))) (ha : DE X F m δ a (.int i) m1) (hb : DE X F m1 δ b (.int j) m2) : DE X F m δ (.BinOp a op b pos) (.int (g i j)) m2 :=
  de_bin ho ha hb fun G H x y Q gh ob rx ry k => by
    rw [rx.int, ry.int]
    exact ⟨i, j, rfl, rfl, k _ _ _ (self_ext gh ob) (.inl (.int _))⟩
theorem de_add {i j : Int} (ha : DE X F m δ a (.int i) m1) (hb : DE X F m1 δ b (.int j) m2) : DE X F m δ (.BinOp a .Add b pos) (.int (i + j)) m2 := de_binI0 op_add ha hb
theorem de_sub {i j : Int} (ha : DE X F m δ a (.int i) m1) (hb : DE X F m1 δ b (.int j) m2) : DE X F m δ (.BinOp a .Sub b pos) (.int (i - j)) m2 := de_binI0 op_sub ha hb
theorem de_mul {i j : Int} (ha : DE X F m δ a (.int i) m1) (hb : DE X F m1 δ b (.int j) m2) (hc : CMul i j) : DE X F m δ (.BinOp a .Mult b pos) (.int (i * j)) m2 := de_binI op_mul ha hb hc
theorem de_mod {i j : Int} (ha : DE X F m δ a (.int i) m1) (hb : DE X F m1 δ b (.int j) m2) (hc : 0 < j) : DE X F m δ (.BinOp a .Mod b pos) (.int (i % j)) m2 := de_binI op_mod ha hb hc
theorem de_fdiv {i j : Int} (ha : DE X F m δ a (.int i) m1) (hb : DE X F m1 δ b (.int j) m2) (hc : CDiv i j) : DE X F m δ (.BinOp a .FloorDiv b pos) (.int (i / j)) m2 := de_binI op_fdiv ha hb hc
theorem de_xor {i j : Int} (ha : DE X F m δ a (.int i) m1) (hb : DE X F m1 δ b (.int j) m2) : DE X F m δ (.BinOp a .BitXor b pos) (.int (Builtin.bitXor i j)) m2 := de_binI0 op_xor ha hb

/-! arguments, displays -/
theorem da_nil : DA X F m δ [] [] m := fun G H σ R Q k => ⟨_, pa_nil, k _ _ _ R.self .nil⟩
theorem da_cons (ha : DE X F m δ e d m1) (hr : DA X F m1 δ es ds m2) (hs : starEach (e :: es) X.env = (false, eval e X.env) :: starEach es X.env := by rfl) : DA X F m δ (e :: es) (d :: ds) m2 := fun G H σ R Q k => by
  refine ⟨_, pa_cons pe_w pa_w hs, ?_⟩
  refine ha G H σ R _ fun x G1 H1 x1 rx => ?_
  refine hr G1 H1 σ (R.ext x1) _ fun vs G2 H2 x2 rv => ?_
  exact k _ _ _ (x1.trans R.ob x2) (.cons (rx.mono x2.gg) rv)
theorem da_one (ha : DE X F m δ e d m1) (hs : starEach [e] X.env = (false, eval e X.env) :: starEach [] X.env := by rfl) : DA X F m δ [e] [d] m1 := da_cons ha da_nil hs
theorem RpAll.len {K : Fg} {G : Hp} {vs : List V} (h : RpAll K G vs ds) : vs.length = ds.length := Paired.length h
theorem de_tup {k} (h : DA X F m δ es ds m1) (n : ds.all nd = true := by rfl) (hz : ds.length ≤ sizeLine := by simp only [List.length_cons, List.length_nil]; rw [sizeLine_eq]; decide) : DE X F m δ (.Tuple es k pos) (.tuple ds) m1 := fun G H σ R Q q => by
  refine ⟨_, pe_tup pa_w, ?_⟩
  refine h G H σ R _ fun vs G1 H1 x1 rv => ⟨by rw [rv.len]; exact hz, fun p hp => ?_⟩
  have x2 := Ext.lay (o := .tup vs) x1.gh x1.ob hp
  exact q _ _ _ (x1.trans R.ob x2) (.inl (.tup (SqT.of upd_same) (DtAll.mono x2.gg _ _ (rv.dt n))))
theorem do_lst (h : DA X F m δ es ds m1) (n : ds.all nd = true := by rfl) (hz : ds.length ≤ sizeLine := by simp only [List.length_cons, List.length_nil]; rw [sizeLine_eq]; decide) : DO X F m δ (.List es pos) ds m1 := fun G H σ R Q q => by
  refine ⟨_, pe_lst pa_w, ?_⟩
  refine h G H σ R _ fun vs G1 H1 x1 rv => ⟨by rw [rv.len]; exact hz, fun p hp => ?_⟩
  have x2 := Ext.layH (o := .lst vs) x1.gh x1.ob hp
  have hp0 : H p = none := by
    cases z : H p with
    | none => rfl
    | some o =>
      by_cases c : F.ka = some p
      · obtain ⟨dx, ws, w⟩ := x1.ob.ins c
        rw [hp] at w
        cases w
      · have w := x1.hh p o z c
        rw [hp] at w
        cases w
  exact q _ _ _ _ (x1.trans R.ob x2) hp0 (same_none x1.gh hp) upd_same (rv.dt n)

/-! comparisons -/
theorem pc_of {op : CmpOp} {r : R2} {ta tb : TE} (ho : OpR X (compareOp op) r) (ha : PE X a ta) (hb : PE X b tb) : PC X op a b (tOp r ta tb) :=
  ⟨fun pins s σ H Q I h => binT ha hb I h fun v u s2 x y H2 I2 rx ry q => ho pins s2 σ H2 x y v u Q I2 rx ry q⟩
theorem dc_bin {op : CmpOp} {r : R2} {da db : PyData} {k : Bool} (ho : OpR X (compareOp op) r) (ha : DE X F m δ a da m) (hb : DE X F m δ b db m)
    (hr : ∀ G H x y Q, Same G H → ObOk X.K F G H m → Rp X.K G x da → Rp X.K G y db → (∀ G' H', Ext X.K F G H G' H' m → Q (.bl k) H') → r x y H Q) : DC X F m δ op a b k := fun G H σ R Q q => by
  refine ⟨_, pc_of ho pe_w pe_w, ?_⟩
  refine ha G H σ R _ fun x G1 H1 x1 rx => ?_
  refine hb G1 H1 σ (R.ext x1) _ fun y G2 H2 x2 ry => ?_
  exact hr G2 H2 x y Q x2.gh x2.ob (rx.mono x2.gg) ry fun G' H' x3 => q G' H' ((x1.trans R.ob x2).trans R.ob x3)
theorem dc_I {op : CmpOp} {p : Int → Int → Bool} {i j : Int} (ho : OpR X (compareOp op) (rI0 fun i j => .bl (p i j))) (ha : DE X F m δ a (.int i) m) (hb : DE X F m δ b (.int j) m) : DC X F m δ op a b (p i j) :=
  dc_bin ho ha hb fun G H x y Q gh ob rx ry k => by
    rw [rx.int, ry.int]
    exact ⟨i, j, rfl, rfl, k _ _ (self_ext gh ob)⟩
theorem dc_lt {i j : Int} (ha : DE X F m δ a (.int i) m) (hb : DE X F m δ b (.int j) m) : DC X F m δ .Lt a b (decide (i < j)) := dc_I op_lt ha hb
theorem dc_le {i j : Int} (ha : DE X F m δ a (.int i) m) (hb : DE X F m δ b (.int j) m) : DC X F m δ .LtE a b (decide (i ≤ j)) := dc_I op_le ha hb
theorem dc_gt {i j : Int} (ha : DE X F m δ a (.int i) m) (hb : DE X F m δ b (.int j) m) : DC X F m δ .Gt a b (decide (j < i)) := dc_I op_gt ha hb
theorem dc_ge {i j : Int} (ha : DE X F m δ a (.int i) m) (hb : DE X F m δ b (.int j) m) : DC X F m δ .GtE a b (decide (j ≤ i)) := dc_I op_ge ha hb
theorem dc_eqI {i j : Int} (ha : DE X F m δ a (.int i) m) (hb : DE X F m δ b (.int j) m) : DC X F m δ .Eq a b (decide (i = j)) :=
  dc_bin op_eq ha hb fun G H x y Q gh ob rx ry k => by
    rw [rx.int, ry.int]
    have e : decide (V.int i = V.int j) = decide (i = j) := decide_eq_decide.mpr ⟨fun z => V.int.inj z, fun z => congrArg V.int z⟩
    exact ⟨rfl, by rw [e]; exact k _ _ (self_ext gh ob)⟩
theorem dc_neI {i j : Int} (ha : DE X F m δ a (.int i) m) (hb : DE X F m δ b (.int j) m) : DC X F m δ .NotEq a b (!decide (i = j)) :=
  dc_bin op_ne ha hb fun G H x y Q gh ob rx ry k => by
    rw [rx.int, ry.int]
    have e : decide (V.int i = V.int j) = decide (i = j) := decide_eq_decide.mpr ⟨fun z => V.int.inj z, fun z => congrArg V.int z⟩
    exact ⟨rfl, by rw [e]; exact k _ _ (self_ext gh ob)⟩
theorem dc_eqD {da db : PyData} {k : Bool} (hu : X.A.units + 64 < cLine) (ha : DE X F m δ a da m) (hb : DE X F m δ b db m) (na : nd da = true) (nb : nd db = true) (sa : SeqAt.shaped da = true) (sb : SeqAt.shaped db = true) (hk : PyData.eqv da db = k) : DC X F m δ .Eq a b k :=
  dc_bin (op_eqD hu) ha hb fun G H x y Q gh ob rx ry q => ⟨da, db, Dt.dp _ _ (Dt.mono gh _ _ (rx.dt na)), Dt.dp _ _ (Dt.mono gh _ _ (ry.dt nb)), sa, sb, by rw [hk]; exact q _ _ (self_ext gh ob)⟩
theorem dc_neD {da db : PyData} {k : Bool} (hu : X.A.units + 64 < cLine) (ha : DE X F m δ a da m) (hb : DE X F m δ b db m) (na : nd da = true) (nb : nd db = true) (sa : SeqAt.shaped da = true) (sb : SeqAt.shaped db = true) (hk : PyData.eqv da db = k) : DC X F m δ .NotEq a b (!k) :=
  dc_bin (op_neD hu) ha hb fun G H x y Q gh ob rx ry q => ⟨da, db, Dt.dp _ _ (Dt.mono gh _ _ (rx.dt na)), Dt.dp _ _ (Dt.mono gh _ _ (ry.dt nb)), sa, sb, by rw [hk]; exact q _ _ (self_ext gh ob)⟩
/-- the datum None -/
def isN : PyData → Bool
  | .none => true
  | _ => false
theorem Rp.isN {K : Fg} {G : Hp} {v : V} (h : Rp K G v d) : decide (v = .non) = isN d := by
  rcases h with h | ⟨a, m, xs, h1, h2, h3, h4⟩ | ⟨a, es, xs, h1, h2, h3, h4⟩
  · cases h <;> first | rfl | exact decide_eq_false (fun z => nomatch z)
  · subst h1 h2
    exact decide_eq_false (fun z => nomatch z)
  · subst h1 h2
    exact decide_eq_false (fun z => nomatch z)
theorem dc_isN {j pos'} (ha : DE X F m δ a d m) : DC X F m δ .Is a (.Constant .none j pos') (isN d) := fun G H σ R Q k => by
  refine ⟨_, pc_isN pe_w, ?_⟩
  refine ha G H σ R _ fun x G1 H1 x1 rx => ?_
  rw [rx.isN]
  exact k _ _ x1
theorem dc_notN {j pos'} (ha : DE X F m δ a d m) : DC X F m δ .IsNot a (.Constant .none j pos') (!isN d) := fun G H σ R Q k => by
  refine ⟨_, pc_notN pe_w, ?_⟩
  refine ha G H σ R _ fun x G1 H1 x1 rx => ?_
  rw [rx.isN]
  exact k _ _ x1
theorem inV_ints (i : Int) (ns : List Int) : inV (.int i) (ns.map V.int) = decide (i ∈ ns) := by
  unfold inV
  rw [List.any_map]
  induction ns with
  | nil => rfl
  | cons n r ih =>
    rw [List.any_cons, ih]
    show (n == i || decide (i ∈ r)) = _
    by_cases c : n = i
    · subst c
      simp
    · have c2 : ¬ i = n := fun z => c z.symm
      simp [c, c2]
theorem flat_ints (ns : List Int) : (ns.map V.int).all flatV = true := by
  rw [List.all_map]
  exact List.all_eq_true.mpr fun _ _ => rfl
theorem dc_inL {i : Int} {ns : List Int} (ha : DE X F m δ a (.int i) m) (hb : DE X F m δ b (.list (ns.map .int)) m) : DC X F m δ .In a b (decide (i ∈ ns)) :=
  dc_bin op_in_seq ha hb fun G H x y Q gh ob rx ry k => by
    obtain ⟨p, xs, rfl, h1, h2⟩ := ry.lst
    rw [rx.int]
    have e := ints_dp ns _ h2
    subst e
    exact ⟨p, _, rfl, .inl (SqL.of (gh _ _ h1)), rfl, flat_ints ns, by rw [if_neg Bool.false_ne_true, inV_ints]; exact k _ _ (self_ext gh ob)⟩
theorem dc_notInL {i : Int} {ns : List Int} (ha : DE X F m δ a (.int i) m) (hb : DE X F m δ b (.list (ns.map .int)) m) : DC X F m δ .NotIn a b (!decide (i ∈ ns)) :=
  dc_bin op_notIn_seq ha hb fun G H x y Q gh ob rx ry k => by
    obtain ⟨p, xs, rfl, h1, h2⟩ := ry.lst
    rw [rx.int]
    have e := ints_dp ns _ h2
    subst e
    exact ⟨p, _, rfl, .inl (SqL.of (gh _ _ h1)), rfl, flat_ints ns, by rw [if_pos rfl, inV_ints]; exact k _ _ (self_ext gh ob)⟩

/-! tests -/
variable {k k1 k2 : Bool} {rest : List Expr}
theorem de_cmp {op : CmpOp} (h : DC X F m δ op a b k) (hm : behindInMarks op b = false := by first | exact nobehind _ (by decide) (by decide) | rfl) : DE X F m δ (.Compare a [op] [b] pos) (.bool k) m := fun G H σ R Q q =>
  ⟨_, pe_cmp pc_w hm, h G H σ R _ fun G' H' x => q _ _ _ x (.inl (.bl k))⟩
theorem dt_cmp {op : CmpOp} (h : DC X F m δ op a b k) (hm : behindInMarks op b = false := by first | exact nobehind _ (by decide) (by decide) | rfl) : DT X F m δ (.Compare a [op] [b] pos) k := fun G H σ R Q q =>
  ⟨_, pt_cmp pc_w hm, h G H σ R _ fun G' H' x => ⟨k, rfl, q _ _ x⟩⟩
theorem dt_val (h : DE X F m δ e (.bool k) m) (he : ∀ whole, isTrue e X.env whole = (do let v ← whole; standAt e.pos; holding [v] (truthy v)) := by intro _; rfl) : DT X F m δ e k := fun G H σ R Q q =>
  ⟨_, pt_val pe_w he, h G H σ R _ fun v G' H' x rv => ⟨k, rv.bool, q _ _ x⟩⟩
theorem dt_not (h : DT X F m δ a k) : DT X F m δ (.UnaryOp .Not a pos) (!k) := fun G H σ R Q q =>
  ⟨_, pt_not pt_w, h G H σ R _ fun G' H' x => q _ _ x⟩
theorem dt_w (h : DW X F m δ e k) : DT X F m δ e k := fun G H σ R Q q => ⟨_, PW.pt pw_w, h G H σ R _ q⟩
theorem dw_and1 (h : DT X F m δ a k) : DW X F m δ (.BoolOp .And [a] pos) k := fun G H σ R Q q => ⟨_, pw_and1 pt_w, h G H σ R _ q⟩
theorem dw_or1 (h : DT X F m δ a k) : DW X F m δ (.BoolOp .Or [a] pos) k := fun G H σ R Q q => ⟨_, pw_or1 pt_w, h G H σ R _ q⟩
theorem dw_and (ha : DT X F m δ a k1) (hb : k1 = true → DW X F m δ (.BoolOp .And (b :: rest) pos) k2) : DW X F m δ (.BoolOp .And (a :: b :: rest) pos) (k1 && k2) := fun G H σ R Q q => by
  refine ⟨_, pw_and pt_w pw_w, ?_⟩
  refine ha G H σ R _ fun G1 H1 x1 => ?_
  cases k1 with
  | true =>
    rw [if_pos rfl]
    exact hb rfl G1 H1 σ (R.ext x1) _ fun G2 H2 x2 => q _ _ (x1.trans R.ob x2)
  | false =>
    rw [if_neg Bool.false_ne_true]
    exact q _ _ x1
theorem dw_or (ha : DT X F m δ a k1) (hb : k1 = false → DW X F m δ (.BoolOp .Or (b :: rest) pos) k2) : DW X F m δ (.BoolOp .Or (a :: b :: rest) pos) (k1 || k2) := fun G H σ R Q q => by
  refine ⟨_, pw_or pt_w pw_w, ?_⟩
  refine ha G H σ R _ fun G1 H1 x1 => ?_
  cases k1 with
  | false =>
    rw [if_neg Bool.false_ne_true]
    exact hb rfl G1 H1 σ (R.ext x1) _ fun G2 H2 x2 => q _ _ (x1.trans R.ob x2)
  | true =>
    rw [if_pos rfl]
    exact q _ _ x1
/-! and, or, not as values -/
theorem de_one {op} (h : DE X F m δ a d m1) : DE X F m δ (.BoolOp op [a] pos) d m1 := fun G H σ R Q q => ⟨_, pe_one pe_w, h G H σ R _ q⟩
theorem de_and (ha : DE X F m δ a (.bool k1) m) (hb : k1 = true → DE X F m δ (.BoolOp .And (b :: rest) pos) (.bool k2) m) : DE X F m δ (.BoolOp .And (a :: b :: rest) pos) (.bool (k1 && k2)) m := fun G H σ R Q q => by
  refine ⟨_, pe_and pe_w pe_w, ?_⟩
  refine ha G H σ R _ fun v G1 H1 x1 r1 => ⟨k1, r1.bool, ?_⟩
  cases k1 with
  | true =>
    rw [if_pos rfl]
    exact hb rfl G1 H1 σ (R.ext x1) _ fun v G2 H2 x2 => q _ _ _ (x1.trans R.ob x2)
  | false =>
    rw [if_neg Bool.false_ne_true]
    exact q _ _ _ x1 (.inl (.bl false))
theorem de_or (ha : DE X F m δ a (.bool k1) m) (hb : k1 = false → DE X F m δ (.BoolOp .Or (b :: rest) pos) (.bool k2) m) : DE X F m δ (.BoolOp .Or (a :: b :: rest) pos) (.bool (k1 || k2)) m := fun G H σ R Q q => by
  refine ⟨_, pe_or pe_w pe_w, ?_⟩
  refine ha G H σ R _ fun v G1 H1 x1 r1 => ⟨k1, r1.bool, ?_⟩
  cases k1 with
  | false =>
    rw [if_neg Bool.false_ne_true]
    exact hb rfl G1 H1 σ (R.ext x1) _ fun v G2 H2 x2 => q _ _ _ (x1.trans R.ob x2)
  | true =>
    rw [if_pos rfl]
    exact q _ _ _ x1 (.inl (.bl true))
theorem de_not (h : DE X F m δ a (.bool k) m) : DE X F m δ (.UnaryOp .Not a pos) (.bool (!k)) m := fun G H σ R Q q =>
  ⟨_, pe_not pe_w, h G H σ R _ fun v G1 H1 x1 r1 => ⟨k, r1.bool, q _ _ _ x1 (.inl (.bl _))⟩⟩
theorem de_if (hc : DT X F m δ c k) (ha : k = true → DE X F m δ a d m1) (hb : k = false → DE X F m δ b d m1) : DE X F m δ (.IfExp c a b pos) d m1 := fun G H σ R Q q => by
  refine ⟨_, pe_ifExp pt_w pe_w pe_w, ?_⟩
  refine hc G H σ R _ fun G1 H1 x1 => ?_
  cases k with
  | true =>
    rw [if_pos rfl]
    exact ha rfl G1 H1 σ (R.ext x1) _ fun v G2 H2 x2 => q _ _ _ (x1.trans R.ob x2)
  | false =>
    rw [if_neg Bool.false_ne_true]
    exact hb rfl G1 H1 σ (R.ext x1) _ fun v G2 H2 x2 => q _ _ _ (x1.trans R.ob x2)
theorem do_if (hc : DT X F m δ c k) (ha : k = true → DO X F m δ a ds m1) (hb : k = false → DO X F m δ b ds m1) : DO X F m δ (.IfExp c a b pos) ds m1 := fun G H σ R Q q => by
  refine ⟨_, pe_ifExp pt_w pe_w pe_w, ?_⟩
  have back : ∀ {G1 H1 : Hp} {p : Addr}, Ext X.K F G H G1 H1 m → H1 p = none → H p = none := fun {G1 H1 p} x1 hp => by
    cases z : H p with
    | none => rfl
    | some o =>
      by_cases c : F.ka = some p
      · obtain ⟨dx, ws, w⟩ := x1.ob.ins c
        rw [hp] at w
        cases w
      · have w := x1.hh p o z c
        rw [hp] at w
        cases w
  refine hc G H σ R _ fun G1 H1 x1 => ?_
  cases k with
  | true =>
    rw [if_pos rfl]
    exact ha rfl G1 H1 σ (R.ext x1) _ fun a xs G2 H2 x2 n1 n2 h1 h2 => q _ _ _ _ (x1.trans R.ob x2) (back x1 n1) n2 h1 h2
  | false =>
    rw [if_neg Bool.false_ne_true]
    exact hb rfl G1 H1 σ (R.ext x1) _ fun a xs G2 H2 x2 n1 n2 h1 h2 => q _ _ _ _ (x1.trans R.ob x2) (back x1 n1) n2 h1 h2
/-- i <= j <= l -/
theorem de_chain {i j l : Int} (ha : DE X F m δ a (.int i) m) (hb : DE X F m δ b (.int j) m) (hc : DE X F m δ c (.int l) m) (hm : lastMarks [.LtE, .LtE] [b, c] = false := by with_unfolding_all rfl) :
    DE X F m δ (.Compare a [.LtE, .LtE] [b, c] pos) (.bool (decide (i ≤ j) && decide (j ≤ l))) m := fun G H σ R Q q => by
  refine ⟨_, pe_chain op_le op_le pe_w pe_w pe_w hm, ?_⟩
  refine ha G H σ R _ fun x G1 H1 x1 rx => ?_
  refine hb G1 H1 σ (R.ext x1) _ fun y G2 H2 x2 ry => ?_
  rw [rx.int, ry.int]
  refine ⟨i, j, rfl, rfl, decide (i ≤ j), rfl, ?_⟩
  generalize decide (i ≤ j) = k1 at q ⊢
  cases k1 with
  | false =>
    rw [if_neg Bool.false_ne_true]
    exact q _ _ _ (x1.trans R.ob x2) (.inl (.bl false))
  | true =>
    rw [if_pos rfl]
    refine hc G2 H2 σ ((R.ext x1).ext x2) _ fun z G3 H3 x3 rz => ?_
    rw [rz.int]
    exact ⟨j, l, rfl, rfl, q _ _ _ ((x1.trans R.ob x2).trans R.ob x3) (.inl (.bl _))⟩
theorem dt_chain {i j l : Int} (ha : DE X F m δ a (.int i) m) (hb : DE X F m δ b (.int j) m) (hc : DE X F m δ c (.int l) m) (hm : lastMarks [.LtE, .LtE] [b, c] = false := by with_unfolding_all rfl) :
    DT X F m δ (.Compare a [.LtE, .LtE] [b, c] pos) (decide (i ≤ j) && decide (j ≤ l)) := fun G H σ R Q q => by
  refine ⟨_, pt_chain op_le op_le pe_w pe_w pe_w hm, ?_⟩
  refine ha G H σ R _ fun x G1 H1 x1 rx => ?_
  refine hb G1 H1 σ (R.ext x1) _ fun y G2 H2 x2 ry => ?_
  rw [rx.int, ry.int]
  refine ⟨i, j, rfl, rfl, decide (i ≤ j), rfl, ?_⟩
  generalize decide (i ≤ j) = k1 at q ⊢
  cases k1 with
  | false =>
    rw [if_neg Bool.false_ne_true]
    exact ⟨false, rfl, q _ _ (x1.trans R.ob x2)⟩
  | true =>
    rw [if_pos rfl]
    refine hc G2 H2 σ ((R.ext x1).ext x2) _ fun z G3 H3 x3 rz => ?_
    rw [rz.int]
    exact ⟨j, l, rfl, rfl, _, rfl, q _ _ ((x1.trans R.ob x2).trans R.ob x3)⟩

/-! subscripts, slices -/
theorem at_all {K : Fg} {G : Hp} {xs : List V} (h : DtAll K G xs ds) {i : Int} (e : atI ds i = some d) : ∃ v, atI xs i = some v ∧ Dt K G v d := by
  unfold atI at e ⊢
  rw [h.len]
  cases q : ixN ds.length i with
  | none =>
    rw [q] at e
    cases e
  | some j =>
    rw [q] at e
    exact h.get e
theorem de_ixT {i : Int} (ha : DE X F m δ a (.tuple ds) m1) (hb : DE X F m1 δ b (.int i) m2) (hi : atI ds i = some d) (hs : PlainIx b := by exact fun _ _ => rfl) : DE X F m δ (.Subscript a b pos) d m2 := fun G H σ R Q q => by
  refine ⟨_, pe_ix ix_tup pe_w pe_w hs, ?_⟩
  refine ha G H σ R _ fun x G1 H1 x1 rx => ?_
  refine hb G1 H1 σ (R.ext x1) _ fun y G2 H2 x2 ry => ?_
  obtain ⟨p, xs, rfl, h1, h2⟩ := (rx.mono x2.gg).tup
  obtain ⟨v, h3, h4⟩ := at_all h2 hi
  rw [ry.int]
  exact ⟨p, xs, i, v, rfl, rfl, Same.sqT x2.gh h1, h3, q _ _ _ (x1.trans R.ob x2) (.inl h4)⟩
theorem de_ixL {i : Int} (ha : DE X F m δ a (.list ds) m1) (hb : DE X F m1 δ b (.int i) m2) (hi : atI ds i = some d) (hs : PlainIx b := by exact fun _ _ => rfl) : DE X F m δ (.Subscript a b pos) d m2 := fun G H σ R Q q => by
  refine ⟨_, pe_ix ix_list pe_w pe_w hs, ?_⟩
  refine ha G H σ R _ fun x G1 H1 x1 rx => ?_
  refine hb G1 H1 σ (R.ext x1) _ fun y G2 H2 x2 ry => ?_
  obtain ⟨p, xs, rfl, h1, h2⟩ := (rx.mono x2.gg).lst
  obtain ⟨v, h3, h4⟩ := at_all h2 hi
  rw [ry.int]
  exact ⟨p, xs, i, v, rfl, rfl, SqL.of (x2.gh _ _ h1), h3, q _ _ _ (x1.trans R.ob x2) (.inl h4)⟩
theorem de_ixF {i : Int} (ha : DE X F m δ a (fz ds) m1) (hb : DE X F m1 δ b (.int i) m2) (hi : atI ds i = some d) (hs : PlainIx b := by exact fun _ _ => rfl) : DE X F m δ (.Subscript a b pos) d m2 := fun G H σ R Q q => by
  refine ⟨_, pe_ix ix_list pe_w pe_w hs, ?_⟩
  refine ha G H σ R _ fun x G1 H1 x1 rx => ?_
  refine hb G1 H1 σ (R.ext x1) _ fun y G2 H2 x2 ry => ?_
  obtain ⟨p, xs, rfl, h1, h2⟩ := (rx.mono x2.gg).frz
  obtain ⟨v, h3, h4⟩ := at_all h2 hi
  rw [ry.int]
  exact ⟨p, xs, i, v, rfl, rfl, Same.seq x2.gh h1, h3, q _ _ _ (x1.trans R.ob x2) (.inl h4)⟩
theorem dp_none : DP X F m δ none none := fun G H σ R Q q => ⟨_, po_none, q _ _ R.self⟩
theorem dp_some {i : Int} (h : DE X F m δ e (.int i) m) : DP X F m δ (some e) (some i) := fun G H σ R Q q => ⟨_, po_some pe_w, h G H σ R _ fun v G1 H1 x1 r1 => ⟨i, r1.int, q _ _ x1⟩⟩
/-- what a slice takes -/
def cutD {α : Type} (xs : List α) (lo hi : Option Int) : List α := (xs.drop (HT.sIx xs.length 0 lo)).take (HT.sIx xs.length xs.length hi - HT.sIx xs.length 0 lo)
theorem cut_all {K : Fg} {G : Hp} {xs : List V} (h : DtAll K G xs ds) (lo hi : Option Int) : DtAll K G (cutV xs lo hi) (cutD ds lo hi) := by
  unfold cutV cutD
  rw [h.len]
  exact DtAll.take _ (DtAll.drop _ h)
variable {lo hi : Option Expr} {il ih : Option Int} {p2 : Pos}
theorem de_slT (ha : DE X F m δ a (.tuple ds) m) (hl : DP X F m δ lo il) (hh : DP X F m δ hi ih) : DE X F m δ (.Subscript a (.Slice lo hi none p2) pos) (.tuple (cutD ds il ih)) m := fun G H σ R Q q => by
  refine ⟨_, pe_slice sl_tupA pe_w po_w po_w, ?_⟩
  refine ha G H σ R _ fun x G1 H1 x1 rx => ?_
  refine hl G1 H1 σ (R.ext x1) _ fun G2 H2 x2 => ?_
  refine hh G2 H2 σ ((R.ext x1).ext x2) _ fun G3 H3 x3 => ?_
  have x13 := (x1.trans R.ob x2).trans R.ob x3
  obtain ⟨p, xs, rfl, h1, h2⟩ := (rx.mono (x2.gg.trans x3.gg)).tup
  refine ⟨p, xs, rfl, Same.sqT x3.gh h1, fun w => q _ _ _ x13 (.inl (.tup h1 ?_)), fun _ p' hp => ?_⟩
  · have z := cut_all h2 il ih
    have e : cutV xs il ih = xs := by
      unfold cutV
      rw [w.1, w.2]
      simp
    rw [e] at z
    exact z
  · have x4 := Ext.lay (o := .tup (cutV xs il ih)) x3.gh x3.ob hp
    exact q _ _ _ (x13.trans R.ob x4) (.inl (.tup (SqT.of upd_same) (DtAll.mono x4.gg _ _ (cut_all h2 il ih))))
theorem fresh_of {G H G1 H1 : Hp} {p : Addr} (x1 : Ext X.K F G H G1 H1 m1) (hp : H1 p = none) : H p = none := by
  cases z : H p with
  | none => rfl
  | some o =>
    by_cases c : F.ka = some p
    · obtain ⟨dx, ws, w⟩ := x1.ob.ins c
      rw [hp] at w
      cases w
    · have w := x1.hh p o z c
      rw [hp] at w
      cases w
theorem do_slL (ha : DE X F m δ a (.list ds) m) (hl : DP X F m δ lo il) (hh : DP X F m δ hi ih) : DO X F m δ (.Subscript a (.Slice lo hi none p2) pos) (cutD ds il ih) m := fun G H σ R Q q => by
  refine ⟨_, pe_slice sl_list pe_w po_w po_w, ?_⟩
  refine ha G H σ R _ fun x G1 H1 x1 rx => ?_
  refine hl G1 H1 σ (R.ext x1) _ fun G2 H2 x2 => ?_
  refine hh G2 H2 σ ((R.ext x1).ext x2) _ fun G3 H3 x3 => ?_
  have x13 := (x1.trans R.ob x2).trans R.ob x3
  obtain ⟨p, xs, rfl, h1, h2⟩ := (rx.mono (x2.gg.trans x3.gg)).lst
  refine ⟨p, xs, rfl, SqL.of (x3.gh _ _ h1), fun p' hp => ?_⟩
  exact q _ _ _ _ (x13.trans R.ob (Ext.layH (o := .lst (cutV xs il ih)) x3.gh x3.ob hp)) (fresh_of x13 hp) (same_none x3.gh hp) upd_same (cut_all h2 il ih)
theorem do_slF (ha : DE X F m δ a (fz ds) m) (hl : DP X F m δ lo il) (hh : DP X F m δ hi ih) : DO X F m δ (.Subscript a (.Slice lo hi none p2) pos) (cutD ds il ih) m := fun G H σ R Q q => by
  refine ⟨_, pe_slice sl_list pe_w po_w po_w, ?_⟩
  refine ha G H σ R _ fun x G1 H1 x1 rx => ?_
  refine hl G1 H1 σ (R.ext x1) _ fun G2 H2 x2 => ?_
  refine hh G2 H2 σ ((R.ext x1).ext x2) _ fun G3 H3 x3 => ?_
  have x13 := (x1.trans R.ob x2).trans R.ob x3
  obtain ⟨p, xs, rfl, h1, h2⟩ := (rx.mono (x2.gg.trans x3.gg)).frz
  refine ⟨p, xs, rfl, Same.seq x3.gh h1, fun p' hp => ?_⟩
  exact q _ _ _ _ (x13.trans R.ob (Ext.layH (o := .lst (cutV xs il ih)) x3.gh x3.ob hp)) (fresh_of x13 hp) (same_none x3.gh hp) upd_same (cut_all h2 il ih)

/-! t + u, xs + ys -/
variable {es2 : List PyData}
theorem de_catT (ha : DE X F m δ a (.tuple ds) m1) (hb : DE X F m1 δ b (.tuple es2) m2) (hz : ds.length + es2.length ≤ sizeLine) : DE X F m δ (.BinOp a .Add b pos) (.tuple (ds ++ es2)) m2 :=
  de_bin op_catA ha hb fun G H x y Q gh ob rx ry k => by
    obtain ⟨p, xs, rfl, h1, h2⟩ := rx.tup
    obtain ⟨p', ys, rfl, h3, h4⟩ := ry.tup
    refine ⟨p, p', xs, ys, rfl, rfl, Same.sqT gh h1, Same.sqT gh h3, by rw [h2.len, h4.len]; exact hz, fun e => ?_, fun n e => ?_, fun n1 n2 p'' hp => ?_⟩
    · subst e
      cases h2
      exact k _ _ _ (self_ext gh ob) (.inl (.tup h3 h4))
    · subst e
      cases h4
      exact k _ _ _ (self_ext gh ob) (.inl (.tup h1 (by rw [List.append_nil]; exact h2)))
    · have x4 := Ext.lay (o := .tup (xs ++ ys)) gh ob hp
      exact k _ _ _ x4 (.inl (.tup (SqT.of upd_same) (DtAll.mono x4.gg _ _ (h2.app h4))))
theorem do_cat (ha : DE X F m δ a (.list ds) m1) (hb : DE X F m1 δ b (.list es2) m2) (hz : ds.length + es2.length ≤ sizeLine) : DO X F m δ (.BinOp a .Add b pos) (ds ++ es2) m2 := fun G H σ R Q q => by
  refine ⟨_, pe_op op_cat pe_w pe_w, ?_⟩
  refine ha G H σ R _ fun x G1 H1 x1 rx => ?_
  refine hb G1 H1 σ (R.ext x1) _ fun y G2 H2 x2 ry => ?_
  obtain ⟨p, xs, rfl, h1, h2⟩ := (rx.mono x2.gg).lst
  obtain ⟨p', ys, rfl, h3, h4⟩ := ry.lst
  refine ⟨p, p', xs, ys, rfl, rfl, x2.gh _ _ h1, x2.gh _ _ h3, by rw [h2.len, h4.len]; exact hz, fun p'' hp => ?_⟩
  have x12 := x1.trans R.ob x2
  exact q _ _ _ _ (x12.trans R.ob (Ext.layH (o := .lst (xs ++ ys)) x2.gh x2.ob hp)) (fresh_of x12 hp) (same_none x2.gh hp) upd_same (h2.app h4)

/-! built-ins -/
variable {p : Pos}
theorem de_lenL (hm : X.mg "len" = none) (ha : DE X F m δ a (.list ds) m1) (hs : starEach [a] X.env = (false, eval a X.env) :: starEach [] X.env := by rfl) (hg : Gl X "len" := by rfl) : DE X F m δ (.Call (.Name "len" p) [a] [] pos) (.int ds.length) m1 := fun G H σ R Q q => by
  refine ⟨_, pe_callB call_len hg hm PySem.boot_len pa_w (he := hs), ?_⟩
  refine da_one ha hs G H σ R _ fun vs G1 H1 x1 rv => ?_
  cases rv with
  | cons r1 r2 =>
    cases r2
    obtain ⟨p, xs, rfl, h1, h2⟩ := r1.lst
    exact ⟨_, ds.length, rfl, .inl ⟨xs, SqL.of (x1.gh _ _ h1), h2.len.symm⟩, q _ _ _ x1 (.inl (.int _))⟩
theorem de_lenT (hm : X.mg "len" = none) (ha : DE X F m δ a (.tuple ds) m1) (hs : starEach [a] X.env = (false, eval a X.env) :: starEach [] X.env := by rfl) (hg : Gl X "len" := by rfl) : DE X F m δ (.Call (.Name "len" p) [a] [] pos) (.int ds.length) m1 := fun G H σ R Q q => by
  refine ⟨_, pe_callB call_len hg hm PySem.boot_len pa_w (he := hs), ?_⟩
  refine da_one ha hs G H σ R _ fun vs G1 H1 x1 rv => ?_
  cases rv with
  | cons r1 r2 =>
    cases r2
    obtain ⟨p, xs, rfl, h1, h2⟩ := r1.tup
    exact ⟨_, ds.length, rfl, .inr ⟨xs, Same.sqT x1.gh h1, h2.len.symm⟩, q _ _ _ x1 (.inl (.int _))⟩
theorem de_lenF (hm : X.mg "len" = none) (ha : DE X F m δ a (fz ds) m1) (hs : starEach [a] X.env = (false, eval a X.env) :: starEach [] X.env := by rfl) (hg : Gl X "len" := by rfl) : DE X F m δ (.Call (.Name "len" p) [a] [] pos) (.int ds.length) m1 := fun G H σ R Q q => by
  refine ⟨_, pe_callB call_len hg hm PySem.boot_len pa_w (he := hs), ?_⟩
  refine da_one ha hs G H σ R _ fun vs G1 H1 x1 rv => ?_
  cases rv with
  | cons r1 r2 =>
    cases r2
    obtain ⟨p, xs, rfl, h1, h2⟩ := r1.frz
    exact ⟨_, ds.length, rfl, .inl ⟨xs, Same.seq x1.gh h1, h2.len.symm⟩, q _ _ _ x1 (.inl (.int _))⟩
/-- list(a tuple), list(a list that is only read) -/
theorem do_listT (hm : X.mg "list" = none) (ha : DE X F m δ a (.tuple ds) m1) (hs : starEach [a] X.env = (false, eval a X.env) :: starEach [] X.env := by rfl) (hg : Gl X "list" := by rfl) : DO X F m δ (.Call (.Name "list" p) [a] [] pos) ds m1 := fun G H σ R Q q => by
  refine ⟨_, pe_callTy call_list_of hg hm (by decide +kernel) pa_w (he := hs), ?_⟩
  refine da_one ha hs G H σ R _ fun vs G1 H1 x1 rv => ?_
  cases rv with
  | cons r1 r2 =>
    cases r2
    obtain ⟨p, xs, rfl, h1, h2⟩ := r1.tup
    exact ⟨p, xs, rfl, .inr (Same.sqT x1.gh h1), fun l hl => q _ _ _ _ (x1.trans R.ob (Ext.layH (o := .lst xs) x1.gh x1.ob hl)) (fresh_of x1 hl) (same_none x1.gh hl) upd_same h2⟩
theorem do_listF (hm : X.mg "list" = none) (ha : DE X F m δ a (fz ds) m1) (hs : starEach [a] X.env = (false, eval a X.env) :: starEach [] X.env := by rfl) (hg : Gl X "list" := by rfl) : DO X F m δ (.Call (.Name "list" p) [a] [] pos) ds m1 := fun G H σ R Q q => by
  refine ⟨_, pe_callTy call_list_of hg hm (by decide +kernel) pa_w (he := hs), ?_⟩
  refine da_one ha hs G H σ R _ fun vs G1 H1 x1 rv => ?_
  cases rv with
  | cons r1 r2 =>
    cases r2
    obtain ⟨p, xs, rfl, h1, h2⟩ := r1.frz
    exact ⟨p, xs, rfl, .inl (Same.seq x1.gh h1), fun l hl => q _ _ _ _ (x1.trans R.ob (Ext.layH (o := .lst xs) x1.gh x1.ob hl)) (fresh_of x1 hl) (same_none x1.gh hl) upd_same h2⟩
theorem de_tupleL (hm : X.mg "tuple" = none) (ha : DE X F m δ a (.list ds) m1) (hs : starEach [a] X.env = (false, eval a X.env) :: starEach [] X.env := by rfl) (hg : Gl X "tuple" := by rfl) : DE X F m δ (.Call (.Name "tuple" p) [a] [] pos) (.tuple ds) m1 := fun G H σ R Q q => by
  refine ⟨_, pe_callTy call_tuple_of hg hm (by decide +kernel) pa_w (he := hs), ?_⟩
  refine da_one ha hs G H σ R _ fun vs G1 H1 x1 rv => ?_
  cases rv with
  | cons r1 r2 =>
    cases r2
    obtain ⟨p, xs, rfl, h1, h2⟩ := r1.lst
    refine ⟨p, xs, rfl, .inl ⟨SqL.of (x1.gh _ _ h1), fun l hl => ?_⟩⟩
    have x2 := Ext.lay (o := .tup xs) x1.gh x1.ob hl
    exact q _ _ _ (x1.trans R.ob x2) (.inl (.tup (SqT.of upd_same) (DtAll.mono x2.gg _ _ h2)))
theorem de_all {bs : List Bool} (hm : X.mg "all" = none) (ha : DE X F m δ a (.list (bs.map .bool)) m1) (hs : starEach [a] X.env = (false, eval a X.env) :: starEach [] X.env := by rfl) (hc : X.calm = true := by rfl) (hg : Gl X "all" := by rfl) : DE X F m δ (.Call (.Name "all" p) [a] [] pos) (.bool (bs.all id)) m1 := fun G H σ R Q q => by
  refine ⟨_, pe_callB (cr_all hc) hg hm (by decide +kernel) pa_w (he := hs), ?_⟩
  refine da_one ha hs G H σ R _ fun vs G1 H1 x1 rv => ?_
  cases rv with
  | cons r1 r2 =>
    cases r2
    obtain ⟨p, xs, rfl, h1, h2⟩ := r1.lst
    have e := bls_dp bs _ h2
    subst e
    exact ⟨p, bs, rfl, SqL.of (x1.gh _ _ h1), q _ _ _ x1 (.inl (.bl _))⟩
theorem de_max {ns : List Int} {i : Int} (hm : X.mg "max" = none) (ha : DE X F m δ a (.list (ns.map .int)) m1) (h0 : 0 < ns.length) (hi : i ∈ ns) (hle : ∀ y ∈ ns, y ≤ i) (hs : starEach [a] X.env = (false, eval a X.env) :: starEach [] X.env := by rfl) (hc : X.calm = true := by rfl) (hg : Gl X "max" := by rfl) : DE X F m δ (.Call (.Name "max" p) [a] [] pos) (.int i) m1 := fun G H σ R Q q => by
  refine ⟨_, pe_callB (cr_max hc) hg hm (by decide +kernel) pa_w (he := hs), ?_⟩
  refine da_one ha hs G H σ R _ fun vs G1 H1 x1 rv => ?_
  cases rv with
  | cons r1 r2 =>
    cases r2
    obtain ⟨p, xs, rfl, h1, h2⟩ := r1.lst
    have e := ints_dp ns _ h2
    subst e
    refine ⟨p, ns, rfl, SqL.of (x1.gh _ _ h1), h0, fun j hj hj2 => ?_⟩
    have e : j = i := Int.le_antisymm (hle j hj) (hj2 i hi)
    rw [e]
    exact q _ _ _ x1 (.inl (.int _))
theorem de_min {ns : List Int} {i : Int} (hm : X.mg "min" = none) (ha : DE X F m δ a (.list (ns.map .int)) m1) (h0 : 0 < ns.length) (hi : i ∈ ns) (hle : ∀ y ∈ ns, i ≤ y) (hs : starEach [a] X.env = (false, eval a X.env) :: starEach [] X.env := by rfl) (hc : X.calm = true := by rfl) (hg : Gl X "min" := by rfl) : DE X F m δ (.Call (.Name "min" p) [a] [] pos) (.int i) m1 := fun G H σ R Q q => by
  refine ⟨_, pe_callB (cr_min hc) hg hm (by decide +kernel) pa_w (he := hs), ?_⟩
  refine da_one ha hs G H σ R _ fun vs G1 H1 x1 rv => ?_
  cases rv with
  | cons r1 r2 =>
    cases r2
    obtain ⟨p, xs, rfl, h1, h2⟩ := r1.lst
    have e := ints_dp ns _ h2
    subst e
    refine ⟨p, ns, rfl, SqL.of (x1.gh _ _ h1), h0, fun j hj hj2 => ?_⟩
    have e : j = i := Int.le_antisymm (hj2 i hi) (hle j hj)
    rw [e]
    exact q _ _ _ x1 (.inl (.int _))
theorem de_max2 {i j : Int} (hm : X.mg "max" = none) (ha : DE X F m δ a (.int i) m1) (hb : DE X F m1 δ b (.int j) m2) (hs : starEach [a, b] X.env = (false, eval a X.env) :: starEach [b] X.env := by rfl) (hs2 : starEach [b] X.env = (false, eval b X.env) :: starEach [] X.env := by rfl) (hpl : (backTo pos (starEach [b] X.env)).any (·.1) = false := by rfl) (hc : X.calm = true := by rfl) (hg : Gl X "max" := by rfl) : DE X F m δ (.Call (.Name "max" p) [a, b] [] pos) (.int (if j > i then j else i)) m2 := fun G H σ R Q q => by
  refine ⟨_, pe_callB (call_max2 hc) hg hm (by decide +kernel) pa_w (he := hs) (hpl := hpl), ?_⟩
  refine da_cons ha (da_one hb hs2) hs G H σ R _ fun vs G1 H1 x1 rv => ?_
  cases rv with
  | cons r1 r2 =>
    cases r2 with
    | cons r3 r4 =>
      cases r4
      rw [r1.int, r3.int]
      exact ⟨i, j, rfl, q _ _ _ x1 (.inl (.int _))⟩
end
end Pv
/-! ### 5. Statements -/
namespace Pv
open PySem PySem.Spec PyProof.Rows L2

section
variable (X : Cx)
def WG (tg : Expr) : TG := fun v σ H Q => ∃ g, PG X tg g ∧ g v σ H Q
def WGs (tgs : List Expr) : TGs := fun vs σ H Q => ∃ g, PGs X tgs g ∧ g vs σ H Q
def WI (tg iter : Expr) : TI := fun σ H R => ∃ t, PI X tg iter t ∧ t σ H R
def WS (st : Stmt) : TS := fun D σ H => ∃ t, PS X st t ∧ t D σ H
def WSs (sts : List Stmt) : TS := fun D σ H => ∃ t, PSs X sts t ∧ t D σ H
def WTs (ifs : List Expr) : TT := fun σ H Q => ∃ t, PTs X ifs t ∧ t σ H Q
end
section
variable {X : Cx}
theorem pg_w {tg : Expr} : PG X tg (WG X tg) := ⟨fun pins s σ H v u Q I r ⟨_, h, q⟩ => h.run pins s σ H v u Q I r q⟩
theorem pgs_w {tgs : List Expr} : PGs X tgs (WGs X tgs) := ⟨fun pins s σ H v u Q I r ⟨_, h, q⟩ => h.run pins s σ H v u Q I r q⟩
theorem pi_w {tg iter : Expr} : PI X tg iter (WI X tg iter) := ⟨fun pins s σ H R I ⟨_, h, q⟩ => h.run pins s σ H R I q⟩
theorem ps_w {st : Stmt} : PS X st (WS X st) := ⟨fun pins s σ H D I ⟨_, h, q⟩ => h.run pins s σ H D I q⟩
theorem pss_w {sts : List Stmt} : PSs X sts (WSs X sts) := ⟨fun pins s σ H D I ⟨_, h, q⟩ => h.run pins s σ H D I q⟩
theorem pts_w {ifs : List Expr} : PTs X ifs (WTs X ifs) := ⟨fun pins s σ H Q I ⟨_, h, q⟩ => h.run pins s σ H Q I q⟩
end

/-- what is wanted behind a statement, by data -/
structure En where
  nx : Option Ob → List Sl → Prop
  rt : Option Ob → PyData → Prop
  bk : Option Ob → List Sl → Prop := fun _ _ => False
structure Good (K : Fg) (F : Fr) (G0 : Hp) (E : En) (D : Ends) : Prop where
  nx : ∀ G H m σ δ, Frm F G0 G H → Rel K F G H m σ δ → E.nx m δ → D.nx σ H
  rt : ∀ G H m v d, Frm F G0 G H → Same G H → ObOk K F G H m → Rp K G v d → E.rt m d → D.rt v H
  bk : ∀ G H m σ δ, Frm F G0 G H → Rel K F G H m σ δ → E.bk m δ → D.bk σ H
def DS (X : Cx) (F : Fr) (E : En) (m : Option Ob) (δ : List Sl) (st : Stmt) : Prop :=
  ∀ (G0 : Hp) (D : Ends), Good X.K F G0 E D → ∀ (G H : Hp) (σ : Sg), Frm F G0 G H → Rel X.K F G H m σ δ → WS X st D σ H
def DSs (X : Cx) (F : Fr) (E : En) (m : Option Ob) (δ : List Sl) (sts : List Stmt) : Prop :=
  ∀ (G0 : Hp) (D : Ends), Good X.K F G0 E D → ∀ (G H : Hp) (σ : Sg), Frm F G0 G H → Rel X.K F G H m σ δ → WSs X sts D σ H
/-- a target takes d; ws: the slots that change -/
def DG (X : Cx) (F : Fr) (δ : List Sl) (tg : Expr) (d : PyData) (δ' : List Sl) (ws : List Nat) : Prop :=
  ∀ (G H : Hp) (m : Option Ob) (σ : Sg) (v : V), Rel X.K F G H m σ δ → Rp X.K G v d → ∀ Q : Sg → Hp → Prop, (∀ σ', Rel X.K F G H m σ' δ' → (∀ j, j ∉ ws → σ'[j]? = σ[j]?) → σ'.length = σ.length → Q σ' H) → WG X tg v σ H Q
def DGs (X : Cx) (F : Fr) (δ : List Sl) (tgs : List Expr) (ds : List PyData) (δ' : List Sl) (ws : List Nat) : Prop :=
  ∀ (G H : Hp) (m : Option Ob) (σ : Sg) (vs : List V), Rel X.K F G H m σ δ → RpAll X.K G vs ds → ∀ Q : Sg → Hp → Prop, (∀ σ', Rel X.K F G H m σ' δ' → (∀ j, j ∉ ws → σ'[j]? = σ[j]?) → σ'.length = σ.length → Q σ' H) → WGs X tgs vs σ H Q

section
variable {K : Fg} {F : Fr} {G H : Hp} {m : Option Ob} {σ : Sg} {δ : List Sl}
theorem set_own {i : Nat} {s : Sl} (hs : ∀ d, s ≠ .own d) {j : Nat} {e : PyData} (q : (δ.set i s)[j]? = some (.own e)) : j ≠ i ∧ δ[j]? = some (.own e) := by
  by_cases c : i = j
  · subst c
    by_cases l : i < δ.length
    · rw [List.getElem?_set_self l] at q
      exact absurd (Option.some.inj q) (hs e)
    · rw [List.getElem?_eq_none (by simpa using l)] at q
      cases q
  · rw [List.getElem?_set_ne c] at q
    exact ⟨fun z => c z.symm, q⟩
theorem Rel.set (r : Rel K F G H m σ δ) (i : Nat) {v : V} {d : PyData} (h : Rp K G v d) : Rel K F G H m (σ.set i (some v)) (δ.set i (.v d)) := by
  have ns : ∀ e, Sl.v d ≠ .own e := fun e z => nomatch z
  refine ⟨r.gh, by rw [List.length_set, List.length_set]; exact r.len, fun j s e => ?_, fun j l d1 e1 a ne h1 h2 h3 => ?_, r.ob⟩
  · by_cases c : i = j
    · subst c
      by_cases l : i < δ.length
      · rw [List.getElem?_set_self l] at e
        cases e
        exact ⟨v, by rw [List.getElem?_set_self (by rw [← r.len]; exact l)], h⟩
      · rw [List.getElem?_eq_none (by simpa using l)] at e
        cases e
    · rw [List.getElem?_set_ne c] at e ⊢
      exact r.sl j s e
  · obtain ⟨c1, h1⟩ := set_own ns h1
    obtain ⟨c2, h2⟩ := set_own ns h2
    rw [List.getElem?_set_ne (Ne.symm c1)] at h3
    rw [List.getElem?_set_ne (Ne.symm c2)]
    exact r.inj j l d1 e1 a ne h1 h2 h3
/-- a new thing of the frame's own -/
theorem Rel.setOwn (r : Rel K F G H m σ δ) (i : Nat) {a : Addr} {d : PyData} (h0 : F.H0 a = none) (hg : G a = none) (h : OwnAt K G H a d)
    (ha : ∀ (j : Nat) (e : PyData), j ≠ i → δ[j]? = some (.own e) → σ[j]? ≠ some (some (.ref a))) : Rel K F G H m (σ.set i (some (.ref a))) (δ.set i (.own d)) := by
  refine ⟨r.gh, by rw [List.length_set, List.length_set]; exact r.len, fun j s e => ?_, fun j l d1 e1 b ne h1 h2 h3 => ?_, r.ob⟩
  · by_cases c : i = j
    · subst c
      by_cases l : i < δ.length
      · rw [List.getElem?_set_self l] at e
        cases e
        exact ⟨a, by rw [List.getElem?_set_self (by rw [← r.len]; exact l)], h0, hg, h⟩
      · rw [List.getElem?_eq_none (by simpa using l)] at e
        cases e
    · rw [List.getElem?_set_ne c] at e ⊢
      exact r.sl j s e
  · by_cases c1 : i = j
    · subst c1
      have hi : i < σ.length := by
        have z := (List.getElem?_eq_some_iff.mp h1).1
        rw [List.length_set, r.len] at z
        exact z
      rw [List.getElem?_set_self hi] at h3
      cases h3
      rw [List.getElem?_set_ne ne] at h2 ⊢
      exact ha l e1 (Ne.symm ne) h2
    · rw [List.getElem?_set_ne c1] at h1 h3
      by_cases c2 : i = l
      · subst c2
        intro q
        have hi : i < σ.length := by
          have z := (List.getElem?_eq_some_iff.mp h2).1
          rw [List.length_set, r.len] at z
          exact z
        rw [List.getElem?_set_self hi] at q
        cases q
        exact ha j d1 (Ne.symm c1) h1 h3
      · rw [List.getElem?_set_ne c2] at h2 ⊢
        exact r.inj j l d1 e1 b ne h1 h2 h3
/-- .. laid just now -/
theorem Rel.setNew {G1 H1 : Hp} {m1 : Option Ob} (r : Rel K F G H m σ δ) (f0 : ∀ b o, F.H0 b = some o → F.ka ≠ some b → H b = some o) (x : Ext K F G H G1 H1 m1) (i : Nat) {a : Addr} {d : PyData} (n : H a = none) (hg : G1 a = none) (h : OwnAt K G1 H1 a d) :
    Rel K F G1 H1 m1 (σ.set i (some (.ref a))) (δ.set i (.own d)) := by
  refine (r.ext x).setOwn i ?_ hg h fun j e _ q z => ?_
  · cases z : F.H0 a with
    | none => rfl
    | some o =>
      by_cases c : F.ka = some a
      · obtain ⟨dx, vs, q⟩ := r.ob.ins c
        rw [n] at q
        cases q
      · have q := f0 a o z c
        rw [n] at q
        cases q
  · obtain ⟨b, q1, _, _, q2⟩ := r.sl j _ q
    rw [z] at q1
    cases q1
    obtain ⟨o, q3, _⟩ := q2.is
    rw [n] at q3
    cases q3
theorem Frm.trans {G0 G1 H1 : Hp} (f : Frm F G0 G1 H1) (g : Frm F G1 G H) : Frm F G0 G H := ⟨f.g0.trans g.g0, g.h0, fun b h n => g.nw b (f.nw b h n) n⟩
theorem Frm.re {G0 : Hp} (f : Frm F G0 G H) : Frm F G G H := ⟨Same.refl _, f.h0, fun _ h _ => h⟩
end

section
variable {X : Cx} {F : Fr} {E : En} {m m1 m2 : Option Ob} {δ δ1 δ2 : List Sl} {e a b c : Expr} {es : List Expr} {pos : Pos} {d : PyData} {ds : List PyData} {ws ws2 : List Nat} {st : Stmt} {sts : List Stmt}
/-! targets -/
theorem dg_name {i : Nat} {x : Str} (hN : X.N.Nodup) (hi : X.N[i]? = some x) (hx : Loc X.env.scope x) (hf : X.fn x = true ∨ X.env.scope.names.lookup x = some .local := by first | exact .inl rfl | exact .inr rfl) : DG X F δ (.Name x pos) d (δ.set i (.v d)) [i] := fun G H m σ v R rv Q q =>
  ⟨_, pg_name hN hi hx hf, q _ (R.set i rv) (fun j n => List.getElem?_set_ne (fun z => n (by rw [z]; exact List.mem_singleton_self j))) (List.length_set)⟩
theorem dgs_nil : DGs X F δ [] [] δ [] := fun G H m σ v R rv Q q => by
  cases rv
  exact ⟨_, pgs_nil, rfl, q σ R (fun _ _ => rfl) rfl⟩
theorem dgs_cons {tg : Expr} {tgs : List Expr} (h : DG X F δ tg d δ1 ws) (hr : DGs X F δ1 tgs ds δ2 ws2) (hs : (assignEach (tg :: tgs) X.env).map (·.2) = assign tg X.env :: (assignEach tgs X.env).map (·.2) := by rfl) : DGs X F δ (tg :: tgs) (d :: ds) δ2 (ws ++ ws2) := fun G H m σ vs R rv Q q => by
  cases rv with
  | cons r1 r2 =>
    refine ⟨_, pgs_cons pg_w pgs_w hs, _, _, rfl, ?_⟩
    refine h G H m σ _ R r1 _ fun σ1 R1 k1 l1 => ?_
    refine hr G H m σ1 _ R1 r2 _ fun σ2 R2 k2 l2 => q σ2 R2 (fun j n => ?_) (l2.trans l1)
    rw [List.mem_append, not_or] at n
    rw [k2 j n.2, k1 j n.1]
theorem DtAll.rp {K : Fg} {G : Hp} : ∀ {vs : List V} {ds : List PyData}, DtAll K G vs ds → RpAll K G vs ds
  | _, _, .nil => .nil
  | _, _, .cons h t => .cons (.inl h) (DtAll.rp t)
theorem dg_tup {k} {n : Nat} (h : DGs X F δ es ds δ1 ws) (hl : ds.length = n) (hn : (assignEach es X.env).length = n := by rfl) (hst : (assignEach es X.env).findIdx? (·.1) = none := by rfl) (hc : X.calm = true := by rfl) : DG X F δ (.Tuple es k pos) (.tuple ds) δ1 ws := fun G H m σ v R rv Q q => by
  obtain ⟨a, xs, rfl, h1, h2⟩ := rv.tup
  refine ⟨_, pg_tup hc pgs_w hn hst, a, xs, rfl, Same.sqT R.gh h1, by rw [h2.len, hl], ?_⟩
  exact h G H m σ _ R h2.rp _ q

/-! blocks -/
theorem dss_nil (h : E.nx m δ) : DSs X F E m δ [] := fun G0 D gd G H σ fr R => ⟨_, pss_nil, gd.nx G H m σ δ fr R h⟩
theorem dss_cons (h : DS X F ⟨fun m' δ' => DSs X F E m' δ' sts, E.rt, E.bk⟩ m δ st) : DSs X F E m δ (st :: sts) := fun G0 D gd G H σ fr R => by
  refine ⟨_, pss_cons ps_w pss_w, ?_⟩
  exact h G0 { D with nx := WSs X sts D } ⟨fun G H m σ δ fr R q => q G0 D gd G H σ fr R, gd.rt, gd.bk⟩ G H σ fr R
theorem dss_one (h : DS X F E m δ st) : DSs X F E m δ [st] := fun G0 D gd G H σ fr R => ⟨_, pss_one ps_w, h G0 D gd G H σ fr R⟩
theorem DSs.imp {E' : En} (h : DSs X F E m δ sts) (h1 : ∀ m δ, E.nx m δ → E'.nx m δ) (h2 : ∀ m d, E.rt m d → E'.rt m d) (h3 : ∀ m δ, E.bk m δ → E'.bk m δ) : DSs X F E' m δ sts := fun G0 D gd =>
  h G0 D ⟨fun G H m σ δ fr R q => gd.nx G H m σ δ fr R (h1 _ _ q), fun G H m v d fr s o r q => gd.rt G H m v d fr s o r (h2 _ _ q), fun G H m σ δ fr R q => gd.bk G H m σ δ fr R (h3 _ _ q)⟩

/-! assignments, returns -/
theorem ds_set {i : Nat} {x : Str} {pos' : Pos} (hN : X.N.Nodup) (hi : X.N[i]? = some x) (hx : Loc X.env.scope x) (h : DE X F m δ e d m1) (q : E.nx m1 (δ.set i (.v d)))
    (hs : swapsWith e (some (.Name x pos')) pos.line X.env = pure false := by rfl) (hf : X.fn x = true ∨ X.env.scope.names.lookup x = some .local := by first | exact .inl rfl | exact .inr rfl) : DS X F E m δ (.Assign [.Name x pos'] e pos) := fun G0 D gd G H σ fr R => by
  refine ⟨_, ps_set hN hi hx pe_w hs hf, ?_⟩
  refine h G H σ R _ fun v G1 H1 x1 rv => ?_
  exact gd.nx G1 H1 m1 _ _ (fr.ext R.ob x1) ((R.ext x1).set i rv) q
theorem ds_new {i : Nat} {x : Str} {pos' : Pos} (hN : X.N.Nodup) (hi : X.N[i]? = some x) (hx : Loc X.env.scope x) (h : DO X F m δ e ds m1) (q : E.nx m1 (δ.set i (.own (.list ds))))
    (hs : swapsWith e (some (.Name x pos')) pos.line X.env = pure false := by rfl) (hf : X.fn x = true ∨ X.env.scope.names.lookup x = some .local := by first | exact .inl rfl | exact .inr rfl) : DS X F E m δ (.Assign [.Name x pos'] e pos) := fun G0 D gd G H σ fr R => by
  refine ⟨_, ps_set hN hi hx pe_w hs hf, ?_⟩
  refine h G H σ R _ fun a xs G1 H1 x1 n1 n2 h1 h2 => ?_
  exact gd.nx G1 H1 m1 _ _ (fr.ext R.ob x1) (R.setNew fr.h0 x1 i n1 n2 (.inl ⟨ds, xs, rfl, h1, h2⟩)) q
theorem ds_asg {tg : Expr} (h : DE X F m δ e d m1) (hg : DG X F δ tg d δ1 ws) (q : E.nx m1 δ1) (hs : swapsWithSole [tg] e pos.line X.env = pure false := by rfl) (hw : swappedStores [tg] e X.env = pure none := by rfl)
    (h1 : (assignEach [tg] X.env).map (·.2) = [assign tg X.env] := by rfl) : DS X F E m δ (.Assign [tg] e pos) := fun G0 D gd G H σ fr R => by
  refine ⟨_, ps_asg pe_w pg_w hs hw h1, ?_⟩
  refine h G H σ R _ fun v G1 H1 x1 rv => ?_
  exact hg G1 H1 m1 σ v (R.ext x1) rv _ fun σ' R' _ _ => gd.nx G1 H1 m1 _ _ (fr.ext R.ob x1) R' q
theorem ds_ret (h : DE X F m δ e d m1) (q : E.rt m1 d) : DS X F E m δ (.Return (some e) pos) := fun G0 D gd G H σ fr R => by
  refine ⟨_, ps_ret pe_w, ?_⟩
  exact h G H σ R _ fun v G1 H1 x1 rv => gd.rt G1 H1 m1 v d (fr.ext R.ob x1) x1.gh x1.ob rv q
theorem ds_expr (h : DE X F m δ e d m1) (q : E.nx m1 δ) (hs : swapsWith e none pos.line X.env = pure false := by rfl) : DS X F E m δ (.Expr e pos) := fun G0 D gd G H σ fr R => by
  refine ⟨_, ps_expr pe_w hs, ?_⟩
  exact h G H σ R _ fun v G1 H1 x1 rv => gd.nx G1 H1 m1 _ _ (fr.ext R.ob x1) (R.ext x1) q
theorem ds_if {k : Bool} {s1 s2 : List Stmt} (hc : DT X F m δ c k) (h1 : k = true → DSs X F E m δ s1) (h2 : k = false → DSs X F E m δ s2) : DS X F E m δ (.If c s1 s2 pos) := fun G0 D gd G H σ fr R => by
  refine ⟨_, ps_if pt_w pss_w pss_w, ?_⟩
  refine hc G H σ R _ fun G1 H1 x1 => ?_
  cases k with
  | true =>
    rw [if_pos rfl]
    exact h1 rfl G0 D gd G1 H1 σ (fr.ext R.ob x1) (R.ext x1)
  | false =>
    rw [if_neg Bool.false_ne_true]
    exact h2 rfl G0 D gd G1 H1 σ (fr.ext R.ob x1) (R.ext x1)
/-- name += e -/
theorem ds_addI {i : Nat} {x : Str} {pos' : Pos} {j l : Int} (hN : X.N.Nodup) (hi : X.N[i]? = some x) (hx : Loc X.env.scope x) (hd : δ[i]? = some (.v (.int j))) (h : DE X F m δ e (.int l) m1) (q : E.nx m1 (δ.set i (.v (.int (j + l)))))
    (hf : X.fn x = true ∨ X.env.scope.names.lookup x = some .local := by first | exact .inl rfl | exact .inr rfl) : DS X F E m δ (.AugAssign (.Name x pos') .Add e pos) := fun G0 D gd G H σ fr R => by
  refine ⟨_, ps_aug hN hi hx pe_w ip_add hf, ?_⟩
  obtain ⟨v, e1, e2⟩ := R.sl i _ hd
  refine ⟨v, e1, ?_⟩
  refine h G H σ R _ fun y G1 H1 x1 ry => ?_
  refine ⟨j, l, e2.int, ry.int, ?_⟩
  exact gd.nx G1 H1 m1 _ _ (fr.ext R.ob x1) ((R.ext x1).set i (.inl (.int _))) q
/-- a, b = e1, e2 -/
theorem ds_par {i j : Nat} {x y : Str} {px py pt pt2 : Pos} {kt k2} {d1 d2 : PyData} (hN : X.N.Nodup) (hi : X.N[i]? = some x) (hj : X.N[j]? = some y) (hij : i ≠ j) (hx : X.env.scope.names.lookup x = some .local) (hy : X.env.scope.names.lookup y = some .local) (h : DA X F m δ [a, b] [d1, d2] m1) (q : E.nx m1 ((δ.set i (.v d1)).set j (.v d2))) (hw : swappedStores [.Tuple [.Name x px, .Name y py] kt pt] (.Tuple [a, b] k2 pt2) X.env = pure (some [x, y]) := by rfl) (hs : swapsWithSole [.Tuple [.Name x px, .Name y py] kt pt] (.Tuple [a, b] k2 pt2) pos.line X.env = pure false := by rfl) (hc : X.calm = true := by rfl) : DS X F E m δ (.Assign [.Tuple [.Name x px, .Name y py] kt pt] (.Tuple [a, b] k2 pt2) pos) := fun G0 D gd G H σ fr R => by
  refine ⟨_, ps_par hc hN hi hj hij hx hy pa_w hw hs, ?_⟩
  refine h G H σ R _ fun vs G1 H1 x1 rv => ?_
  cases rv with
  | cons r1 r2 =>
    cases r2 with
    | cons r3 r4 =>
      cases r4
      exact ⟨_, _, rfl, gd.nx G1 H1 m1 _ _ (fr.ext R.ob x1) (((R.ext x1).set i r1).set j r3) q⟩
theorem ds_par3 {i j l : Nat} {x y z : Str} {px py pz pt pt2 : Pos} {kt k2} {d1 d2 d3 : PyData} (hN : X.N.Nodup) (hi : X.N[i]? = some x) (hj : X.N[j]? = some y) (hl : X.N[l]? = some z) (hij : i ≠ j) (hil : i ≠ l) (hjl : j ≠ l) (hx : X.env.scope.names.lookup x = some .local) (hy : X.env.scope.names.lookup y = some .local) (hz : X.env.scope.names.lookup z = some .local) (h : DA X F m δ [a, b, c] [d1, d2, d3] m1) (q : E.nx m1 (((δ.set i (.v d1)).set j (.v d2)).set l (.v d3))) (hw : swappedStores [.Tuple [.Name x px, .Name y py, .Name z pz] kt pt] (.Tuple [a, b, c] k2 pt2) X.env = pure (some [x, y, z]) := by rfl) (hs : swapsWithSole [.Tuple [.Name x px, .Name y py, .Name z pz] kt pt] (.Tuple [a, b, c] k2 pt2) pos.line X.env = pure false := by rfl) (hc : X.calm = true := by rfl) : DS X F E m δ (.Assign [.Tuple [.Name x px, .Name y py, .Name z pz] kt pt] (.Tuple [a, b, c] k2 pt2) pos) := fun G0 D gd G H σ fr R => by
  refine ⟨_, ps_par3 hc hN hi hj hl hij hil hjl hx hy hz pa_w hw hs, ?_⟩
  refine h G H σ R _ fun vs G1 H1 x1 rv => ?_
  cases rv with
  | cons r1 r2 =>
    cases r2 with
    | cons r3 r4 =>
      cases r4 with
      | cons r5 r6 =>
        cases r6
        exact ⟨_, _, _, rfl, gd.nx G1 H1 m1 _ _ (fr.ext R.ob x1) ((((R.ext x1).set i r1).set j r3).set l r5) q⟩
/-- what is the frame's own becomes what never changes -/
theorem Rel.freeze {G H : Hp} {σ : Sg} (R : Rel X.K F G H m σ δ) {i : Nat} (hd : δ[i]? = some (.own d)) : ∃ G', Same G G' ∧ (∀ b, G b = none → F.H0 b ≠ none → G' b = none) ∧ (∀ b, G b = none → H b = none → G' b = none) ∧ Rel X.K F G' H m σ (δ.set i (.v d)) := by
  obtain ⟨a, e1, e2, e3, e4⟩ := R.sl i _ hd
  have main : ∀ o : HO, H a = some o → (∀ C dx fs, o ≠ .ins C dx fs) → (Rp X.K (upd G a o) (.ref a) d) → ∃ G', Same G G' ∧ (∀ b, G b = none → F.H0 b ≠ none → G' b = none) ∧ (∀ b, G b = none → H b = none → G' b = none) ∧ Rel X.K F G' H m σ (δ.set i (.v d)) := fun o h n rp => by
    obtain ⟨q1, q2, q3⟩ := Ext.freeze R.gh R.ob h e3 n
    refine ⟨_, q1, fun b g w => ?_, fun b g w => ?_, ⟨q2, by rw [List.length_set]; exact R.len, fun j s e => ?_, fun j l d1 e1 b ne h1 h2 h3 => ?_, q3⟩⟩
    · rw [upd_ne (fun z => w (by rw [z]; exact e2))]
      exact g
    · rw [upd_ne (fun z => by rw [z, h] at w; cases w)]
      exact g
    · by_cases c : i = j
      · subst c
        by_cases l : i < δ.length
        · rw [List.getElem?_set_self l] at e
          cases e
          exact ⟨.ref a, e1, rp⟩
        · rw [List.getElem?_eq_none (by simpa using l)] at e
          cases e
      · rw [List.getElem?_set_ne c] at e
        have z := R.sl j s e
        cases s with
        | u => trivial
        | v d' =>
          obtain ⟨v, z1, z2⟩ := z
          exact ⟨v, z1, z2.mono q1⟩
        | own d' =>
          obtain ⟨b, z1, z2, z3, z4⟩ := z
          have ne : b ≠ a := fun w => R.inj i j d d' a c hd e e1 (by rw [z1, w])
          exact ⟨b, z1, z2, by rw [upd_ne ne]; exact z3, z4.mono q1 fun _ h => h⟩
        | obj => exact z
    · obtain ⟨_, h1⟩ := set_own (s := .v d) (fun e z => by cases z) h1
      obtain ⟨_, h2⟩ := set_own (s := .v d) (fun e z => by cases z) h2
      exact R.inj j l d1 _ b ne h1 h2 h3
  rcases e4 with ⟨ds, xs, rfl, h1, h2⟩ | ⟨n, xs, rfl, h1, h2⟩
  · exact main _ h1 (fun _ _ _ z => by cases z) (.inl (.lst upd_same (DtAll.mono (same_upd e3) _ _ h2)))
  · exact main _ h1 (fun _ _ _ z => by cases z) (.inr (.inl ⟨a, n, xs, rfl, rfl, upd_same, h2.mono (same_upd e3)⟩))
theorem dss_freeze (i : Nat) (hd : δ[i]? = some (.own d)) (h : DSs X F E m (δ.set i (.v d)) sts) : DSs X F E m δ sts := fun G0 D gd G H σ fr R => by
  obtain ⟨G', q1, q2, q3, R'⟩ := R.freeze hd
  exact h G0 D gd G' H σ ⟨fr.g0.trans q1, fr.h0, fun b g w => q2 b (fr.nw b g w) w⟩ R'

/-! own lists, own dicts that grow -/
theorem Rel.put {G H : Hp} {σ : Sg} (R : Rel X.K F G H m σ δ) {i : Nat} {a : Addr} {d' : PyData} {o : HO} (hd : δ[i]? = some (.own d)) (ha : σ[i]? = some (some (.ref a))) (ho : ∀ C dx fs, o ≠ .ins C dx fs) (h : OwnAt X.K G (upd H a o) a d') : Rel X.K F G (upd H a o) m σ (δ.set i (.own d')) := by
  obtain ⟨b, e1, e2, e3, e4⟩ := R.sl i _ hd
  rw [ha] at e1
  cases e1
  obtain ⟨u, hu, _⟩ := e4.is
  have nk : F.ka ≠ some a := e4.nka R.ob
  refine ⟨fun b w q => ?_, by rw [List.length_set]; exact R.len, fun j s e => ?_, fun j l d1 e1 b ne h1 h2 h3 => ?_, ?_⟩
  · rw [upd_ne (fun z => by rw [z, e3] at q; cases q)]
    exact R.gh b w q
  · by_cases c : i = j
    · subst c
      by_cases l : i < δ.length
      · rw [List.getElem?_set_self l] at e
        cases e
        exact ⟨a, ha, e2, e3, h⟩
      · rw [List.getElem?_eq_none (by simpa using l)] at e
        cases e
    · rw [List.getElem?_set_ne c] at e
      have z := R.sl j s e
      cases s with
      | u => trivial
      | v d' => exact z
      | own d2 =>
        obtain ⟨b, z1, z2, z3, z4⟩ := z
        have ne : b ≠ a := fun w => R.inj i j d d2 a c hd e ha (by rw [z1, w])
        exact ⟨b, z1, z2, z3, z4.mono (Same.refl _) fun o h => by rw [upd_ne ne]; exact h⟩
      | obj => exact z
  · have back : ∀ (j : Nat) (e : PyData), (δ.set i (.own d'))[j]? = some (.own e) → ∃ e', δ[j]? = some (.own e') := fun j e q => by
      by_cases c : i = j
      · subst c
        exact ⟨d, hd⟩
      · rw [List.getElem?_set_ne c] at q
        exact ⟨e, q⟩
    obtain ⟨d1', h1⟩ := back j d1 h1
    obtain ⟨e1', h2⟩ := back l _ h2
    exact R.inj j l d1' e1' b ne h1 h2 h3
  · have ob := R.ob
    cases m with
    | none => exact ob
    | some fs =>
      obtain ⟨k, dx, vs, h1, h2, h3, h4⟩ := ob
      have ne : k ≠ a := fun z => nk (by rw [h1, z])
      exact ⟨k, dx, vs, h1, h2, by rw [upd_ne ne]; exact h3, h4⟩
theorem Frm.put {G0 G H : Hp} {a : Addr} {o : HO} (fr : Frm F G0 G H) (h0 : F.H0 a = none) : Frm F G0 G (upd H a o) :=
  ⟨fr.g0, fun b u q n => by rw [upd_ne (fun z => by rw [z, h0] at q; cases q)]; exact fr.h0 b u q n, fr.nw⟩
theorem ds_append {i : Nat} {x : Str} {p apos cpos : Pos} (hN : X.N[i]? = some x) (hv : Vis X.env.scope x) (hd : δ[i]? = some (.own (.list ds))) (h : DE X F m δ e d m1) (n : nd d = true) (hz : ds.length < sizeLine) (q : E.nx m1 (δ.set i (.own (.list (ds ++ [d])))))
    (hn1 : (x == ("__debug__" : Str)) = false := by decide) (hn2 : (x == ("__classdict__" : Str)) = false := by decide)
    (hbase : attributeBase (.Name x p) "append" X.env (eval (.Name x p) X.env) = eval (.Name x p) X.env := by rfl)
    (hfew : ((backTo cpos (starEach [e] X.env)).all (fun x => !x.1) && (backToKw cpos (keywordEach [] X.env)).all (fun x => x.1.isSome)
      && decide ([e].length + ([] : List Keyword).length + (if ([] : List Keyword).isEmpty then 0 else 1) < 30)) = true := by rfl)
    (hline : (apos.endLine == cpos.line) = true := by rfl) (hs : starEach [e] X.env = (false, eval e X.env) :: starEach [] X.env := by rfl) (hplain : (backTo cpos (starEach [] X.env)).any (·.1) = false := by rfl)
    (hsw : swapsWith (.Call (.Attribute (.Name x p) "append" apos) [e] [] cpos) none pos.line X.env = pure false := by rfl) :
    DS X F E m δ (.Expr (.Call (.Attribute (.Name x p) "append" apos) [e] [] cpos) pos) := fun G0 D gd G H σ fr R => by
  refine ⟨_, ps_expr (pe_bm PySem.F.plainAttrs_list PySem.F.slot_list_append PySem.F.type_list_append mt_append (pe_var hN hv hn1 hn2) pa_w hbase hfew hline hs hplain) hsw, ?_⟩
  obtain ⟨a, e1, e2, e3, e4⟩ := R.sl i _ hd
  refine ⟨_, e1, ?_⟩
  have e5 : ∃ xs, H a = some (.lst xs) ∧ DtAll X.K G xs ds := by
    rcases e4 with ⟨es, xs, w, h1, h2⟩ | ⟨n, xs, w, h1, h2⟩
    · cases w
      exact ⟨xs, h1, h2⟩
    · cases w
  obtain ⟨xs, h1, h2⟩ := e5
  refine ⟨.inl ⟨rfl, xs, SqL.of h1⟩, ?_⟩
  refine da_one h hs G H σ R _ fun vs G1 H1 x1 rv => ?_
  cases rv with
  | cons r1 r2 =>
    cases r2
    have R1 := R.ext x1
    have h3 : H1 a = some (.lst xs) := x1.hh a _ h1 ((OwnAt.nka R.ob (.inl ⟨ds, xs, rfl, h1, h2⟩)))
    have h4 := DtAll.mono x1.gg _ _ h2
    refine ⟨a, xs, _, rfl, rfl, h3, by rw [h4.len]; exact hz, ?_⟩
    exact gd.nx _ _ m1 _ _ ((fr.ext R.ob x1).put e2) (R1.put hd e1 (fun _ _ _ z => by cases z) (.inl ⟨_, _, rfl, upd_same, h4.app (.one (r1.dt n))⟩)) q
theorem ds_extend {i : Nat} {x : Str} {p apos cpos : Pos} {es2 : List PyData} (hN : X.N[i]? = some x) (hv : Vis X.env.scope x) (hd : δ[i]? = some (.own (.list ds))) (h : DE X F m δ e (.list es2) m1) (hz : ds.length + es2.length ≤ sizeLine) (q : E.nx m1 (δ.set i (.own (.list (ds ++ es2)))))
    (hn1 : (x == ("__debug__" : Str)) = false := by decide) (hn2 : (x == ("__classdict__" : Str)) = false := by decide)
    (hbase : attributeBase (.Name x p) "extend" X.env (eval (.Name x p) X.env) = eval (.Name x p) X.env := by rfl)
    (hfew : ((backTo cpos (starEach [e] X.env)).all (fun x => !x.1) && (backToKw cpos (keywordEach [] X.env)).all (fun x => x.1.isSome)
      && decide ([e].length + ([] : List Keyword).length + (if ([] : List Keyword).isEmpty then 0 else 1) < 30)) = true := by rfl)
    (hline : (apos.endLine == cpos.line) = true := by rfl) (hs : starEach [e] X.env = (false, eval e X.env) :: starEach [] X.env := by rfl) (hplain : (backTo cpos (starEach [] X.env)).any (·.1) = false := by rfl)
    (hsw : swapsWith (.Call (.Attribute (.Name x p) "extend" apos) [e] [] cpos) none pos.line X.env = pure false := by rfl) :
    DS X F E m δ (.Expr (.Call (.Attribute (.Name x p) "extend" apos) [e] [] cpos) pos) := fun G0 D gd G H σ fr R => by
  refine ⟨_, ps_expr (pe_bm PySem.F.plainAttrs_list PySem.F.slot_list_extend PySem.F.type_list_extend mt_extend (pe_var hN hv hn1 hn2) pa_w hbase hfew hline hs hplain) hsw, ?_⟩
  obtain ⟨a, e1, e2, e3, e4⟩ := R.sl i _ hd
  refine ⟨_, e1, ?_⟩
  have e5 : ∃ xs, H a = some (.lst xs) ∧ DtAll X.K G xs ds := by
    rcases e4 with ⟨es, xs, w, h1, h2⟩ | ⟨n, xs, w, h1, h2⟩
    · cases w
      exact ⟨xs, h1, h2⟩
    · cases w
  obtain ⟨xs, h1, h2⟩ := e5
  refine ⟨.inl ⟨rfl, xs, SqL.of h1⟩, ?_⟩
  refine da_one h hs G H σ R _ fun vs G1 H1 x1 rv => ?_
  cases rv with
  | cons r1 r2 =>
    cases r2
    obtain ⟨b, ys, rfl, h5, h6⟩ := r1.lst
    have R1 := R.ext x1
    have h3 : H1 a = some (.lst xs) := x1.hh a _ h1 ((OwnAt.nka R.ob (.inl ⟨ds, xs, rfl, h1, h2⟩)))
    have h4 := DtAll.mono x1.gg _ _ h2
    refine ⟨a, b, xs, ys, rfl, rfl, h3, x1.gh _ _ h5, by rw [h4.len, h6.len]; exact hz, ?_⟩
    exact gd.nx _ _ m1 _ _ ((fr.ext R.ob x1).put e2) (R1.put hd e1 (fun _ _ _ z => by cases z) (.inl ⟨_, _, rfl, upd_same, h4.app h6⟩)) q
end
end Pv
/-! ### 6. What is walked: for, while, comprehensions -/
namespace Pv
open PySem PySem.Spec PyProof.Rows L2

/-- J gives the data ds, one behind another, while what stood in G1 stands -/
def IterOk (K : Fg) (F : Fr) (J : It) (G1 : Hp) (ds : List PyData) : Prop :=
  ∃ (P : Hp → Prop) (Y : Nat → Hp → V → Hp → Prop), Walk J ds.length P Y ∧ (∀ G H, Same G1 G → Same G H → P H) ∧
    ∀ i G H m x H', i < ds.length → Same G1 G → Same G H → ObOk K F G H m → Y i H x H' → ∃ G' d, Ext K F G H G' H' m ∧ ds[i]? = some d ∧ Rp K G' x d
def DI (X : Cx) (F : Fr) (m : Option Ob) (δ : List Sl) (tg iter : Expr) (ds : List PyData) (m' : Option Ob) : Prop :=
  ∀ (G H : Hp) (σ : Sg), Rel X.K F G H m σ δ → ∀ R : It → Hp → Prop, (∀ J G' H', Ext X.K F G H G' H' m' → IterOk X.K F J G' ds → R J H') → WI X tg iter σ H R

section
variable {X : Cx} {F : Fr} {E : En} {m m1 m2 m3 : Option Ob} {δ δ1 δ2 : List Sl} {e a b c tg iter : Expr} {es : List Expr} {pos p : Pos} {d : PyData} {ds es2 : List PyData} {ws ws2 : List Nat}
/-! what may be walked -/
theorem it_at {K : Fg} {G1 : Hp} {xs : List V} (h2 : DtAll K G1 xs ds) : ∀ i G H m x H', i < ds.length → Same G1 G → Same G H → ObOk K F G H m → YAt xs i H x H' → ∃ G' d, Ext K F G H G' H' m ∧ ds[i]? = some d ∧ Rp K G' x d := fun i G H m x H' hi s1 s2 ob y => by
  obtain ⟨rfl, e⟩ := y
  obtain ⟨d, q1, q2⟩ := h2.back e
  exact ⟨G, d, self_ext s2 ob, q1, .inl (Dt.mono s1 _ _ q2)⟩
theorem di_tup (h : DE X F m δ e (.tuple ds) m1) : DI X F m δ tg e ds m1 := fun G H σ R Q q => by
  refine ⟨_, pi_tup pe_w, ?_⟩
  refine h G H σ R _ fun v G1 H1 x1 rv => ?_
  obtain ⟨a, xs, rfl, h1, h2⟩ := rv.tup
  refine ⟨a, rfl, ⟨xs, Same.sqT x1.gh h1⟩, q _ _ _ x1 ⟨_, _, ?_, fun G H s1 s2 => Same.sqT (s1.trans s2) h1, it_at h2⟩⟩
  rw [← h2.len]
  exact walk_tup
theorem di_lst (h : DE X F m δ e (.list ds) m1) : DI X F m δ tg e ds m1 := fun G H σ R Q q => by
  refine ⟨_, pi_list pe_w, ?_⟩
  refine h G H σ R _ fun v G1 H1 x1 rv => ?_
  obtain ⟨a, xs, rfl, h1, h2⟩ := rv.lst
  refine ⟨a, rfl, ⟨xs, SqL.of (x1.gh _ _ h1)⟩, q _ _ _ x1 ⟨fun H => SqL X.K H a xs, _, ?_, fun G H s1 s2 => SqL.of (s2 _ _ (s1 _ _ h1)), it_at h2⟩⟩
  rw [← h2.len]
  exact walk_list
theorem di_rev (hm : X.mg "reversed" = none) (h : DE X F m δ e (.list ds) m1) (hs : starEach [e] X.env = (false, eval e X.env) :: starEach [] X.env := by rfl) (hs2 : starEach [e] X.env = [(false, eval e X.env)] := by rfl) (hg : Gl X "reversed" := by rfl) : DI X F m δ tg (.Call (.Name "reversed" p) [e] [] pos) ds.reverse m1 := fun G H σ R Q q => by
  refine ⟨_, pi_reversed hg hm pa_w hs2, ?_⟩
  refine da_one h hs G H σ R _ fun vs G1 H1 x1 rv => ?_
  cases rv with
  | cons r1 r2 =>
    cases r2
    obtain ⟨a, xs, rfl, h1, h2⟩ := r1.lst
    refine ⟨a, xs, rfl, SqL.of (x1.gh _ _ h1), q _ _ _ x1 ⟨fun H => SqL X.K H a xs, fun i H x H' => H' = H ∧ xs[xs.length - 1 - i]? = some x, ?_, fun G H s1 s2 => SqL.of (s2 _ _ (s1 _ _ h1)), fun i G H m x H' hi s1 s2 ob y => ?_⟩⟩
    · rw [List.length_reverse, ← h2.len]
      exact walk_rev
    · obtain ⟨rfl, e⟩ := y
      obtain ⟨d, q1, q2⟩ := h2.back e
      refine ⟨G, d, self_ext s2 ob, ?_, .inl (Dt.mono s1 _ _ q2)⟩
      rw [List.length_reverse] at hi
      rw [List.getElem?_reverse hi, ← h2.len]
      exact q1
theorem di_range1 {n : Nat} (hm : X.mg "range" = none) (h : DE X F m δ e (.int n) m1) (hn : n < 2 ^ 62) (hs : starEach [e] X.env = (false, eval e X.env) :: starEach [] X.env := by rfl) (hs2 : starEach [e] X.env = [(false, eval e X.env)] := by rfl) (hg : Gl X "range" := by rfl) : DI X F m δ tg (.Call (.Name "range" p) [e] [] pos) ((List.range n).map fun i => .int (i : Nat)) m1 := fun G H σ R Q q => by
  refine ⟨_, pi_range1 hg hm pa_w hs2, ?_⟩
  refine da_one h hs G H σ R _ fun vs G1 H1 x1 rv => ?_
  cases rv with
  | cons r1 r2 =>
    cases r2
    rw [r1.int]
    refine ⟨n, rfl, by omega, by omega, q _ _ _ x1 ⟨fun _ => True, YFn fun i => .int (0 + i), ?_, fun _ _ _ _ => trivial, fun i G H m x H' hi s1 s2 ob y => ?_⟩⟩
    · rw [List.length_map, List.length_range, show ((n : Int)).toNat = n by omega]
      exact walk_range
    · obtain ⟨rfl, rfl⟩ := y
      rw [List.length_map, List.length_range] at hi
      refine ⟨G, .int (i : Nat), self_ext s2 ob, ?_, ?_⟩
      · rw [List.getElem?_map, List.getElem?_range hi] <;> rfl
      · show Rp X.K G (.int (0 + (i : Int))) (.int (i : Int))
        rw [Int.zero_add]
        exact .inl (.int _)
/-- range(i, j, c) -/
theorem di_range3 {i j k : Int} {n : Nat} (hm : X.mg "range" = none) (ha : DE X F m δ a (.int i) m1) (hb : DE X F m1 δ b (.int j) m2) (hc : DE X F m2 δ c (.int k) m3) (hn : RgC i j k n) (h1 : starEach [a, b, c] X.env = (false, eval a X.env) :: starEach [b, c] X.env := by rfl) (h2 : starEach [b, c] X.env = (false, eval b X.env) :: starEach [c] X.env := by rfl) (h3 : starEach [c] X.env = (false, eval c X.env) :: starEach [] X.env := by rfl) (hpl : (backTo pos (starEach [b, c] X.env)).any (·.1) = false := by rfl) (hg : Gl X "range" := by rfl) : DI X F m δ tg (.Call (.Name "range" p) [a, b, c] [] pos) ((List.range n).map fun t => .int (i + (t : Nat) * k)) m3 := fun G H σ R Q q => by
  refine ⟨_, pi_range3 hg hm pa_w h1 hpl, ?_⟩
  refine da_cons ha (da_cons hb (da_one hc h3) h2) h1 G H σ R _ fun vs G1 H1 x1 rv => ?_
  cases rv with
  | cons r1 r2 =>
    cases r2 with
    | cons r3 r4 =>
      cases r4 with
      | cons r5 r6 =>
        cases r6
        rw [r1.int, r3.int, r5.int]
        refine ⟨i, j, k, n, rfl, hn, q _ _ _ x1 ⟨fun _ => True, YFn fun t => .int (i + (t : Nat) * k), ?_, fun _ _ _ _ => trivial, fun t G H m x H' hi s1 s2 ob y => ?_⟩⟩
        · rw [List.length_map, List.length_range]
          exact walk_rangeC
        · obtain ⟨rfl, rfl⟩ := y
          rw [List.length_map, List.length_range] at hi
          refine ⟨G, .int (i + (t : Nat) * k), self_ext s2 ob, ?_, .inl (.int _)⟩
          rw [List.getElem?_map, List.getElem?_range hi] <;> rfl
/-- a new pair -/
theorem it_pair {K : Fg} {G H H' : Hp} {f g : Nat → Option V} {i : Nat} {v : V} (gh : Same G H) (ob : ObOk K F G H m) (y : YPair f g i H v H') (hd : ∀ x y, f i = some x → g i = some y → ∃ d1 d2, es2[i]? = some (.tuple [d1, d2]) ∧ Dt K G x d1 ∧ Dt K G y d2) :
    ∃ G' d, Ext K F G H G' H' m ∧ es2[i]? = some d ∧ Rp K G' v d := by
  obtain ⟨T, x, z, rfl, n, rfl, e1, e2⟩ := y
  obtain ⟨d1, d2, q1, q2, q3⟩ := hd x z e1 e2
  have x4 := Ext.lay (o := .tup [x, z]) gh ob n
  exact ⟨_, _, x4, q1, .inl (.tup (SqT.of upd_same) (.cons (Dt.mono x4.gg _ _ q2) (.cons (Dt.mono x4.gg _ _ q3) .nil)))⟩
theorem di_enum {elts : List Expr} {kk : Nat} {tpos : Pos} (hm : X.mg "enumerate" = none) (h : DE X F m δ e (.list ds) m1) (hs : starEach [e] X.env = (false, eval e X.env) :: starEach [] X.env := by rfl) (hs2 : starEach [e] X.env = [(false, eval e X.env)] := by rfl) (hg : Gl X "enumerate" := by rfl) :
    DI X F m δ (.Tuple elts kk tpos) (.Call (.Name "enumerate" p) [e] [] pos) (ds.zipIdx.map fun q => .tuple [.int (q.2 : Nat), q.1]) m1 := fun G H σ R Q q => by
  refine ⟨_, pi_enum hg hm pa_w hs2, ?_⟩
  refine da_one h hs G H σ R _ fun vs G1 H1 x1 rv => ?_
  cases rv with
  | cons r1 r2 =>
    cases r2
    obtain ⟨a, xs, rfl, h1, h2⟩ := r1.lst
    refine ⟨a, xs, rfl, SqL.of (x1.gh _ _ h1), q _ _ _ x1 ⟨fun H => SqL X.K H a xs, YPair (fun i => some (.int (i : Nat))) (fun i => xs[i]?), ?_, fun G H s1 s2 => SqL.of (s2 _ _ (s1 _ _ h1)), fun i G H m x H' hi s1 s2 ob y => it_pair s2 ob y fun x y e1 e2 => ?_⟩⟩
    · rw [List.length_map, List.length_zipIdx, ← h2.len]
      exact walk_enum
    · cases e1
      obtain ⟨d, q1, q2⟩ := h2.back e2
      refine ⟨.int (i : Nat), d, ?_, .int _, Dt.mono s1 _ _ q2⟩
      rw [List.getElem?_map, List.getElem?_zipIdx, q1]
      simp
theorem di_zipT {elts : List Expr} {kk : Nat} {tpos : Pos} (hm : X.mg "zip" = none) (ha : DE X F m δ a (.tuple ds) m1) (hb : DE X F m1 δ b (.tuple es2) m2) (hl : ds.length = es2.length) (hs : starEach [a, b] X.env = (false, eval a X.env) :: starEach [b] X.env := by rfl) (hs2 : starEach [b] X.env = (false, eval b X.env) :: starEach [] X.env := by rfl) (hpl : (backTo pos (starEach [b] X.env)).any (·.1) = false := by rfl) (hg : Gl X "zip" := by rfl) : DI X F m δ (.Tuple elts kk tpos) (.Call (.Name "zip" p) [a, b] [] pos) ((ds.zip es2).map fun q => .tuple [q.1, q.2]) m2 := fun G H σ R Q q => by
  refine ⟨_, RZ.pi_zipA hg hm pa_w hs hpl, ?_⟩
  refine da_cons ha (da_one hb hs2) hs G H σ R _ fun vs G1 H1 x1 rv => ?_
  cases rv with
  | cons r1 r2 =>
    cases r2 with
    | cons r3 r4 =>
      cases r4
      obtain ⟨u, xs, rfl, h1, h2⟩ := r1.tup
      obtain ⟨w, ys, rfl, h3, h4⟩ := r3.tup
      have hn : (ds.zip es2).length = min xs.length ys.length := by rw [List.length_zip, h2.len, h4.len]
      refine ⟨u, w, xs, ys, rfl, .inr ⟨Same.sqT x1.gh h1, Same.sqT x1.gh h3, q _ _ _ x1 ⟨fun H => SqT X.K H u xs ∧ SqT X.K H w ys, YPair (fun i => xs[i]?) (fun i => ys[i]?), ?_, fun G H s1 s2 => ⟨Same.sqT (s1.trans s2) h1, Same.sqT (s1.trans s2) h3⟩, fun i G H m x H' hi s1 s2 ob y => it_pair s2 ob y fun x y e1 e2 => ?_⟩⟩⟩
      · rw [List.length_map, hn]
        refine ⟨fun i _ hi q => ?_, fun _ q => ⟨xs, ys, q.1, q.2, by omega⟩, fun i H v H' _ q y => ?_⟩
        · have h1 : i < xs.length := by omega
          have h2 : i < ys.length := by omega
          exact ⟨xs, ys, xs[i], ys[i], q.1, q.2, by simp [h1], by simp [h2]⟩
        · obtain ⟨T, x, z, h1, h2, h3, h4, h5⟩ := y
          exact ⟨T, x, z, h1, h2, h3, h4 xs q.1, h5 ys q.2⟩
      · obtain ⟨d1, q1, q2⟩ := h2.back e1
        obtain ⟨d2, q3, q4⟩ := h4.back e2
        refine ⟨d1, d2, ?_, Dt.mono s1 _ _ q2, Dt.mono s1 _ _ q4⟩
        rw [List.getElem?_map, List.getElem?_zip_eq_some (z := (d1, d2)) |>.mpr ⟨q1, q3⟩] <;> rfl

/-! for -/
theorem take_at {α : Type} {l : List α} {i : Nat} {y : α} (h : l[i]? = some y) : l = l.take i ++ y :: l.drop (i + 1) ∧ l.take (i + 1) = l.take i ++ [y] := by
  obtain ⟨hi, e⟩ := List.getElem?_eq_some_iff.mp h
  refine ⟨?_, ?_⟩
  · rw [← e, List.getElem_cons_drop, List.take_append_drop]
  · rw [List.take_add_one, h] <;> rfl
/-- I: what holds behind the items gone through -/
theorem ds_for {α : Type} {l : List α} {enc : α → PyData} {body : List Stmt} (I : List α → Option Ob → List Sl → Prop) (hi : DI X F m δ tg iter (l.map enc) m1) (h0 : I [] m1 δ)
    (hs : ∀ pre x post m δ, l = pre ++ x :: post → I pre m δ → ∃ δ' ws, DG X F δ tg (enc x) δ' ws ∧ DSs X F ⟨I (pre ++ [x]), E.rt, E.nx⟩ m δ' body) (hd : ∀ m δ, I l m δ → E.nx m δ) (hc : X.calm = true := by rfl) (hp : PassesOwn (model X.prog X.w) X.A X.env X.xe := by exact PassesOwn.never)
    (hf : ∀ x, foldedSetIterable iter X.env x = pure x := by intro _; rfl) : DS X F E m δ (.For tg iter body [] pos) := fun G0 D gd G H σ fr R => by
  refine ⟨_, ps_for hp hc pi_w pg_w pss_w hf, ?_⟩
  refine hi G H σ R _ fun J G1 H1 x1 ⟨P, Y, wk, hP, hY⟩ => ?_
  have fr1 := fr.ext R.ob x1
  let P1 : Nat → Sg → Hp → Prop := fun i σ H => ∃ G m δ, Frm F G1 G H ∧ Rel X.K F G H m σ δ ∧ I (l.take i) m δ
  refine for_it wk P1 ⟨G1, m1, δ, fr1.re, R.ext x1, h0⟩ ?_ ?_ ?_
  · rintro i σ H _ ⟨G, m, δ, f, r, _⟩
    exact hP G H f.g0 r.gh
  · rintro i x σ H H' hi ⟨G, m, δ, f, r, inv⟩ y
    obtain ⟨G', d, x2, q1, q2⟩ := hY i G H m x H' hi f.g0 r.gh r.ob y
    rw [List.getElem?_map] at q1
    obtain ⟨z, hz, rfl⟩ := Option.map_eq_some_iff.mp q1
    obtain ⟨t1, t2⟩ := take_at hz
    obtain ⟨δ', ws, g1, g2⟩ := hs _ z _ m δ t1 inv
    refine g1 G' H' m σ x (r.ext x2) q2 _ fun σ' r' _ _ => ?_
    refine g2 G1 { D with nx := P1 (i + 1), ct := P1 (i + 1), bk := D.nx } ⟨fun G H m σ δ f r q => ⟨G, m, δ, f, r, by rw [t2]; exact q⟩, fun G H m v d f s o rv q => gd.rt G H m v d (fr1.trans f) s o rv q, fun G H m σ δ f r q => gd.nx G H m σ δ (fr1.trans f) r q⟩ G' H' σ' (f.ext r.ob x2) r'
  · rintro σ H ⟨G, m, δ, f, r, inv⟩
    rw [List.length_map, List.take_length] at inv
    exact gd.nx G H m σ δ (fr1.trans f) r (hd m δ inv)
/-- while, by a measure -/
theorem ds_while {body : List Stmt} (I : Nat → Option Ob → List Sl → Prop) (n : Nat) (h0 : I n m δ) (hs : ∀ n m δ, I n m δ → ∃ k, DT X F m δ c k ∧ (k = true → DSs X F ⟨fun m' δ' => ∃ n', n' < n ∧ I n' m' δ', E.rt, E.nx⟩ m δ body) ∧ (k = false → E.nx m δ))
    (hp : PassesOwn (model X.prog X.w) X.A X.env X.xe := by exact PassesOwn.never) : DS X F E m δ (.While c body [] pos) := fun G0 D gd G H σ fr R => by
  refine ⟨_, ps_while hp pt_w pss_w, ?_⟩
  refine ⟨fun n σ H => ∃ G m δ, Frm F G0 G H ∧ Rel X.K F G H m σ δ ∧ I n m δ, ⟨n, G, m, δ, fr, R, h0⟩, ?_⟩
  rintro n σ H ⟨G, m, δ, f, r, inv⟩
  obtain ⟨k, h1, h2, h3⟩ := hs n m δ inv
  refine h1 G H σ r _ fun G1 H1 x1 => ?_
  have f1 := f.ext r.ob x1
  have r1 := r.ext x1
  cases k with
  | true =>
    rw [if_pos rfl]
    let P1 : Sg → Hp → Prop := fun σ H => ∃ n', n' < n ∧ ∃ G m δ, Frm F G0 G H ∧ Rel X.K F G H m σ δ ∧ I n' m δ
    refine ⟨P1, fun σ' H' h => h, ?_⟩
    refine h2 rfl G0 { D with nx := P1, ct := P1, bk := D.nx } ⟨fun G H m σ δ f r q => ?_, gd.rt, fun G H m σ δ f r q => gd.nx G H m σ δ f r q⟩ G1 H1 σ f1 r1
    obtain ⟨n', hn, q⟩ := q
    exact ⟨n', hn, G, m, δ, f, r, q⟩
  | false =>
    rw [if_neg Bool.false_ne_true]
    exact gd.nx G1 H1 m σ δ f1 r1 (h3 rfl)

/-! comprehensions -/
def wipeD (δ : List Sl) (vs : List Nat) : List Sl := vs.foldr (fun i δ => δ.set i .u) δ
theorem Rel.wiped {K : Fg} {G H : Hp} {σ : Sg} (r : Rel K F G H m σ δ) : ∀ vs : List Nat, Rel K F G H m (wipe σ vs) (wipeD δ vs)
  | [] => r
  | v :: vs => by
    have ih := Rel.wiped r vs
    show Rel K F G H m ((wipe σ vs).set v none) ((wipeD δ vs).set v .u)
    refine ⟨ih.gh, by rw [List.length_set, List.length_set]; exact ih.len, fun j s e => ?_, fun j l d1 e1 b ne h1 h2 h3 => ?_, ih.ob⟩
    · by_cases c : v = j
      · subst c
        by_cases l : v < (wipeD δ vs).length
        · rw [List.getElem?_set_self l] at e
          cases e
          trivial
        · rw [List.getElem?_eq_none (by simpa using l)] at e
          cases e
      · rw [List.getElem?_set_ne c] at e ⊢
        exact ih.sl j s e
    · obtain ⟨c1, h1⟩ := set_own (s := .u) (fun e z => nomatch z) h1
      obtain ⟨c2, h2⟩ := set_own (s := .u) (fun e z => nomatch z) h2
      rw [List.getElem?_set_ne (Ne.symm c1)] at h3
      rw [List.getElem?_set_ne (Ne.symm c2)]
      exact ih.inj j l d1 e1 b ne h1 h2 h3
theorem wipe_get : ∀ (σ : Sg) (vs : List Nat) (j : Nat), (wipe σ vs)[j]? = if j ∈ vs ∧ j < σ.length then some none else σ[j]?
  | σ, [], j => by
    rw [if_neg (by simp)] <;> rfl
  | σ, v :: vs, j => by
    show ((wipe σ vs).set v none)[j]? = _
    by_cases c : v = j
    · subst c
      by_cases l : v < σ.length
      · rw [List.getElem?_set_self (by rw [wipe_length]; exact l), if_pos ⟨List.mem_cons_self, l⟩]
      · rw [if_neg (fun z => l z.2), List.getElem?_eq_none (by rw [List.length_set, wipe_length]; omega), List.getElem?_eq_none (by omega)]
    · rw [List.getElem?_set_ne c, wipe_get σ vs j]
      by_cases q : j ∈ vs ∧ j < σ.length
      · rw [if_pos q, if_pos ⟨List.mem_cons_of_mem _ q.1, q.2⟩]
      · rw [if_neg q, if_neg]
        rintro ⟨z1, z2⟩
        rcases List.mem_cons.mp z1 with z | z
        · exact c z.symm
        · exact q ⟨z, z2⟩
theorem wipe_same {σ σ' : Sg} {vs : List Nat} (h : ∀ j, j ∉ vs → σ'[j]? = (wipe σ vs)[j]?) (l : σ'.length = (wipe σ vs).length) : wipe σ' vs = wipe σ vs := by
  apply List.ext_getElem?
  intro j
  rw [wipe_length] at l
  rw [wipe_get, l]
  by_cases c : j ∈ vs
  · by_cases q : j < σ.length
    · rw [if_pos ⟨c, q⟩, wipe_get, if_pos ⟨c, q⟩]
    · rw [if_neg (fun z => q z.2), List.getElem?_eq_none (by omega), List.getElem?_eq_none (by rw [wipe_length]; omega)]
  · rw [if_neg (fun z => c z.1)]
    exact h j c
/-- the tests of a clause -/
def DTs (X : Cx) (F : Fr) (m : Option Ob) (δ : List Sl) (ifs : List Expr) (k : Bool) : Prop :=
  ∀ (G H : Hp) (σ : Sg), Rel X.K F G H m σ δ → ∀ Q : Bool → Hp → Prop, (∀ G' H', Ext X.K F G H G' H' m → Q k H') → WTs X ifs σ H Q
theorem dts_nil : DTs X F m δ [] true := fun G H σ R Q q => ⟨_, pts_nil, q _ _ R.self⟩
theorem dts_one {k : Bool} (h : DT X F m δ c k) : DTs X F m δ [c] k := fun G H σ R Q q => ⟨_, pts_one pt_w, h G H σ R _ q⟩
/-- the turns of a comprehension's block -/
abbrev Turn1 (X : Cx) (F : Fr) (m : Option Ob) (δ : List Sl) (scope : Scope) (vs : List Nat) (tg elt : Expr) (ifs : List Expr) (d : PyData) (k : Bool) (d' : PyData) : Prop :=
  ∃ δ' ws, (∀ w ∈ ws, w ∈ vs) ∧ ∀ (s : Shared) (H : Hp) (C : Addr) (cl : List (Str × Addr)) (fp : List Addr), DG (X.blk s H scope (compEnvC scope cl C X.env) fp) F (wipeD δ vs) tg d δ' ws ∧
    DTs (X.blk s H scope (compEnvC scope cl C X.env) fp) F m δ' ifs k ∧ (k = true → DE (X.blk s H scope (compEnvC scope cl C X.env) fp) F m δ' elt d' m ∧ nd d' = true)
def gB (X : Cx) (scope : Scope) (tg : Expr) : TG := fun v σ H Q => ∀ s H0 C cl fp, WG (X.blk s H0 scope (compEnvC scope cl C X.env) fp) tg v σ H Q
def tB2 (X : Cx) (scope : Scope) (ifs : List Expr) : TT := fun σ H Q => ∀ s H0 C cl fp, WTs (X.blk s H0 scope (compEnvC scope cl C X.env) fp) ifs σ H Q
def eB (X : Cx) (scope : Scope) (elt : Expr) : TE := fun σ H Q => ∀ s H0 C cl fp, WE (X.blk s H0 scope (compEnvC scope cl C X.env) fp) elt σ H Q
theorem lc_read {α : Type} {l : List α} {enc enc' : α → PyData} {q : α → Bool} {elt : Expr} {ifs : List Expr} {scope : Scope} {vs : List Nat} (hi : DI X F m δ tg iter (l.map enc) m1) (hz : l.length ≤ sizeLine) (hs : ∀ x ∈ l, Turn1 X F m1 δ scope vs tg elt ifs (enc x) (q x) (enc' x))
    {G H : Hp} {σ : Sg} (R : Rel X.K F G H m σ δ) {Q : VK} (k : ∀ a xs G' H', Ext X.K F G H G' H' m1 → H a = none → G' a = none → H' a = some (.lst xs) → DtAll X.K G' xs ((l.filter q).map enc') → Q (.ref a) H') :
    tLc (WI X tg iter) (gB X scope tg) (tB2 X scope ifs)
      (eB X scope elt) vs σ H Q := by
  refine hi G H σ R _ fun J G1 H1 x1 ⟨P, Y, wk, hP, hY⟩ => ?_
  intro D hD
  have R1 := (R.ext x1).wiped vs
  have nk : F.ka ≠ some D := fun z => by
    obtain ⟨dx, ws, w⟩ := x1.ob.ins z
    rw [hD] at w
    cases w
  refine lc_it (Qd := fun H => Q (.ref D) H) (g := gB X scope tg) (tt := tB2 X scope ifs) (te := eB X scope elt) (vs := vs) (σ := σ) wk (fun i H => ∃ G xs, Ext X.K F G1 H1 G H m1 ∧ G D = none ∧ H D = some (.lst xs) ∧ DtAll X.K G xs (((l.take i).filter q).map enc')) ⟨G1, [], Ext.layH x1.gh x1.ob hD, same_none x1.gh hD, upd_same, .nil⟩ ?_ ?_ ?_
  · rintro i H _ ⟨G, xs, x2, _⟩
    exact hP G H x2.gg x2.gh
  · rintro i x H H' hlt ⟨G, xs, x2, n2, h2, h3⟩ y
    obtain ⟨G', d, x3, q1, q2⟩ := hY i G H m1 x H' hlt x2.gg x2.gh x2.ob y
    rw [List.getElem?_map] at q1
    obtain ⟨z, hz2, rfl⟩ := Option.map_eq_some_iff.mp q1
    obtain ⟨t1, t2⟩ := take_at hz2
    obtain ⟨δ', ws, hws, ht⟩ := hs z (List.mem_of_getElem? hz2)
    have hil : i < l.length := by
      rw [List.length_map] at hlt
      exact hlt
    have hlen : xs.length < sizeLine := by
      rw [h3.len, List.length_map]
      have w1 : ((l.take i).filter q).length ≤ (l.take i).length := List.length_filter_le _ _
      have w2 : (l.take i).length ≤ i := by rw [List.length_take]; omega
      omega
    have hD3 : H' D = some (.lst xs) := x3.hh D _ h2 nk
    have nD3 : G' D = none := x3.nw D n2 (by rw [h2]; exact fun z => by cases z)
    have x13 := x2.trans x1.ob x3
    have R3 := R1.ext x13
    intro s0 H0 C cl fp
    refine (ht s0 H0 C cl fp).1 G' H' m1 (wipe σ vs) x R3 q2 _ fun σ' r' w1 w2 => ?_
    refine ⟨wipe_same (fun j n => w1 j fun z => n (hws j z)) w2, ?_⟩
    intro s1 H01 C1 cl1 fp1
    refine (ht s1 H01 C1 cl1 fp1).2.1 G' H' σ' r' _ fun G4 H4 x4 => ?_
    have hD4 : H4 D = some (.lst xs) := x4.hh D _ hD3 nk
    have nD4 : G4 D = none := x4.nw D nD3 (by rw [hD3]; exact fun z => by cases z)
    have x14 := x13.trans x1.ob x4
    have ef : ((l.take (i + 1)).filter q).map enc' = ((l.take i).filter q).map enc' ++ (if q z = true then [enc' z] else []) := by
      rw [t2, List.filter_append, List.map_append]
      cases hq : q z <;> simp [hq]
    cases hq : q z with
    | false =>
      rw [if_neg Bool.false_ne_true]
      refine ⟨G4, xs, x14, nD4, hD4, ?_⟩
      rw [ef, hq, if_neg Bool.false_ne_true, List.append_nil]
      exact DtAll.mono (x3.gg.trans x4.gg) _ _ h3
    | true =>
      rw [if_pos rfl]
      intro s2 H02 C2 cl2 fp2
      obtain ⟨he, hnd⟩ := (ht s2 H02 C2 cl2 fp2).2.2 hq
      refine he G4 H4 σ' (r'.ext x4) _ fun y G5 H5 x5 ry => ?_
      have hD5 : H5 D = some (.lst xs) := x5.hh D _ hD4 nk
      have nD5 : G5 D = none := x5.nw D nD4 (by rw [hD4]; exact fun z => by cases z)
      have x15 := x14.trans x1.ob x5
      refine ⟨xs, hD5, hlen, G5, xs ++ [y], ?_, nD5, upd_same, ?_⟩
      · refine ⟨x15.gg, fun b u e => ?_, fun b u e n => ?_, x15.nw, ?_⟩
        · rw [upd_ne (fun z => by rw [z, nD5] at e; cases e)]
          exact x15.gh b u e
        · rw [upd_ne (ne_of_none e hD)]
          exact x15.hh b u e n
        · have ob := x15.ob
          cases m1 with
          | none => exact ob
          | some fs =>
            obtain ⟨k, dx, ws, z1, z2, z3, z4⟩ := ob
            exact ⟨k, dx, ws, z1, z2, by rw [upd_ne (fun w => nk (by rw [z1, w]))]; exact z3, z4⟩
      · rw [ef, hq, if_pos rfl]
        exact (DtAll.mono (x3.gg.trans (x4.gg.trans x5.gg)) _ _ h3).app (.one (ry.dt hnd))
  · rintro H ⟨G, xs, x2, n2, h2, h3⟩
    rw [List.length_map, List.take_length] at h3
    exact k D xs G H (x1.trans R.ob x2) (fresh_of x1 hD) n2 h2 h3
theorem do_lc {α : Type} {l : List α} {enc enc' : α → PyData} {q : α → Bool} {elt : Expr} {ifs : List Expr} {scope : Scope} {own : List (Str × Nat)} (hN : X.N.Nodup) (hi : DI X F m δ tg iter (l.map enc) m1) (hz : l.length ≤ sizeLine) (ok : BlkOk X.N X.env.scope scope own)
    (hs : ∀ x ∈ l, Turn1 X F m1 δ scope (own.map (·.2)) tg elt ifs (enc x) (q x) (enc' x)) (hc : X.calm = true := by rfl) (hf : ∀ x, foldedSetIterable iter X.env x = pure x := by intro _; rfl) :
    DO X F m δ (.ListComp elt [⟨tg, iter, ifs, 0⟩] scope pos) ((l.filter q).map enc') m1 := fun G H σ R Q k => by
  refine ⟨_, pe_lc hc hN pi_w ok (g := gB X scope tg) (tt := tB2 X scope ifs)
    (te := eB X scope elt)
    (fun s H C cl fp => ⟨fun pins s' σ H' v u Q I r h => pg_w.run pins s' σ H' v u Q I r (h s H C cl fp)⟩) (fun s H C cl fp => ⟨fun pins s' σ H' Q I h => pts_w.run pins s' σ H' Q I (h s H C cl fp)⟩) (fun s H C cl fp => ⟨fun pins s' σ H' Q I h => pe_w.run pins s' σ H' Q I (h s H C cl fp)⟩) hf, ?_⟩
  exact lc_read hi hz hs R k
theorem ds_setLc {α : Type} {l : List α} {enc enc' : α → PyData} {q : α → Bool} {elt : Expr} {ifs : List Expr} {scope : Scope} {own : List (Str × Nat)} {i : Nat} {y : Str} {py : Pos} {spos : Pos} (hN : X.N.Nodup) (hy : X.N[i]? = some y) (hyl : X.env.scope.names.lookup y = some .local)
    (hsw : swapsWith (.ListComp elt [⟨tg, iter, ifs, 0⟩] scope pos) (some (.Name y py)) spos.line X.env = pure true) (hi : DI X F m δ tg iter (l.map enc) m1) (hz : l.length ≤ sizeLine) (ok : BlkOk X.N X.env.scope scope own)
    (hs : ∀ x ∈ l, Turn1 X F m1 δ scope (own.map (·.2)) tg elt ifs (enc x) (q x) (enc' x)) (k : E.nx m1 (δ.set i (.v (.list ((l.filter q).map enc'))))) (hc : X.calm = true := by rfl) (hf : ∀ x, foldedSetIterable iter X.env x = pure x := by intro _; rfl) :
    DS X F E m δ (.Assign [.Name y py] (.ListComp elt [⟨tg, iter, ifs, 0⟩] scope pos) spos) := fun G0 D gd G H σ fr R => by
  refine ⟨_, ps_setLc (i := i) hc hN hy hyl hsw pi_w ok (g := gB X scope tg) (tt := tB2 X scope ifs)
    (te := eB X scope elt)
    (fun s H C cl fp => ⟨fun pins s' σ H' v u Q I r h => pg_w.run pins s' σ H' v u Q I r (h s H C cl fp)⟩) (fun s H C cl fp => ⟨fun pins s' σ H' Q I h => pts_w.run pins s' σ H' Q I (h s H C cl fp)⟩) (fun s H C cl fp => ⟨fun pins s' σ H' Q I h => pe_w.run pins s' σ H' Q I (h s H C cl fp)⟩) hf, ?_⟩
  refine lc_read hi hz hs R fun a xs G1 H1 x1 n1 n2 h1 h2 => ?_
  obtain ⟨q1, q2, q3⟩ := Ext.freeze x1.gh x1.ob h1 n2 (fun _ _ _ z => by cases z)
  have x2 : Ext X.K F G H (upd G1 a (.lst xs)) H1 m1 := by
    refine ⟨x1.gg.trans q1, q2, x1.hh, fun b g n => ?_, q3⟩
    rw [upd_ne (fun z => n (by rw [z]; exact n1))]
    exact x1.nw b g n
  exact gd.nx _ H1 m1 _ _ (fr.ext R.ob x2) ((R.ext x2).set i (.inl (.lst upd_same (DtAll.mono q1 _ _ h2)))) k
end
end Pv
/-! ### 7. Dicts, the object's attributes, calls, promises -/
namespace Pv
open PySem PySem.Spec PyProof.Rows L2

section
variable {X : Cx} {F : Fr} {E : En} {m m1 m2 m3 : Option Ob} {δ δ1 δ2 : List Sl} {e a b c tg iter : Expr} {es : List Expr} {pos p : Pos} {d : PyData} {ds es2 : List PyData} {i : Nat} {n : Int} {x : Str} {dm : List (Int × PyData)}
/-! dicts whose keys are ints -/
theorem valV_some {K : Fg} {G : Hp} {xs : List (Key × V)} (h : KvAll K G xs dm) (n : Int) : (valV xs (Sum.inl n)).isSome = (dGet dm n).isSome := by
  rcases h.val n with ⟨h1, h2⟩ | ⟨d, v, h1, h2, _⟩
  · rw [h1, h2] <;> rfl
  · rw [h1, h2] <;> rfl
theorem dc_inD (hu : X.A.units + 1 < cLine) (ha : DE X F m δ a (.int n) m) (hb : DE X F m δ b (.dict (dk dm)) m) : DC X F m δ .In a b (dGet dm n).isSome := fun G H σ R Q k => by
  refine ⟨_, pc_din hu pe_w pe_w, ?_⟩
  refine ha G H σ R _ fun y G1 H1 x1 ry => ?_
  refine hb G1 H1 σ (R.ext x1) _ fun v G2 H2 x2 rv => ?_
  obtain ⟨q, xs, rfl, h1, h2⟩ := rv.dic
  rw [ry.int]
  refine ⟨q, _, rfl, DGet.k (k := Sum.inl n) (x2.gh _ _ h1), ?_⟩
  rw [valV_some h2]
  exact k _ _ (x1.trans R.ob x2)
theorem dc_notInD (hu : X.A.units + 1 < cLine) (ha : DE X F m δ a (.int n) m) (hb : DE X F m δ b (.dict (dk dm)) m) : DC X F m δ .NotIn a b (!(dGet dm n).isSome) := fun G H σ R Q k => by
  refine ⟨_, pc_dnotin hu pe_w pe_w, ?_⟩
  refine ha G H σ R _ fun y G1 H1 x1 ry => ?_
  refine hb G1 H1 σ (R.ext x1) _ fun v G2 H2 x2 rv => ?_
  obtain ⟨q, xs, rfl, h1, h2⟩ := rv.dic
  rw [ry.int]
  refine ⟨q, _, rfl, DGet.k (k := Sum.inl n) (x2.gh _ _ h1), ?_⟩
  rw [valV_some h2]
  exact k _ _ (x1.trans R.ob x2)
theorem own_dict {K : Fg} {G H : Hp} {a : Addr} (h : OwnAt K G H a (.dict (dk dm))) : ∃ xs, H a = some (.dK xs) ∧ KvAll K G xs dm := by
  rcases h with ⟨ds, xs, h1, h2, h3⟩ | ⟨n, xs, h1, h2, h3⟩
  · cases h1
  · have e : dm = n := dk_inj (by injection h1)
    subst e
    exact ⟨xs, h2, h3⟩
/-- the frame's own dict -/
theorem dc_inO (hu : X.A.units + 1 < cLine) (ha : DE X F m δ a (.int n) m) (hN : X.N[i]? = some x) (hv : Vis X.env.scope x) (hd : δ[i]? = some (.own (.dict (dk dm)))) (hn1 : (x == ("__debug__" : Str)) = false := by decide) (hn2 : (x == ("__classdict__" : Str)) = false := by decide) : DC X F m δ .In a (.Name x p) (dGet dm n).isSome := fun G H σ R Q k => by
  refine ⟨_, pc_din hu pe_w (pe_var hN hv hn1 hn2), ?_⟩
  refine ha G H σ R _ fun y G1 H1 x1 ry => ?_
  obtain ⟨q, e1, e2, e3, e4⟩ := (R.ext x1).sl i _ hd
  obtain ⟨xs, h1, h2⟩ := own_dict e4
  rw [ry.int]
  refine ⟨_, e1, q, _, rfl, DGet.k (k := Sum.inl n) h1, ?_⟩
  rw [valV_some h2]
  exact k _ _ x1
theorem dc_notInO (hu : X.A.units + 1 < cLine) (ha : DE X F m δ a (.int n) m) (hN : X.N[i]? = some x) (hv : Vis X.env.scope x) (hd : δ[i]? = some (.own (.dict (dk dm)))) (hn1 : (x == ("__debug__" : Str)) = false := by decide) (hn2 : (x == ("__classdict__" : Str)) = false := by decide) : DC X F m δ .NotIn a (.Name x p) (!(dGet dm n).isSome) := fun G H σ R Q k => by
  refine ⟨_, pc_dnotin hu pe_w (pe_var hN hv hn1 hn2), ?_⟩
  refine ha G H σ R _ fun y G1 H1 x1 ry => ?_
  obtain ⟨q, e1, e2, e3, e4⟩ := (R.ext x1).sl i _ hd
  obtain ⟨xs, h1, h2⟩ := own_dict e4
  rw [ry.int]
  refine ⟨_, e1, q, _, rfl, DGet.k (k := Sum.inl n) h1, ?_⟩
  rw [valV_some h2]
  exact k _ _ x1
theorem de_dget (hu : X.A.units + 1 < cLine) (hb : DE X F m δ b (.dict (dk dm)) m1) (ha : DE X F m1 δ a (.int n) m2) (hd : dGet dm n = some d) (hs : NoSl a := by exact fun _ _ => rfl) : DE X F m δ (.Subscript b a pos) d m2 := fun G H σ R Q k => by
  refine ⟨_, pe_dget hu pe_w pe_w hs, ?_⟩
  refine hb G H σ R _ fun v G1 H1 x1 rv => ?_
  refine ha G1 H1 σ (R.ext x1) _ fun y G2 H2 x2 ry => ?_
  obtain ⟨q, xs, rfl, h1, h2⟩ := (rv.mono x2.gg).dic
  rw [ry.int]
  rcases h2.val n with ⟨h3, _⟩ | ⟨d', v', h3, h4, h5⟩
  · rw [hd] at h3
    cases h3
  · rw [hd] at h3
    cases h3
    exact ⟨q, v', rfl, .inl ⟨xs, Sum.inl n, .inl (x2.gh _ _ h1), rfl, h4.symm⟩, k _ _ _ (x1.trans R.ob x2) (.inl h5)⟩
theorem ds_dput {pos' : Pos} (hu : X.A.units + 1 < cLine) (hN : X.N[i]? = some x) (hv : Vis X.env.scope x) (hd : δ[i]? = some (.own (.dict (dk dm)))) (h : DE X F m δ e d m1) (nn : nd d = true) (ha : DE X F m1 δ a (.int n) m2) (hz : dm.length < sizeLine) (q : E.nx m2 (δ.set i (.own (.dict (dk (dPut dm n d))))))
    (hs : swapsWith e (some (.Subscript (.Name x p) a pos')) pos.line X.env = pure false := by rfl) (hn1 : (x == ("__debug__" : Str)) = false := by decide) (hn2 : (x == ("__classdict__" : Str)) = false := by decide) : DS X F E m δ (.Assign [.Subscript (.Name x p) a pos'] e pos) := fun G0 D gd G H σ fr R => by
  refine ⟨_, ps_dput hu (pe_var hN hv hn1 hn2) pe_w pe_w hs, ?_⟩
  refine h G H σ R _ fun v G1 H1 x1 rv => ?_
  obtain ⟨q0, e1, _⟩ := (R.ext x1).sl i _ hd
  refine ⟨_, e1, ?_⟩
  refine ha G1 H1 σ (R.ext x1) _ fun y G2 H2 x2 ry => ?_
  have R2 := (R.ext x1).ext x2
  obtain ⟨q1, f1, f2, f3, f4⟩ := R2.sl i _ hd
  rw [e1] at f1
  cases f1
  obtain ⟨xs, h1, h2⟩ := own_dict f4
  rw [ry.int]
  refine ⟨q0, _, rfl, .inl ⟨xs, Sum.inl n, h1, rfl, by rw [h2.len]; exact hz, rfl⟩, ?_⟩
  exact gd.nx _ _ m2 _ _ (((fr.ext R.ob x1).ext x1.ob x2).put f2) (R2.put hd e1 (fun _ _ _ z => by cases z) (.inr ⟨_, _, rfl, upd_same, h2.put n ((rv.mono x2.gg).dt nn)⟩)) q
theorem ds_newD0 {pos' dp : Pos} (hN : X.N.Nodup) (hi : X.N[i]? = some x) (hx : Loc X.env.scope x) (q : E.nx m (δ.set i (.own (.dict (dk [])))))
    (hs : swapsWith (.Dict [] [] dp) (some (.Name x pos')) pos.line X.env = pure false := by rfl) (hf : X.fn x = true ∨ X.env.scope.names.lookup x = some .local := by first | exact .inl rfl | exact .inr rfl) : DS X F E m δ (.Assign [.Name x pos'] (.Dict [] [] dp) pos) := fun G0 D gd G H σ fr R => by
  refine ⟨_, ps_set hN hi hx pe_dnewK hs hf, ?_⟩
  intro p hp
  have x1 := Ext.layH (o := .dK []) R.gh R.ob hp
  exact gd.nx _ _ m _ _ (fr.ext R.ob x1) (R.setNew fr.h0 x1 i hp (same_none R.gh hp) (.inr ⟨[], [], rfl, upd_same, .nil⟩)) q
theorem ds_newD1 {pos' dp : Pos} (hN : X.N.Nodup) (hi : X.N[i]? = some x) (hx : Loc X.env.scope x) (ha : DE X F m δ a (.int n) m) (hb : DE X F m δ b d m) (nn : nd d = true) (q : E.nx m (δ.set i (.own (.dict (dk [(n, d)])))))
    (hs : swapsWith (.Dict [some a] [b] dp) (some (.Name x pos')) pos.line X.env = pure false := by rfl) (hf : X.fn x = true ∨ X.env.scope.names.lookup x = some .local := by first | exact .inl rfl | exact .inr rfl) : DS X F E m δ (.Assign [.Name x pos'] (.Dict [some a] [b] dp) pos) := fun G0 D gd G H σ fr R => by
  refine ⟨_, ps_set hN hi hx (pe_disp (pps_cons pe_w pe_w pps_nil) rfl rfl (fun z => by cases z) (show 1 ≤ 15 by decide)) hs hf, ?_⟩
  intro p hp
  have x1 := Ext.layH (o := .dK []) R.gh R.ob hp
  refine ha G _ σ (R.ext x1) _ fun y G1 H1 x2 ry => ?_
  refine hb G1 H1 σ ((R.ext x1).ext x2) _ fun v G2 H2 x3 rv => ?_
  rw [ry.int]
  have nk : F.ka ≠ some p := fun z => by
    obtain ⟨dx, ws, w⟩ := R.ob.ins z
    rw [hp] at w
    cases w
  have h1 : H1 p = some (.dK []) := x2.hh p _ upd_same nk
  have h2 : H2 p = some (.dK []) := x3.hh p _ h1 nk
  have g1 : G1 p = none := x2.nw p (same_none R.gh hp) (by rw [upd_same]; exact fun z => by cases z)
  have g2 : G2 p = none := x3.nw p g1 (by rw [h1]; exact fun z => by cases z)
  refine ⟨h2, [(Sum.inl n, v)], rfl, (show 1 ≤ 15 by decide), ?_⟩
  have x13 := (x1.trans R.ob x2).trans R.ob x3
  have x4 : Ext X.K F G H G2 (upd H2 p (.dK (mergeK [] [(Sum.inl n, v)]))) m := by
    refine ⟨x13.gg, fun b u e => ?_, fun b u e n => ?_, x13.nw, ?_⟩
    · rw [upd_ne (fun z => by rw [z, g2] at e; cases e)]
      exact x13.gh b u e
    · rw [upd_ne (ne_of_none e hp)]
      exact x13.hh b u e n
    · have ob := x13.ob
      cases m with
      | none => exact ob
      | some fs =>
        obtain ⟨k, dx, ws, z1, z2, z3, z4⟩ := ob
        exact ⟨k, dx, ws, z1, z2, by rw [upd_ne (fun w => nk (by rw [z1, w]))]; exact z3, z4⟩
  exact gd.nx _ _ m _ _ (fr.ext R.ob x4) (R.setNew fr.h0 x4 i hp g2 (.inr ⟨[(n, d)], _, rfl, upd_same, .cons ⟨rfl, rv.dt nn⟩ .nil⟩)) q

/-! the object -/
def DK (X : Cx) (F : Fr) (m : Option Ob) (δ : List Sl) (e : Expr) : Prop :=
  ∀ (G H : Hp) (σ : Sg), Rel X.K F G H m σ δ → ∀ Q : VK, (∀ a, F.ka = some a → Q (.ref a) H) → WE X e σ H Q
theorem dk_var (hN : X.N[i]? = some x) (hv : Vis X.env.scope x) (hd : δ[i]? = some .obj) (hn1 : (x == ("__debug__" : Str)) = false := by decide) (hn2 : (x == ("__classdict__" : Str)) = false := by decide) : DK X F m δ (.Name x pos) := fun G H σ R Q k => by
  obtain ⟨a, e1, e2⟩ := R.sl i _ hd
  exact ⟨_, pe_var hN hv hn1 hn2, .ref a, e2, k a e1⟩
theorem look_all {K : Fg} {G : Hp} {f : Str} : ∀ {vs : List (Str × V)} {fs : Ob}, Paired (fun (p : Str × V) (q : Str × PyData) => p.1 = q.1 ∧ Dt K G p.2 q.2) vs fs → (fs.lookup f = none ∧ vs.lookup f = none) ∨ ∃ d v, fs.lookup f = some d ∧ vs.lookup f = some v ∧ Dt K G v d
  | _, _, .nil => .inl ⟨rfl, rfl⟩
  | _, _, @Paired.cons _ _ _ p q vs fs h t => by
    obtain ⟨e1, e2⟩ := h
    obtain ⟨g, v⟩ := p
    obtain ⟨g', d⟩ := q
    have e1 : g = g' := e1
    subst e1
    by_cases c : (f == g) = true
    · exact .inr ⟨d, v, by simp only [List.lookup, c], by simp only [List.lookup, c], e2⟩
    · have c2 : (f == g) = false := by
        cases w : f == g with
        | true => exact absurd w c
        | false => rfl
      simp only [List.lookup, c2]
      exact look_all t
def putD (f : Str) (d : PyData) : Ob → Ob
  | [] => [(f, d)]
  | (g, x) :: r => if g = f then (g, d) :: r else (g, x) :: putD f d r
theorem put_all {K : Fg} {G : Hp} {f : Str} {v : V} (hv : Dt K G v d) : ∀ {vs : List (Str × V)} {fs : Ob}, Paired (fun (p : Str × V) (q : Str × PyData) => p.1 = q.1 ∧ Dt K G p.2 q.2) vs fs → Paired (fun (p : Str × V) (q : Str × PyData) => p.1 = q.1 ∧ Dt K G p.2 q.2) (putF f v vs) (putD f d fs)
  | _, _, .nil => .cons ⟨rfl, hv⟩ .nil
  | _, _, @Paired.cons _ _ _ p q vs fs h t => by
    obtain ⟨e1, e2⟩ := h
    obtain ⟨g, w⟩ := p
    obtain ⟨g', d'⟩ := q
    have e1 : g = g' := e1
    subst e1
    show Paired _ (if g = f then (g, v) :: vs else (g, w) :: putF f v vs) (if g = f then (g, d) :: fs else (g, d') :: putD f d fs)
    by_cases c : g = f
    · rw [if_pos c, if_pos c]
      exact .cons ⟨rfl, hv⟩ t
    · rw [if_neg c, if_neg c]
      exact .cons ⟨rfl, e2⟩ (put_all hv t)
variable {fs fs' : Ob} {f : Str}
theorem de_fld (ho : DK X F (some fs) δ e) (cl : Cls X.K F.C) (na : NoAttr X.K F.C f) (hf : fs.lookup f = some d) (hb : attributeBase e f X.env (eval e X.env) = eval e X.env := by rfl) : DE X F (some fs) δ (.Attribute e f pos) d (some fs) := fun G H σ R Q k => by
  refine ⟨_, pe_fld pe_w hb, ?_⟩
  refine ho G H σ R _ fun a ea => ?_
  obtain ⟨a', dx, vs, h1, h2, h3, h4⟩ := id R.ob
  rw [ea] at h1
  cases h1
  rcases look_all (f := f) h4 with ⟨h5, _⟩ | ⟨d', v, h5, h6, h7⟩
  · rw [hf] at h5
    cases h5
  · rw [hf] at h5
    cases h5
    exact ⟨a, F.C, dx, vs, v, rfl, h3, cl, na, h6, k _ _ _ R.self (.inl h7)⟩
theorem ds_fld {pos' : Pos} (h : DE X F m δ e d (some fs)) (nn : nd d = true) (ho : DK X F (some fs) δ a) (cl : Cls X.K F.C) (na : NoAttr X.K F.C f) (hl : fs.length < 1000) (q : E.nx (some (putD f d fs)) δ)
    (hs : swapsWith e (some (.Attribute a f pos')) pos.line X.env = pure false := by rfl) : DS X F E m δ (.Assign [.Attribute a f pos'] e pos) := fun G0 D gd G H σ fr R => by
  refine ⟨_, ps_fld pe_w pe_w hs, ?_⟩
  refine h G H σ R _ fun v G1 H1 x1 rv => ?_
  have R1 := R.ext x1
  refine ho G1 H1 σ R1 _ fun o eo => ?_
  obtain ⟨a', dx, vs, h1, h2, h3, h4⟩ := id R1.ob
  rw [eo] at h1
  cases h1
  have lv : vs.length = fs.length := Paired.length h4
  refine ⟨o, F.C, dx, vs, rfl, h3, cl, na, by rw [lv]; exact hl, ?_⟩
  have fr1 := fr.ext R.ob x1
  refine gd.nx G1 _ (some (putD f d fs)) σ δ ⟨fr1.g0, fun b u e n => ?_, fr1.nw⟩ ⟨fun b u e => ?_, R1.len, fun j s e => ?_, R1.inj, ⟨o, dx, _, eo, h2, upd_same, put_all (rv.dt nn) h4⟩⟩ q
  · rw [upd_ne (fun z => n (by rw [z]; exact eo))]
    exact fr1.h0 b u e n
  · rw [upd_ne (fun z => by rw [z, h2] at e; cases e)]
    exact R1.gh b u e
  · have z := R1.sl j s e
    cases s with
    | u => trivial
    | v d' => exact z
    | own d' =>
      obtain ⟨b, z1, z2, z3, z4⟩ := z
      have ne : b ≠ o := fun w => z4.nka R1.ob (by rw [w]; exact eo)
      exact ⟨b, z1, z2, z3, z4.mono (Same.refl _) fun u hu => by rw [upd_ne ne]; exact hu⟩
    | obj => exact z

/-! ### 8. Promises -/
/-- args stand for ds, R ds d: it gives d; nothing changes -/
def spP (K : Fg) (n : Nat) (R : List PyData → PyData → Prop) : Sp := fun vs H Q _ => ∃ (G : Hp) (ds : List PyData) (d : PyData), ds.length = n ∧ Same G H ∧ RpAll K G vs ds ∧ R ds d ∧
  ∀ v G' H', Same G G' → Same G' H' → Same H H' → (∀ b, G b = none → H b ≠ none → G' b = none) → Rp K G' v d → Q v H'
/-- the object's attributes in H -/
def KAt (K : Fg) (C : Addr) (G H : Hp) (ka : Addr) (fs : Ob) : Prop := ∃ dx vs, H ka = some (.ins C dx vs) ∧ Paired (fun (p : Str × V) (q : Str × PyData) => p.1 = q.1 ∧ Dt K G p.2 q.2) vs fs
/-- the first argument is the object: it changes from fs to fs' -/
def spK (K : Fg) (C : Addr) (n : Nat) (R : Ob → List PyData → PyData → Ob → Prop) : Sp := fun vs H Q _ => ∃ (G : Hp) (ka : Addr) (us : List V) (ds : List PyData) (d : PyData) (fs fs' : Ob), vs = .ref ka :: us ∧ ds.length = n ∧ Same G H ∧ G ka = none ∧ KAt K C G H ka fs ∧ RpAll K G us ds ∧ R fs ds d fs' ∧
  ∀ v G' H', Same G G' → Same G' H' → (∀ b o, H b = some o → b ≠ ka → H' b = some o) → (∀ b, G b = none → H b ≠ none → G' b = none) → G' ka = none → KAt K C G' H' ka fs' → Rp K G' v d → Q v H'
/-- a def of the module that keeps the promise -/
def Cal (P : Program) (w : World) (K : Fg) (mg : Str → Option Value) (base : Heap) (x : Str) (k : Nat) (ps : List Str) (sp : Sp) : Prop :=
  ∃ f fd, FnOk P w K mg base CX0 k f fd ps sp ∧ mg x = some (.ref f) ∧ PySem.W.keepIn K (.ref f) = true ∧ Binds K fd ps []
/-- a method -/
def CalM (P : Program) (w : World) (K : Fg) (mg : Str → Option Value) (base : Heap) (C : Addr) (x : Str) (k : Nat) (ps : List Str) (sp : Sp) : Prop :=
  ∃ f fd, FnOk P w K mg base CX0 k f fd ps sp ∧ Meth K C x f ∧ Binds K fd ps []
variable {k : Nat} {ps : List Str} {R : List PyData → PyData → Prop} {RK : Ob → List PyData → PyData → Ob → Prop} {nn : Nat}
theorem ob_pure {K : Fg} {G H G' H' : Hp} (ob : ObOk K F G H m) (gg : Same G G') (hh : Same H H') (nw : ∀ b, G b = none → H b ≠ none → G' b = none) : ObOk K F G' H' m := by
  cases m with
  | none => exact ob
  | some fs =>
    obtain ⟨a, dx, vs, h1, h2, h3, h4⟩ := ob
    exact ⟨a, dx, vs, h1, nw a h2 (by rw [h3]; exact fun z => by cases z), hh _ _ h3, Paired.mapP h4 fun _ _ q => ⟨q.1, Dt.mono gg _ _ q.2⟩⟩
theorem de_call (hf : Cal X.prog X.w X.K X.mg X.base x k ps (spP X.K nn R)) (hr : Room k X.A) (ha : DA X F m δ (e :: es) ds m1) (hR : R ds d) (hn : ds.length = nn := by rfl) (hdb : (x == ("__debug__" : Str)) = false := by decide) (he : starEach (e :: es) X.env = (false, eval e X.env) :: starEach es X.env := by rfl) (hpl : (backTo pos (starEach es X.env)).any (·.1) = false := by rfl) (hg : Gl X x := by rfl) : DE X F m δ (.Call (.Name x p) (e :: es) [] pos) d m1 := fun G H σ R0 Q q => by
  obtain ⟨f, fd, h1, h2, h3, h4⟩ := hf
  refine ⟨_, pe_call h1 hr hg h2 h3 h4 .nil (pass0 (X := X)) pa_w hdb he hpl, ?_⟩
  refine ha G H σ R0 _ fun vs G1 H1 x1 rv => ?_
  show spP X.K nn R (vs ++ []) H1 Q E0
  rw [List.append_nil]
  refine ⟨G1, ds, d, hn, x1.gh, rv, hR, fun v G' H' s1 s2 s3 nw rd => ?_⟩
  exact q v G' H' (x1.trans R0.ob ⟨s1, s2, fun b o h _ => s3 b o h, nw, ob_pure x1.ob s1 s3 nw⟩) rd
def DAK (X : Cx) (F : Fr) (m : Option Ob) (δ : List Sl) (es : List Expr) (ds : List PyData) (m' : Option Ob) : Prop :=
  ∀ (G H : Hp) (σ : Sg), Rel X.K F G H m σ δ → ∀ Q : List V → Hp → Prop, (∀ a vs G' H', F.ka = some a → Ext X.K F G H G' H' m' → RpAll X.K G' vs ds → Q (.ref a :: vs) H') → WA X es σ H Q
theorem dak_cons (ho : DK X F m δ e) (hr : DA X F m δ es ds m1) (hs : starEach (e :: es) X.env = (false, eval e X.env) :: starEach es X.env := by rfl) : DAK X F m δ (e :: es) ds m1 := fun G H σ R Q q => by
  refine ⟨_, pa_cons pe_w pa_w hs, ?_⟩
  refine ho G H σ R _ fun a ea => ?_
  exact hr G H σ R _ fun vs G1 H1 x1 rv => q a vs G1 H1 ea x1 rv
theorem ext_keep {K : Fg} {G H G' H' : Hp} {a : Addr} (ea : F.ka = some a) (s1 : Same G G') (s2 : Same G' H') (s3 : ∀ b o, H b = some o → b ≠ a → H' b = some o) (nw : ∀ b, G b = none → H b ≠ none → G' b = none) (gn : G' a = none) (ka : KAt K F.C G' H' a fs') : Ext K F G H G' H' (some fs') := by
  refine ⟨s1, s2, fun b o h n => s3 b o h fun z => n (by rw [z]; exact ea), nw, ?_⟩
  obtain ⟨dx, vs, h1, h2⟩ := ka
  exact ⟨a, dx, vs, ea, gn, h1, h2⟩
theorem de_callK (hf : Cal X.prog X.w X.K X.mg X.base x k ps (spK X.K F.C nn RK)) (hr : Room k X.A) (ha : DAK X F m δ (e :: es) ds (some fs)) (hR : RK fs ds d fs') (hn : ds.length = nn := by rfl) (hdb : (x == ("__debug__" : Str)) = false := by decide) (he : starEach (e :: es) X.env = (false, eval e X.env) :: starEach es X.env := by rfl) (hpl : (backTo pos (starEach es X.env)).any (·.1) = false := by rfl) (hg : Gl X x := by rfl) : DE X F m δ (.Call (.Name x p) (e :: es) [] pos) d (some fs') := fun G H σ R0 Q q => by
  obtain ⟨f, fd, h1, h2, h3, h4⟩ := hf
  refine ⟨_, pe_call h1 hr hg h2 h3 h4 .nil (pass0 (X := X)) pa_w hdb he hpl, ?_⟩
  refine ha G H σ R0 _ fun a vs G1 H1 ea x1 rv => ?_
  show spK X.K F.C nn RK ((.ref a :: vs) ++ []) H1 Q E0
  rw [List.append_nil]
  obtain ⟨a', dx, ws, g1, g2, g3, g4⟩ := x1.ob
  rw [ea] at g1
  cases g1
  refine ⟨G1, a, vs, ds, d, fs, fs', rfl, hn, x1.gh, g2, ⟨dx, ws, g3, g4⟩, rv, hR, fun v G' H' s1 s2 s3 nw gn ka rd => ?_⟩
  exact q v G' H' (x1.trans R0.ob (ext_keep ea s1 s2 s3 nw gn ka)) rd
theorem de_meth {apos : Pos} {pl : Sem Bool} (ho : DK X F m δ a) (cl : Cls X.K F.C) (hf : CalM X.prog X.w X.K X.mg X.base F.C x k ps (spK X.K F.C nn RK)) (hr : Room k X.A) (ha : DA X F m δ (e :: es) ds (some fs)) (h0 : m = some fs1) (hl : List.lookup x fs1 = none) (hR : RK fs ds d fs') (hn : ds.length = nn := by rfl)
    (hst : starEach (e :: es) X.env = (false, eval e X.env) :: starEach es X.env := by rfl) (hpl : (backTo pos (starEach es X.env)).any (·.1) = false := by rfl)
    (ht : eval (.Call (.Attribute a x apos) (e :: es) [] pos) X.env = (do
      let ov ← eval a X.env
      standAt apos.atName
      let (f, first) ← holding [ov] (getMethod ov x pl)
      callWith pos f first (backTo pos (starEach (e :: es) X.env)) (backToKw pos (keywordEach [] X.env))) := by rfl) : DE X F m δ (.Call (.Attribute a x apos) (e :: es) [] pos) d (some fs') := fun G H σ R0 Q q => by
  obtain ⟨f, fd, h1, h2, h4⟩ := hf
  refine ⟨_, pe_meth (pl := pl) pe_w cl h2 h1 hr h4 .nil (pass0 (X := X)) pa_w hst hpl ht, ?_⟩
  refine ho G H σ R0 _ fun o eo => ?_
  subst h0
  obtain ⟨o', dx, ws, g1, g2, g3, g4⟩ := id R0.ob
  rw [eo] at g1
  cases g1
  have nl : ws.lookup x = none := by
    rcases look_all (f := x) g4 with ⟨_, h⟩ | ⟨d', v, h, _⟩
    · exact h
    · rw [hl] at h
      cases h
  refine ⟨o, dx, ws, rfl, g3, nl, ?_⟩
  refine ha G H σ R0 _ fun vs G1 H1 x1 rv => ?_
  show spK X.K F.C nn RK (.ref o :: (vs ++ [])) H1 Q E0
  rw [List.append_nil]
  obtain ⟨a', dx, ws, g1, g2, g3, g4⟩ := x1.ob
  rw [eo] at g1
  cases g1
  refine ⟨G1, o, vs, ds, d, fs, fs', rfl, hn, x1.gh, g2, ⟨dx, ws, g3, g4⟩, rv, hR, fun v G' H' s1 s2 s3 nw gn ka rd => ?_⟩
  exact q v G' H' (x1.trans R0.ob (ext_keep eo s1 s2 s3 nw gn ka)) rd
theorem de_meth0 {apos : Pos} {pl : Sem Bool} (ho : DK X F (some fs) δ a) (cl : Cls X.K F.C) (hf : CalM X.prog X.w X.K X.mg X.base F.C x k ps (spK X.K F.C 0 RK)) (hr : Room k X.A) (hl : List.lookup x fs = none) (hR : RK fs [] d fs')
    (ht : eval (.Call (.Attribute a x apos) [] [] pos) X.env = (do
      let ov ← eval a X.env
      standAt apos.atName
      let (f, first) ← holding [ov] (getMethod ov x pl)
      callWith pos f first (backTo pos (starEach [] X.env)) (backToKw pos (keywordEach [] X.env))) := by rfl) : DE X F (some fs) δ (.Call (.Attribute a x apos) [] [] pos) d (some fs') := fun G H σ R0 Q q => by
  obtain ⟨f, fd, h1, h2, h4⟩ := hf
  refine ⟨_, pe_meth0 (pl := pl) pe_w cl h2 h1 hr h4 .nil (pass0 (X := X)) ht, ?_⟩
  refine ho G H σ R0 _ fun o eo => ?_
  obtain ⟨o', dx, ws, g1, g2, g3, g4⟩ := id R0.ob
  rw [eo] at g1
  cases g1
  have nl : ws.lookup x = none := by
    rcases look_all (f := x) g4 with ⟨_, h⟩ | ⟨d', v, h, _⟩
    · exact h
    · rw [hl] at h
      cases h
  refine ⟨o, dx, ws, rfl, g3, nl, ?_⟩
  show spK X.K F.C 0 RK (.ref o :: ([] ++ [])) H Q E0
  refine ⟨G, o, [], [], d, fs, fs', rfl, rfl, R0.gh, g2, ⟨dx, ws, g3, g4⟩, .nil, hR, fun v G' H' s1 s2 s3 nw gn ka rd => ?_⟩
  exact q v G' H' (ext_keep eo s1 s2 s3 nw gn ka) rd
end

/-! a def's body keeps its promise -/
abbrev cxN (P : Program) (w : World) (K : Fg) (mg : Str → Option Value) (base : Heap) (N : List Str) (qual : Str) (scope : Scope) (f : Addr) (cd : Value) (A : Around) (outer : List Env) (s : Shared) (H : Hp) (E : XK) : Cx := (cxOf CX0 P w K mg base N qual scope f cd A outer s H E).nox
def enP (d : PyData) : En := ⟨fun _ _ => d = .none, fun _ d' => d' = d, fun _ _ => False⟩
def enK (d : PyData) (fs' : Ob) : En := ⟨fun m _ => m = some fs' ∧ d = .none, fun m d' => m = some fs' ∧ d' = d, fun _ _ => False⟩
/-- the slots at the entry -/
def slots (n : Nat) (ss : List Sl) : List Sl := ss ++ List.replicate (n - ss.length) .u
theorem start_get {N : List Str} {vs : List V} {i : Nat} {v : V} (h : vs[i]? = some v) : (start N vs)[i]? = some (some v) := by
  unfold L2.start
  have hi : i < vs.length := (List.getElem?_eq_some_iff.mp h).1
  rw [List.getElem?_append_left (by simpa using hi), List.getElem?_map, h] <;> rfl
theorem rel_start {K : Fg} {F : Fr} {G H : Hp} {m : Option Ob} {N : List Str} {vs : List V} {ss : List Sl} (gh : Same G H) (ob : ObOk K F G H m) (hl : vs.length = ss.length) (hn : vs.length ≤ N.length) (hs : ∀ (i : Nat) (s : Sl), ss[i]? = some s → SlotOk K F G H (vs[i]?.map some) s) (no : ∀ (i : Nat) (d : PyData), ss[i]? ≠ some (.own d)) :
    Rel K F G H m (start N vs) (slots N.length ss) := by
  have low : ∀ (j : Nat) (s : Sl), (slots N.length ss)[j]? = some s → ss[j]? = some s ∨ s = .u := fun j s e => by
    unfold slots at e
    by_cases c : j < ss.length
    · rw [List.getElem?_append_left c] at e
      exact .inl e
    · rw [List.getElem?_append_right (by omega), List.getElem?_replicate] at e
      split at e
      · cases e
        exact .inr rfl
      · cases e
  refine ⟨gh, ?_, fun j s e => ?_, fun j l d1 e1 b ne h1 h2 h3 => ?_, ob⟩
  · unfold L2.start slots
    simp only [List.length_append, List.length_map, List.length_replicate]
    omega
  · rcases low j s e with h | h
    · have z := hs j s h
      cases q : vs[j]? with
      | none =>
        rw [q] at z
        cases s with
        | u => trivial
        | v d =>
          obtain ⟨_, w, _⟩ := z
          cases w
        | own d => exact absurd h (no j d)
        | obj =>
          obtain ⟨_, _, w⟩ := z
          cases w
      | some v =>
        rw [q] at z
        rw [start_get q]
        exact z
    · subst h
      trivial
  · rcases low j _ h1 with h | h
    · exact absurd h (no j d1)
    · cases h
theorem rp_get {K : Fg} {G : Hp} : ∀ {vs : List V} {ds : List PyData} {i : Nat} {d : PyData}, RpAll K G vs ds → ds[i]? = some d → ∃ v, vs[i]? = some v ∧ Rp K G v d
  | _, _, i, d, .nil, e => by simp at e
  | _, _, 0, d, .cons h t, e => by
    have e := Option.some.inj e
    subst e
    exact ⟨_, rfl, h⟩
  | _, _, i + 1, d, .cons h t, e => by
    obtain ⟨v, q1, q2⟩ := rp_get (i := i) t (by simpa using e)
    exact ⟨v, by simpa using q1, q2⟩
section
variable {P : Program} {w : World} {K : Fg} {mg : Str → Option Value} {base : Heap} {x qual : Str} {params : Arguments} {body : List Stmt} {scope : Scope} {f C : Addr} {fd : FuncData} {N ps : List Str} {k : Nat}
theorem fn_pure {R : List PyData → PyData → Prop} (Fd : FunD K x qual params body scope [] [] f fd) (S : FnScope N ps scope)
    (hb : ∀ (cdv : Value) (A : Around) (outer : List Env) (s : Shared) (H : Hp) (E : XK), Room k (A.deeper (envOfC qual scope s.heap.objs.size f cdv)) → ∀ ds d, ds.length = ps.length → R ds d →
      DSs (cxN P w K mg base N qual scope f cdv A outer s H E) ⟨H, 0, none⟩ (enP d) none (slots N.length (ds.map .v)) body) : FnOk P w K mg base CX0 (k + 1) f fd ps (spP K ps.length R) := by
  have hpl : ps.length ≤ N.length := by have := congrArg List.length S.pre; rw [List.length_take] at this; omega
  refine Fd.ok S (fun vs H Q E h => ?_) fun cdv A outer s H vs Q E hr h => ?_
  · obtain ⟨G, ds, d, h1, _, h2, _⟩ := h
    rw [h2.len, h1]
  · obtain ⟨G, ds, d, h1, h2, h3, h4, k1⟩ := h
    have R0 : Rel K ⟨H, 0, none⟩ G H none (start N vs) (slots N.length (ds.map .v)) := by
      refine rel_start h2 rfl (by rw [List.length_map, h3.len]) (by rw [h3.len, h1]; exact hpl) (fun i s e => ?_) fun i d e => ?_
      · rw [List.getElem?_map] at e
        obtain ⟨d', q1, rfl⟩ := Option.map_eq_some_iff.mp e
        obtain ⟨v, q2, q3⟩ := rp_get h3 q1
        exact ⟨v, by rw [q2] <;> rfl, q3⟩
      · rw [List.getElem?_map] at e
        obtain ⟨_, _, q⟩ := Option.map_eq_some_iff.mp e
        cases q
    have gd : Good K ⟨H, 0, none⟩ G (enP d) { nx := fun _ H' => Q .non H', rt := Q } := by
      refine ⟨fun G' H' m σ δ fr r e => ?_, fun G' H' m v d' fr s1 ob rv e => ?_, fun _ _ _ _ _ _ _ e => e.elim⟩
      · have e : d = .none := e
        subst e
        exact k1 _ G' H' fr.g0 r.gh (fun b o h => fr.h0 b o h (fun z => by cases z)) fr.nw (.inl .non)
      · have e : d' = d := e
        subst e
        exact k1 v G' H' fr.g0 s1 (fun b o h => fr.h0 b o h (fun z => by cases z)) fr.nw rv
    obtain ⟨t, ht, q⟩ := hb cdv A outer s H E hr ds d h1 h4 G _ gd G H (L2.start N vs) ⟨Same.refl _, fun _ _ h _ => h, fun _ h _ => h⟩ R0
    exact ⟨t, PSs.nox ht, q⟩
theorem fn_keep {R : Ob → List PyData → PyData → Ob → Prop} {n : Nat} (Fd : FunD K x qual params body scope [] [] f fd) (S : FnScope N ps scope) (hn : ps.length = n + 1)
    (hb : ∀ (cdv : Value) (A : Around) (outer : List Env) (s : Shared) (H : Hp) (E : XK) (ka : Addr), Room k (A.deeper (envOfC qual scope s.heap.objs.size f cdv)) → ∀ fs ds d fs', ds.length = n → R fs ds d fs' →
      DSs (cxN P w K mg base N qual scope f cdv A outer s H E) ⟨H, C, some ka⟩ (enK d fs') (some fs) (slots N.length (.obj :: ds.map .v)) body) : FnOk P w K mg base CX0 (k + 1) f fd ps (spK K C n R) := by
  have hpl : ps.length ≤ N.length := by have := congrArg List.length S.pre; rw [List.length_take] at this; omega
  refine Fd.ok S (fun vs H Q E h => ?_) fun cdv A outer s H vs Q E hr h => ?_
  · obtain ⟨G, ka, us, ds, d, fs, fs', h0, h1, _, _, _, h2, _⟩ := h
    rw [h0, List.length_cons, h2.len, h1, hn]
  · obtain ⟨G, ka, us, ds, d, fs, fs', rfl, h1, h2, g1, ⟨dx, ws, g2, g3⟩, h3, h4, k1⟩ := h
    have R0 : Rel K ⟨H, C, some ka⟩ G H (some fs) (start N (.ref ka :: us)) (slots N.length (.obj :: ds.map .v)) := by
      refine rel_start h2 ⟨ka, dx, ws, rfl, g1, g2, g3⟩ (by rw [List.length_cons, List.length_cons, List.length_map, h3.len]) (by rw [List.length_cons, h3.len, h1, ← hn]; exact hpl) (fun i s e => ?_) fun i d e => ?_
      · cases i with
        | zero =>
          cases e
          exact ⟨ka, rfl, rfl⟩
        | succ i =>
          rw [List.getElem?_cons_succ, List.getElem?_map] at e
          obtain ⟨d', q1, rfl⟩ := Option.map_eq_some_iff.mp e
          obtain ⟨v, q2, q3⟩ := rp_get h3 q1
          exact ⟨v, by rw [List.getElem?_cons_succ, q2] <;> rfl, q3⟩
      · cases i with
        | zero => cases e
        | succ i =>
          rw [List.getElem?_cons_succ, List.getElem?_map] at e
          obtain ⟨_, _, q⟩ := Option.map_eq_some_iff.mp e
          cases q
    have gd : Good K ⟨H, C, some ka⟩ G (enK d fs') { nx := fun _ H' => Q .non H', rt := Q } := by
      refine ⟨fun G' H' m σ δ fr r e => ?_, fun G' H' m v d' fr s1 ob rv e => ?_, fun _ _ _ _ _ _ _ e => e.elim⟩
      · obtain ⟨e1, e2⟩ := e
        subst e1 e2
        obtain ⟨a, dx', vs', q1, q2, q3, q4⟩ := r.ob
        cases q1
        exact k1 _ G' H' fr.g0 r.gh (fun b o h n => fr.h0 b o h (fun z => n (Option.some.inj z).symm)) fr.nw q2 ⟨dx', vs', q3, q4⟩ (.inl .non)
      · obtain ⟨e1, e2⟩ := e
        subst e1 e2
        obtain ⟨a, dx', vs', q1, q2, q3, q4⟩ := ob
        cases q1
        exact k1 v G' H' fr.g0 s1 (fun b o h n => fr.h0 b o h (fun z => n (Option.some.inj z).symm)) fr.nw q2 ⟨dx', vs', q3, q4⟩ rv
    obtain ⟨t, ht, q⟩ := hb cdv A outer s H E ka hr fs ds d fs' h1 h4 G _ gd G H (L2.start N (.ref ka :: us)) ⟨Same.refl _, fun _ _ h _ => h, fun _ h _ => h⟩ R0
    exact ⟨t, PSs.nox ht, q⟩
end
end Pv
/-! ### 6b. sorted(set(ints)), extend by a tuple, sorted of rows, a dict lent -/
namespace Pv
open PySem PySem.Spec PyProof.Rows L2

section
variable {P : Program} {w : World} {A : Around} {E : Value → Shared → Prop} {s : Shared}
/-- the heap behind a new empty set -/
abbrev hpN (w : World) (h : Heap) : Heap := h.push { cls := .type "set", dict := none, data := .set #[] 0 (.fresh 0 0 (!w.params.followText "set-order")) }
/-- set(a list of ints) -/
theorem set_li {a : Addr} {its : Array Value} (zs : List Int) {Q : Value → Shared → Prop} (h0 : A.handled = none) (ha : s.heap.IsList a its) (hz : IntsAre its.toList zs) (hn : zs.length + 1 < scanBound)
    (hq : ∀ (g : Heap) (tk c : Nat), SetR w g s.heap.objs.size (fun j => decide (j ∈ zs)) c → c ≤ zs.length → (∀ b o, s.heap.get? b = some o → g.get? b = some o) → Q (.ref s.heap.objs.size) { s with heap := g, toks := tk }) :
    wpAny (model P w) A (call (.type "set") [.ref a]) Q E s := by
  have e0 : its.size = zs.length := by rw [← Array.length_toList]; exact IntsAre.length hz
  obtain ⟨mc, mt, x1⟩ := PySem.F.called_set.mro
  have x2 := PySem.F.called_set.made
  have x3 := PySem.F.called_set.sub
  refine wpAny_call (codeAny_of_tree (show wpAny _ _ (callAny (.type "set") _) _ _ _ from wpAny_pure ⟨Code.quiet_builtin _ (by decide +kernel), codeAny_builtin PySem.F.entry_type_call ?_⟩))
  rw [Around.under_plain (weight_type_call_type "set" [.ref a] []) rfl]
  have x4 := PySem.F.called_set.notType
  have x5 := PySem.F.called_set.canCreate
  have x6 := PySem.F.typeCall_set_1 (.ref a)
  repeat (any_goals (first | assumption | wp_step))
  refine codeAny_mono (code_set_led1 (.ref a) (E := E) (Q₁ := fun o s1 => o = .ref s.heap.objs.size ∧ s1 = { s with heap := hpN w s.heap }) ⟨rfl, rfl⟩) fun r s1 hr => ?_
  rcases r with e | fl
  · exact hr
  cases fl with
  | ret o =>
    obtain ⟨rfl, rfl⟩ := hr
    have y1 : (hpN w s.heap).get? s.heap.objs.size = some { cls := .type "set", dict := none, data := .set #[] 0 (.fresh 0 0 (!w.params.followText "set-order")) } := Heap.get?_push_size _ rfl
    have y2 : Shared.TypeIs { s with heap := hpN w s.heap } (.ref s.heap.objs.size) "set" := ⟨_, y1, rfl⟩
    have y3 := PySem.F.called_set.init.lookup
    have y4 := PySem.F.called_set.init.bind (.ref s.heap.objs.size)
    repeat (any_goals (first | assumption | wp_step))
    refine codeAny_mono (codeAny_call_builtin (R := wants (fun r s2 => r = .none ∧ ∃ g tk c, s2 = { s with heap := g, toks := tk } ∧ SetR w g s.heap.objs.size (fun j => decide (j ∈ zs)) c ∧ c ≤ zs.length ∧ (∀ b o, s.heap.get? b = some o → g.get? b = some o)) E)
      PySem.F.called_set.init.plain PySem.F.entry_set_init (check_set_init_1 y2 ?_)) fun r2 s2 hr2 => ?_
    · obtain ⟨⟨c1, c2, c3, c4⟩, z1, z2, n, z3⟩ := ha
      simp only at z2 z3
      subst z2 z3
      have u1 : (hpN w s.heap).get? a = some { cls := .type "list", dict := c2, data := .seq its n, slots := c4 } := Heap.get?_push_of_some _ z1
      have u2 := PySem.F.sub_list_set
      have u3 := PySem.F.sub_list_frozenset
      have u4 : (Value.type "list" == Value.type "dict") = false := by decide
      have u5 : (hpN w s.heap).IsList a its := ⟨_, u1, rfl, n, rfl⟩
      unfold Builtin.«set.__init__» noKeywords Builtin.Frozenset.updateFrom
      generalize hPI : pyIter = PI
      wp_walk
      subst hPI
      refine wpAny_pyIter_list u5 (wpAny_bind (wpAny_runValue ?_))
      have v1 : a < s.heap.objs.size := Heap.lt_size z1
      have v2 : (hpN w s.heap).objs.size = s.heap.objs.size + 1 := Heap.size_push ..
      have v3 : a ≠ (hpN w s.heap).objs.size := Nat.ne_of_lt (by rw [v2]; exact Nat.lt_succ_of_lt v1)
      have v4 : s.heap.objs.size ∉ [(hpN w s.heap).objs.size, a] := by
        simp only [List.mem_cons, List.not_mem_nil, or_false, not_or]
        exact ⟨Nat.ne_of_lt (by rw [v2]; exact Nat.lt_succ_self _), Nat.ne_of_gt v1⟩
      refine set_update_ints ((Walks.list (show A.in1.in1.in1.handled = none by simp [h0]) _ a v3 its).toS) s.heap.objs.size v4 zs e0 hn (fun i v hv => ?_) (its.size - 0) 0 _ (by omega) (Nat.zero_le _) ⟨⟨_, Heap.get?_push_size _ rfl, rfl, rfl⟩, (u5.push _)⟩ ⟨0, Nat.le_refl 0, setR_new_at (Heap.get?_push_of_some _ y1)⟩ ?_
      · have hi : i < zs.length := by rw [← e0]; exact (Array.getElem?_eq_some_iff.mp hv).1
        obtain ⟨t, e⟩ := PyProof.Rows.IntsAre.int_at hz i v (by rw [Array.getElem?_toList]; exact hv)
        exact ⟨zs[i], t, List.getElem?_eq_getElem hi, by rw [e, List.getD_eq_getElem?_getD, List.getElem?_eq_getElem hi]; rfl⟩
      · rintro ⟨g, g2, dd, tk, os⟩ c hm hc hS
        have e1 : g2 = s.gens := hm.gens
        have e2 : dd = s.drawn := hm.drawn
        have e3 : os = s.os := hm.os
        subst e1 e2 e3
        rw [e0] at hc
        show wpAny _ _ _ _ _ _
        refine wpAny_pure (show wpAny _ _ (ret Value.none) _ _ _ from wpAny_pure ⟨rfl, g, tk, c, rfl, hS, hc, fun b o e => ?_⟩)
        have hb := Heap.lt_size e
        refine hm.heap b o ?_ (Heap.get?_push_of_some _ (Heap.get?_push_of_some _ e))
        simp only [List.mem_cons, List.not_mem_nil, or_false, not_or]
        exact ⟨Nat.ne_of_lt hb, Nat.ne_of_lt (by rw [v2]; exact Nat.lt_succ_of_lt hb)⟩
    · rcases r2 with e | f2
      · exact hr2
      cases f2 with
      | ret r =>
        obtain ⟨rfl, g, tk, c, rfl, k1, k2, k3⟩ := hr2
        repeat (any_goals (first | assumption | wp_step))
        exact hq _ _ _ k1 k2 k3
      | _ => exact hr2.elim
  | _ => exact hr.elim
end
def rSetLi (K : Fg) (w : World) : List V → Hp → VK → Prop := fun vs H Q => ∃ (a : Addr) (zs : List Int), vs = [V.ref a] ∧ SqL K H a (zs.map V.int) ∧ zs.length ≤ 1000 ∧ ∀ p c, H p = none → c ≤ zs.length → Q (.ref p) (upd H p (SetO w p (fun j => decide (j ∈ zs)) c))
section
variable {X : Cx}
theorem cr_setLi (hc : X.calm = true) : CallR X (.type "set") (rSetLi X.K X.w) := by
  intro pins s σ H vs us Q I r h
  obtain ⟨a, zs, rfl, hs, hz, q⟩ := h
  obtain ⟨its, rv, hl, _⟩ := I.list hs
  obtain ⟨u, rfl, ru⟩ := vals1 r
  obtain rfl : u = Value.ref a := ru
  refine set_li zs (I.ok.hd hc) hl.isList (by simpa using ints_of_vals rv) (by unfold scanBound; omega) fun g tk c S hcn k => ?_
  exact ⟨.ref _, upd H s.heap.objs.size (SetO X.w s.heap.objs.size (fun j => decide (j ∈ zs)) c), I.laid k (Nat.le_refl _) (setO_new S), rfl, q _ c (I.hok.fresh (Nat.le_refl _)) hcn⟩
end
end Pv
/-! ### 6b. sorted(set(ints)), extend by a tuple, sorted of rows, a dict lent -/
namespace Pv
open PySem PySem.Spec PyProof.Rows L2


/-! sorted of rows of ints -/
section
open PySem.W PySem.Calls
variable {prog : Program} {w : World} {A : Around} {E : Value → Shared → Prop} {s : Shared}
theorem rows_cmp {d : Nat} {B : Int} {vs : List Value} {r : Value → Int} (x : TS.TupsOk s.heap d B vs) (hr : ∀ v ∈ vs, ∀ ns, TS.TupInts s.heap v ns → r v = TS.code B ns) : SrtO.Cmp prog w A s (tuples' true) (fun p => p.1 ∈ vs) (SrtO.lt2 fun v u => decide (r v < r u)) := by
  intro p q hp hq
  obtain ⟨ns, tp, lp, bp⟩ := x _ hp
  obtain ⟨ms, tq, lq, bq⟩ := x _ hq
  have e1 := hr _ hp _ tp
  have e2 := hr _ hq _ tq
  show wpAny (model prog w) A (keyLt' (tuples' true) p.1 q.1) (fun c s' => s' = s ∧ c = decide (r p.1 < r q.1)) (fun _ _ => False) s
  rw [e1, e2]
  obtain ⟨a, xs, q1, ⟨o, ho, hc, n, hd⟩, i⟩ := tp
  obtain ⟨b, ys, q2, ⟨u, hu, hc2, k, hd2⟩, j⟩ := tq
  rw [q1, q2]
  refine PySem.W.kat_lt ho hd hu hd2 ?_
  have l1 := i.length
  have l2 := j.length
  rw [Array.length_toList] at l1 l2
  rw [show decide (xs.size < ys.size) = false from decide_eq_false (by omega)]
  exact TS.lex_ints 0 i j (by omega) bp bq ⟨rfl, rfl⟩
theorem rows_sortable {a : Addr} {d : Nat} {B : Int} {vs : List Value} {r : Value → Int} (h1 : 1 ≤ d) (h0 : 0 < vs.length) (x : TS.TupsOk s.heap d B vs) (hr : ∀ v ∈ vs, ∀ ns, TS.TupInts s.heap v ns → r v = TS.code B ns) (ha : ∀ o, s.heap.get? a = some o → o.cls ≠ .type "tuple") :
    SrtO.SortableO prog w A s a vs fun v u => decide (r v < r u) := by
  intro h' keep
  have k2 : ∀ b o, s.heap.get? b = some o → o.cls = .type "tuple" → h'.get? b = some o := fun b o e c => keep b o (fun z => by subst z; exact ha o e c) e
  have x' : TS.TupsOk h' d B vs := x.keeps k2
  have hr' : ∀ v ∈ vs, ∀ ns, TS.TupInts h' v ns → r v = TS.code B ns := fun v hv ns t => by
    obtain ⟨ms, t2, _⟩ := x v hv
    have e := (t2.keeps k2).ints
    rw [t.ints] at e
    rw [e]
    exact hr v hv ms t2
  obtain ⟨fs, f1, f2, f3⟩ := TS.firsts_of h1 vs x'
  refine ⟨tuples' true, fun Q E hq => ?_, rows_cmp (s := { s with heap := h' }) x' hr'⟩
  refine PySem.W.kat_kind (T := .type "int") f1 (by omega) (fun f hm => ?_) (by rfl) ?_
  · obtain ⟨n, t, rfl⟩ := f3 f hm
    exact PySem.W.Looks.now
  · rw [show (Value.type "int" != Value.type "tuple") = true by first | decide +kernel | rfl]
    exact hq
theorem swo_rank {α : Type} (r : α → Int) : SrtO.Swo fun v u => decide (r v < r u) := by
  refine ⟨fun x y h => ?_, fun x y z h k => ?_⟩
  · have h := of_decide_eq_true h
    exact decide_eq_false (by omega)
  · have h := of_decide_eq_false h
    have k := of_decide_eq_false k
    exact decide_eq_false (by omega)
end
/-- sorted(xs), xs a list of rows of d ints in [0, B), no two alike: the one ascending list of them -/
def rSortR (K : Fg) (d : Nat) (B : Int) : List V → Hp → VK → Prop := fun vs H Q => ∃ (a : Addr) (xs : List V), vs = [V.ref a] ∧ SqL K H a xs ∧ (∀ x ∈ xs, ∃ ns, TupI K H x ns ∧ ns.length = d ∧ TS.Bd B ns) ∧
  ∀ (ys : List V) (p : Addr), ys.Perm xs → ys.Pairwise (fun x y => ∀ n m, TupI K H x n → TupI K H y m → TS.code B n ≤ TS.code B m) → H p = none → Q (.ref p) (upd H p (.lst ys))
section
variable {X : Cx}
theorem cr_sortR {d : Nat} {B : Int} (hd : 1 ≤ d) : CallR X (.builtin "sorted") (rSortR X.K d B) := by
  intro pins s σ H vs us Q I r h
  obtain ⟨a, xs, rfl, hs, hx, q⟩ := h
  obtain ⟨its, rv, hl, hz⟩ := I.list hs
  rw [Vals.ref1 r]
  obtain ⟨e1, e2⟩ := bkV_refs rv fun x m => by
    obtain ⟨ns, ⟨t, e, _⟩, _⟩ := hx x m
    exact ⟨t, e⟩
  have ok : TS.TupsOk s.heap d B its := fun v hv => by
    obtain ⟨t, rfl⟩ := e2 v hv
    obtain ⟨ns, ⟨t', e, ht⟩, hn, hb⟩ := hx (V.ref t) (by rw [e1]; exact List.mem_map.mpr ⟨_, hv, rfl⟩)
    cases e
    exact ⟨ns, tupI_raw I ht, hn, hb⟩
  refine SrtO.sorted_ord (swo_rank fun v => TS.code B (TS.intsOf s.heap v)) hl.isList (by rw [← rv.length]; exact hz) (fun h2 g b hb kk => ?_) fun out h1 h2 => ?_
  · refine rows_sortable (s := { s with heap := g }) hd (by omega) (ok.keeps fun b o e _ => (kk b o e).2) (fun v hv ns t => ?_) fun o e c => ?_
    · obtain ⟨ms, t2, _⟩ := ok v hv
      have z := (t2.keeps (h' := g) fun b o e _ => (kk b o e).2).ints
      rw [t.ints] at z
      show TS.code B (TS.intsOf s.heap v) = _
      rw [t2.ints, z]
    · have z : some o = some (seqObj "list" its.toArray 0) := e.symm.trans hb
      cases z
      exact absurd (Value.type.inj c) (by decide)
  · obtain ⟨ep, he⟩ := PyProof.Rows.sortedAll_at s.heap its out.toArray
    have h3 : ∀ u ∈ out, ∃ a, u = Value.ref a := fun u hu => e2 u (h2.perm.mem_iff.mp hu)
    have hp : (out.map bkV).Perm xs := by
      rw [e1]
      exact h2.perm.map bkV
    refine ⟨.ref _, upd H (s.heap.objs.size + 1) (.lst (out.map bkV)), I.laid (t' := s.toks) (fun _ _ => PyProof.Rows.sortedAll_old) (Nat.le_succ _) ⟨by rw [hp.length_eq]; exact hz, out, ep, bkV_vals h3, he⟩, rfl, q _ _ hp ?_ (I.hok.fresh (Nat.le_succ _))⟩
    rw [List.pairwise_map]
    refine List.Pairwise.imp (fun {u v} huv n m hn hm => ?_) h1
    obtain ⟨t, et, ht⟩ := hn
    obtain ⟨t', et', ht'⟩ := hm
    have i1 : TS.intsOf s.heap u = n := by
      rw [bkV_ref et]
      exact (tupI_raw I ht).ints
    have i2 : TS.intsOf s.heap v = m := by
      rw [bkV_ref et']
      exact (tupI_raw I ht').ints
    have z := of_decide_eq_false huv
    rw [i1, i2] at z
    omega
end
end Pv
namespace PySem.AutoSeq1
open PySem PySem.Spec
/-- list.extend of any tuple -/
theorem ext_tup (l : Addr) (us : Array Value) (n : Nat) (b : Addr) (ws : Array Value) (k : Nat) (dd : Option Addr) (sl) (a0 : ¬(!us.isEmpty && Builtin.List.listTooLong (us.size + ws.size)) = true) (a1 : us.size ≤ sizeLine) (a2 : us.size + ws.size ≤ sizeLine + 1) :
    Meets (Builtin.«list.extend» ⟨[.ref l, .ref b], []⟩) (fun _ R s => s.heap.get? l = some { cls := .type "list", dict := none, data := .seq us n, slots := #[] } ∧
      s.heap.get? b = some { cls := .type "tuple", dict := dd, data := .seq ws k, slots := sl } ∧ R (.ok (.ret Value.none)) { s with heap := s.heap.update l (Obj.mapSeq fun x => x ++ ws), toks := s.toks }) :=
  .of_wp fun prog w A R s h => by
    obtain ⟨g1, g2, g3, g4, g5⟩ := s
    obtain ⟨h1, h2, h3⟩ := h
    have f1 := idx_int
    have f2 := sub_tuple_tuple
    have f3 := sub_list_list
    have f4 := sub_tuple_list
    have f5 := sub_list_tuple
    have z : (us ++ ws).size ≤ sizeLine + 1 := by
      rw [Array.size_append]
      exact a2
    wp_walk using (wpAny_updateSeq h1 rfl (hz := a1) (_hz' := z)),
      wpAny_loadPart' h1,
      wpAny_loadPart' h2
    exact ⟨_, rfl, h3⟩
end PySem.AutoSeq1
namespace Pv
open PySem PySem.Spec PyProof.Rows L2
def rExtT (K : Fg) : V → List V → Hp → VK → Prop := fun x vs H Q => ∃ l b xs zs, x = .ref l ∧ vs = [.ref b] ∧ H l = some (.lst xs) ∧ SqT K H b zs ∧ xs.length + zs.length ≤ sizeLine ∧ Q .non (upd H l (.lst (xs ++ zs)))
theorem mt_extT {X : Cx} : MtM X "list.extend" (rExtT X.K) := by
  intro pins s σ H x vs v us Q I rx rv h
  obtain ⟨l, b, xs, zs, rfl, rfl, hH, hB, hz, q⟩ := h
  cases rx
  obtain ⟨u, rfl, ru⟩ := rv.one
  cases ru
  obtain ⟨z, its, n, r, hl, e⟩ := I.lstM hH
  obtain ⟨js, r2, ⟨⟨cls, dd, dt, sl⟩, ho, hc, k, hd⟩, hz2⟩ := I.tuple hB
  simp only at hc hd
  subst hc hd
  have l2 := r2.length
  have sz : its.toArray.size + js.toArray.size ≤ sizeLine := by rw [List.size_toArray, List.size_toArray]; omega
  refine call_meets PySem.F.slot_list_extend ⟨_, e, rfl⟩ PySem.F.entry_list_extend (PySem.F.args_list_extend_2 _ _)
    (PySem.AutoSeq1.ext_tup l its.toArray n b js.toArray k dd sl (by rw [notLongL sz, Bool.and_false]; exact Bool.false_ne_true) (by rw [List.size_toArray]; omega) (by omega)) ⟨e, ho, ?_⟩
  refine ⟨.non, _, I.lset (its' := its ++ js) hH e (by simp) (r.append r2) ?_, rfl, q⟩
  rw [List.length_append]
  omega
section
variable {X : Cx} {F : Fr} {E : En} {m m1 m2 m3 : Option Ob} {δ : List Sl} {e a b c : Expr} {pos p p2 : Pos} {d : PyData} {ds : List PyData}
/-- name.extend(a tuple) -/
theorem ds_extendT {i : Nat} {x : Str} {p apos cpos : Pos} {es2 : List PyData} (hN : X.N[i]? = some x) (hv : Vis X.env.scope x) (hd : δ[i]? = some (.own (.list ds))) (h : DE X F m δ e (.tuple es2) m1) (hz : ds.length + es2.length ≤ sizeLine) (q : E.nx m1 (δ.set i (.own (.list (ds ++ es2)))))
    (hn1 : (x == ("__debug__" : Str)) = false := by decide) (hn2 : (x == ("__classdict__" : Str)) = false := by decide)
    (hbase : attributeBase (.Name x p) "extend" X.env (eval (.Name x p) X.env) = eval (.Name x p) X.env := by rfl)
    (hfew : ((backTo cpos (starEach [e] X.env)).all (fun x => !x.1) && (backToKw cpos (keywordEach [] X.env)).all (fun x => x.1.isSome)
      && decide ([e].length + ([] : List Keyword).length + (if ([] : List Keyword).isEmpty then 0 else 1) < 30)) = true := by rfl)
    (hline : (apos.endLine == cpos.line) = true := by rfl) (hs : starEach [e] X.env = (false, eval e X.env) :: starEach [] X.env := by rfl) (hplain : (backTo cpos (starEach [] X.env)).any (·.1) = false := by rfl)
    (hsw : swapsWith (.Call (.Attribute (.Name x p) "extend" apos) [e] [] cpos) none pos.line X.env = pure false := by rfl) :
    DS X F E m δ (.Expr (.Call (.Attribute (.Name x p) "extend" apos) [e] [] cpos) pos) := fun G0 D gd G H σ fr R => by
  refine ⟨_, ps_expr (pe_bm PySem.F.plainAttrs_list PySem.F.slot_list_extend PySem.F.type_list_extend mt_extT (pe_var hN hv hn1 hn2) pa_w hbase hfew hline hs hplain) hsw, ?_⟩
  obtain ⟨a, e1, e2, e3, e4⟩ := R.sl i _ hd
  refine ⟨_, e1, ?_⟩
  have e5 : ∃ xs, H a = some (.lst xs) ∧ DtAll X.K G xs ds := by
    rcases e4 with ⟨es, xs, w, h1, h2⟩ | ⟨n, xs, w, h1, h2⟩
    · cases w
      exact ⟨xs, h1, h2⟩
    · cases w
  obtain ⟨xs, h1, h2⟩ := e5
  refine ⟨.inl ⟨rfl, xs, SqL.of h1⟩, ?_⟩
  refine da_one h hs G H σ R _ fun vs G1 H1 x1 rv => ?_
  cases rv with
  | cons r1 r2 =>
    cases r2
    obtain ⟨b, ys, rfl, h5, h6⟩ := r1.tup
    have R1 := R.ext x1
    have h3 : H1 a = some (.lst xs) := x1.hh a _ h1 ((OwnAt.nka R.ob (.inl ⟨ds, xs, rfl, h1, h2⟩)))
    have h4 := DtAll.mono x1.gg _ _ h2
    refine ⟨a, b, xs, ys, rfl, rfl, h3, Same.sqT x1.gh h5, by rw [h4.len, h6.len]; exact hz, ?_⟩
    exact gd.nx _ _ m1 _ _ ((fr.ext R.ob x1).put e2) (R1.put hd e1 (fun _ _ _ z => by cases z) (.inl ⟨_, _, rfl, upd_same, h4.app h6⟩)) q
/-- // by more than 2^30 -/
theorem de_fdivW {i j : Int} (ha : DE X F m δ a (.int i) m1) (hb : DE X F m1 δ b (.int j) m2) (hc : CDivW i j) : DE X F m δ (.BinOp a .FloorDiv b pos) (.int (i / j)) m2 := de_binI op_fdivW ha hb hc
/-- two ascending lists of the same ints are one -/
theorem asc_uniq : ∀ {l k : List Int}, l.Pairwise (· < ·) → k.Pairwise (· < ·) → (∀ x, x ∈ l ↔ x ∈ k) → l = k
  | [], [], _, _, _ => rfl
  | [], y :: k, _, _, h => absurd ((h y).mpr (List.mem_cons_self)) (by simp)
  | x :: l, [], _, _, h => absurd ((h x).mp (List.mem_cons_self)) (by simp)
  | x :: l, y :: k, h1, h2, h => by
    obtain ⟨p1, p2⟩ := List.pairwise_cons.mp h1
    obtain ⟨q1, q2⟩ := List.pairwise_cons.mp h2
    have e : x = y := by
      have a1 := (h x).mp List.mem_cons_self
      have a2 := (h y).mpr List.mem_cons_self
      rcases List.mem_cons.mp a1 with e | a1
      · exact e
      · rcases List.mem_cons.mp a2 with e | a2
        · exact e.symm
        · have := q1 x a1
          have := p1 y a2
          omega
    subst e
    refine congrArg _ (asc_uniq p2 q2 fun z => ⟨fun hz => ?_, fun hz => ?_⟩)
    · rcases List.mem_cons.mp ((h z).mp (List.mem_cons_of_mem _ hz)) with e | w
      · subst e
        exact absurd (p1 z hz) (Int.lt_irrefl z)
      · exact w
    · rcases List.mem_cons.mp ((h z).mpr (List.mem_cons_of_mem _ hz)) with e | w
      · subst e
        exact absurd (q1 z hz) (Int.lt_irrefl z)
      · exact w
theorem asc_nodup {l : List Int} (h : l.Pairwise (· < ·)) : l.Nodup := List.Pairwise.imp (fun h e => by omega) h
/-- sorted(set(a)) -/
theorem do_sortedSet {zs out : List Int} {pp : Pos} (hm1 : X.mg "sorted" = none) (hm2 : X.mg "set" = none) (ha : DE X F m δ a (.list (zs.map .int)) m1) (hz : zs.length < 64) (ho : out.Pairwise (· < ·)) (hi : ∀ k, k ∈ out ↔ k ∈ zs)
    (hs : starEach [a] X.env = (false, eval a X.env) :: starEach [] X.env := by rfl) (hs2 : starEach [Expr.Call (.Name "set" p2) [a] [] pp] X.env = (false, eval (Expr.Call (.Name "set" p2) [a] [] pp) X.env) :: starEach [] X.env := by rfl) (hc : X.calm = true := by rfl) (hg1 : Gl X "sorted" := by rfl) (hg2 : Gl X "set" := by rfl) :
    DO X F m δ (.Call (.Name "sorted" p) [.Call (.Name "set" p2) [a] [] pp] [] pos) (out.map .int) m1 := fun G H σ R Q q => by
  refine ⟨_, pe_callB (cr_sortedSet hc) hg1 hm1 (by decide +kernel) (pa_cons (pe_callTy (cr_setLi hc) hg2 hm2 (by decide +kernel) pa_w (he := hs)) pa_nil hs2) (he := hs2), ?_⟩
  refine da_one ha hs G H σ R _ fun vs G1 H1 x1 rv => ?_
  cases rv with
  | cons r1 r2 =>
    cases r2
    obtain ⟨l, xs, rfl, h1, h2⟩ := r1.lst
    have e := ints_dp zs _ h2
    subst e
    refine ⟨l, zs, rfl, SqL.of (x1.gh _ _ h1), by omega, fun p cn hp hcn => ?_⟩
    have x2 := Ext.layH (F := F) (o := SetO X.w p (fun j => decide (j ∈ zs)) cn) x1.gh x1.ob hp
    refine ⟨p, _, cn, rfl, upd_same, by omega, fun ns k hns hin hlen hk => ?_⟩
    have e : ns = out := asc_uniq hns ho fun j => by rw [hin j, hi j, decide_eq_true_eq]
    subst e
    have x3 := Ext.layH (F := F) (o := .lst (ns.map V.int)) x2.gh x2.ob hk
    have x := x1.trans R.ob (x2.trans x1.ob x3)
    refine q k _ _ _ x ?_ (same_none x2.gh hk) upd_same (dp_ints ns)
    cases hh : H k with
    | none => rfl
    | some o =>
      have z : upd H1 p (SetO X.w p (fun j => decide (j ∈ zs)) cn) k = none := hk
      by_cases c1 : k = p
      · subst c1
        rw [upd_same] at z
        cases z
      · rw [upd_ne c1] at z
        have := fresh_of x1 z
        rw [hh] at this
        cases this
end
end Pv
namespace Pv
open PySem PySem.Spec PyProof.Rows L2
theorem paired_perm {α β : Type} {R : α → β → Prop} {xs ys : List α} (h : ys.Perm xs) : ∀ {ds : List β}, Paired R xs ds → ∃ es, Paired R ys es ∧ es.Perm ds := by
  induction h with
  | nil => intro ds h; exact ⟨ds, h, List.Perm.refl _⟩
  | cons x _ ih =>
    intro ds h
    cases h with
    | cons h1 h2 =>
      obtain ⟨es, q1, q2⟩ := ih h2
      exact ⟨_, .cons h1 q1, q2.cons _⟩
  | swap x y l =>
    intro ds h
    cases h with
    | cons h1 h2 =>
      cases h2 with
      | cons h3 h4 => exact ⟨_, .cons h3 (.cons h1 h4), List.Perm.swap _ _ _⟩
  | trans _ _ ih1 ih2 =>
    intro ds h
    obtain ⟨es, q1, q2⟩ := ih2 h
    obtain ⟨fs, q3, q4⟩ := ih1 q1
    exact ⟨fs, q3, q4.trans q2⟩
theorem rank_uniq {α : Type} (r : α → Int) : ∀ {l k : List α}, l.Perm k → l.Pairwise (fun x y => r x < r y) → k.Pairwise (fun x y => r x ≤ r y) → l = k
  | [], k, h, _, _ => (List.Perm.eq_nil h.symm).symm
  | x :: l, [], h, _, _ => absurd h.length_eq (by simp)
  | x :: l, y :: k, h, h1, h2 => by
    obtain ⟨p1, p2⟩ := List.pairwise_cons.mp h1
    obtain ⟨q1, q2⟩ := List.pairwise_cons.mp h2
    have e : y = x := by
      rcases List.mem_cons.mp (h.mem_iff.mpr List.mem_cons_self) with e | hy
      · exact e
      · rcases List.mem_cons.mp (h.mem_iff.mp (List.mem_cons_self (a := x) (l := l))) with e | hx
        · exact e.symm
        · have := p1 y hy
          have := q1 x hx
          omega
    subst e
    rw [rank_uniq r (h.cons_inv) p2 q2]
def eRow (r : List Int) : PyData := .tuple (r.map .int)
theorem rows_at {K : Fg} {G : Hp} : ∀ {rows : List (List Int)} {xs : List V}, DtAll K G xs (rows.map eRow) → Paired (fun x r => TupI K G x r) xs rows
  | [], _, h => by
    cases h
    exact .nil
  | r :: rows, _, h => by
    cases h with
    | cons h1 h2 =>
      cases h1 with
      | tup h3 h4 =>
        rw [ints_dp r _ h4] at h3
        exact .cons ⟨_, rfl, h3⟩ (rows_at h2)
theorem at_rows {K : Fg} {G : Hp} {xs : List V} {rows : List (List Int)} (h : Paired (fun x r => TupI K G x r) xs rows) : DtAll K G xs (rows.map eRow) := by
  induction h with
  | nil => exact .nil
  | @cons x r _ _ h1 _ ih =>
    obtain ⟨t, rfl, h⟩ := h1
    exact .cons (.tup h (dp_ints r)) ih
theorem paired_mem2 {α β : Type} {R : α → β → Prop} {xs : List α} {ds : List β} (h : Paired R xs ds) : ∀ d ∈ ds, ∃ x ∈ xs, R x d := by
  induction h with
  | nil => intro x hx; cases hx
  | cons h1 _ ih =>
    intro x hx
    rcases List.mem_cons.mp hx with e | hx
    · subst e
      exact ⟨_, List.mem_cons_self, h1⟩
    · obtain ⟨d, q1, q2⟩ := ih x hx
      exact ⟨d, List.mem_cons_of_mem _ q1, q2⟩
theorem paired_pw {α β : Type} {R : α → β → Prop} {S : α → α → Prop} {T : β → β → Prop} (hT : ∀ x y a b, R x a → R y b → S x y → T a b) {xs : List α} {ds : List β} (h : Paired R xs ds) (hS : xs.Pairwise S) : ds.Pairwise T := by
  induction h with
  | nil => exact .nil
  | @cons x a xs ds h1 h2 ih =>
    obtain ⟨p1, p2⟩ := List.pairwise_cons.mp hS
    refine List.pairwise_cons.mpr ⟨fun b hb => ?_, ih p2⟩
    obtain ⟨y, hy, hR⟩ := paired_mem2 h2 b hb
    exact hT _ _ _ _ h1 hR (p1 y hy)
theorem paired_mem {α β : Type} {R : α → β → Prop} {xs : List α} {ds : List β} (h : Paired R xs ds) : ∀ x ∈ xs, ∃ d ∈ ds, R x d := by
  induction h with
  | nil => intro x hx; cases hx
  | cons h1 _ ih =>
    intro x hx
    rcases List.mem_cons.mp hx with e | hx
    · subst e
      exact ⟨_, List.mem_cons_self, h1⟩
    · obtain ⟨d, q1, q2⟩ := ih x hx
      exact ⟨d, List.mem_cons_of_mem _ q1, q2⟩
section
variable {X : Cx} {F : Fr} {E : En} {m m1 m2 m3 : Option Ob} {δ : List Sl} {e a b c : Expr} {pos p p2 : Pos} {d : PyData} {ds : List PyData}
theorem do_sortedR {n : Nat} {B : Int} {rows out : List (List Int)} (hn : 1 ≤ n) (hm : X.mg "sorted" = none) (ha : DE X F m δ a (.list (rows.map eRow)) m1) (hr : ∀ r ∈ rows, r.length = n ∧ TS.Bd B r) (hp : out.Perm rows) (ho : out.Pairwise fun x y => TS.code B x < TS.code B y)
    (hs : starEach [a] X.env = (false, eval a X.env) :: starEach [] X.env := by rfl) (hg : Gl X "sorted" := by rfl) : DO X F m δ (.Call (.Name "sorted" p) [a] [] pos) (out.map eRow) m1 := fun G H σ R Q q => by
  refine ⟨_, pe_callB (cr_sortR (B := B) hn) hg hm (by decide +kernel) pa_w (he := hs), ?_⟩
  refine da_one ha hs G H σ R _ fun vs G1 H1 x1 rv => ?_
  cases rv with
  | cons r1 r2 =>
    cases r2
    obtain ⟨l, xs, rfl, h1, h2⟩ := r1.lst
    have pr := rows_at h2
    refine ⟨l, xs, rfl, SqL.of (x1.gh _ _ h1), fun x hx => ?_, fun ys k hys hpw hk => ?_⟩
    · obtain ⟨r, hm, t, rfl, ht⟩ := paired_mem pr x hx
      exact ⟨r, ⟨t, rfl, Same.sqT x1.gh ht⟩, (hr r hm).1, (hr r hm).2⟩
    · obtain ⟨rs, q1, q2⟩ := paired_perm hys pr
      have q3 : rs.Pairwise fun x y => TS.code B x ≤ TS.code B y := paired_pw (fun x y a b ⟨t, e, ht⟩ ⟨t', e', ht'⟩ hS => hS a b ⟨t, e, Same.sqT x1.gh ht⟩ ⟨t', e', Same.sqT x1.gh ht'⟩) q1 hpw
      have e : out = rs := rank_uniq (TS.code B) (hp.trans q2.symm) ho q3
      subst e
      exact q k ys _ _ (x1.trans R.ob (Ext.layH (o := .lst ys) x1.gh x1.ob hk)) (fresh_of x1 hk) (same_none x1.gh hk) upd_same (at_rows q1)
/-- f(e, name), name a dict of this frame, the result an int -/
theorem de_callO {x y : Str} {i : Nat} {k : Nat} {ps : List Str} {Rr : List PyData → PyData → Prop} {z : Int} {dm : List (Int × PyData)} (hf : Cal X.prog X.w X.K X.mg X.base x k ps (spP X.K 2 Rr)) (hr : Room k X.A) (ha : DE X F m δ e d m1) (hN : X.N[i]? = some y) (hv : Vis X.env.scope y) (hd : δ[i]? = some (.own (.dict (dk dm)))) (hR : Rr [d, .dict (dk dm)] (.int z))
    (hn1 : (y == ("__debug__" : Str)) = false := by decide) (hn2 : (y == ("__classdict__" : Str)) = false := by decide) (hdb : (x == ("__debug__" : Str)) = false := by decide) (he : starEach [e, .Name y p2] X.env = (false, eval e X.env) :: starEach [.Name y p2] X.env := by rfl) (he2 : starEach [.Name y p2] X.env = (false, eval (.Name y p2) X.env) :: starEach [] X.env := by rfl) (hpl : (backTo pos (starEach [.Name y p2] X.env)).any (·.1) = false := by rfl) (hg : Gl X x := by rfl) :
    DE X F m δ (.Call (.Name x p) [e, .Name y p2] [] pos) (.int z) m1 := fun G H σ R0 Q q => by
  obtain ⟨f, fd, h1, h2, h3, h4⟩ := hf
  refine ⟨_, pe_call h1 hr hg h2 h3 h4 .nil (pass0 (X := X)) (pa_cons pe_w (pa_cons (pe_var hN hv hn1 hn2) pa_nil he2) he) hdb he hpl, ?_⟩
  refine ha G H σ R0 _ fun v G1 H1 x1 rv => ?_
  have R1 := R0.ext x1
  obtain ⟨a, e1, e2, e3, e4⟩ := R1.sl i _ hd
  refine ⟨_, e1, ?_⟩
  obtain ⟨xs, w1, w2⟩ := own_dict e4
  show spP X.K 2 Rr ([v, .ref a] ++ []) H1 Q E0
  rw [List.append_nil]
  have sg : Same G1 (upd G1 a (.dK xs)) := same_upd e3
  have sh : Same (upd G1 a (.dK xs)) H1 := fun b o hb => by
    by_cases c : b = a
    · subst c
      rw [upd_same] at hb
      cases hb
      exact w1
    · rw [upd_ne c] at hb
      exact x1.gh b o hb
  refine ⟨upd G1 a (.dK xs), [d, .dict (dk dm)], .int z, rfl, sh, .cons (rv.mono sg) (.cons (.inr (.inl ⟨a, dm, xs, rfl, rfl, upd_same, w2.mono sg⟩)) .nil), hR, fun u G' H' s1 s2 s3 nw rd => ?_⟩
  rw [rd.int]
  have x2 : Ext X.K F G1 H1 G1 H' m1 := ⟨Same.refl _, fun b o hb => s3 b o (x1.gh b o hb), fun b o h _ => s3 b o h, fun b h _ => h, ob_pure x1.ob (Same.refl _) s3 (fun b h _ => h)⟩
  exact q _ G1 H' (x1.trans R0.ob x2) (.inl (.int z))
end
theorem Room.units1 {k : Nat} {A : Around} (r : Room k A) : A.units + 1 < cLine := by have := r.units; omega
end Pv
/-! ### 9. The program's parts by name; how the specification's things stand as data -/
namespace Pv
open PySem PySem.Spec PyProof.Rows L2
open Kvg9 (Feature Version Vertex Commit Store)

/-- what the head tells -/
structure Tx (K : Fg) (mg : Str → Option Value) : Prop where
  c : SaysP K
  h : ∃ h : Heap, K.In h ∧ h.Ns mainGlobals mg
section
variable {P : Program} {w : World} {K : Fg} {mg : Str → Option Value} {base : Heap}
theorem Tx.glo (T : Tx K mg) {x : Str} (i : Nat) (h : faL[i]? = some (He.Fa.glo x) := by rfl) : mg x = some (.ref (He.ga K x)) := by
  obtain ⟨hp, X, G⟩ := T.h
  exact He.glo_ok X G (T.c.d.fact i h)
theorem Tx.free (T : Tx K mg) {x : Str} (i : Nat) (h : faL[i]? = some (He.Fa.free x) := by rfl) : mg x = none := by
  obtain ⟨hp, X, G⟩ := T.h
  exact He.free_ok X G (T.c.d.fact i h)
theorem Tx.int (T : Tx K mg) {x : Str} {j : Int} (i : Nat) (h : faL[i]? = some (He.Fa.int x j) := by rfl) : ∃ t, mg x = some (.int j t) := by
  obtain ⟨hp, X, G⟩ := T.h
  exact He.int_ok X G (T.c.d.fact i h)
theorem Tx.noat (T : Tx K mg) {x f : Str} (i : Nat) (h : faL[i]? = some (He.Fa.noat x f) := by rfl) : NoAttr K (He.ga K x) f := He.noat_ok (T.c.d.fact i h)
theorem Tx.ex (T : Tx K mg) {b : Bool} (i : Nat) (h : (exL K)[i]? = some b := by rfl) : b = true := List.all_eq_true.mp T.c.ex b (List.mem_of_getElem? h)
theorem Tx.g_Keeper (T : Tx K mg) : mg "Keeper" = some (.ref (He.ga K "Keeper")) := T.glo 91
theorem Tx.n_len (T : Tx K mg) : mg "len" = none := T.free 105
theorem Tx.n_all (T : Tx K mg) : mg "all" = none := T.free 106
theorem Tx.n_tuple (T : Tx K mg) : mg "tuple" = none := T.free 107
theorem Tx.n_range (T : Tx K mg) : mg "range" = none := T.free 108
theorem Tx.n_sorted (T : Tx K mg) : mg "sorted" = none := T.free 109
theorem Tx.n_set (T : Tx K mg) : mg "set" = none := T.free 110
theorem Tx.n_zip (T : Tx K mg) : mg "zip" = none := T.free 111
theorem Tx.n_list (T : Tx K mg) : mg "list" = none := T.free 112
theorem Tx.n_enumerate (T : Tx K mg) : mg "enumerate" = none := T.free 113
theorem Tx.n_reversed (T : Tx K mg) : mg "reversed" = none := T.free 114
theorem Tx.n_max (T : Tx K mg) : mg "max" = none := T.free 115
theorem Tx.n_min (T : Tx K mg) : mg "min" = none := T.free 116
theorem Tx.i_MOST_NUMBER (T : Tx K mg) : ∃ t, mg "MOST_NUMBER" = some (.int 65535 t) := T.int 117
theorem Tx.i_MOST_VALUE (T : Tx K mg) : ∃ t, mg "MOST_VALUE" = some (.int 1000000000 t) := T.int 118
theorem Tx.i_MOST_COORDINATE (T : Tx K mg) : ∃ t, mg "MOST_COORDINATE" = some (.int 1000000 t) := T.int 119
theorem Tx.i_MOST_VERTICES (T : Tx K mg) : ∃ t, mg "MOST_VERTICES" = some (.int 12 t) := T.int 120
theorem Tx.i_MOST_FEATURES (T : Tx K mg) : ∃ t, mg "MOST_FEATURES" = some (.int 16 t) := T.int 121
theorem Tx.i_VERTICES_PART (T : Tx K mg) : ∃ t, mg "VERTICES_PART" = some (.int 1024 t) := T.int 122
theorem Tx.i_ADDED (T : Tx K mg) : ∃ t, mg "ADDED" = some (.int 1 t) := T.int 123
theorem Tx.i_REMOVED (T : Tx K mg) : ∃ t, mg "REMOVED" = some (.int 2 t) := T.int 124
theorem Tx.i_CHANGED_features (T : Tx K mg) : ∃ t, mg "CHANGED_features" = some (.int 3 t) := T.int 125
theorem Tx.i_WORKING (T : Tx K mg) : ∃ t, mg "WORKING" = some (.int 4294967295 t) := T.int 126
theorem Tx.i_FIRST_HASH (T : Tx K mg) : ∃ t, mg "FIRST_HASH" = some (.int 14695981039346656037 t) := T.int 127
theorem Tx.i_FACTOR (T : Tx K mg) : ∃ t, mg "FACTOR" = some (.int 1099511628211 t) := T.int 128
theorem Tx.i_WORD (T : Tx K mg) : ∃ t, mg "WORD" = some (.int 4294967296 t) := T.int 129
theorem Tx.i_LONG_WORD (T : Tx K mg) : ∃ t, mg "LONG_WORD" = some (.int 18446744073709551616 t) := T.int 130
theorem Tx.i_REMOVED_AND_CHANGED (T : Tx K mg) : ∃ t, mg "REMOVED_AND_CHANGED" = some (.int 1 t) := T.int 131
theorem Tx.i_ADDED_TWICE (T : Tx K mg) : ∃ t, mg "ADDED_TWICE" = some (.int 2 t) := T.int 132
theorem Tx.i_ATTRIBUTE (T : Tx K mg) : ∃ t, mg "ATTRIBUTE" = some (.int 3 t) := T.int 133
theorem Tx.i_VERTEX (T : Tx K mg) : ∃ t, mg "VERTEX" = some (.int 4 t) := T.int 134
theorem Tx.i_VERTICES (T : Tx K mg) : ∃ t, mg "VERTICES" = some (.int 5 t) := T.int 135
theorem Tx.i_MOST_COMMITS (T : Tx K mg) : ∃ t, mg "MOST_COMMITS" = some (.int 40 t) := T.int 136
theorem Tx.i_MOST_NAMES (T : Tx K mg) : ∃ t, mg "MOST_NAMES" = some (.int 8 t) := T.int 137
theorem Tx.i_KEPT (T : Tx K mg) : ∃ t, mg "KEPT" = some (.int 0 t) := T.int 138
theorem Tx.i_MOVED (T : Tx K mg) : ∃ t, mg "MOVED" = some (.int 1 t) := T.int 139
theorem Tx.i_RESHAPED (T : Tx K mg) : ∃ t, mg "RESHAPED" = some (.int 2 t) := T.int 140
theorem Tx.i_MOST_ATTRIBUTES (T : Tx K mg) : ∃ t, mg "MOST_ATTRIBUTES" = some (.int 8 t) := T.int 141
theorem Tx.i_CREATE (T : Tx K mg) : ∃ t, mg "CREATE" = some (.int 0 t) := T.int 142
theorem Tx.i_PUT (T : Tx K mg) : ∃ t, mg "PUT" = some (.int 1 t) := T.int 143
theorem Tx.i_COLLECT (T : Tx K mg) : ∃ t, mg "COLLECT" = some (.int 28 t) := T.int 144
theorem Tx.cls (T : Tx K mg) : Cls K (He.ga K "Keeper") := He.cls_ok (T.c.d.fact 145 rfl)
theorem Tx.mkr (T : Tx K mg) : Mk K (He.ga K "Keeper") (He.ma K (He.ga K "Keeper") "__init__") := He.mkr_ok (T.c.d.fact 146 rfl)
theorem Tx.a_width (T : Tx K mg) : NoAttr K (He.ga K "Keeper") "width" := T.noat 147
theorem Tx.a_working (T : Tx K mg) : NoAttr K (He.ga K "Keeper") "working" := T.noat 148
theorem Tx.a_commits (T : Tx K mg) : NoAttr K (He.ga K "Keeper") "commits" := T.noat 149
theorem Tx.a_branches (T : Tx K mg) : NoAttr K (He.ga K "Keeper") "branches" := T.noat 150
theorem Tx.a_tags (T : Tx K mg) : NoAttr K (He.ga K "Keeper") "tags" := T.noat 151
theorem Tx.a_current (T : Tx K mg) : NoAttr K (He.ga K "Keeper") "current" := T.noat 152
theorem Tx.m_head (T : Tx K mg) : Meth K (He.ga K "Keeper") "head" (He.ma K (He.ga K "Keeper") "head") := He.meth_ok (T.c.d.fact 153 rfl)
theorem Tx.m_head_version (T : Tx K mg) : Meth K (He.ga K "Keeper") "head_version" (He.ma K (He.ga K "Keeper") "head_version") := He.meth_ok (T.c.d.fact 154 rfl)
theorem Tx.m_is_changed (T : Tx K mg) : Meth K (He.ga K "Keeper") "is_changed" (He.ma K (He.ga K "Keeper") "is_changed") := He.meth_ok (T.c.d.fact 155 rfl)
theorem Tx.m_has_commit (T : Tx K mg) : Meth K (He.ga K "Keeper") "has_commit" (He.ma K (He.ga K "Keeper") "has_commit") := He.meth_ok (T.c.d.fact 156 rfl)
theorem Tx.m_version_at (T : Tx K mg) : Meth K (He.ga K "Keeper") "version_at" (He.ma K (He.ga K "Keeper") "version_at") := He.meth_ok (T.c.d.fact 157 rfl)
theorem Tx.m_set_working (T : Tx K mg) : Meth K (He.ga K "Keeper") "set_working" (He.ma K (He.ga K "Keeper") "set_working") := He.meth_ok (T.c.d.fact 158 rfl)
theorem Tx.m_point (T : Tx K mg) : Meth K (He.ga K "Keeper") "point" (He.ma K (He.ga K "Keeper") "point") := He.meth_ok (T.c.d.fact 159 rfl)
theorem Tx.m_add_commit (T : Tx K mg) : Meth K (He.ga K "Keeper") "add_commit" (He.ma K (He.ga K "Keeper") "add_commit") := He.meth_ok (T.c.d.fact 160 rfl)
theorem Tx.m_add_branch (T : Tx K mg) : Meth K (He.ga K "Keeper") "add_branch" (He.ma K (He.ga K "Keeper") "add_branch") := He.meth_ok (T.c.d.fact 161 rfl)
theorem Tx.m_drop_branch (T : Tx K mg) : Meth K (He.ga K "Keeper") "drop_branch" (He.ma K (He.ga K "Keeper") "drop_branch") := He.meth_ok (T.c.d.fact 162 rfl)
theorem Tx.m_switch (T : Tx K mg) : Meth K (He.ga K "Keeper") "switch" (He.ma K (He.ga K "Keeper") "switch") := He.meth_ok (T.c.d.fact 163 rfl)
theorem Tx.m_put_tag (T : Tx K mg) : Meth K (He.ga K "Keeper") "put_tag" (He.ma K (He.ga K "Keeper") "put_tag") := He.meth_ok (T.c.d.fact 164 rfl)
theorem Tx.m_drop_tag (T : Tx K mg) : Meth K (He.ga K "Keeper") "drop_tag" (He.ma K (He.ga K "Keeper") "drop_tag") := He.meth_ok (T.c.d.fact 165 rfl)
theorem Tx.m_keep_commits (T : Tx K mg) : Meth K (He.ga K "Keeper") "keep_commits" (He.ma K (He.ga K "Keeper") "keep_commits") := He.meth_ok (T.c.d.fact 166 rfl)
theorem Tx.g_MISSING_edits (T : Tx K mg) : mg "MISSING_edits" = some (.ref (He.ga K "MISSING_edits")) := T.glo 92
theorem Tx.l_MISSING_edits (T : Tx K mg) (H : Hp) : SqL K H (He.ga K "MISSING_edits") (([-2] : List Int).map V.int) := He.lstB_ok (T.ex 0) H
theorem Tx.g_OUTSIDE_edits (T : Tx K mg) : mg "OUTSIDE_edits" = some (.ref (He.ga K "OUTSIDE_edits")) := T.glo 93
theorem Tx.l_OUTSIDE_edits (T : Tx K mg) (H : Hp) : SqL K H (He.ga K "OUTSIDE_edits") (([-22] : List Int).map V.int) := He.lstB_ok (T.ex 1) H
theorem Tx.g_TOO_MANY_edits (T : Tx K mg) : mg "TOO_MANY_edits" = some (.ref (He.ga K "TOO_MANY_edits")) := T.glo 94
theorem Tx.l_TOO_MANY_edits (T : Tx K mg) (H : Hp) : SqL K H (He.ga K "TOO_MANY_edits") (([-28] : List Int).map V.int) := He.lstB_ok (T.ex 2) H
theorem Tx.g_ONLY_ONE (T : Tx K mg) : mg "ONLY_ONE" = some (.ref (He.ga K "ONLY_ONE")) := T.glo 95
theorem Tx.l_ONLY_ONE (T : Tx K mg) (H : Hp) : SqL K H (He.ga K "ONLY_ONE") (([-33] : List Int).map V.int) := He.lstB_ok (T.ex 3) H
theorem Tx.g_MISSING_names (T : Tx K mg) : mg "MISSING_names" = some (.ref (He.ga K "MISSING_names")) := T.glo 96
theorem Tx.l_MISSING_names (T : Tx K mg) (H : Hp) : SqL K H (He.ga K "MISSING_names") (([-2] : List Int).map V.int) := He.lstB_ok (T.ex 4) H
theorem Tx.g_NOTHING (T : Tx K mg) : mg "NOTHING" = some (.ref (He.ga K "NOTHING")) := T.glo 97
theorem Tx.l_NOTHING (T : Tx K mg) (H : Hp) : SqL K H (He.ga K "NOTHING") (([-6] : List Int).map V.int) := He.lstB_ok (T.ex 5) H
theorem Tx.g_CHANGED_names (T : Tx K mg) : mg "CHANGED_names" = some (.ref (He.ga K "CHANGED_names")) := T.glo 98
theorem Tx.l_CHANGED_names (T : Tx K mg) (H : Hp) : SqL K H (He.ga K "CHANGED_names") (([-16] : List Int).map V.int) := He.lstB_ok (T.ex 6) H
theorem Tx.g_TAKEN (T : Tx K mg) : mg "TAKEN" = some (.ref (He.ga K "TAKEN")) := T.glo 99
theorem Tx.l_TAKEN (T : Tx K mg) (H : Hp) : SqL K H (He.ga K "TAKEN") (([-17] : List Int).map V.int) := He.lstB_ok (T.ex 7) H
theorem Tx.g_OUTSIDE_names (T : Tx K mg) : mg "OUTSIDE_names" = some (.ref (He.ga K "OUTSIDE_names")) := T.glo 100
theorem Tx.l_OUTSIDE_names (T : Tx K mg) (H : Hp) : SqL K H (He.ga K "OUTSIDE_names") (([-22] : List Int).map V.int) := He.lstB_ok (T.ex 8) H
theorem Tx.g_TOO_MANY_names (T : Tx K mg) : mg "TOO_MANY_names" = some (.ref (He.ga K "TOO_MANY_names")) := T.glo 101
theorem Tx.l_TOO_MANY_names (T : Tx K mg) (H : Hp) : SqL K H (He.ga K "TOO_MANY_names") (([-28] : List Int).map V.int) := He.lstB_ok (T.ex 9) H
theorem Tx.g_NO_PARENT (T : Tx K mg) : mg "NO_PARENT" = some (.ref (He.ga K "NO_PARENT")) := T.glo 102
theorem Tx.l_NO_PARENT (T : Tx K mg) (H : Hp) : SqL K H (He.ga K "NO_PARENT") (([-33] : List Int).map V.int) := He.lstB_ok (T.ex 10) H
theorem Tx.g_MISSING_queries (T : Tx K mg) : mg "MISSING_queries" = some (.ref (He.ga K "MISSING_queries")) := T.glo 103
theorem Tx.l_MISSING_queries (T : Tx K mg) (H : Hp) : SqL K H (He.ga K "MISSING_queries") (([-2] : List Int).map V.int) := He.lstB_ok (T.ex 11) H
theorem Tx.g_SIZES (T : Tx K mg) : mg "SIZES" = some (.ref (He.ga K "SIZES")) := T.glo 104
theorem Tx.l_SIZES (T : Tx K mg) (H : Hp) : SqT K H (He.ga K "SIZES") (([1, 0, 1, 3, 4, 4, 2, 2, 1, 0, 0, 1, 1, 1, 1, 2, 1, 2, 0, 1, 2, 1, 1, 1, 2, 2, 1, 1, 0, 3, 0] : List Int).map V.int) := He.tupB_ok (T.ex 12) H
abbrev N_is_value : List Str := ["value"]
theorem sc_is_value : FnScope N_is_value ["value"] (defScope (top 10)) := ⟨rfl, rfl, rfl, by decide +kernel, rfl, by decide +kernel, by decide +kernel⟩
abbrev N_is_coordinate : List Str := ["value"]
theorem sc_is_coordinate : FnScope N_is_coordinate ["value"] (defScope (top 11)) := ⟨rfl, rfl, rfl, by decide +kernel, rfl, by decide +kernel, by decide +kernel⟩
abbrev N_is_feature : List Str := ["width", "number", "attributes", "numbers", "value"]
theorem sc_is_feature : FnScope N_is_feature ["width", "number", "attributes", "numbers"] (defScope (top 12)) := ⟨rfl, rfl, rfl, by decide +kernel, rfl, by decide +kernel, by decide +kernel⟩
abbrev N_pairs_of : List Str := ["numbers", "at"]
theorem sc_pairs_of : FnScope N_pairs_of ["numbers"] (defScope (top 13)) := ⟨rfl, rfl, rfl, by decide +kernel, rfl, by decide +kernel, by decide +kernel⟩
abbrev N_feature_at : List Str := ["version", "number", "feature"]
theorem sc_feature_at : FnScope N_feature_at ["version", "number"] (defScope (top 14)) := ⟨rfl, rfl, rfl, by decide +kernel, rfl, by decide +kernel, by decide +kernel⟩
abbrev N_with_feature : List Str := ["version", "feature", "ahead", "behind", "other"]
theorem sc_with_feature : FnScope N_with_feature ["version", "feature"] (defScope (top 15)) := ⟨rfl, rfl, rfl, by decide +kernel, rfl, by decide +kernel, by decide +kernel⟩
abbrev N_without_feature : List Str := ["version", "number", "feature"]
theorem sc_without_feature : FnScope N_without_feature ["version", "number"] (defScope (top 16)) := ⟨rfl, rfl, rfl, by decide +kernel, rfl, by decide +kernel, by decide +kernel⟩
abbrev N_put_at : List Str := ["row", "index", "value"]
theorem sc_put_at : FnScope N_put_at ["row", "index", "value"] (defScope (top 17)) := ⟨rfl, rfl, rfl, by decide +kernel, rfl, by decide +kernel, by decide +kernel⟩
abbrev N_put_ahead : List Str := ["row", "index", "value"]
theorem sc_put_ahead : FnScope N_put_ahead ["row", "index", "value"] (defScope (top 18)) := ⟨rfl, rfl, rfl, by decide +kernel, rfl, by decide +kernel, by decide +kernel⟩
abbrev N_left_out : List Str := ["row", "index"]
theorem sc_left_out : FnScope N_left_out ["row", "index"] (defScope (top 19)) := ⟨rfl, rfl, rfl, by decide +kernel, rfl, by decide +kernel, by decide +kernel⟩
abbrev N_numbers_of : List Str := ["versions", "numbers", "version", "feature"]
theorem sc_numbers_of : FnScope N_numbers_of ["versions"] (defScope (top 20)) := ⟨rfl, rfl, rfl, by decide +kernel, rfl, by decide +kernel, by decide +kernel⟩
abbrev N_parts_of : List Str := ["one", "other", "found", "weight", "value", "later"]
theorem sc_parts_of : FnScope N_parts_of ["one", "other"] (defScope (top 21)) := ⟨rfl, rfl, rfl, by decide +kernel, rfl, by decide +kernel, by decide +kernel⟩
abbrev N_change_of : List Str := ["number", "one", "other"]
theorem sc_change_of : FnScope N_change_of ["number", "one", "other"] (defScope (top 22)) := ⟨rfl, rfl, rfl, by decide +kernel, rfl, by decide +kernel, by decide +kernel⟩
abbrev N_changes_between : List Str := ["first", "second", "found", "number", "change"]
theorem sc_changes_between : FnScope N_changes_between ["first", "second"] (defScope (top 23)) := ⟨rfl, rfl, rfl, by decide +kernel, rfl, by decide +kernel, by decide +kernel⟩
abbrev N_put_feature : List Str := ["keeper", "number", "attributes", "numbers", "is_there"]
theorem sc_put_feature : FnScope N_put_feature ["keeper", "number", "attributes", "numbers"] (defScope (top 29)) := ⟨rfl, rfl, rfl, by decide +kernel, rfl, by decide +kernel, by decide +kernel⟩
abbrev N_remove_feature : List Str := ["keeper", "number"]
theorem sc_remove_feature : FnScope N_remove_feature ["keeper", "number"] (defScope (top 30)) := ⟨rfl, rfl, rfl, by decide +kernel, rfl, by decide +kernel, by decide +kernel⟩
abbrev N_set_attribute : List Str := ["keeper", "number", "index", "value", "feature", "attributes"]
theorem sc_set_attribute : FnScope N_set_attribute ["keeper", "number", "index", "value"] (defScope (top 31)) := ⟨rfl, rfl, rfl, by decide +kernel, rfl, by decide +kernel, by decide +kernel⟩
abbrev N_put_vertices : List Str := ["keeper", "feature", "vertices"]
theorem sc_put_vertices : FnScope N_put_vertices ["keeper", "feature", "vertices"] (defScope (top 32)) := ⟨rfl, rfl, rfl, by decide +kernel, rfl, by decide +kernel, by decide +kernel⟩
abbrev N_move_vertex : List Str := ["keeper", "number", "index", "x", "y", "feature"]
theorem sc_move_vertex : FnScope N_move_vertex ["keeper", "number", "index", "x", "y"] (defScope (top 33)) := ⟨rfl, rfl, rfl, by decide +kernel, rfl, by decide +kernel, by decide +kernel⟩
abbrev N_insert_vertex : List Str := ["keeper", "number", "index", "x", "y", "feature"]
theorem sc_insert_vertex : FnScope N_insert_vertex ["keeper", "number", "index", "x", "y"] (defScope (top 34)) := ⟨rfl, rfl, rfl, by decide +kernel, rfl, by decide +kernel, by decide +kernel⟩
abbrev N_remove_vertex : List Str := ["keeper", "number", "index", "feature"]
theorem sc_remove_vertex : FnScope N_remove_vertex ["keeper", "number", "index"] (defScope (top 35)) := ⟨rfl, rfl, rfl, by decide +kernel, rfl, by decide +kernel, by decide +kernel⟩
abbrev N_edited : List Str := ["keeper", "operation", "numbers"]
theorem sc_edited : FnScope N_edited ["keeper", "operation", "numbers"] (defScope (top 36)) := ⟨rfl, rfl, rfl, by decide +kernel, rfl, by decide +kernel, by decide +kernel⟩
abbrev N_commit_named : List Str := ["rows", "name", "other", "commit"]
theorem sc_commit_named : FnScope N_commit_named ["rows", "name"] (defScope (top 39)) := ⟨rfl, rfl, rfl, by decide +kernel, rfl, by decide +kernel, by decide +kernel⟩
abbrev N_with_name : List Str := ["rows", "name", "commit", "ahead", "behind", "row"]
theorem sc_with_name : FnScope N_with_name ["rows", "name", "commit"] (defScope (top 40)) := ⟨rfl, rfl, rfl, by decide +kernel, rfl, by decide +kernel, by decide +kernel⟩
abbrev N_without_name : List Str := ["rows", "name", "row"]
theorem sc_without_name : FnScope N_without_name ["rows", "name"] (defScope (top 41)) := ⟨rfl, rfl, rfl, by decide +kernel, rfl, by decide +kernel, by decide +kernel⟩
abbrev N_K___init__ : List Str := ["self", "width"]
theorem sc_K___init__ : FnScope N_K___init__ ["self", "width"] (defScope (inClass (top 42) 0)) := ⟨rfl, rfl, rfl, by decide +kernel, rfl, by decide +kernel, by decide +kernel⟩
abbrev N_K_head : List Str := ["self"]
theorem sc_K_head : FnScope N_K_head ["self"] (defScope (inClass (top 42) 1)) := ⟨rfl, rfl, rfl, by decide +kernel, rfl, by decide +kernel, by decide +kernel⟩
abbrev N_K_head_version : List Str := ["self"]
theorem sc_K_head_version : FnScope N_K_head_version ["self"] (defScope (inClass (top 42) 2)) := ⟨rfl, rfl, rfl, by decide +kernel, rfl, by decide +kernel, by decide +kernel⟩
abbrev N_K_is_changed : List Str := ["self"]
theorem sc_K_is_changed : FnScope N_K_is_changed ["self"] (defScope (inClass (top 42) 3)) := ⟨rfl, rfl, rfl, by decide +kernel, rfl, by decide +kernel, by decide +kernel⟩
abbrev N_K_has_commit : List Str := ["self", "number"]
theorem sc_K_has_commit : FnScope N_K_has_commit ["self", "number"] (defScope (inClass (top 42) 4)) := ⟨rfl, rfl, rfl, by decide +kernel, rfl, by decide +kernel, by decide +kernel⟩
abbrev N_K_version_at : List Str := ["self", "number"]
theorem sc_K_version_at : FnScope N_K_version_at ["self", "number"] (defScope (inClass (top 42) 5)) := ⟨rfl, rfl, rfl, by decide +kernel, rfl, by decide +kernel, by decide +kernel⟩
abbrev N_K_set_working : List Str := ["self", "version"]
theorem sc_K_set_working : FnScope N_K_set_working ["self", "version"] (defScope (inClass (top 42) 6)) := ⟨rfl, rfl, rfl, by decide +kernel, rfl, by decide +kernel, by decide +kernel⟩
abbrev N_K_point : List Str := ["self", "number"]
theorem sc_K_point : FnScope N_K_point ["self", "number"] (defScope (inClass (top 42) 7)) := ⟨rfl, rfl, rfl, by decide +kernel, rfl, by decide +kernel, by decide +kernel⟩
abbrev N_K_add_commit : List Str := ["self", "parents", "version"]
theorem sc_K_add_commit : FnScope N_K_add_commit ["self", "parents", "version"] (defScope (inClass (top 42) 8)) := ⟨rfl, rfl, rfl, by decide +kernel, rfl, by decide +kernel, by decide +kernel⟩
abbrev N_K_add_branch : List Str := ["self", "name"]
theorem sc_K_add_branch : FnScope N_K_add_branch ["self", "name"] (defScope (inClass (top 42) 9)) := ⟨rfl, rfl, rfl, by decide +kernel, rfl, by decide +kernel, by decide +kernel⟩
abbrev N_K_drop_branch : List Str := ["self", "name"]
theorem sc_K_drop_branch : FnScope N_K_drop_branch ["self", "name"] (defScope (inClass (top 42) 10)) := ⟨rfl, rfl, rfl, by decide +kernel, rfl, by decide +kernel, by decide +kernel⟩
abbrev N_K_switch : List Str := ["self", "name"]
theorem sc_K_switch : FnScope N_K_switch ["self", "name"] (defScope (inClass (top 42) 11)) := ⟨rfl, rfl, rfl, by decide +kernel, rfl, by decide +kernel, by decide +kernel⟩
abbrev N_K_put_tag : List Str := ["self", "name", "number"]
theorem sc_K_put_tag : FnScope N_K_put_tag ["self", "name", "number"] (defScope (inClass (top 42) 12)) := ⟨rfl, rfl, rfl, by decide +kernel, rfl, by decide +kernel, by decide +kernel⟩
abbrev N_K_drop_tag : List Str := ["self", "name"]
theorem sc_K_drop_tag : FnScope N_K_drop_tag ["self", "name"] (defScope (inClass (top 42) 13)) := ⟨rfl, rfl, rfl, by decide +kernel, rfl, by decide +kernel, by decide +kernel⟩
abbrev N_K_keep_commits : List Str := ["self", "kept", "commit", "at"]
theorem sc_K_keep_commits : FnScope N_K_keep_commits ["self", "kept"] (defScope (inClass (top 42) 14)) := ⟨rfl, rfl, rfl, by decide +kernel, rfl, by decide +kernel, by decide +kernel⟩
abbrev N_ancestors_of : List Str := ["commits", "number", "found", "reached", "here", "parent"]
theorem sc_ancestors_of : FnScope N_ancestors_of ["commits", "number"] (defScope (top 48)) := ⟨rfl, rfl, rfl, by decide +kernel, rfl, by decide +kernel, by decide +kernel⟩
abbrev N_common_ancestor_of : List Str := ["commits", "first", "second", "others", "number"]
theorem sc_common_ancestor_of : FnScope N_common_ancestor_of ["commits", "first", "second"] (defScope (top 49)) := ⟨rfl, rfl, rfl, by decide +kernel, rfl, by decide +kernel, by decide +kernel⟩
abbrev N_attribute_in : List Str := ["commits", "commit", "number", "index", "feature"]
theorem sc_attribute_in : FnScope N_attribute_in ["commits", "commit", "number", "index"] (defScope (top 50)) := ⟨rfl, rfl, rfl, by decide +kernel, rfl, by decide +kernel, by decide +kernel⟩
abbrev N_vertices_in : List Str := ["commits", "commit", "number", "feature"]
theorem sc_vertices_in : FnScope N_vertices_in ["commits", "commit", "number"] (defScope (top 51)) := ⟨rfl, rfl, rfl, by decide +kernel, rfl, by decide +kernel, by decide +kernel⟩
abbrev N_parent_with_attribute : List Str := ["commits", "commit", "number", "index", "value", "parent"]
theorem sc_parent_with_attribute : FnScope N_parent_with_attribute ["commits", "commit", "number", "index"] (defScope (top 52)) := ⟨rfl, rfl, rfl, by decide +kernel, rfl, by decide +kernel, by decide +kernel⟩
abbrev N_parent_with_vertices : List Str := ["commits", "commit", "number", "vertices", "parent"]
theorem sc_parent_with_vertices : FnScope N_parent_with_vertices ["commits", "commit", "number"] (defScope (top 53)) := ⟨rfl, rfl, rfl, by decide +kernel, rfl, by decide +kernel, by decide +kernel⟩
abbrev N_attribute_origin : List Str := ["commits", "commit", "number", "index", "here", "earlier"]
theorem sc_attribute_origin : FnScope N_attribute_origin ["commits", "commit", "number", "index"] (defScope (top 54)) := ⟨rfl, rfl, rfl, by decide +kernel, rfl, by decide +kernel, by decide +kernel⟩
abbrev N_vertices_origin : List Str := ["commits", "commit", "number", "here", "earlier"]
theorem sc_vertices_origin : FnScope N_vertices_origin ["commits", "commit", "number"] (defScope (top 55)) := ⟨rfl, rfl, rfl, by decide +kernel, rfl, by decide +kernel, by decide +kernel⟩
abbrev N_reached_from : List Str := ["commits", "numbers", "found", "number", "ancestor"]
theorem sc_reached_from : FnScope N_reached_from ["commits", "numbers"] (defScope (top 56)) := ⟨rfl, rfl, rfl, by decide +kernel, rfl, by decide +kernel, by decide +kernel⟩
abbrev N_hash_of_bytes : List Str := ["numbers", "found", "number"]
theorem sc_hash_of_bytes : FnScope N_hash_of_bytes ["numbers"] (defScope (top 57)) := ⟨rfl, rfl, rfl, by decide +kernel, rfl, by decide +kernel, by decide +kernel⟩
abbrev N_bytes_of : List Str := ["number", "many", "found", "rest", "turn"]
theorem sc_bytes_of : FnScope N_bytes_of ["number", "many"] (defScope (top 58)) := ⟨rfl, rfl, rfl, by decide +kernel, rfl, by decide +kernel, by decide +kernel⟩
abbrev N_numbers_in : List Str := ["version", "found", "number", "attributes", "vertices", "x", "y"]
theorem sc_numbers_in : FnScope N_numbers_in ["version"] (defScope (top 59)) := ⟨rfl, rfl, rfl, by decide +kernel, rfl, by decide +kernel, by decide +kernel⟩
abbrev N_version_hash : List Str := ["version", "found", "number"]
theorem sc_version_hash : FnScope N_version_hash ["version"] (defScope (top 60)) := ⟨rfl, rfl, rfl, by decide +kernel, rfl, by decide +kernel, by decide +kernel⟩
abbrev N_hash_behind : List Str := ["commit", "hashes", "parents", "version", "found", "parent"]
theorem sc_hash_behind : FnScope N_hash_behind ["commit", "hashes"] (defScope (top 61)) := ⟨rfl, rfl, rfl, by decide +kernel, rfl, by decide +kernel, by decide +kernel⟩
abbrev N_commit_hash : List Str := ["commits", "number", "hashes", "here"]
theorem sc_commit_hash : FnScope N_commit_hash ["commits", "number"] (defScope (top 62)) := ⟨rfl, rfl, rfl, by decide +kernel, rfl, by decide +kernel, by decide +kernel⟩
abbrev N_is_clear : List Str := ["base", "ours", "theirs"]
theorem sc_is_clear : FnScope N_is_clear ["base", "ours", "theirs"] (defScope (top 69)) := ⟨rfl, rfl, rfl, by decide +kernel, rfl, by decide +kernel, by decide +kernel⟩
abbrev N_clear_value : List Str := ["base", "ours", "theirs"]
theorem sc_clear_value : FnScope N_clear_value ["base", "ours", "theirs"] (defScope (top 70)) := ⟨rfl, rfl, rfl, by decide +kernel, rfl, by decide +kernel, by decide +kernel⟩
abbrev N_of_side : List Str := ["side", "ours", "theirs"]
theorem sc_of_side : FnScope N_of_side ["side", "ours", "theirs"] (defScope (top 71)) := ⟨rfl, rfl, rfl, by decide +kernel, rfl, by decide +kernel, by decide +kernel⟩
abbrev N_merged_one_by_one : List Str := ["bases", "ours", "theirs", "side", "kind", "found", "conflicts", "index", "base", "our", "their"]
theorem sc_merged_one_by_one : FnScope N_merged_one_by_one ["bases", "ours", "theirs", "side", "kind"] (defScope (top 72)) := ⟨rfl, rfl, rfl, by decide +kernel, rfl, by decide +kernel, by decide +kernel⟩
abbrev N_merged_vertices : List Str := ["base", "ours", "theirs", "side"]
theorem sc_merged_vertices : FnScope N_merged_vertices ["base", "ours", "theirs", "side"] (defScope (top 73)) := ⟨rfl, rfl, rfl, by decide +kernel, rfl, by decide +kernel, by decide +kernel⟩
abbrev N_merged_feature : List Str := ["base", "ours", "theirs", "side", "attributes", "first", "vertices", "last"]
theorem sc_merged_feature : FnScope N_merged_feature ["base", "ours", "theirs", "side"] (defScope (top 74)) := ⟨rfl, rfl, rfl, by decide +kernel, rfl, by decide +kernel, by decide +kernel⟩
abbrev N_merged_version : List Str := ["base", "ours", "theirs", "side", "features", "conflicts", "number", "rows", "feature", "found", "kind", "index"]
theorem sc_merged_version : FnScope N_merged_version ["base", "ours", "theirs", "side"] (defScope (top 75)) := ⟨rfl, rfl, rfl, by decide +kernel, rfl, by decide +kernel, by decide +kernel⟩
abbrev N_commit : List Str := ["keeper"]
theorem sc_commit : FnScope N_commit ["keeper"] (defScope (top 86)) := ⟨rfl, rfl, rfl, by decide +kernel, rfl, by decide +kernel, by decide +kernel⟩
abbrev N_discard : List Str := ["keeper", "many"]
theorem sc_discard : FnScope N_discard ["keeper"] (defScope (top 87)) := ⟨rfl, rfl, rfl, by decide +kernel, rfl, by decide +kernel, by decide +kernel⟩
abbrev N_create_branch : List Str := ["keeper", "name"]
theorem sc_create_branch : FnScope N_create_branch ["keeper", "name"] (defScope (top 88)) := ⟨rfl, rfl, rfl, by decide +kernel, rfl, by decide +kernel, by decide +kernel⟩
abbrev N_switch_branch : List Str := ["keeper", "name"]
theorem sc_switch_branch : FnScope N_switch_branch ["keeper", "name"] (defScope (top 89)) := ⟨rfl, rfl, rfl, by decide +kernel, rfl, by decide +kernel, by decide +kernel⟩
abbrev N_delete_branch : List Str := ["keeper", "name"]
theorem sc_delete_branch : FnScope N_delete_branch ["keeper", "name"] (defScope (top 90)) := ⟨rfl, rfl, rfl, by decide +kernel, rfl, by decide +kernel, by decide +kernel⟩
abbrev N_reset_branch : List Str := ["keeper", "number", "previous"]
theorem sc_reset_branch : FnScope N_reset_branch ["keeper", "number"] (defScope (top 91)) := ⟨rfl, rfl, rfl, by decide +kernel, rfl, by decide +kernel, by decide +kernel⟩
abbrev N_set_tag : List Str := ["keeper", "name", "number", "is_there"]
theorem sc_set_tag : FnScope N_set_tag ["keeper", "name", "number"] (defScope (top 92)) := ⟨rfl, rfl, rfl, by decide +kernel, rfl, by decide +kernel, by decide +kernel⟩
abbrev N_delete_tag : List Str := ["keeper", "name", "number"]
theorem sc_delete_tag : FnScope N_delete_tag ["keeper", "name"] (defScope (top 93)) := ⟨rfl, rfl, rfl, by decide +kernel, rfl, by decide +kernel, by decide +kernel⟩
abbrev N_collect_garbage : List Str := ["keeper", "kept", "gone", "row", "at"]
theorem sc_collect_garbage : FnScope N_collect_garbage ["keeper"] (defScope (top 94)) := ⟨rfl, rfl, rfl, by decide +kernel, rfl, by decide +kernel, by decide +kernel⟩
abbrev N_named : List Str := ["keeper", "operation", "numbers"]
theorem sc_named : FnScope N_named ["keeper", "operation", "numbers"] (defScope (top 95)) := ⟨rfl, rfl, rfl, by decide +kernel, rfl, by decide +kernel, by decide +kernel⟩
abbrev N_refused_by : List Str := ["conflicts", "found", "number", "kind", "index"]
theorem sc_refused_by : FnScope N_refused_by ["conflicts"] (defScope (top 96)) := ⟨rfl, rfl, rfl, by decide +kernel, rfl, by decide +kernel, by decide +kernel⟩
abbrev N_is_too_much : List Str := ["keeper", "version"]
theorem sc_is_too_much : FnScope N_is_too_much ["keeper", "version"] (defScope (top 97)) := ⟨rfl, rfl, rfl, by decide +kernel, rfl, by decide +kernel, by decide +kernel⟩
abbrev N_merged_commits : List Str := ["keeper", "head", "other", "side", "commits", "base", "decided", "version", "conflicts"]
theorem sc_merged_commits : FnScope N_merged_commits ["keeper", "head", "other", "side"] (defScope (top 98)) := ⟨rfl, rfl, rfl, by decide +kernel, rfl, by decide +kernel, by decide +kernel⟩
abbrev N_merge_by : List Str := ["keeper", "name", "side", "other", "head"]
theorem sc_merge_by : FnScope N_merge_by ["keeper", "name", "side"] (defScope (top 99)) := ⟨rfl, rfl, rfl, by decide +kernel, rfl, by decide +kernel, by decide +kernel⟩
abbrev N_merge_with : List Str := ["keeper", "name", "side"]
theorem sc_merge_with : FnScope N_merge_with ["keeper", "name", "side"] (defScope (top 100)) := ⟨rfl, rfl, rfl, by decide +kernel, rfl, by decide +kernel, by decide +kernel⟩
abbrev N_applied : List Str := ["keeper", "base", "theirs", "ours", "version", "conflicts"]
theorem sc_applied : FnScope N_applied ["keeper", "base", "theirs"] (defScope (top 101)) := ⟨rfl, rfl, rfl, by decide +kernel, rfl, by decide +kernel, by decide +kernel⟩
abbrev N_apply_commit : List Str := ["keeper", "number", "is_backward", "parents", "version", "before"]
theorem sc_apply_commit : FnScope N_apply_commit ["keeper", "number", "is_backward"] (defScope (top 102)) := ⟨rfl, rfl, rfl, by decide +kernel, rfl, by decide +kernel, by decide +kernel⟩
abbrev N_joined : List Str := ["keeper", "operation", "numbers"]
theorem sc_joined : FnScope N_joined ["keeper", "operation", "numbers"] (defScope (top 103)) := ⟨rfl, rfl, rfl, by decide +kernel, rfl, by decide +kernel, by decide +kernel⟩
abbrev N_squared : List Str := ["one", "other"]
theorem sc_squared : FnScope N_squared ["one", "other"] (defScope (top 108)) := ⟨rfl, rfl, rfl, by decide +kernel, rfl, by decide +kernel, by decide +kernel⟩
abbrev N_is_moved : List Str := ["one", "other", "right", "down", "late", "early"]
theorem sc_is_moved : FnScope N_is_moved ["one", "other"] (defScope (top 109)) := ⟨rfl, rfl, rfl, by decide +kernel, rfl, by decide +kernel, by decide +kernel⟩
abbrev N_farthest : List Str := ["one", "other", "vertex", "near"]
theorem sc_farthest : FnScope N_farthest ["one", "other"] (defScope (top 110)) := ⟨rfl, rfl, rfl, by decide +kernel, rfl, by decide +kernel, by decide +kernel⟩
abbrev N_pair_of : List Str := ["first", "second", "one", "other"]
theorem sc_pair_of : FnScope N_pair_of ["first", "second"] (defScope (top 111)) := ⟨rfl, rfl, rfl, by decide +kernel, rfl, by decide +kernel, by decide +kernel⟩
abbrev N_possible_pairs : List Str := ["first", "second", "tolerance", "found", "feature", "pairs", "other", "pair"]
theorem sc_possible_pairs : FnScope N_possible_pairs ["first", "second", "tolerance"] (defScope (top 112)) := ⟨rfl, rfl, rfl, by decide +kernel, rfl, by decide +kernel, by decide +kernel⟩
abbrev N_taken_pairs : List Str := ["pairs", "found", "firsts", "seconds", "pair"]
theorem sc_taken_pairs : FnScope N_taken_pairs ["pairs"] (defScope (top 113)) := ⟨rfl, rfl, rfl, by decide +kernel, rfl, by decide +kernel, by decide +kernel⟩
abbrev N_numbers_without : List Str := ["version", "numbers", "feature"]
theorem sc_numbers_without : FnScope N_numbers_without ["version", "numbers"] (defScope (top 114)) := ⟨rfl, rfl, rfl, by decide +kernel, rfl, by decide +kernel, by decide +kernel⟩
abbrev N_matched : List Str := ["first", "second", "tolerance", "pairs", "gone", "pair"]
theorem sc_matched : FnScope N_matched ["first", "second", "tolerance"] (defScope (top 115)) := ⟨rfl, rfl, rfl, by decide +kernel, rfl, by decide +kernel, by decide +kernel⟩
abbrev N_get_feature : List Str := ["keeper", "number", "feature_number", "version", "feature", "found", "x", "y"]
theorem sc_get_feature : FnScope N_get_feature ["keeper", "number", "feature_number"] (defScope (top 118)) := ⟨rfl, rfl, rfl, by decide +kernel, rfl, by decide +kernel, by decide +kernel⟩
abbrev N_list_features : List Str := ["keeper", "number", "version", "feature"]
theorem sc_list_features : FnScope N_list_features ["keeper", "number"] (defScope (top 119)) := ⟨rfl, rfl, rfl, by decide +kernel, rfl, by decide +kernel, by decide +kernel⟩
abbrev N_told_changes : List Str := ["first", "second", "changes", "found", "number", "kind", "parts"]
theorem sc_told_changes : FnScope N_told_changes ["first", "second"] (defScope (top 120)) := ⟨rfl, rfl, rfl, by decide +kernel, rfl, by decide +kernel, by decide +kernel⟩
abbrev N_diff : List Str := ["keeper", "first", "second", "one", "other"]
theorem sc_diff : FnScope N_diff ["keeper", "first", "second"] (defScope (top 121)) := ⟨rfl, rfl, rfl, by decide +kernel, rfl, by decide +kernel, by decide +kernel⟩
abbrev N_log : List Str := ["keeper", "number", "found"]
theorem sc_log : FnScope N_log ["keeper", "number"] (defScope (top 122)) := ⟨rfl, rfl, rfl, by decide +kernel, rfl, by decide +kernel, by decide +kernel⟩
abbrev N_common_ancestor : List Str := ["keeper", "first", "second"]
theorem sc_common_ancestor : FnScope N_common_ancestor ["keeper", "first", "second"] (defScope (top 123)) := ⟨rfl, rfl, rfl, by decide +kernel, rfl, by decide +kernel, by decide +kernel⟩
abbrev N_origin_of_attribute : List Str := ["keeper", "number", "index", "feature"]
theorem sc_origin_of_attribute : FnScope N_origin_of_attribute ["keeper", "number", "index"] (defScope (top 124)) := ⟨rfl, rfl, rfl, by decide +kernel, rfl, by decide +kernel, by decide +kernel⟩
abbrev N_origin_of_vertices : List Str := ["keeper", "number"]
theorem sc_origin_of_vertices : FnScope N_origin_of_vertices ["keeper", "number"] (defScope (top 125)) := ⟨rfl, rfl, rfl, by decide +kernel, rfl, by decide +kernel, by decide +kernel⟩
abbrev N_told_hash : List Str := ["keeper", "number", "found"]
theorem sc_told_hash : FnScope N_told_hash ["keeper", "number"] (defScope (top 126)) := ⟨rfl, rfl, rfl, by decide +kernel, rfl, by decide +kernel, by decide +kernel⟩
abbrev N_match_features : List Str := ["keeper", "first", "second", "tolerance", "one", "other", "pairs", "gone", "fresh", "found", "way", "distance", "number", "later"]
theorem sc_match_features : FnScope N_match_features ["keeper", "first", "second", "tolerance"] (defScope (top 127)) := ⟨rfl, rfl, rfl, by decide +kernel, rfl, by decide +kernel, by decide +kernel⟩
abbrev N_told_names : List Str := ["rows", "found", "name", "number"]
theorem sc_told_names : FnScope N_told_names ["rows"] (defScope (top 128)) := ⟨rfl, rfl, rfl, by decide +kernel, rfl, by decide +kernel, by decide +kernel⟩
abbrev N_get_state : List Str := ["keeper", "found"]
theorem sc_get_state : FnScope N_get_state ["keeper"] (defScope (top 129)) := ⟨rfl, rfl, rfl, by decide +kernel, rfl, by decide +kernel, by decide +kernel⟩
abbrev N_looked : List Str := ["keeper", "operation", "numbers"]
theorem sc_looked : FnScope N_looked ["keeper", "operation", "numbers"] (defScope (top 130)) := ⟨rfl, rfl, rfl, by decide +kernel, rfl, by decide +kernel, by decide +kernel⟩
abbrev N_put_at_place : List Str := ["calls", "at", "first", "middle", "last"]
theorem sc_put_at_place : FnScope N_put_at_place ["calls", "at"] (defScope (top 137)) := ⟨rfl, rfl, rfl, by decide +kernel, rfl, by decide +kernel, by decide +kernel⟩
abbrev N_call_at : List Str := ["calls", "at", "operation", "behind"]
theorem sc_call_at : FnScope N_call_at ["calls", "at"] (defScope (top 138)) := ⟨rfl, rfl, rfl, by decide +kernel, rfl, by decide +kernel, by decide +kernel⟩
abbrev N_answer_of : List Str := ["keeper", "call", "operation", "numbers", "attributes", "vertices"]
theorem sc_answer_of : FnScope N_answer_of ["keeper", "call"] (defScope (top 139)) := ⟨rfl, rfl, rfl, by decide +kernel, rfl, by decide +kernel, by decide +kernel⟩
abbrev N_answered : List Str := ["keeper", "call"]
theorem sc_answered : FnScope N_answered ["keeper", "call"] (defScope (top 140)) := ⟨rfl, rfl, rfl, by decide +kernel, rfl, by decide +kernel, by decide +kernel⟩
abbrev N_answers : List Str := ["calls", "found", "keeper", "at", "call", "answer"]
theorem sc_answers : FnScope N_answers ["calls"] (defScope (top 141)) := ⟨rfl, rfl, rfl, by decide +kernel, rfl, by decide +kernel, by decide +kernel⟩
/-! how a def's promise is stated by its place: i among the defs, g among the names, j in the text -/
theorem Tx.pure (T : Tx K mg) (i g j : Nat) {x : Str} {k : Nat} {N ps : List Str} {R : List PyData → PyData → Prop} (S : FnScope N ps (defScope (top j)))
    (hbind : ∀ (kV doc pm : Value) (an : Option Addr) (cdv ct : Value) (us : List Value), us.length = ps.length → bindArgs (PySem.W.fnOf x x (defArgs (top j)) (defBody (top j)) (defScope (top j)) .none kV doc pm an cdv ct) ⟨us, []⟩ = Sem.pure (ps.zip us))
    (hb : ∀ (cdv : Value) (A : Around) (outer : List Env) (s : Shared) (H : Hp) (E : XK), Room k (A.deeper (envOfC x (defScope (top j)) s.heap.objs.size (He.ga K x) cdv)) → ∀ ds d, ds.length = ps.length → R ds d →
      DSs (cxN P w K mg base N x (defScope (top j)) (He.ga K x) cdv A outer s H E) ⟨H, 0, none⟩ (enP d) none (slots N.length (ds.map .v)) (defBody (top j)))
    (hd : fnL[i]? = some (dF x j) := by rfl) (hg : faL[g]? = some (He.Fa.glo x) := by rfl) : Cal P w K mg base x (k + 1) ps (spP K ps.length R) := by
  obtain ⟨fd, Fd⟩ := T.c.d.def_ i hd
  exact ⟨_, fd, fn_pure Fd S hb, T.glo g hg, Fd.kp, FunD.bindsN Fd hbind⟩
theorem Tx.keep (T : Tx K mg) (i g j : Nat) {x : Str} {k n : Nat} {N ps : List Str} {R : Ob → List PyData → PyData → Ob → Prop} (S : FnScope N ps (defScope (top j)))
    (hbind : ∀ (kV doc pm : Value) (an : Option Addr) (cdv ct : Value) (us : List Value), us.length = ps.length → bindArgs (PySem.W.fnOf x x (defArgs (top j)) (defBody (top j)) (defScope (top j)) .none kV doc pm an cdv ct) ⟨us, []⟩ = Sem.pure (ps.zip us))
    (hn : ps.length = n + 1)
    (hb : ∀ (cdv : Value) (A : Around) (outer : List Env) (s : Shared) (H : Hp) (E : XK) (ka : Addr), Room k (A.deeper (envOfC x (defScope (top j)) s.heap.objs.size (He.ga K x) cdv)) → ∀ fs ds d fs', ds.length = n → R fs ds d fs' →
      DSs (cxN P w K mg base N x (defScope (top j)) (He.ga K x) cdv A outer s H E) ⟨H, He.ga K "Keeper", some ka⟩ (enK d fs') (some fs) (slots N.length (.obj :: ds.map .v)) (defBody (top j)))
    (hd : fnL[i]? = some (dF x j) := by rfl) (hg : faL[g]? = some (He.Fa.glo x) := by rfl) : Cal P w K mg base x (k + 1) ps (spK K (He.ga K "Keeper") n R) := by
  obtain ⟨fd, Fd⟩ := T.c.d.def_ i hd
  exact ⟨_, fd, fn_keep Fd S hn hb, T.glo g hg, Fd.kp, FunD.bindsN Fd hbind⟩
theorem Tx.meth (T : Tx K mg) (i j : Nat) {x q : Str} {k n : Nat} {N ps : List Str} {R : Ob → List PyData → PyData → Ob → Prop} (M : Meth K (He.ga K "Keeper") x (He.ma K (He.ga K "Keeper") x)) (S : FnScope N ps (defScope (inClass (top 42) j)))
    (hbind : ∀ (kV doc pm : Value) (an : Option Addr) (cdv ct : Value) (us : List Value), us.length = ps.length → bindArgs (PySem.W.fnOf x q (defArgs (inClass (top 42) j)) (defBody (inClass (top 42) j)) (defScope (inClass (top 42) j)) .none kV doc pm an cdv ct) ⟨us, []⟩ = Sem.pure (ps.zip us))
    (hn : ps.length = n + 1)
    (hb : ∀ (cdv : Value) (A : Around) (outer : List Env) (s : Shared) (H : Hp) (E : XK) (ka : Addr), Room k (A.deeper (envOfC q (defScope (inClass (top 42) j)) s.heap.objs.size (He.ma K (He.ga K "Keeper") x) cdv)) → ∀ fs ds d fs', ds.length = n → R fs ds d fs' →
      DSs (cxN P w K mg base N q (defScope (inClass (top 42) j)) (He.ma K (He.ga K "Keeper") x) cdv A outer s H E) ⟨H, He.ga K "Keeper", some ka⟩ (enK d fs') (some fs) (slots N.length (.obj :: ds.map .v)) (defBody (inClass (top 42) j)))
    (hd : fnL[i]? = some (dM x q j) := by rfl) : CalM P w K mg base (He.ga K "Keeper") x (k + 1) ps (spK K (He.ga K "Keeper") n R) := by
  obtain ⟨fd, Fd⟩ := T.c.d.def_ i hd
  exact ⟨_, fd, fn_keep Fd S hn hb, M, FunD.bindsN Fd hbind⟩
end

/-! short words -/
section
variable {X : Cx} {F : Fr} {m : Option Ob} {δ : List Sl}
theorem dv (i : Nat) {x : Str} {pos : Pos} {d : PyData} (hN : X.N[i]? = some x := by rfl) (hv : Vis X.env.scope x := by first | exact Or.inl rfl | exact Or.inr (Or.inl rfl) | exact Or.inr (Or.inr rfl)) (hd : δ[i]? = some (.v d) := by rfl)
    (h1 : (x == ("__debug__" : Str)) = false := by decide) (h2 : (x == ("__classdict__" : Str)) = false := by decide) : DE X F m δ (.Name x pos) d m := de_var hN hv hd h1 h2
theorem dkv (i : Nat) {x : Str} {pos : Pos} (hN : X.N[i]? = some x := by rfl) (hv : Vis X.env.scope x := by first | exact Or.inl rfl | exact Or.inr (Or.inl rfl) | exact Or.inr (Or.inr rfl)) (hd : δ[i]? = some .obj := by rfl)
    (h1 : (x == ("__debug__" : Str)) = false := by decide) (h2 : (x == ("__classdict__" : Str)) = false := by decide) : DK X F m δ (.Name x pos) := dk_var hN hv hd h1 h2
end
theorem loc_of {X : Cx} {x : Str} (h : Loc X.env.scope x) : Loc X.env.scope x := h
theorem line_le {n : Nat} (h : n ≤ 100000) : n ≤ sizeLine := by rw [sizeLine_eq]; omega
theorem line_lt {n : Nat} (h : n < 100000) : n < sizeLine := by rw [sizeLine_eq]; omega

/-! data that == tells apart as Lean does -/
structure EqE {α : Type} [DecidableEq α] (e : α → PyData) (n : Nat) : Prop where
  lay : ∀ a, (e a).canLay0 = true
  dep : ∀ a, (e a).depth ≤ n
  eq : ∀ a b, PyData.eqv (e a) (e b) = decide (a = b)
  nd : ∀ a, nd (e a) = true
theorem EqE.shaped {α : Type} [DecidableEq α] {e : α → PyData} {n : Nat} (h : EqE e n) (hn : n ≤ 64) (a : α) : SeqAt.shaped (e a) = true := by
  unfold SeqAt.shaped
  rw [h.lay a, Bool.true_and]
  exact decide_eq_true (Nat.le_trans (h.dep a) hn)
theorem eqe_int : EqE PyData.int 0 := ⟨fun _ => by simp [PyData.canLay0], fun _ => by simp [PyData.depth], fun a b => by
  show PyData.eqv (.int a) (.int b) = _
  unfold PyData.eqv
  by_cases h : a = b <;> simp [h], fun _ => rfl⟩
theorem eqe_nat : EqE (fun n : Nat => PyData.int n) 0 := ⟨fun _ => by simp [PyData.canLay0], fun _ => by simp [PyData.depth], fun a b => by
  show PyData.eqv (.int a) (.int b) = _
  unfold PyData.eqv
  by_cases h : a = b
  · simp [h]
  · have h2 : ¬ ((a : Int) = b) := by omega
    simp [h, h2], fun _ => rfl⟩
theorem eqv_all {α : Type} [DecidableEq α] {e : α → PyData} {n : Nat} (h : EqE e n) : ∀ a b : List α, PyData.eqvAll (a.map e) (b.map e) = decide (a = b)
  | [], [] => by simp [PyData.eqvAll]
  | [], _ :: _ => by simp [PyData.eqvAll]
  | _ :: _, [] => by simp [PyData.eqvAll]
  | x :: a, y :: b => by
    rw [List.map_cons, List.map_cons]
    unfold PyData.eqvAll
    rw [h.eq, eqv_all h a b]
    by_cases c1 : x = y <;> by_cases c2 : a = b <;> simp [c1, c2]
theorem lay_all {α : Type} [DecidableEq α] {e : α → PyData} {n : Nat} (h : EqE e n) : ∀ a : List α, PyData.canLayAll0 (a.map e) = true
  | [] => by simp [PyData.canLayAll0]
  | x :: a => by
    rw [List.map_cons]
    unfold PyData.canLayAll0
    rw [h.lay, lay_all h a] <;> rfl
theorem dep_all {α : Type} [DecidableEq α] {e : α → PyData} {n : Nat} (h : EqE e n) : ∀ a : List α, PyData.depthAll (a.map e) ≤ n
  | [] => by simp [PyData.depthAll]
  | x :: a => by
    rw [List.map_cons]
    unfold PyData.depthAll
    have h1 := h.dep x
    have h2 := dep_all h a
    omega
theorem eqe_tuple {α : Type} [DecidableEq α] {e : α → PyData} {n : Nat} (h : EqE e n) : EqE (fun l : List α => .tuple (l.map e)) (n + 1) := ⟨fun a => by
  show PyData.canLay0 (.tuple (a.map e)) = true
  unfold PyData.canLay0
  exact lay_all h a, fun a => by
  show PyData.depth (.tuple (a.map e)) ≤ n + 1
  unfold PyData.depth
  have := dep_all h a
  omega, fun a b => by
  show PyData.eqv (.tuple (a.map e)) (.tuple (b.map e)) = _
  unfold PyData.eqv
  exact eqv_all h a b, fun _ => rfl⟩
theorem eqe_list {α : Type} [DecidableEq α] {e : α → PyData} {n : Nat} (h : EqE e n) : EqE (fun l : List α => .list (l.map e)) (n + 1) := ⟨fun a => by
  show PyData.canLay0 (.list (a.map e)) = true
  unfold PyData.canLay0
  exact lay_all h a, fun a => by
  show PyData.depth (.list (a.map e)) ≤ n + 1
  unfold PyData.depth
  have := dep_all h a
  omega, fun a b => by
  show PyData.eqv (.list (a.map e)) (.list (b.map e)) = _
  unfold PyData.eqv
  exact eqv_all h a b, fun _ => rfl⟩
/-- there or not -/
def eOp {α : Type} (e : α → PyData) : Option α → PyData
  | none => .none
  | some a => e a
theorem eqe_opt {α : Type} [DecidableEq α] {e : α → PyData} {n : Nat} (h : EqE e n) (h1 : ∀ a, PyData.eqv .none (e a) = false) (h2 : ∀ a, PyData.eqv (e a) .none = false) : EqE (eOp e) n := by
  refine ⟨fun a => ?_, fun a => ?_, fun a b => ?_, fun a => ?_⟩
  · cases a with
    | none => simp [eOp, PyData.canLay0]
    | some a => exact h.lay a
  · cases a with
    | none => simp [eOp, PyData.depth]
    | some a => exact h.dep a
  · cases a with
    | none =>
      cases b with
      | none => simp [eOp, PyData.eqv]
      | some b =>
        show PyData.eqv .none (e b) = _
        rw [h1]
        simp
    | some a =>
      cases b with
      | none =>
        show PyData.eqv (e a) .none = _
        rw [h2]
        simp
      | some b =>
        show PyData.eqv (e a) (e b) = _
        rw [h.eq]
        simp
  · cases a with
    | none => rfl
    | some a => exact h.nd a

/-! the specification's things as data -/
def eN (n : Nat) : PyData := .int n
def eVx (p : Vertex) : PyData := .tuple [.int p.1, .int p.2]
def eAt (l : List Int) : PyData := .tuple (l.map .int)
def eVs (l : List Vertex) : PyData := .tuple (l.map eVx)
def eFeat (f : Feature) : PyData := .tuple [.int f.id, eAt f.attributes, eVs f.vertices]
def eVer (v : Version) : PyData := .tuple (v.map eFeat)
def ePr (p : Nat × Nat) : PyData := .tuple [.int p.1, .int p.2]
def eCm (c : Commit) : PyData := .tuple [.tuple (c.parents.map eN), eVer c.version]
theorem eqe_N : EqE eN 0 := eqe_nat
theorem eqe_Vx : EqE eVx 1 := ⟨fun a => by simp [eVx, PyData.canLay0, PyData.canLayAll0], fun a => by simp [eVx, PyData.depth, PyData.depthAll], fun a b => by
  unfold eVx PyData.eqv
  simp only [PyData.eqvAll, PyData.eqv]
  obtain ⟨a1, a2⟩ := a
  obtain ⟨b1, b2⟩ := b
  by_cases h1 : a1 = b1 <;> by_cases h2 : a2 = b2 <;> simp [h1, h2], fun _ => rfl⟩
theorem eqe_At : EqE eAt 1 := eqe_tuple eqe_int
theorem eqe_Vs : EqE eVs 2 := eqe_tuple eqe_Vx
theorem eqe_Feat : EqE eFeat 3 := ⟨fun a => by
  have h1 := eqe_At.lay a.attributes
  have h2 := eqe_Vs.lay a.vertices
  simp [eFeat, PyData.canLay0, PyData.canLayAll0, h1, h2], fun a => by
  have h1 := eqe_At.dep a.attributes
  have h2 := eqe_Vs.dep a.vertices
  simp only [eFeat, PyData.depth, PyData.depthAll]
  omega, fun a b => by
  have h1 := eqe_At.eq a.attributes b.attributes
  have h2 := eqe_Vs.eq a.vertices b.vertices
  have h0 := eqe_nat.eq a.id b.id
  have h0 : PyData.eqv (.int a.id) (.int b.id) = decide (a.id = b.id) := h0
  unfold eFeat
  rw [PyData.eqv]
  simp only [PyData.eqvAll, h0, h1, h2]
  obtain ⟨a0, a1, a2⟩ := a
  obtain ⟨b0, b1, b2⟩ := b
  by_cases c0 : a0 = b0 <;> by_cases c1 : a1 = b1 <;> by_cases c2 : a2 = b2 <;> simp [c0, c1, c2], fun _ => rfl⟩
theorem eqe_Ver : EqE eVer 4 := eqe_tuple eqe_Feat
abbrev eOF : Option Feature → PyData := eOp eFeat
theorem eqe_OF : EqE eOF 3 := eqe_opt eqe_Feat (fun a => by unfold eFeat PyData.eqv; rfl) (fun a => by unfold eFeat PyData.eqv; rfl)
theorem eqe_ON : EqE (eOp PyData.int) 0 := eqe_opt eqe_int (fun a => by unfold PyData.eqv; rfl) (fun a => by unfold PyData.eqv; rfl)
theorem eqe_OVs : EqE (eOp eVs) 2 := eqe_opt eqe_Vs (fun a => by unfold eVs PyData.eqv; rfl) (fun a => by unfold eVs PyData.eqv; rfl)
section
variable {X : Cx} {F : Fr} {m : Option Ob} {δ : List Sl} {a b : Expr} {α : Type} [DecidableEq α] {e : α → PyData} {n : Nat} {x y : α}
theorem dc_eqE (he : EqE e n) (hu : X.A.units + 64 < cLine) (ha : DE X F m δ a (e x) m) (hb : DE X F m δ b (e y) m) (hn : n ≤ 64 := by decide) : DC X F m δ .Eq a b (decide (x = y)) :=
  dc_eqD hu ha hb (he.nd x) (he.nd y) (he.shaped hn x) (he.shaped hn y) (he.eq x y)
theorem dc_neE (he : EqE e n) (hu : X.A.units + 64 < cLine) (ha : DE X F m δ a (e x) m) (hb : DE X F m δ b (e y) m) (hn : n ≤ 64 := by decide) : DC X F m δ .NotEq a b (!decide (x = y)) :=
  dc_neD hu ha hb (he.nd x) (he.nd y) (he.shaped hn x) (he.shaped hn y) (he.eq x y)
end
section
variable {X : Cx} {F : Fr} {m m1 : Option Ob} {δ : List Sl} {e a : Expr} {d d' : PyData} {ds ds' : List PyData} {pos : Pos}
theorem DE.to (h : DE X F m δ e d m1) (q : d = d') : DE X F m δ e d' m1 := q ▸ h
theorem DO.to (h : DO X F m δ e ds m1) (q : ds = ds') : DO X F m δ e ds' m1 := q ▸ h
theorem DT.to {k k' : Bool} (h : DT X F m δ e k) (q : k = k') : DT X F m δ e k' := q ▸ h
theorem filt_true {α : Type} (l : List α) : l.filter (fun _ => true) = l := List.filter_eq_self.mpr fun _ _ => rfl
/-- [elt for tg in iter] -/
theorem do_map {α : Type} {l : List α} {enc enc' : α → PyData} {tg iter elt : Expr} {scope : Scope} {own : List (Str × Nat)} (hN : X.N.Nodup) (hi : DI X F m δ tg iter (l.map enc) m1) (hz : l.length ≤ sizeLine) (ok : BlkOk X.N X.env.scope scope own)
    (hs : ∀ x ∈ l, ∃ δ' ws, (∀ w ∈ ws, w ∈ own.map (·.2)) ∧ ∀ (s : Shared) (H : Hp) (C : Addr) (cl : List (Str × Addr)) (fp : List Addr), DG (X.blk s H scope (compEnvC scope cl C X.env) fp) F (wipeD δ (own.map (·.2))) tg (enc x) δ' ws ∧ DE (X.blk s H scope (compEnvC scope cl C X.env) fp) F m1 δ' elt (enc' x) m1 ∧ nd (enc' x) = true)
    (hc : X.calm = true := by rfl) (hf : ∀ x, foldedSetIterable iter X.env x = pure x := by intro _; rfl) :
    DO X F m δ (.ListComp elt [⟨tg, iter, [], 0⟩] scope pos) (l.map enc') m1 := by
  have h := do_lc (q := fun _ => true) (enc' := enc') (elt := elt) (pos := pos) hN hi hz ok (fun x hx => by
    obtain ⟨δ', ws, h1, h2⟩ := hs x hx
    exact ⟨δ', ws, h1, fun s H C cl fp => ⟨(h2 s H C cl fp).1, dts_nil, fun _ => (h2 s H C cl fp).2⟩⟩) hc hf
  rw [filt_true] at h
  exact h
/-- [elt for tg in iter if test] -/
theorem do_fil {α : Type} {l : List α} {enc enc' : α → PyData} {q : α → Bool} {tg iter elt c : Expr} {scope : Scope} {own : List (Str × Nat)} (hN : X.N.Nodup) (hi : DI X F m δ tg iter (l.map enc) m1) (hz : l.length ≤ sizeLine) (ok : BlkOk X.N X.env.scope scope own)
    (hs : ∀ x ∈ l, ∃ δ' ws, (∀ w ∈ ws, w ∈ own.map (·.2)) ∧ ∀ (s : Shared) (H : Hp) (C : Addr) (cl : List (Str × Addr)) (fp : List Addr), DG (X.blk s H scope (compEnvC scope cl C X.env) fp) F (wipeD δ (own.map (·.2))) tg (enc x) δ' ws ∧ DT (X.blk s H scope (compEnvC scope cl C X.env) fp) F m1 δ' c (q x) ∧ (q x = true → DE (X.blk s H scope (compEnvC scope cl C X.env) fp) F m1 δ' elt (enc' x) m1 ∧ nd (enc' x) = true))
    (hc : X.calm = true := by rfl) (hf : ∀ x, foldedSetIterable iter X.env x = pure x := by intro _; rfl) :
    DO X F m δ (.ListComp elt [⟨tg, iter, [c], 0⟩] scope pos) ((l.filter q).map enc') m1 :=
  do_lc hN hi hz ok (fun x hx => by
    obtain ⟨δ', ws, h1, h2⟩ := hs x hx
    exact ⟨δ', ws, h1, fun s H C cl fp => ⟨(h2 s H C cl fp).1, dts_one (h2 s H C cl fp).2.1, (h2 s H C cl fp).2.2⟩⟩) hc hf
end
/-! slices as Lean's take and drop -/
theorem cut_take {α : Type} (l : List α) {i : Nat} (h : i ≤ l.length) : cutD l none (some (i : Int)) = l.take i := by
  unfold cutD
  rw [HT.sIx_none, HT.sIx_nat, List.drop_zero, Nat.min_eq_left h, Nat.sub_zero]
theorem cut_drop {α : Type} (l : List α) (i : Nat) : cutD l (some (i : Int)) none = l.drop i := by
  unfold cutD
  rw [HT.sIx_none, HT.sIx_nat]
  by_cases h : i ≤ l.length
  · rw [Nat.min_eq_left h]
    exact List.take_of_length_le (by rw [List.length_drop]; omega)
  · rw [Nat.min_eq_right (by omega), List.drop_length, List.drop_eq_nil_of_le (by omega)]
    simp
theorem cut_mid {α : Type} (l : List α) {i j : Nat} (h : i ≤ j) (hj : j ≤ l.length) : cutD l (some (i : Int)) (some (j : Int)) = (l.drop i).take (j - i) := by
  unfold cutD
  rw [HT.sIx_nat, HT.sIx_nat, Nat.min_eq_left hj, Nat.min_eq_left (Nat.le_trans h hj)]
theorem at_get {α : Type} {l : List α} {i : Nat} {x : α} (h : l[i]? = some x) : atI l (i : Int) = some x := atI_nat h
end Pv
/-! ### 10. features -/
namespace Pv
open PySem PySem.Spec PyProof.Rows L2
open Kvg9 (Feature Version Vertex Commit Store)

/-! the mathematics -/
def Srt (v : Version) : Prop := v.Pairwise fun a b => a.id < b.id
def isC (v : Int) : Bool := decide (-1000000 ≤ v) && decide (v ≤ 1000000)
def isFeat (w n : Int) (al vl : List Int) : Bool :=
  !(decide (65535 < n) || !decide ((al.length : Int) = w)) && (!(decide ((vl.length : Int) % 2 = 1) || (decide ((vl.length : Int) < 2) || decide (24 < (vl.length : Int)))) && (al.all Kvg9.isAttribute && vl.all isC))
def prs (vl : List Int) (k : Nat) : List Vertex := (List.range k).map fun t => (vl.getD (2 * t) 0, vl.getD (2 * t + 1) 0)
theorem prs_is : ∀ (k : Nat) (vl : List Int), vl.length = 2 * k → prs vl k = Kvg9.pairsOf vl
  | 0, vl, h => by
    have e : vl = [] := List.length_eq_zero_iff.mp (by omega)
    subst e
    rfl
  | k + 1, [], h => by simp at h
  | k + 1, [x], h => by simp only [List.length_cons, List.length_nil] at h; omega
  | k + 1, x :: y :: vl, h => by
    have ih := prs_is k vl (by simp at h; omega)
    show _ = (x, y) :: Kvg9.pairsOf vl
    rw [← ih]
    unfold prs
    rw [List.range_succ_eq_map, List.map_cons, List.map_map]
    rfl
theorem pairs_len : ∀ (k : Nat) (vl : List Int), vl.length = 2 * k → (Kvg9.pairsOf vl).length = k := fun k vl h => by
  rw [← prs_is k vl h]
  unfold prs
  rw [List.length_map, List.length_range]
def withF (v : Version) (f : Feature) : Version := v.filter (fun g => decide ((g.id : Int) < f.id)) ++ [f] ++ v.filter (fun g => decide ((f.id : Int) < g.id))
theorem withF_is (f : Feature) : ∀ v : Version, Srt v → withF v f = Kvg9.insertFeature f v
  | [], _ => rfl
  | g :: l, h => by
    obtain ⟨h1, h2⟩ := List.pairwise_cons.mp h
    have ih := withF_is f l h2
    unfold withF at ih ⊢
    unfold Kvg9.insertFeature
    by_cases c1 : f.id < g.id
    · rw [if_pos c1]
      have e1 : (g :: l).filter (fun g => decide ((g.id : Int) < f.id)) = [] := List.filter_eq_nil_iff.mpr fun x hx => by
        rcases List.mem_cons.mp hx with e | hx
        · subst e
          simp; omega
        · have := h1 x hx
          simp; omega
      have e2 : (g :: l).filter (fun g => decide ((f.id : Int) < g.id)) = g :: l := List.filter_eq_self.mpr fun x hx => by
        rcases List.mem_cons.mp hx with e | hx
        · subst e
          simp; omega
        · have := h1 x hx
          simp; omega
      rw [e1, e2] <;> rfl
    · rw [if_neg c1]
      by_cases c2 : f.id = g.id
      · rw [if_pos c2]
        have e1 : (g :: l).filter (fun g => decide ((g.id : Int) < f.id)) = [] := List.filter_eq_nil_iff.mpr fun x hx => by
          rcases List.mem_cons.mp hx with e | hx
          · subst e
            simp; omega
          · have := h1 x hx
            simp; omega
        have e2 : (g :: l).filter (fun g => decide ((f.id : Int) < g.id)) = l := by
          rw [List.filter_cons_of_neg (by simp; omega)]
          exact List.filter_eq_self.mpr fun x hx => by
            have := h1 x hx
            simp; omega
        rw [e1, e2] <;> rfl
      · rw [if_neg c2, List.filter_cons_of_pos (by simp; omega), List.filter_cons_of_neg (by simp; omega), ← ih] <;> rfl

section
variable {P : Program} {w : World} {K : Fg} {mg : Str → Option Value} {base : Heap}
/-! the defs -/
def rIsValue (ds : List PyData) (d : PyData) : Prop := ∃ v : Int, ds = [.int v] ∧ d = .bool (Kvg9.isAttribute v)
theorem c_is_value (T : Tx K mg) : Cal P w K mg base "is_value" 1 ["value"] (spP K 1 rIsValue) :=
  T.pure 0 0 10 sc_is_value (fun _ _ _ _ _ _ us hl => match us, hl with | [_], _ => rfl) fun cdv A outer s H E hr ds d _hl hR => by
  obtain ⟨v, rfl, rfl⟩ := hR
  exact dss_one (ds_ret (de_chain (de_sub de_int (de_gint T.i_MOST_VALUE)) (dv 0) (de_gint T.i_MOST_VALUE)) rfl)
def rIsCoord (ds : List PyData) (d : PyData) : Prop := ∃ v : Int, ds = [.int v] ∧ d = .bool (isC v)
theorem c_is_coordinate (T : Tx K mg) : Cal P w K mg base "is_coordinate" 1 ["value"] (spP K 1 rIsCoord) :=
  T.pure 1 1 11 sc_is_coordinate (fun _ _ _ _ _ _ us hl => match us, hl with | [_], _ => rfl) fun cdv A outer s H E hr ds d _hl hR => by
  obtain ⟨v, rfl, rfl⟩ := hR
  exact dss_one (ds_ret (de_chain (de_sub de_int (de_gint T.i_MOST_COORDINATE)) (dv 0) (de_gint T.i_MOST_COORDINATE)) rfl)
def rIsFeature (ds : List PyData) (d : PyData) : Prop := ∃ (w n : Int) (al vl : List Int), al.length ≤ 100 ∧ vl.length ≤ 100 ∧ ds = [.int w, .int n, .list (al.map .int), .list (vl.map .int)] ∧ d = .bool (isFeat w n al vl)
theorem c_is_feature (T : Tx K mg) : Cal P w K mg base "is_feature" 2 ["width", "number", "attributes", "numbers"] (spP K 4 rIsFeature) :=
  T.pure 2 2 12 sc_is_feature (fun _ _ _ _ _ _ us hl => match us, hl with | [_, _, _, _], _ => rfl) fun cdv A outer s H E hr ds d _hl hR => by
  obtain ⟨w', n, al, vl, h1, h2, rfl, rfl⟩ := hR
  refine dss_cons (ds_if (dt_w (dw_or (dt_cmp (dc_gt (dv 1) (de_gint T.i_MOST_NUMBER))) fun _ => dw_or1 (dt_cmp (dc_neI (de_lenL T.n_len (dv 2)) (dv 0))))) (fun hk => dss_one (ds_ret de_bl ?_)) fun hk => dss_nil ?_)
  · show PyData.bool false = .bool (isFeat w' n al vl)
    rw [List.length_map] at hk
    unfold isFeat
    rw [hk] <;> rfl
  refine dss_cons (ds_if (dt_w (dw_or (dt_cmp (dc_eqI (de_mod (de_lenL T.n_len (dv 3)) de_int (by decide)) de_int)) fun _ => dw_or (dt_cmp (dc_lt (de_lenL T.n_len (dv 3)) de_int)) fun _ => dw_or1 (dt_cmp (dc_gt (de_lenL T.n_len (dv 3)) (de_mul de_int (de_gint T.i_MOST_VERTICES) (.inl (by decide))))))) (fun hk2 => dss_one (ds_ret de_bl ?_)) fun hk2 => dss_nil ?_)
  · show PyData.bool false = .bool (isFeat w' n al vl)
    rw [List.length_map] at hk2
    unfold isFeat
    rw [show (24 : Int) = 2 * 12 from rfl, hk2] <;> simp
  refine dss_one (ds_ret (de_and (de_all (bs := al.map Kvg9.isAttribute) T.n_all (DO.to (do_map (l := al) (enc := .int) (enc' := fun v => .bool (Kvg9.isAttribute v)) (own := [("value", 4)]) sc_is_feature.nd (di_lst (dv 2)) (line_le (by omega)) (blkOk_by (N := N_is_feature) (sc := defScope (top 12)) (by decide +kernel))
      (fun v _ => ⟨_, _, (by simp), fun s H C cl fp => ⟨dg_name sc_is_feature.nd (i := 4) rfl (.inl rfl), de_call (c_is_value T) (hr.mono (by decide)) (da_one (dv 4)) ⟨v, rfl, rfl⟩, rfl⟩⟩)) (by rw [List.map_map] <;> rfl)).de)
    fun _ => de_one (de_all (bs := vl.map isC) T.n_all (DO.to (do_map (l := vl) (enc := .int) (enc' := fun v => .bool (isC v)) (own := [("value", 4)]) sc_is_feature.nd (di_lst (dv 3)) (line_le (by omega)) (blkOk_by (N := N_is_feature) (sc := defScope (top 12)) (by decide +kernel))
      (fun v _ => ⟨_, _, (by simp), fun s H C cl fp => ⟨dg_name sc_is_feature.nd (i := 4) rfl (.inl rfl), de_call (c_is_coordinate T) (hr.mono (by decide)) (da_one (dv 4)) ⟨v, rfl, rfl⟩, rfl⟩⟩)) (by rw [List.map_map] <;> rfl)).de)) ?_)
  show PyData.bool _ = .bool (isFeat w' n al vl)
  rw [List.length_map] at hk hk2
  unfold isFeat
  rw [hk, show (24 : Int) = 2 * 12 from rfl, hk2, List.all_map, List.all_map] <;> rfl
theorem rgc_two : ∀ k : Nat, k < 60 → RgC 0 ((2 * k : Nat) : Int) 2 k := by
  intro k hk
  have h : ∀ k : Nat, k < 60 → (Builtin.Range.small 0 ((2 * k : Nat) : Int) 2 = true ∧ Builtin.Range.rangeSize 0 ((2 * k : Nat) : Int) 2 = k) := by decide
  exact ⟨by decide, by decide, (h k hk).1, (h k hk).2⟩
def rPairsOf (ds : List PyData) (d : PyData) : Prop := ∃ (k : Nat) (vl : List Int), vl.length = 2 * k ∧ k < 60 ∧ ds = [.list (vl.map .int)] ∧ d = eVs (Kvg9.pairsOf vl)
theorem c_pairs_of (T : Tx K mg) : Cal P w K mg base "pairs_of" 1 ["numbers"] (spP K 1 rPairsOf) :=
  T.pure 3 3 13 sc_pairs_of (fun _ _ _ _ _ _ us hl => match us, hl with | [_], _ => rfl) fun cdv A outer s H E hr ds d _hl hR => by
  obtain ⟨k, vl, h1, h2, rfl, rfl⟩ := hR
  have hg : ∀ t, t ∈ List.range k → ∀ j, j < 2 → (vl.map PyData.int)[2 * t + j]? = some (.int (vl.getD (2 * t + j) 0)) := fun t ht j hj => by
    have ht := List.mem_range.mp ht
    rw [List.getElem?_map, List.getElem?_eq_getElem (by omega), List.getD_eq_getElem?_getD, List.getElem?_eq_getElem (by omega)] <;> rfl
  refine dss_one (ds_ret (de_tupleL T.n_tuple (do_map (l := List.range k) (enc := fun t => .int (0 + (t : Nat) * 2)) (enc' := fun t => eVx (vl.getD (2 * t) 0, vl.getD (2 * t + 1) 0)) (own := [("at", 1)]) sc_pairs_of.nd
    (di_range3 (n := k) T.n_range de_int (DE.to (de_lenL T.n_len (dv 0)) (by rw [List.length_map, h1])) de_int (rgc_two k h2)) (line_le (by rw [List.length_range]; omega)) (blkOk_by (N := N_pairs_of) (sc := defScope (top 13)) (by decide +kernel))
    (fun t ht => ⟨_, _, (by simp), fun s H C cl fp => ⟨dg_name sc_pairs_of.nd (i := 1) rfl (.inl rfl),
      de_tup (da_cons (de_ixL (dv 0) (dv 1) (show atI (vl.map PyData.int) (0 + (t : Nat) * 2) = some (.int (vl.getD (2 * t) 0)) by rw [show (0 + (t : Int) * 2) = ((2 * t : Nat) : Int) by omega]; exact at_get (hg t ht 0 (by decide))))
        (da_one (de_ixL (dv 0) (de_add (dv 1) de_int) (show atI (vl.map PyData.int) (0 + (t : Nat) * 2 + 1) = some (.int (vl.getD (2 * t + 1) 0)) by rw [show (0 + (t : Int) * 2 + 1) = ((2 * t + 1 : Nat) : Int) by omega]; exact at_get (hg t ht 1 (by decide)))))), rfl⟩⟩)).de) ?_)
  show PyData.tuple _ = eVs (Kvg9.pairsOf vl)
  rw [← prs_is k vl h1]
  unfold eVs prs
  rw [List.map_map] <;> rfl
theorem find_cons (g : Feature) (v : Version) (n : Nat) : Kvg9.find (g :: v) n = if g.id = n then some g else Kvg9.find v n := by
  unfold Kvg9.find
  rw [List.find?_cons]
  by_cases c : g.id = n
  · rw [if_pos c, show (g.id == n) = true by simp [c]]
  · rw [if_neg c, show (g.id == n) = false by simp [c]]
theorem find_pre {pre post : Version} {x : Feature} {n : Nat} (h : ∀ g ∈ pre, g.id ≠ n) (hx : x.id = n) : Kvg9.find (pre ++ x :: post) n = some x := by
  induction pre with
  | nil => rw [List.nil_append, find_cons, if_pos hx]
  | cons g pre ih =>
    rw [List.cons_append, find_cons, if_neg (h g (List.mem_cons_self)), ih fun g hg => h g (List.mem_cons_of_mem _ hg)]
theorem find_none {v : Version} {n : Nat} (h : ∀ g ∈ v, g.id ≠ n) : Kvg9.find v n = none := by
  induction v with
  | nil => rfl
  | cons g v ih => rw [find_cons, if_neg (h g (List.mem_cons_self)), ih fun g hg => h g (List.mem_cons_of_mem _ hg)]
def rFeatureAt (ds : List PyData) (d : PyData) : Prop := ∃ (v : Version) (n : Nat), ds = [eVer v, .int n] ∧ d = eOF (Kvg9.find v n)
theorem c_feature_at (T : Tx K mg) : Cal P w K mg base "feature_at" 1 ["version", "number"] (spP K 2 rFeatureAt) :=
  T.pure 4 4 14 sc_feature_at (fun _ _ _ _ _ _ us hl => match us, hl with | [_, _], _ => rfl) fun cdv A outer s H E hr ds d _hl hR => by
  obtain ⟨v, n, rfl, rfl⟩ := hR
  refine dss_cons (ds_for (l := v) (enc := eFeat) (fun pre m δ => m = none ∧ (∃ s, δ = [.v (eVer v), .v (.int n), s]) ∧ ∀ g ∈ pre, g.id ≠ n) (di_tup (dv 0)) ⟨rfl, ⟨_, rfl⟩, fun _ h => nomatch h⟩ ?_ ?_)
  · rintro pre x post m δ hv ⟨rfl, ⟨s, rfl⟩, hp⟩
    refine ⟨_, _, dg_name sc_feature_at.nd (i := 2) rfl (.inl rfl), dss_one (ds_if (dt_cmp (dc_eqI (de_ixT (dv 2) de_int rfl) (dv 1))) (fun hk => dss_one (ds_ret (dv 2) ?_)) fun hk => dss_nil ?_)⟩
    · have hk : (x.id : Int) = n := of_decide_eq_true hk
      show eFeat x = eOF (Kvg9.find v n)
      rw [hv, find_pre hp (by omega)] <;> rfl
    · have hk : ¬ (x.id : Int) = n := of_decide_eq_false hk
      refine ⟨rfl, ⟨_, rfl⟩, fun g hg => ?_⟩
      rcases List.mem_append.mp hg with h | h
      · exact hp g h
      · rw [List.mem_singleton.mp h]
        omega
  · rintro m δ ⟨rfl, ⟨s, rfl⟩, hp⟩
    refine dss_one (ds_ret de_non ?_)
    show PyData.none = eOF (Kvg9.find v n)
    rw [find_none hp] <;> rfl
def rWithFeature (ds : List PyData) (d : PyData) : Prop := ∃ v f, v.length ≤ 100 ∧ Srt v ∧ ds = [eVer v, eFeat f] ∧ d = eVer (Kvg9.insertFeature f v)
theorem c_with_feature (T : Tx K mg) : Cal P w K mg base "with_feature" 1 ["version", "feature"] (spP K 2 rWithFeature) :=
  T.pure 5 5 15 sc_with_feature (fun _ _ _ _ _ _ us hl => match us, hl with | [_, _], _ => rfl) fun cdv A outer s H E hr ds d _hl hR => by
  obtain ⟨v, f, hv, hs, rfl, rfl⟩ := hR
  refine dss_cons (ds_setLc (i := 2) (l := v) (enc := eFeat) (enc' := eFeat) (q := fun g => decide ((g.id : Int) < f.id)) (own := [("other", 4)]) sc_with_feature.nd rfl rfl (sw_true rfl rfl rfl (by decide +kernel)) (di_tup (dv 0)) (line_le (by omega)) (blkOk_by (N := N_with_feature) (sc := defScope (top 15)) (by decide +kernel))
    (fun g hg => ⟨_, _, (by simp), fun s H C cl fp => ⟨dg_name sc_with_feature.nd (i := 4) rfl (.inl rfl), dts_one (dt_cmp (dc_lt (de_ixT (dv 4) de_int rfl) (de_ixT (dv 1) de_int rfl))), fun _ => ⟨dv 4, rfl⟩⟩⟩) ?_)
  refine dss_cons (ds_setLc (i := 3) (l := v) (enc := eFeat) (enc' := eFeat) (q := fun g => decide ((f.id : Int) < g.id)) (own := [("other", 4)]) sc_with_feature.nd rfl rfl (sw_true rfl rfl rfl (by decide +kernel)) (di_tup (dv 0)) (line_le (by omega)) (blkOk_by (N := N_with_feature) (sc := defScope (top 15)) (by decide +kernel))
    (fun g hg => ⟨_, _, (by simp), fun s H C cl fp => ⟨dg_name sc_with_feature.nd (i := 4) rfl (.inl rfl), dts_one (dt_cmp (dc_gt (de_ixT (dv 4) de_int rfl) (de_ixT (dv 1) de_int rfl))), fun _ => ⟨dv 4, rfl⟩⟩⟩) ?_)
  have l1 := List.length_filter_le (fun g : Feature => decide ((g.id : Int) < f.id)) v
  have l2 := List.length_filter_le (fun g : Feature => decide ((f.id : Int) < g.id)) v
  refine dss_one (ds_ret (de_tupleL T.n_tuple (do_cat (do_cat (dv 2) (do_lst (da_one (dv 1))).de (line_le ?_)).de (dv 3) (line_le ?_)).de) ?_)
  · simp only [List.length_map, List.length_cons, List.length_nil]
    omega
  · simp only [List.length_append, List.length_map, List.length_cons, List.length_nil]
    omega
  · show PyData.tuple _ = eVer _
    rw [← withF_is f v hs]
    unfold eVer withF
    rw [List.map_append, List.map_append] <;> rfl
def rWithoutFeature (ds : List PyData) (d : PyData) : Prop := ∃ (v : Version) (n : Nat), v.length ≤ 100 ∧ ds = [eVer v, .int n] ∧ d = eVer (Kvg9.removeFeature v n)
theorem c_without_feature (T : Tx K mg) : Cal P w K mg base "without_feature" 1 ["version", "number"] (spP K 2 rWithoutFeature) :=
  T.pure 6 6 16 sc_without_feature (fun _ _ _ _ _ _ us hl => match us, hl with | [_, _], _ => rfl) fun cdv A outer s H E hr ds d _hl hR => by
  obtain ⟨v, n, hv, rfl, rfl⟩ := hR
  refine dss_one (ds_ret (de_tupleL T.n_tuple (do_fil (l := v) (enc := eFeat) (enc' := eFeat) (q := fun g => !decide ((g.id : Int) = n)) (own := [("feature", 2)]) sc_without_feature.nd (di_tup (dv 0)) (line_le (by omega)) (blkOk_by (N := N_without_feature) (sc := defScope (top 16)) (by decide +kernel))
    (fun g hg => ⟨_, _, (by simp), fun s H C cl fp => ⟨dg_name sc_without_feature.nd (i := 2) rfl (.inl rfl), dt_cmp (dc_neI (de_ixT (dv 2) de_int rfl) (dv 1)), fun _ => ⟨dv 2, rfl⟩⟩⟩)).de) ?_)
  show PyData.tuple _ = eVer (Kvg9.removeFeature v n)
  unfold eVer Kvg9.removeFeature
  have e : (fun g : Feature => !decide ((g.id : Int) = n)) = fun g => g.id != n := funext fun g => by
    by_cases c : g.id = n
    · simp [c]
    · have c2 : ¬ (g.id : Int) = n := by omega
      simp [c, c2]
  rw [e]
theorem set_cut {α : Type} {l : List α} {i : Nat} (h : i < l.length) (x : α) : l.take i ++ [x] ++ l.drop (i + 1) = l.set i x := by
  rw [List.set_eq_take_append_cons_drop, if_pos h, List.append_assoc] <;> rfl
def rPutAt (ds : List PyData) (d : PyData) : Prop := ∃ (l : List PyData) (i : Nat) (x : PyData), l.length ≤ 1000 ∧ i < l.length ∧ nd x = true ∧ ds = [.tuple l, .int i, x] ∧ d = .tuple (l.set i x)
theorem c_put_at (T : Tx K mg) : Cal P w K mg base "put_at" 1 ["row", "index", "value"] (spP K 3 rPutAt) :=
  T.pure 7 7 17 sc_put_at (fun _ _ _ _ _ _ us hl => match us, hl with | [_, _, _], _ => rfl) fun cdv A outer s H E hr ds d _hl hR => by
  obtain ⟨l, i, x, h1, h2, hn, rfl, rfl⟩ := hR
  refine dss_one (ds_ret (de_catT (de_catT (DE.to (de_slT (dv 0) dp_none (dp_some (dv 1))) (congrArg PyData.tuple (cut_take l (by omega)))) (de_tup (da_one (dv 2)) (by rw [List.all_cons, hn] <;> rfl)) (line_le ?_)) (DE.to (de_slT (dv 0) (dp_some (de_add (dv 1) de_int)) dp_none) (congrArg PyData.tuple (cut_drop l (i + 1)))) (line_le ?_)) ?_)
  · rw [List.length_take, List.length_singleton]
    omega
  · rw [List.length_append, List.length_take, List.length_drop, List.length_singleton]
    omega
  · show PyData.tuple _ = .tuple _
    rw [set_cut h2]
def rPutAhead (ds : List PyData) (d : PyData) : Prop := ∃ (l : List PyData) (i : Nat) (x : PyData), l.length ≤ 1000 ∧ i ≤ l.length ∧ nd x = true ∧ ds = [.tuple l, .int i, x] ∧ d = .tuple (l.take i ++ x :: l.drop i)
theorem c_put_ahead (T : Tx K mg) : Cal P w K mg base "put_ahead" 1 ["row", "index", "value"] (spP K 3 rPutAhead) :=
  T.pure 8 8 18 sc_put_ahead (fun _ _ _ _ _ _ us hl => match us, hl with | [_, _, _], _ => rfl) fun cdv A outer s H E hr ds d _hl hR => by
  obtain ⟨l, i, x, h1, h2, hn, rfl, rfl⟩ := hR
  refine dss_one (ds_ret (de_catT (de_catT (DE.to (de_slT (dv 0) dp_none (dp_some (dv 1))) (congrArg PyData.tuple (cut_take l h2))) (de_tup (da_one (dv 2)) (by rw [List.all_cons, hn] <;> rfl)) (line_le ?_)) (DE.to (de_slT (dv 0) (dp_some (dv 1)) dp_none) (congrArg PyData.tuple (cut_drop l i))) (line_le ?_)) ?_)
  · rw [List.length_take, List.length_singleton]
    omega
  · rw [List.length_append, List.length_take, List.length_drop, List.length_singleton]
    omega
  · show PyData.tuple _ = .tuple _
    rw [List.append_assoc] <;> rfl
def rLeftOut (ds : List PyData) (d : PyData) : Prop := ∃ (l : List PyData) (i : Nat), l.length ≤ 1000 ∧ i < l.length ∧ ds = [.tuple l, .int i] ∧ d = .tuple (l.eraseIdx i)
theorem c_left_out (T : Tx K mg) : Cal P w K mg base "left_out" 1 ["row", "index"] (spP K 2 rLeftOut) :=
  T.pure 9 9 19 sc_left_out (fun _ _ _ _ _ _ us hl => match us, hl with | [_, _], _ => rfl) fun cdv A outer s H E hr ds d _hl hR => by
  obtain ⟨l, i, h1, h2, rfl, rfl⟩ := hR
  refine dss_one (ds_ret (de_catT (DE.to (de_slT (dv 0) dp_none (dp_some (dv 1))) (congrArg PyData.tuple (cut_take l (by omega)))) (DE.to (de_slT (dv 0) (dp_some (de_add (dv 1) de_int)) dp_none) (congrArg PyData.tuple (cut_drop l (i + 1)))) (line_le ?_)) ?_)
  · rw [List.length_take, List.length_drop]
    omega
  · show PyData.tuple _ = .tuple _
    rw [List.eraseIdx_eq_take_drop_succ]
end
end Pv
/-! ### 11. differences -/
namespace Pv
open PySem PySem.Spec PyProof.Rows L2
open Kvg9 (Feature Version Vertex Commit Store Change)

/-! the mathematics -/
theorem insId_mem (n : Nat) : ∀ (l : List Nat) (k : Nat), k ∈ Kvg9.insertId n l ↔ k = n ∨ k ∈ l
  | [], k => by simp [Kvg9.insertId]
  | i :: l, k => by
    unfold Kvg9.insertId
    by_cases c1 : n < i
    · rw [if_pos c1, List.mem_cons]
    · rw [if_neg c1]
      by_cases c2 : n = i
      · rw [if_pos c2]
        subst c2
        simp
      · rw [if_neg c2, List.mem_cons, List.mem_cons, insId_mem n l k]
        constructor
        · rintro (h | h | h) <;> simp [h]
        · rintro (h | h | h) <;> simp [h]
theorem insId_asc (n : Nat) : ∀ l : List Nat, l.Pairwise (· < ·) → (Kvg9.insertId n l).Pairwise (· < ·)
  | [], _ => by simp [Kvg9.insertId]
  | i :: l, h => by
    obtain ⟨p1, p2⟩ := List.pairwise_cons.mp h
    unfold Kvg9.insertId
    by_cases c1 : n < i
    · rw [if_pos c1]
      refine List.pairwise_cons.mpr ⟨fun k hk => ?_, h⟩
      rcases List.mem_cons.mp hk with e | hk
      · omega
      · have := p1 k hk
        omega
    · rw [if_neg c1]
      by_cases c2 : n = i
      · rw [if_pos c2]
        exact h
      · rw [if_neg c2]
        refine List.pairwise_cons.mpr ⟨fun k hk => ?_, insId_asc n l p2⟩
        rcases (insId_mem n l k).mp hk with e | hk
        · omega
        · exact p1 k hk
theorem foldId (l : List Nat) : ∀ acc : List Nat, acc.Pairwise (· < ·) → (l.foldl (fun l id => Kvg9.insertId id l) acc).Pairwise (· < ·) ∧ ∀ k, k ∈ l.foldl (fun l id => Kvg9.insertId id l) acc ↔ k ∈ acc ∨ k ∈ l := by
  induction l with
  | nil => intro acc h; exact ⟨h, fun k => by simp⟩
  | cons n l ih =>
    intro acc h
    obtain ⟨h1, h2⟩ := ih _ (insId_asc n acc h)
    refine ⟨h1, fun k => ?_⟩
    rw [List.foldl_cons, h2 k, insId_mem, List.mem_cons]
    constructor
    · rintro ((h | h) | h) <;> simp [h]
    · rintro (h | h | h) <;> simp [h]
theorem ids_asc (vs : List Version) : (Kvg9.idsOf vs).Pairwise (· < ·) := (foldId _ [] List.Pairwise.nil).1
theorem ids_mem (vs : List Version) (k : Nat) : k ∈ Kvg9.idsOf vs ↔ k ∈ vs.flatten.map Feature.id := by
  have := (foldId (vs.flatten.map Feature.id) [] List.Pairwise.nil).2 k
  unfold Kvg9.idsOf
  rw [this]
  simp
theorem insId_len (n : Nat) : ∀ l : List Nat, (Kvg9.insertId n l).length ≤ l.length + 1
  | [] => by simp [Kvg9.insertId]
  | i :: l => by
    have := insId_len n l
    unfold Kvg9.insertId
    split
    · simp
    · split
      · simp
      · simp only [List.length_cons]
        omega
theorem foldId_len (l : List Nat) : ∀ acc : List Nat, (l.foldl (fun l id => Kvg9.insertId id l) acc).length ≤ acc.length + l.length := by
  induction l with
  | nil => intro acc; simp
  | cons n l ih =>
    intro acc
    have h1 := ih (Kvg9.insertId n acc)
    have h2 := insId_len n acc
    rw [List.foldl_cons, List.length_cons]
    omega
theorem ids_len (vs : List Version) : (Kvg9.idsOf vs).length ≤ vs.flatten.length := by
  have h := foldId_len (vs.flatten.map Feature.id) []
  rw [List.length_map, List.length_nil, Nat.zero_add] at h
  exact h
/-- all features have so many attributes -/
def Wd (w : Nat) (v : Version) : Prop := ∀ f ∈ v, f.attributes.length = w
theorem find_mem {v : Version} {n : Nat} {f : Feature} (h : Kvg9.find v n = some f) : f ∈ v ∧ f.id = n := by
  unfold Kvg9.find at h
  exact ⟨List.mem_of_find?_eq_some h, by have := List.find?_some h; simpa using this⟩
def mk (a b : List Int) (k : Nat) : Nat := ((List.range k).map fun i => if a[i]? = b[i]? then 0 else 2 ^ i).foldl (· + ·) 0
theorem mk_succ (a b : List Int) (k : Nat) : mk a b (k + 1) = mk a b k + (if a[k]? = b[k]? then 0 else 2 ^ k) := by
  unfold mk
  rw [List.range_succ, List.map_append, List.foldl_append] <;> rfl
theorem zip_at {a b : List Int} {pre post : List (Int × Int)} {x : Int × Int} (h : a.zip b = pre ++ x :: post) : a[pre.length]? = some x.1 ∧ b[pre.length]? = some x.2 := by
  have e : (a.zip b)[pre.length]? = some x := by
    rw [h, List.getElem?_append_right (Nat.le_refl _), Nat.sub_self] <;> rfl
  exact List.getElem?_zip_eq_some.mp e
def eCh (c : Change) : PyData := .tuple [.int c.id, .int c.kind, .int c.parts]
def chg (n : Nat) : Option Feature → Option Feature → Option Change
  | none, some _ => some ⟨n, 1, 0⟩
  | some _, none => some ⟨n, 2, 0⟩
  | some f, some g => if f = g then none else some ⟨n, 3, Kvg9.changedParts f g⟩
  | none, none => none
theorem changes_is (a b : Version) : Kvg9.changesBetween a b = (Kvg9.idsOf [a, b]).filterMap fun id => chg id (Kvg9.find a id) (Kvg9.find b id) := by
  unfold Kvg9.changesBetween
  refine congrArg (fun f => List.filterMap f _) (funext fun id => ?_)
  cases Kvg9.find a id <;> cases Kvg9.find b id <;> rfl
theorem dop_none {α : Type} {e : α → PyData} : eOp e none = .none := rfl

section
variable {X : Cx} {F : Fr} {m m1 : Option Ob} {δ : List Sl} {tg iter : Expr} {ds es : List PyData}
theorem DI.to (h : DI X F m δ tg iter ds m1) (q : ds = es) : DI X F m δ tg iter es m1 := q ▸ h
end
theorem zip_vx (a b : List Int) : ((a.map PyData.int).zip (b.map PyData.int)).map (fun q => PyData.tuple [q.1, q.2]) = (a.zip b).map eVx := by
  rw [List.zip_map, List.map_map] <;> rfl
theorem isN_op {α : Type} {e : α → PyData} (he : ∀ a, isN (e a) = false) (o : Option α) : isN (eOp e o) = o.isNone := by
  cases o with
  | none => rfl
  | some a => exact he a

section
variable {P : Program} {w : World} {K : Fg} {mg : Str → Option Value} {base : Heap}
def rNumbersOf (ds : List PyData) (d : PyData) : Prop := ∃ vs : List Version, vs.flatten.length < 64 ∧ ds = [.list (vs.map eVer)] ∧ d = .list ((Kvg9.idsOf vs).map eN)
theorem c_numbers_of (T : Tx K mg) : Cal P w K mg base "numbers_of" 1 ["versions"] (spP K 1 rNumbersOf) :=
  T.pure 10 10 20 sc_numbers_of (fun _ _ _ _ _ _ us hl => match us, hl with | [_], _ => rfl) fun cdv A outer s H E hr ds d _hl hR => by
  obtain ⟨vs, hz, rfl, rfl⟩ := hR
  refine dss_cons (ds_new (i := 1) sc_numbers_of.nd rfl (by first | exact .inl rfl | exact .inr rfl) (do_lst da_nil) ?_)
  refine dss_cons (ds_for (l := vs) (enc := eVer) (fun pre m δ => m = none ∧ ∃ s, δ = [.v (.list (vs.map eVer)), .own (.list ((pre.flatten.map fun f => (f.id : Int)).map .int)), s, .u]) (di_lst (dv 0)) ⟨rfl, .u, rfl⟩ ?_ ?_)
  · rintro pre x post m δ hv ⟨rfl, s, rfl⟩
    have hl : (pre.flatten.length + x.length) < 64 := by
      rw [hv, List.flatten_append, List.flatten_cons, List.length_append, List.length_append] at hz
      omega
    refine ⟨_, _, (dg_name sc_numbers_of.nd (i := 2) rfl (by first | exact .inl rfl | exact .inr rfl)), dss_one (ds_extend (i := 1) rfl (.inl rfl) rfl (do_map (l := x) (enc := eFeat) (enc' := fun f => .int f.id) (own := [("feature", 3)]) sc_numbers_of.nd (di_tup (dv 2)) (line_le (by omega)) (blkOk_by (N := N_numbers_of) (sc := defScope (top 20)) (by decide +kernel))
      (fun f hf => ⟨_, _, (by simp), fun s H C cl fp => ⟨(dg_name sc_numbers_of.nd (i := 3) rfl (by first | exact .inl rfl | exact .inr rfl)), de_ixT (dv 3) de_int rfl, rfl⟩⟩)).de (line_le ?_) ⟨rfl, .v (eVer x), ?_⟩)⟩
    · rw [List.length_map, List.length_map, List.length_map]
      omega
    · rw [List.flatten_append, List.map_append, List.map_append, List.flatten_cons, List.flatten_nil, List.append_nil, List.map_map, List.map_map] <;> rfl
  · rintro m δ ⟨rfl, s, rfl⟩
    refine dss_freeze (1) rfl (dss_one (ds_ret (do_sortedSet (out := (Kvg9.idsOf vs).map fun n : Nat => (n : Int)) T.n_sorted T.n_set (dv 1) ?_ ?_ ?_).de ?_))
    · rw [List.length_map]
      exact hz
    · rw [List.pairwise_map]
      exact List.Pairwise.imp (fun h => by omega) (ids_asc vs)
    · intro k
      rw [List.mem_map, List.mem_map]
      constructor
      · rintro ⟨n, hn, rfl⟩
        obtain ⟨f, hf, rfl⟩ := List.mem_map.mp ((ids_mem vs n).mp hn)
        exact ⟨f, hf, rfl⟩
      · rintro ⟨f, hf, rfl⟩
        exact ⟨f.id, (ids_mem vs f.id).mpr (List.mem_map.mpr ⟨f, hf, rfl⟩), rfl⟩
    · show PyData.list _ = .list _
      rw [List.map_map] <;> rfl
def rPartsOf (ds : List PyData) (d : PyData) : Prop := ∃ f g : Feature, f.attributes.length = g.attributes.length ∧ ds = [eFeat f, eFeat g] ∧ d = .int (Kvg9.changedParts f g : Nat)
theorem c_parts_of (T : Tx K mg) : Cal P w K mg base "parts_of" 1 ["one", "other"] (spP K 2 rPartsOf) :=
  T.pure 11 11 21 sc_parts_of (fun _ _ _ _ _ _ us hl => match us, hl with | [_, _], _ => rfl) fun cdv A outer s H E hr ds d _hl hR => by
  obtain ⟨f, g, hl, rfl, rfl⟩ := hR
  refine dss_cons (ds_set (i := 2) sc_parts_of.nd rfl (by first | exact .inl rfl | exact .inr rfl) de_int ?_)
  refine dss_cons (ds_set (i := 3) sc_parts_of.nd rfl (by first | exact .inl rfl | exact .inr rfl) de_int ?_)
  refine dss_cons (ds_for (l := f.attributes.zip g.attributes) (enc := eVx) (fun pre m δ => m = none ∧ ∃ s t, δ = [.v (eFeat f), .v (eFeat g), .v (.int (mk f.attributes g.attributes pre.length : Nat)), .v (.int ((2 ^ pre.length : Nat) : Int)), s, t])
    (DI.to (di_zipT T.n_zip (de_ixT (dv 0) de_int rfl) (de_ixT (dv 1) de_int rfl) (by rw [List.length_map, List.length_map, hl])) (zip_vx _ _)) ⟨rfl, .u, .u, rfl⟩ ?_ ?_)
  · rintro pre x post m δ hv ⟨rfl, s, t, rfl⟩
    obtain ⟨e1, e2⟩ := zip_at hv
    have hw : ((2 ^ (pre ++ [x]).length : Nat) : Int) = ((2 ^ pre.length : Nat) : Int) + ((2 ^ pre.length : Nat) : Int) := by
      rw [List.length_append, List.length_singleton, Nat.pow_succ]
      omega
    have hm := mk_succ f.attributes g.attributes pre.length
    rw [e1, e2] at hm
    refine ⟨_, _, dg_tup (dgs_cons (dg_name sc_parts_of.nd (i := 4) rfl (by first | exact .inl rfl | exact .inr rfl)) (dgs_cons (dg_name sc_parts_of.nd (i := 5) rfl (by first | exact .inl rfl | exact .inr rfl)) dgs_nil)) rfl, dss_cons (ds_if (dt_cmp (dc_neI (dv 4) (dv 5))) (fun hk => dss_one (ds_addI (i := 2) sc_parts_of.nd rfl (by first | exact .inl rfl | exact .inr rfl) rfl (dv 3) ?_)) fun hk => dss_nil ?_)⟩
    · refine dss_one (ds_addI (i := 3) sc_parts_of.nd rfl (by first | exact .inl rfl | exact .inr rfl) rfl (dv 3) ⟨rfl, .v (.int x.1), .v (.int x.2), ?_⟩)
      have c : ¬ x.1 = x.2 := by simpa using hk
      have q : ¬ some x.1 = some x.2 := fun z => c (Option.some.inj z)
      rw [if_neg q] at hm
      rw [hw, List.length_append, List.length_singleton, hm, Int.natCast_add] <;> rfl
    · refine dss_one (ds_addI (i := 3) sc_parts_of.nd rfl (by first | exact .inl rfl | exact .inr rfl) rfl (dv 3) ⟨rfl, .v (.int x.1), .v (.int x.2), ?_⟩)
      have c : x.1 = x.2 := by simpa using hk
      rw [if_pos (congrArg some c)] at hm
      rw [hw, List.length_append, List.length_singleton, hm, Nat.add_zero] <;> rfl
  · rintro m δ ⟨rfl, s, t, rfl⟩
    have hn : (f.attributes.zip g.attributes).length = max f.attributes.length g.attributes.length := by
      rw [List.length_zip, hl]
      omega
    refine dss_cons (ds_if (dt_cmp (dc_neE eqe_Vs hr.units (de_ixT (dv 0) de_int rfl) (de_ixT (dv 1) de_int rfl))) (fun hk => dss_one (ds_addI (i := 2) sc_parts_of.nd rfl (by first | exact .inl rfl | exact .inr rfl) rfl (de_gint T.i_VERTICES_PART) ?_)) fun hk => dss_nil ?_)
    · refine dss_one (ds_ret (dv 2) ?_)
      have c : ¬ f.vertices = g.vertices := by simpa using hk
      show PyData.int _ = .int _
      unfold Kvg9.changedParts
      rw [if_neg c, hn] <;> rfl
    · refine dss_one (ds_ret (dv 2) ?_)
      have c : f.vertices = g.vertices := by simpa using hk
      show PyData.int _ = .int _
      unfold Kvg9.changedParts
      rw [if_pos c, hn] <;> rfl
def rChangeOf (ds : List PyData) (d : PyData) : Prop := ∃ (n : Nat) (f g : Option Feature), (∀ x y, f = some x → g = some y → x.attributes.length = y.attributes.length) ∧ ds = [.int n, eOF f, eOF g] ∧ d = eOp eCh (chg n f g)
theorem c_change_of (T : Tx K mg) : Cal P w K mg base "change_of" 2 ["number", "one", "other"] (spP K 3 rChangeOf) :=
  T.pure 12 12 22 sc_change_of (fun _ _ _ _ _ _ us hl => match us, hl with | [_, _, _], _ => rfl) fun cdv A outer s H E hr ds d _hl hR => by
  obtain ⟨n, f, g, hl, rfl, rfl⟩ := hR
  refine dss_cons (ds_if (dt_cmp (dc_eqE eqe_OF hr.units (dv 1) (dv 2))) (fun hk => dss_one (ds_ret de_non ?_)) fun hk => dss_nil ?_)
  · have c : f = g := by simpa using hk
    subst c
    cases f <;> simp [chg, eOp, enP]
  have c : ¬ f = g := by simpa using hk
  refine dss_cons (ds_if (dt_cmp (dc_isN (dv 1))) (fun hk => dss_one (ds_ret (de_tup (da_cons (dv 0) (da_cons (de_gint T.i_ADDED) (da_one de_int)))) ?_)) fun hk1 => dss_nil ?_)
  · cases f with
    | none =>
      cases g with
      | none => exact absurd rfl c
      | some y => rfl
    | some x => cases hk
  refine dss_cons (ds_if (dt_cmp (dc_isN (dv 2))) (fun hk3 => dss_one (ds_ret (de_tup (da_cons (dv 0) (da_cons (de_gint T.i_REMOVED) (da_one de_int)))) ?_)) fun hk2 => dss_nil ?_)
  · cases f with
    | none => cases hk1
    | some x =>
      cases g with
      | none => rfl
      | some y => cases hk3
  cases f with
  | none => cases hk1
  | some x =>
    cases g with
    | none => cases hk2
    | some y =>
      refine dss_one (ds_ret (de_tup (da_cons (dv 0) (da_cons (de_gint T.i_CHANGED_features) (da_one (de_call (c_parts_of T) (hr.mono (by decide)) (da_cons (dv 1) (da_one (dv 2))) ⟨x, y, hl x y rfl rfl, rfl, rfl⟩))))) ?_)
      show PyData.tuple _ = eOp eCh (if x = y then none else _)
      rw [if_neg (fun z => c (congrArg some z))] <;> rfl
def rChanges (ds : List PyData) (d : PyData) : Prop := ∃ (a b : Version) (n : Nat), a.length + b.length < 64 ∧ Wd n a ∧ Wd n b ∧ ds = [eVer a, eVer b] ∧ d = .list ((Kvg9.changesBetween a b).map eCh)
theorem c_changes_between (T : Tx K mg) : Cal P w K mg base "changes_between" 3 ["first", "second"] (spP K 2 rChanges) :=
  T.pure 13 13 23 sc_changes_between (fun _ _ _ _ _ _ us hl => match us, hl with | [_, _], _ => rfl) fun cdv A outer s H E hr ds d _hl hR => by
  obtain ⟨a, b, n, hz, ha, hb, rfl, rfl⟩ := hR
  have hz2 : ([a, b] : List Version).flatten.length < 64 := by
    rw [List.flatten_cons, List.flatten_cons, List.flatten_nil, List.append_nil, List.length_append]
    exact hz
  refine dss_cons (ds_new (i := 2) sc_changes_between.nd rfl (by first | exact .inl rfl | exact .inr rfl) (do_lst da_nil) ?_)
  refine dss_cons (ds_for (l := Kvg9.idsOf [a, b]) (enc := eN) (fun pre m δ => m = none ∧ ∃ s t, δ = [.v (eVer a), .v (eVer b), .own (.list ((pre.filterMap fun id => chg id (Kvg9.find a id) (Kvg9.find b id)).map eCh)), s, t])
    (di_lst (de_call (c_numbers_of T) (hr.mono (by decide)) (da_one (do_lst (da_cons (dv 0) (da_one (dv 1)))).de) ⟨[a, b], hz2, rfl, rfl⟩)) ⟨rfl, .u, .u, rfl⟩ ?_ ?_)
  · rintro pre x post m δ hv ⟨rfl, s, t, rfl⟩
    refine ⟨_, _, (dg_name sc_changes_between.nd (i := 3) rfl (by first | exact .inl rfl | exact .inr rfl)), dss_cons (ds_set (i := 4) sc_changes_between.nd rfl (by first | exact .inl rfl | exact .inr rfl) (de_call (c_change_of T) (hr.mono (by decide)) (da_cons (dv 3) (da_cons (de_call (c_feature_at T) (hr.mono (by decide)) (da_cons (dv 0) (da_one (dv 3))) ⟨a, x, rfl, rfl⟩) (da_one (de_call (c_feature_at T) (hr.mono (by decide)) (da_cons (dv 1) (da_one (dv 3))) ⟨b, x, rfl, rfl⟩)))) ⟨x, Kvg9.find a x, Kvg9.find b x, fun f g h1 h2 => ?_, rfl, rfl⟩) ?_)⟩
    · rw [ha f (find_mem h1).1, hb g (find_mem h2).1]
    · have hlen := ids_len [a, b]
      have hp : pre.length < 64 := by
        have := congrArg List.length hv
        rw [List.length_append, List.length_cons] at this
        omega
      have hf := List.length_filterMap_le (fun id => chg id (Kvg9.find a id) (Kvg9.find b id)) pre
      cases hc : chg x (Kvg9.find a x) (Kvg9.find b x) with
      | none =>
        refine dss_one (ds_if (dt_cmp (dc_notN (dv 4))) (fun hk => by cases hk) fun hk => dss_nil ⟨rfl, .v (eN x), .v (eOp eCh none), ?_⟩)
        rw [List.filterMap_append, show List.filterMap (fun id => chg id (Kvg9.find a id) (Kvg9.find b id)) [x] = [] by simp [hc], List.append_nil] <;> rfl
      | some c =>
        refine dss_one (ds_if (dt_cmp (dc_notN (dv 4))) (fun hk => dss_one (ds_append (i := 2) rfl (.inl rfl) rfl (dv 4) rfl (line_lt ?_) ⟨rfl, .v (eN x), .v (eOp eCh (some c)), ?_⟩)) fun hk => by cases hk)
        · rw [List.length_map]
          omega
        · rw [List.filterMap_append, show List.filterMap (fun id => chg id (Kvg9.find a id) (Kvg9.find b id)) [x] = [c] by simp [hc], List.map_append] <;> rfl
  · rintro m δ ⟨rfl, s, t, rfl⟩
    refine dss_freeze (2) rfl (dss_one (ds_ret (dv 2) ?_))
    show PyData.list _ = .list _
    rw [changes_is]
end
end Pv
/-! ### 12. the keeper -/
namespace Pv
open PySem PySem.Spec PyProof.Rows L2
open Kvg9 (Feature Version Vertex Commit Store Change)

/-! the mathematics -/
def Asc (l : List (Nat × Nat)) : Prop := l.Pairwise fun a b => a.1 < b.1
structure OkV (w : Nat) (v : Version) : Prop where
  srt : Srt v
  few : v.length ≤ 16
  ft : ∀ f ∈ v, f.attributes.length = w ∧ f.id ≤ 65535 ∧ 0 < f.vertices.length ∧ f.vertices.length ≤ 12 ∧ ∀ x ∈ f.vertices, Kvg9.isVertex x = true
theorem OkV.wd {w : Nat} {v : Version} (h : OkV w v) : Wd w v := fun f hf => (h.ft f hf).1
theorem OkV.nil (w : Nat) : OkV w [] := ⟨List.Pairwise.nil, by simp, fun f hf => by cases hf⟩
structure GoodS (s : Store) : Prop where
  w : s.attributeCount ≤ 8
  wk : OkV s.attributeCount s.working
  len : s.commits.length ≤ 40
  cm : ∀ k c, s.commit k = some c → OkV s.attributeCount c.version ∧ (∀ p ∈ c.parents, p < k ∧ ∃ q, s.commit p = some q) ∧ (k ≠ 0 → c.parents ≠ []) ∧ c.parents.length ≤ 2
  bs : Asc s.branches
  bl : s.branches.length ≤ 8
  be : ∀ e ∈ s.branches, ∃ c, s.commit e.2 = some c
  ts : Asc s.tags
  tl : s.tags.length ≤ 8
  te : ∀ e ∈ s.tags, ∃ c, s.commit e.2 = some c
  cu : ∃ c, Kvg9.lookup s.branches s.current = some c
def kfs (s : Store) : Ob := [("width", .int s.attributeCount), ("working", eVer s.working), ("commits", .list (s.commits.map (eOp eCm))), ("branches", .list (s.branches.map ePr)), ("tags", .list (s.tags.map ePr)), ("current", .int s.current)]
theorem lookup_cons (e : Nat × Nat) (l : List (Nat × Nat)) (n : Nat) : Kvg9.lookup (e :: l) n = if e.1 = n then some e.2 else Kvg9.lookup l n := by
  unfold Kvg9.lookup
  rw [List.find?_cons]
  by_cases c : e.1 = n
  · rw [if_pos c, show (e.1 == n) = true by simp [c]] <;> rfl
  · rw [if_neg c, show (e.1 == n) = false by simp [c]]
theorem lookup_pre {pre post : List (Nat × Nat)} {x : Nat × Nat} {n : Nat} (h : ∀ e ∈ pre, e.1 ≠ n) (hx : x.1 = n) : Kvg9.lookup (pre ++ x :: post) n = some x.2 := by
  induction pre with
  | nil => rw [List.nil_append, lookup_cons, if_pos hx]
  | cons g pre ih => rw [List.cons_append, lookup_cons, if_neg (h g List.mem_cons_self), ih fun e he => h e (List.mem_cons_of_mem _ he)]
theorem lookup_none {l : List (Nat × Nat)} {n : Nat} (h : ∀ e ∈ l, e.1 ≠ n) : Kvg9.lookup l n = none := by
  induction l with
  | nil => rfl
  | cons g l ih => rw [lookup_cons, if_neg (h g List.mem_cons_self), ih fun e he => h e (List.mem_cons_of_mem _ he)]
theorem lookup_mem {l : List (Nat × Nat)} {n c : Nat} (h : Kvg9.lookup l n = some c) : (n, c) ∈ l := by
  induction l with
  | nil => cases h
  | cons g l ih =>
    rw [lookup_cons] at h
    by_cases e : g.1 = n
    · rw [if_pos e] at h
      have e2 := Option.some.inj h
      rw [← e, ← e2]
      exact List.mem_cons_self
    · rw [if_neg e] at h
      exact List.mem_cons_of_mem _ (ih h)
theorem GoodS.hd {s : Store} (g : GoodS s) : Kvg9.lookup s.branches s.current = some s.head := by
  obtain ⟨c, h⟩ := g.cu
  unfold Store.head
  rw [h] <;> rfl
theorem GoodS.hc {s : Store} (g : GoodS s) : ∃ c, s.commit s.head = some c := g.be _ (lookup_mem g.hd)
theorem commit_get {s : Store} {k : Nat} {c : Commit} (h : s.commit k = some c) : s.commits[k]? = some (some c) := by
  unfold Store.commit at h
  rw [List.getD_eq_getElem?_getD] at h
  cases e : s.commits[k]? with
  | none => rw [e] at h; cases h
  | some o =>
    rw [e] at h
    exact congrArg some h
theorem commit_at {s : Store} {k : Nat} {c : Commit} (h : s.commit k = some c) : atI (s.commits.map (eOp eCm)) (k : Int) = some (eCm c) := at_get (by rw [List.getElem?_map, commit_get h] <;> rfl)
theorem commit_lt {s : Store} {k : Nat} {c : Commit} (h : s.commit k = some c) : k < s.commits.length := (List.getElem?_eq_some_iff.mp (commit_get h)).1
theorem version_of {s : Store} {k : Nat} {c : Commit} (h : s.commit k = some c) : s.version k = c.version := by
  unfold Store.version
  rw [h] <;> rfl
theorem parents_of {s : Store} {k : Nat} {c : Commit} (h : s.commit k = some c) : s.parents k = c.parents := by
  unfold Store.parents
  rw [h] <;> rfl
def withN (l : List (Nat × Nat)) (n c : Nat) : List (Nat × Nat) := l.filter (fun e => decide ((e.1 : Int) < n)) ++ [(n, c)] ++ l.filter (fun e => decide ((n : Int) < e.1))
theorem withN_is (n c : Nat) : ∀ l, Asc l → withN l n c = Kvg9.assign n c l
  | [], _ => rfl
  | g :: l, h => by
    obtain ⟨h1, h2⟩ := List.pairwise_cons.mp h
    have ih := withN_is n c l h2
    unfold withN at ih ⊢
    unfold Kvg9.assign
    by_cases c1 : n < g.1
    · rw [if_pos c1]
      have e1 : (g :: l).filter (fun e => decide ((e.1 : Int) < n)) = [] := List.filter_eq_nil_iff.mpr fun x hx => by
        rcases List.mem_cons.mp hx with e | hx
        · subst e
          simp; omega
        · have := h1 x hx
          simp; omega
      have e2 : (g :: l).filter (fun e => decide ((n : Int) < e.1)) = g :: l := List.filter_eq_self.mpr fun x hx => by
        rcases List.mem_cons.mp hx with e | hx
        · subst e
          simp; omega
        · have := h1 x hx
          simp; omega
      rw [e1, e2] <;> rfl
    · rw [if_neg c1]
      by_cases c2 : n = g.1
      · rw [if_pos c2]
        have e1 : (g :: l).filter (fun e => decide ((e.1 : Int) < n)) = [] := List.filter_eq_nil_iff.mpr fun x hx => by
          rcases List.mem_cons.mp hx with e | hx
          · subst e
            simp; omega
          · have := h1 x hx
            simp; omega
        have e2 : (g :: l).filter (fun e => decide ((n : Int) < e.1)) = l := by
          rw [List.filter_cons_of_neg (by simp; omega)]
          exact List.filter_eq_self.mpr fun x hx => by
            have := h1 x hx
            simp; omega
        rw [e1, e2] <;> rfl
      · rw [if_neg c2, List.filter_cons_of_pos (by simp; omega), List.filter_cons_of_neg (by simp; omega), ← ih] <;> rfl
theorem pr_vx (l : List (Nat × Nat)) : l.map ePr = l.map ePr := rfl

section
variable {P : Program} {w : World} {K : Fg} {mg : Str → Option Value} {base : Heap}
def rCommitNamed (ds : List PyData) (d : PyData) : Prop := ∃ (l : List (Nat × Nat)) (n : Nat), ds = [.list (l.map ePr), .int n] ∧ d = eOp eN (Kvg9.lookup l n)
theorem c_commit_named (T : Tx K mg) : Cal P w K mg base "commit_named" 1 ["rows", "name"] (spP K 2 rCommitNamed) :=
  T.pure 22 22 39 sc_commit_named (fun _ _ _ _ _ _ us hl => match us, hl with | [_, _], _ => rfl) fun cdv A outer s H E hr ds d _hl hR => by
  obtain ⟨l, n, rfl, rfl⟩ := hR
  refine dss_cons (ds_for (l := l) (enc := ePr) (fun pre m δ => m = none ∧ (∃ s t, δ = [.v (.list (l.map ePr)), .v (.int n), s, t]) ∧ ∀ e ∈ pre, e.1 ≠ n) (di_lst (dv 0)) ⟨rfl, ⟨.u, .u, rfl⟩, fun _ h => nomatch h⟩ ?_ ?_)
  · rintro pre x post m δ hv ⟨rfl, ⟨s, t, rfl⟩, hp⟩
    refine ⟨_, _, dg_tup (dgs_cons (dg_name sc_commit_named.nd (i := 2) rfl (by first | exact .inl rfl | exact .inr rfl)) (dgs_cons (dg_name sc_commit_named.nd (i := 3) rfl (by first | exact .inl rfl | exact .inr rfl)) dgs_nil)) rfl, dss_one (ds_if (dt_cmp (dc_eqI (dv 2) (dv 1))) (fun hk => dss_one (ds_ret (dv 3) ?_)) fun hk => dss_nil ?_)⟩
    · have hk : (x.1 : Int) = n := of_decide_eq_true hk
      show PyData.int x.2 = eOp eN (Kvg9.lookup l n)
      rw [hv, lookup_pre hp (by omega)] <;> rfl
    · have hk : ¬ (x.1 : Int) = n := of_decide_eq_false hk
      refine ⟨rfl, ⟨.v (.int x.1), .v (.int x.2), rfl⟩, fun e he => ?_⟩
      rcases List.mem_append.mp he with h | h
      · exact hp e h
      · rw [List.mem_singleton.mp h]
        omega
  · rintro m δ ⟨rfl, ⟨s, t, rfl⟩, hp⟩
    refine dss_one (ds_ret de_non ?_)
    show PyData.none = eOp eN (Kvg9.lookup l n)
    rw [lookup_none hp] <;> rfl
def rWithName (ds : List PyData) (d : PyData) : Prop := ∃ (l : List (Nat × Nat)) (n c : Nat), l.length ≤ 100 ∧ Asc l ∧ ds = [.list (l.map ePr), .int n, .int c] ∧ d = .list ((Kvg9.assign n c l).map ePr)
theorem c_with_name (T : Tx K mg) : Cal P w K mg base "with_name" 1 ["rows", "name", "commit"] (spP K 3 rWithName) :=
  T.pure 23 23 40 sc_with_name (fun _ _ _ _ _ _ us hl => match us, hl with | [_, _, _], _ => rfl) fun cdv A outer s H E hr ds d _hl hR => by
  obtain ⟨l, n, c, hv, hs, rfl, rfl⟩ := hR
  refine dss_cons (ds_setLc (i := 3) (l := l) (enc := ePr) (enc' := ePr) (q := fun e => decide ((e.1 : Int) < n)) (own := [("row", 5)]) sc_with_name.nd rfl rfl (sw_true rfl rfl rfl (by decide +kernel)) (di_lst (dv 0)) (line_le (by omega)) (blkOk_by (N := N_with_name) (sc := defScope (top 40)) (by decide +kernel))
    (fun e he => ⟨_, _, (by simp), fun s H C cl fp => ⟨(dg_name sc_with_name.nd (i := 5) rfl (by first | exact .inl rfl | exact .inr rfl)), dts_one (dt_cmp (dc_lt (de_ixT (dv 5) de_int rfl) (dv 1))), fun _ => ⟨(dv 5), rfl⟩⟩⟩) ?_)
  refine dss_cons (ds_setLc (i := 4) (l := l) (enc := ePr) (enc' := ePr) (q := fun e => decide ((n : Int) < e.1)) (own := [("row", 5)]) sc_with_name.nd rfl rfl (sw_true rfl rfl rfl (by decide +kernel)) (di_lst (dv 0)) (line_le (by omega)) (blkOk_by (N := N_with_name) (sc := defScope (top 40)) (by decide +kernel))
    (fun e he => ⟨_, _, (by simp), fun s H C cl fp => ⟨(dg_name sc_with_name.nd (i := 5) rfl (by first | exact .inl rfl | exact .inr rfl)), dts_one (dt_cmp (dc_gt (de_ixT (dv 5) de_int rfl) (dv 1))), fun _ => ⟨(dv 5), rfl⟩⟩⟩) ?_)
  have l1 := List.length_filter_le (fun e : Nat × Nat => decide ((e.1 : Int) < n)) l
  have l2 := List.length_filter_le (fun e : Nat × Nat => decide ((n : Int) < e.1)) l
  refine dss_one (ds_ret (do_cat (do_cat (dv 3) (do_lst (da_one (de_tup (da_cons (dv 1) (da_one (dv 2)))))).de (line_le ?_)).de (dv 4) (line_le ?_)).de ?_)
  · simp only [List.length_map, List.length_cons, List.length_nil]
    omega
  · simp only [List.length_append, List.length_map, List.length_cons, List.length_nil]
    omega
  · show PyData.list _ = .list _
    rw [← withN_is n c l hs]
    unfold withN
    rw [List.map_append, List.map_append] <;> rfl
def rWithoutName (ds : List PyData) (d : PyData) : Prop := ∃ (l : List (Nat × Nat)) (n : Nat), l.length ≤ 100 ∧ ds = [.list (l.map ePr), .int n] ∧ d = .list ((l.filter fun e => e.1 != n).map ePr)
theorem c_without_name (T : Tx K mg) : Cal P w K mg base "without_name" 1 ["rows", "name"] (spP K 2 rWithoutName) :=
  T.pure 24 24 41 sc_without_name (fun _ _ _ _ _ _ us hl => match us, hl with | [_, _], _ => rfl) fun cdv A outer s H E hr ds d _hl hR => by
  obtain ⟨l, n, hv, rfl, rfl⟩ := hR
  refine dss_one (ds_ret (do_fil (l := l) (enc := ePr) (enc' := ePr) (q := fun e => !decide ((e.1 : Int) = n)) (own := [("row", 2)]) sc_without_name.nd (di_lst (dv 0)) (line_le (by omega)) (blkOk_by (N := N_without_name) (sc := defScope (top 41)) (by decide +kernel))
    (fun e he => ⟨_, _, (by simp), fun s H C cl fp => ⟨(dg_name sc_without_name.nd (i := 2) rfl (by first | exact .inl rfl | exact .inr rfl)), dt_cmp (dc_neI (de_ixT (dv 2) de_int rfl) (dv 1)), fun _ => ⟨(dv 2), rfl⟩⟩⟩)).de ?_)
  show PyData.list _ = .list _
  have e : (fun e : Nat × Nat => !decide ((e.1 : Int) = n)) = fun e => e.1 != n := funext fun e => by
    by_cases c : e.1 = n
    · simp [c]
    · have c2 : ¬ (e.1 : Int) = n := by omega
      simp [c, c2]
  rw [e]

/-! the methods -/
/-- what a query gives -/
def rkQ (n : Nat) (f : Store → List PyData → PyData → Prop) (fs : Ob) (ds : List PyData) (d : PyData) (fs' : Ob) : Prop := ∃ s, GoodS s ∧ fs = kfs s ∧ fs' = kfs s ∧ f s ds d
def rkHead := rkQ 0 fun s ds d => d = .int s.head
theorem k_head (T : Tx K mg) : CalM P w K mg base (He.ga K "Keeper") "head" 2 ["self"] (spK K (He.ga K "Keeper") 0 rkHead) :=
  T.meth 26 1 (q := "Keeper.head") (T.m_head) sc_K_head (fun _ _ _ _ _ _ us hl => match us, hl with | [_], _ => rfl) rfl fun cdv A outer s H E ka hr fs ds d fs' _hl hR => by
  obtain ⟨s, g, rfl, rfl, rfl⟩ := hR
  obtain rfl := List.length_eq_zero_iff.mp _hl
  refine dss_one (ds_ret (de_call (c_commit_named T) (hr.mono (by decide)) (da_cons (de_fld (dkv 0) T.cls T.a_branches rfl) (da_one (de_fld (dkv 0) T.cls T.a_current rfl))) ⟨s.branches, s.current, rfl, rfl⟩) ⟨rfl, ?_⟩)
  rw [g.hd] <;> rfl
def rkHeadVersion := rkQ 0 fun s ds d => d = eVer (s.version s.head)
theorem k_head_version (T : Tx K mg) : CalM P w K mg base (He.ga K "Keeper") "head_version" 3 ["self"] (spK K (He.ga K "Keeper") 0 rkHeadVersion) :=
  T.meth 27 2 (q := "Keeper.head_version") (T.m_head_version) sc_K_head_version (fun _ _ _ _ _ _ us hl => match us, hl with | [_], _ => rfl) rfl fun cdv A outer s H E ka hr fs ds d fs' _hl hR => by
  obtain ⟨s, g, rfl, rfl, rfl⟩ := hR
  obtain rfl := List.length_eq_zero_iff.mp _hl
  obtain ⟨c, hc⟩ := g.hc
  refine dss_one (ds_ret (de_ixT (ds := [.tuple (c.parents.map eN), eVer c.version]) (de_ixL (de_fld (dkv 0) T.cls T.a_commits rfl) (de_meth0 (dkv 0) T.cls (k_head T) (hr.mono (by decide)) rfl ⟨s, g, rfl, rfl, rfl⟩) (commit_at hc)) de_int rfl) ⟨rfl, ?_⟩)
  rw [version_of hc]
def rkIsChanged := rkQ 0 fun s ds d => d = .bool s.isChanged
theorem k_is_changed (T : Tx K mg) : CalM P w K mg base (He.ga K "Keeper") "is_changed" 4 ["self"] (spK K (He.ga K "Keeper") 0 rkIsChanged) :=
  T.meth 28 3 (q := "Keeper.is_changed") (T.m_is_changed) sc_K_is_changed (fun _ _ _ _ _ _ us hl => match us, hl with | [_], _ => rfl) rfl fun cdv A outer s H E ka hr fs ds d fs' _hl hR => by
  obtain ⟨s, g, rfl, rfl, rfl⟩ := hR
  obtain rfl := List.length_eq_zero_iff.mp _hl
  refine dss_one (ds_ret (de_cmp (dc_neE eqe_Ver hr.units (de_fld (dkv 0) T.cls T.a_working rfl) (de_meth0 (dkv 0) T.cls (k_head_version T) (hr.mono (by decide)) rfl ⟨s, g, rfl, rfl, rfl⟩))) ⟨rfl, ?_⟩)
  unfold Store.isChanged
  by_cases e : s.working = s.version s.head <;> simp [e]
end
end Pv
/-! ### 13. the keeper's other methods -/
namespace Pv
open PySem PySem.Spec PyProof.Rows L2
open Kvg9 (Feature Version Vertex Commit Store Change)

/-! the mathematics -/
theorem assign_cons (n c : Nat) (e : Nat × Nat) (l : List (Nat × Nat)) : Kvg9.assign n c (e :: l) = if n < e.1 then (n, c) :: e :: l else if n = e.1 then (n, c) :: l else e :: Kvg9.assign n c l := rfl
theorem assign_mem (n c : Nat) : ∀ (l : List (Nat × Nat)) (e : Nat × Nat), e ∈ Kvg9.assign n c l → e = (n, c) ∨ e ∈ l
  | [], e, h => by
    left
    simpa [Kvg9.assign] using h
  | g :: l, e, h => by
    rw [assign_cons] at h
    by_cases c1 : n < g.1
    · rw [if_pos c1] at h
      rcases List.mem_cons.mp h with h | h
      · exact .inl h
      · exact .inr h
    · rw [if_neg c1] at h
      by_cases c2 : n = g.1
      · rw [if_pos c2] at h
        rcases List.mem_cons.mp h with h | h
        · exact .inl h
        · exact .inr (List.mem_cons_of_mem _ h)
      · rw [if_neg c2] at h
        rcases List.mem_cons.mp h with h | h
        · exact .inr (by rw [h]; exact List.mem_cons_self)
        · rcases assign_mem n c l e h with h | h
          · exact .inl h
          · exact .inr (List.mem_cons_of_mem _ h)
theorem assign_asc (n c : Nat) : ∀ l : List (Nat × Nat), Asc l → Asc (Kvg9.assign n c l)
  | [], _ => List.pairwise_singleton _ _
  | g :: l, h => by
    obtain ⟨h1, h2⟩ := List.pairwise_cons.mp h
    rw [assign_cons]
    by_cases c1 : n < g.1
    · rw [if_pos c1]
      refine List.pairwise_cons.mpr ⟨fun x hx => ?_, h⟩
      rcases List.mem_cons.mp hx with e | hx
      · rw [e]
        exact c1
      · exact Nat.lt_trans c1 (h1 x hx)
    · rw [if_neg c1]
      by_cases c2 : n = g.1
      · rw [if_pos c2]
        refine List.pairwise_cons.mpr ⟨fun x hx => ?_, h2⟩
        show n < x.1
        rw [c2]
        exact h1 x hx
      · rw [if_neg c2]
        refine List.pairwise_cons.mpr ⟨fun x hx => ?_, assign_asc n c l h2⟩
        rcases assign_mem n c l x hx with e | hx
        · rw [e]
          show g.1 < n
          omega
        · exact h1 x hx
theorem assign_len (n c : Nat) : ∀ l : List (Nat × Nat), (Kvg9.assign n c l).length ≤ l.length + 1
  | [] => by simp [Kvg9.assign]
  | g :: l => by
    have := assign_len n c l
    rw [assign_cons]
    split
    · simp
    · split
      · simp
      · simp only [List.length_cons]
        omega
theorem lookup_nil (n : Nat) : Kvg9.lookup [] n = none := rfl
theorem assign_len_in (n c : Nat) : ∀ l : List (Nat × Nat), Asc l → (∃ q, Kvg9.lookup l n = some q) → (Kvg9.assign n c l).length = l.length
  | [], _, ⟨q, h⟩ => by cases h
  | g :: l, ha, ⟨q, h⟩ => by
    obtain ⟨h1, h2⟩ := List.pairwise_cons.mp ha
    rw [assign_cons]
    by_cases c1 : n < g.1
    · have := lookup_mem h
      rcases List.mem_cons.mp this with e | hx
      · rw [← e] at c1
        exact absurd c1 (Nat.lt_irrefl _)
      · have := h1 _ hx
        have : g.1 < n := this
        omega
    · rw [if_neg c1]
      by_cases c2 : n = g.1
      · rw [if_pos c2] <;> rfl
      · rw [if_neg c2, List.length_cons, List.length_cons, assign_len_in n c l h2 ⟨q, by rw [lookup_cons, if_neg (Ne.symm c2)] at h; exact h⟩]
theorem lookup_assign (n c : Nat) : ∀ l : List (Nat × Nat), Kvg9.lookup (Kvg9.assign n c l) n = some c
  | [] => by simp [Kvg9.assign, Kvg9.lookup]
  | g :: l => by
    rw [assign_cons]
    by_cases c1 : n < g.1
    · rw [if_pos c1, lookup_cons, if_pos rfl]
    · rw [if_neg c1]
      by_cases c2 : n = g.1
      · rw [if_pos c2, lookup_cons, if_pos rfl]
      · rw [if_neg c2, lookup_cons, if_neg (Ne.symm c2), lookup_assign n c l]
theorem lookup_assign_ne {n m : Nat} (c : Nat) (hm : m ≠ n) : ∀ l : List (Nat × Nat), Kvg9.lookup (Kvg9.assign n c l) m = Kvg9.lookup l m
  | [] => by
    show Kvg9.lookup [(n, c)] m = none
    rw [lookup_cons, if_neg (Ne.symm hm)] <;> rfl
  | g :: l => by
    rw [assign_cons]
    by_cases c1 : n < g.1
    · rw [if_pos c1, lookup_cons, if_neg (Ne.symm hm)]
    · rw [if_neg c1]
      by_cases c2 : n = g.1
      · rw [if_pos c2, lookup_cons, if_neg (Ne.symm hm), lookup_cons, if_neg (by rw [← c2]; exact Ne.symm hm)]
      · rw [if_neg c2, lookup_cons, lookup_cons, lookup_assign_ne c hm l]
theorem GoodS.setW {s : Store} (g : GoodS s) {v : Version} (h : OkV s.attributeCount v) : GoodS { s with working := v } := ⟨g.w, h, g.len, g.cm, g.bs, g.bl, g.be, g.ts, g.tl, g.te, g.cu⟩
theorem GoodS.pt {s : Store} (g : GoodS s) {n : Nat} {c : Commit} (h : s.commit n = some c) : GoodS { s with branches := Kvg9.assign s.current n s.branches } := by
  refine ⟨g.w, g.wk, g.len, g.cm, assign_asc _ _ _ g.bs, ?_, fun e he => ?_, g.ts, g.tl, g.te, ⟨n, lookup_assign _ _ _⟩⟩
  · show (Kvg9.assign s.current n s.branches).length ≤ 8
    rw [assign_len_in _ _ _ g.bs g.cu]
    exact g.bl
  · rcases assign_mem _ _ _ _ he with e2 | he
    · rw [e2]
      exact ⟨c, h⟩
    · exact g.be e he
theorem GoodS.point {s : Store} (g : GoodS s) {n : Nat} {c : Commit} (h : s.commit n = some c) : GoodS { s with branches := Kvg9.assign s.current n s.branches, working := s.version n } :=
  GoodS.setW (g.pt h) (by rw [version_of h]; exact (g.cm n c h).1)
/-- what new parents must be -/
def OkP (s : Store) (ps : List Nat) : Prop := ps ≠ [] ∧ ps.length ≤ 2 ∧ ∀ p ∈ ps, ∃ q, s.commit p = some q
theorem commit_app {s : Store} (o : Option Commit) (k : Nat) : ({ s with commits := s.commits ++ [o] } : Store).commit k = if k = s.commits.length then o else s.commit k := by
  unfold Store.commit
  rw [List.getD_eq_getElem?_getD, List.getD_eq_getElem?_getD]
  by_cases c : k = s.commits.length
  · rw [if_pos c, c, List.getElem?_append_right (Nat.le_refl _), Nat.sub_self] <;> rfl
  · rw [if_neg c]
    by_cases c2 : k < s.commits.length
    · rw [List.getElem?_append_left c2]
    · rw [List.getElem?_eq_none (by rw [List.length_append, List.length_singleton]; omega), List.getElem?_eq_none (by omega)]
theorem commit_app_old {s : Store} {o : Option Commit} {k : Nat} {c : Commit} (h : s.commit k = some c) : ({ s with commits := s.commits ++ [o] } : Store).commit k = some c := by
  rw [commit_app, if_neg (by have := commit_lt h; omega), h]
theorem GoodS.add {s : Store} (g : GoodS s) (hl : s.commits.length < 40) {ps : List Nat} {v : Version} (hp : OkP s ps) (hv : OkV s.attributeCount v) : GoodS { s with commits := s.commits ++ [some ⟨ps, v⟩] } := by
  refine ⟨g.w, g.wk, by rw [List.length_append, List.length_singleton]; omega, fun k c h => ?_, g.bs, g.bl, fun e he => ?_, g.ts, g.tl, fun e he => ?_, g.cu⟩
  · rw [commit_app] at h
    by_cases c1 : k = s.commits.length
    · rw [if_pos c1] at h
      have e := Option.some.inj h
      subst e
      refine ⟨hv, fun p hq => ?_, fun _ => hp.1, hp.2.1⟩
      obtain ⟨q, hq⟩ := hp.2.2 p hq
      exact ⟨by rw [c1]; exact commit_lt hq, q, commit_app_old hq⟩
    · rw [if_neg c1] at h
      obtain ⟨h1, h2, h3, h4⟩ := g.cm k c h
      refine ⟨h1, fun p hp => ?_, h3, h4⟩
      obtain ⟨a, q, b⟩ := h2 p hp
      exact ⟨a, q, commit_app_old b⟩
  · obtain ⟨c, h⟩ := g.be e he
    exact ⟨c, commit_app_old h⟩
  · obtain ⟨c, h⟩ := g.te e he
    exact ⟨c, commit_app_old h⟩
theorem commit_new {s : Store} (c : Commit) : ({ s with commits := s.commits ++ [some c] } : Store).commit s.commits.length = some c := by rw [commit_app, if_pos rfl]
theorem GoodS.app {s : Store} (g : GoodS s) (hl : s.commits.length < 40) {ps : List Nat} {v : Version} (hp : OkP s ps) (hv : OkV s.attributeCount v) : GoodS (s.append ps v) := by
  have h := (g.add hl hp hv).point (commit_new ⟨ps, v⟩)
  rw [version_of (commit_new ⟨ps, v⟩)] at h
  exact h

section
variable {P : Program} {w : World} {K : Fg} {mg : Str → Option Value} {base : Heap}
def rkHasCommit := rkQ 1 fun s ds d => ∃ n : Nat, ds = [.int n] ∧ d = .bool (s.exists_ n)
theorem k_has_commit (T : Tx K mg) : CalM P w K mg base (He.ga K "Keeper") "has_commit" 1 ["self", "number"] (spK K (He.ga K "Keeper") 1 rkHasCommit) :=
  T.meth 29 4 (q := "Keeper.has_commit") (T.m_has_commit) sc_K_has_commit (fun _ _ _ _ _ _ us hl => match us, hl with | [_, _], _ => rfl) rfl fun cdv A outer s H E ka hr fs ds d fs' _hl hR => by
  obtain ⟨s, g, rfl, rfl, n, rfl, rfl⟩ := hR
  refine dss_one (ds_ret (de_and (k2 := s.exists_ n) (de_cmp (dc_lt (dv 1) (de_lenL T.n_len (de_fld (dkv 0) T.cls T.a_commits rfl)))) fun hk => de_one (DE.to (de_cmp (dc_notN (de_ixL (d := eOp eCm (s.commit n)) (de_fld (dkv 0) T.cls T.a_commits rfl) (dv 1) ?_))) ?_)) ⟨rfl, ?_⟩)
  · have hk := of_decide_eq_true hk
    rw [List.length_map] at hk
    refine at_get ?_
    have h : n < s.commits.length := by omega
    unfold Store.commit
    rw [List.getElem?_map, List.getD_eq_getElem?_getD, List.getElem?_eq_getElem h] <;> rfl
  · unfold Store.exists_
    cases s.commit n <;> rfl
  · rw [List.length_map]
    by_cases c : n < s.commits.length
    · have c2 : (n : Int) < s.commits.length := by omega
      rw [decide_eq_true c2] <;> rfl
    · have c2 : ¬ (n : Int) < s.commits.length := by omega
      have e : s.exists_ n = false := by
        unfold Store.exists_ Store.commit
        rw [List.getD_eq_getElem?_getD, List.getElem?_eq_none (by omega)] <;> rfl
      rw [decide_eq_false c2, e] <;> rfl
def rkVersionAt := rkQ 1 fun s ds d => ∃ n : Nat, ds = [.int n] ∧ d = eOp eVer (s.source n)
theorem k_version_at (T : Tx K mg) : CalM P w K mg base (He.ga K "Keeper") "version_at" 2 ["self", "number"] (spK K (He.ga K "Keeper") 1 rkVersionAt) :=
  T.meth 30 5 (q := "Keeper.version_at") (T.m_version_at) sc_K_version_at (fun _ _ _ _ _ _ us hl => match us, hl with | [_, _], _ => rfl) rfl fun cdv A outer s H E ka hr fs ds d fs' _hl hR => by
  obtain ⟨s, g, rfl, rfl, n, rfl, rfl⟩ := hR
  refine dss_cons (ds_if (dt_cmp (dc_eqI (dv 1) (de_gint T.i_WORKING))) (fun hk => dss_one (ds_ret (de_fld (dkv 0) T.cls T.a_working rfl) ⟨rfl, ?_⟩)) fun hk => dss_nil ?_)
  · have hk : (n : Int) = 4294967295 := of_decide_eq_true hk
    unfold Store.source
    rw [if_pos (show n = Kvg9.workingNumber by unfold Kvg9.workingNumber; omega)] <;> rfl
  · have hk : ¬ (n : Int) = 4294967295 := of_decide_eq_false hk
    have e : s.source n = (s.commit n).map Commit.version := by
      unfold Store.source
      rw [if_neg (show ¬ n = Kvg9.workingNumber by unfold Kvg9.workingNumber; omega)]
    rw [e]
    refine dss_one (ds_ret (de_if (dt_val (de_meth (dkv 0) T.cls (k_has_commit T) (hr.mono (by decide)) (da_one (dv 1)) rfl rfl ⟨s, g, rfl, rfl, n, rfl, rfl⟩)) (fun hx => ?_) fun hx => DE.to de_non ?_) ⟨rfl, rfl⟩)
    · cases q : s.commit n with
      | none =>
        unfold Store.exists_ at hx
        rw [q] at hx
        cases hx
      | some c => exact de_ixT (ds := [.tuple (c.parents.map eN), eVer c.version]) (de_ixL (de_fld (dkv 0) T.cls T.a_commits rfl) (dv 1) (commit_at q)) de_int rfl
    · cases q : s.commit n with
      | none => rfl
      | some c =>
        unfold Store.exists_ at hx
        rw [q] at hx
        cases hx
def rkSetWorking (fs : Ob) (ds : List PyData) (d : PyData) (fs' : Ob) : Prop := ∃ s v, fs = kfs s ∧ ds = [eVer v] ∧ d = .none ∧ fs' = kfs { s with working := v }
theorem k_set_working (T : Tx K mg) : CalM P w K mg base (He.ga K "Keeper") "set_working" 1 ["self", "version"] (spK K (He.ga K "Keeper") 1 rkSetWorking) :=
  T.meth 31 6 (q := "Keeper.set_working") (T.m_set_working) sc_K_set_working (fun _ _ _ _ _ _ us hl => match us, hl with | [_, _], _ => rfl) rfl fun cdv A outer s H E ka hr fs ds d fs' _hl hR => by
  obtain ⟨s, v, rfl, rfl, rfl, rfl⟩ := hR
  exact dss_one (ds_fld (dv 1) rfl (dkv 0) T.cls T.a_working (by show 6 < 1000; decide) ⟨rfl, rfl⟩)
def rkPoint (fs : Ob) (ds : List PyData) (d : PyData) (fs' : Ob) : Prop := ∃ s n c, GoodS s ∧ s.commit n = some c ∧ fs = kfs s ∧ ds = [.int (n : Nat)] ∧ d = .none ∧ fs' = kfs { s with branches := Kvg9.assign s.current n s.branches, working := s.version n }
theorem k_point (T : Tx K mg) : CalM P w K mg base (He.ga K "Keeper") "point" 2 ["self", "number"] (spK K (He.ga K "Keeper") 1 rkPoint) :=
  T.meth 32 7 (q := "Keeper.point") (T.m_point) sc_K_point (fun _ _ _ _ _ _ us hl => match us, hl with | [_, _], _ => rfl) rfl fun cdv A outer s H E ka hr fs ds d fs' _hl hR => by
  obtain ⟨s, n, c, g, hc, rfl, rfl, rfl, rfl⟩ := hR
  refine dss_cons (ds_fld (de_call (c_with_name T) (hr.mono (by decide)) (da_cons (de_fld (dkv 0) T.cls T.a_branches rfl) (da_cons (de_fld (dkv 0) T.cls T.a_current rfl) (da_one (dv 1)))) ⟨s.branches, s.current, n, by have := g.bl; omega, g.bs, rfl, rfl⟩) rfl (dkv 0) T.cls T.a_branches (by show 6 < 1000; decide) ?_)
  refine dss_one (ds_fld (fs := kfs { s with branches := Kvg9.assign s.current n s.branches }) (de_ixT (ds := [.tuple (c.parents.map eN), eVer c.version]) (de_ixL (de_fld (dkv 0) T.cls T.a_commits rfl) (dv 1) (commit_at hc)) de_int rfl) rfl (dkv 0) T.cls T.a_working (by show 6 < 1000; decide) ⟨?_, rfl⟩)
  rw [version_of hc] <;> rfl
def rkAddCommit (fs : Ob) (ds : List PyData) (d : PyData) (fs' : Ob) : Prop := ∃ s ps v, GoodS s ∧ s.commits.length < 40 ∧ OkP s ps ∧ OkV s.attributeCount v ∧ fs = kfs s ∧ ds = [.tuple (ps.map eN), eVer v] ∧ d = .int (s.commits.length : Nat) ∧ fs' = kfs (s.append ps v)
theorem k_add_commit (T : Tx K mg) : CalM P w K mg base (He.ga K "Keeper") "add_commit" 3 ["self", "parents", "version"] (spK K (He.ga K "Keeper") 2 rkAddCommit) :=
  T.meth 33 8 (q := "Keeper.add_commit") (T.m_add_commit) sc_K_add_commit (fun _ _ _ _ _ _ us hl => match us, hl with | [_, _, _], _ => rfl) rfl fun cdv A outer s H E ka hr fs ds d fs' _hl hR => by
  obtain ⟨s, ps, v, g, hl, hp, hv, rfl, rfl, rfl, rfl⟩ := hR
  have hlen : (s.commits ++ [some (⟨ps, v⟩ : Commit)]).length = s.commits.length + 1 := by rw [List.length_append, List.length_singleton]
  refine dss_cons (ds_fld (DE.to (do_cat (de_fld (dkv 0) T.cls T.a_commits rfl) (do_lst (da_one (de_tup (da_cons (dv 1) (da_one (dv 2)))))).de (line_le ?_)).de (show PyData.list _ = .list ((s.commits ++ [some (⟨ps, v⟩ : Commit)]).map (eOp eCm)) by rw [List.map_append] <;> rfl)) rfl (dkv 0) T.cls T.a_commits (by show 6 < 1000; decide) ?_)
  · rw [List.length_map, List.length_singleton]
    omega
  refine dss_cons (ds_expr (m := some (kfs { s with commits := s.commits ++ [some ⟨ps, v⟩] })) (de_meth (dkv 0) T.cls (k_point T) (hr.mono (by decide)) (da_one (DE.to (de_sub (de_lenL T.n_len (de_fld (dkv 0) T.cls T.a_commits rfl)) de_int) ?_)) rfl rfl ⟨{ s with commits := s.commits ++ [some ⟨ps, v⟩] }, s.commits.length, ⟨ps, v⟩, g.add hl hp hv, commit_new _, rfl, rfl, rfl, rfl⟩) ?_)
  · rw [List.length_map, hlen]
    show PyData.int _ = .int _
    congr 1
    omega
  refine dss_one (ds_ret (de_sub (de_lenL T.n_len (de_fld (dkv 0) T.cls T.a_commits rfl)) de_int) ⟨?_, ?_⟩)
  · rw [version_of (commit_new ⟨ps, v⟩)] <;> rfl
  · rw [List.length_map, hlen]
    show PyData.int _ = .int _
    congr 1
    omega
def rkAddBranch (fs : Ob) (ds : List PyData) (d : PyData) (fs' : Ob) : Prop := ∃ s n, GoodS s ∧ fs = kfs s ∧ ds = [.int (n : Nat)] ∧ d = .none ∧ fs' = kfs { s with branches := Kvg9.assign n s.head s.branches }
theorem k_add_branch (T : Tx K mg) : CalM P w K mg base (He.ga K "Keeper") "add_branch" 3 ["self", "name"] (spK K (He.ga K "Keeper") 1 rkAddBranch) :=
  T.meth 34 9 (q := "Keeper.add_branch") (T.m_add_branch) sc_K_add_branch (fun _ _ _ _ _ _ us hl => match us, hl with | [_, _], _ => rfl) rfl fun cdv A outer s H E ka hr fs ds d fs' _hl hR => by
  obtain ⟨s, n, g, rfl, rfl, rfl, rfl⟩ := hR
  exact dss_one (ds_fld (de_call (c_with_name T) (hr.mono (by decide)) (da_cons (de_fld (dkv 0) T.cls T.a_branches rfl) (da_cons (dv 1) (da_one (de_meth0 (dkv 0) T.cls (k_head T) (hr.mono (by decide)) rfl ⟨s, g, rfl, rfl, rfl⟩)))) ⟨s.branches, n, s.head, by have := g.bl; omega, g.bs, rfl, rfl⟩) rfl (dkv 0) T.cls T.a_branches (by show 6 < 1000; decide) ⟨rfl, rfl⟩)
def rkDropBranch (fs : Ob) (ds : List PyData) (d : PyData) (fs' : Ob) : Prop := ∃ s n, GoodS s ∧ fs = kfs s ∧ ds = [.int (n : Nat)] ∧ d = .none ∧ fs' = kfs { s with branches := s.branches.filter fun e => e.1 != n }
theorem k_drop_branch (T : Tx K mg) : CalM P w K mg base (He.ga K "Keeper") "drop_branch" 2 ["self", "name"] (spK K (He.ga K "Keeper") 1 rkDropBranch) :=
  T.meth 35 10 (q := "Keeper.drop_branch") (T.m_drop_branch) sc_K_drop_branch (fun _ _ _ _ _ _ us hl => match us, hl with | [_, _], _ => rfl) rfl fun cdv A outer s H E ka hr fs ds d fs' _hl hR => by
  obtain ⟨s, n, g, rfl, rfl, rfl, rfl⟩ := hR
  exact dss_one (ds_fld (de_call (c_without_name T) (hr.mono (by decide)) (da_cons (de_fld (dkv 0) T.cls T.a_branches rfl) (da_one (dv 1))) ⟨s.branches, n, by have := g.bl; omega, rfl, rfl⟩) rfl (dkv 0) T.cls T.a_branches (by show 6 < 1000; decide) ⟨rfl, rfl⟩)
def rkSwitch (fs : Ob) (ds : List PyData) (d : PyData) (fs' : Ob) : Prop := ∃ s n c, GoodS s ∧ Kvg9.lookup s.branches n = some c ∧ fs = kfs s ∧ ds = [.int (n : Nat)] ∧ d = .none ∧ fs' = kfs { s with current := n, working := s.version c }
theorem k_switch (T : Tx K mg) : CalM P w K mg base (He.ga K "Keeper") "switch" 4 ["self", "name"] (spK K (He.ga K "Keeper") 1 rkSwitch) :=
  T.meth 36 11 (q := "Keeper.switch") (T.m_switch) sc_K_switch (fun _ _ _ _ _ _ us hl => match us, hl with | [_, _], _ => rfl) rfl fun cdv A outer s H E ka hr fs ds d fs' _hl hR => by
  obtain ⟨s, n, c, g, hc, rfl, rfl, rfl, rfl⟩ := hR
  have g2 : GoodS { s with current := n } := ⟨g.w, g.wk, g.len, g.cm, g.bs, g.bl, g.be, g.ts, g.tl, g.te, ⟨c, hc⟩⟩
  have e : ({ s with current := n } : Store).head = c := Option.some.inj (g2.hd.symm.trans hc)
  refine dss_cons (ds_fld (dv 1) rfl (dkv 0) T.cls T.a_current (by show 6 < 1000; decide) ?_)
  refine dss_one (ds_fld (fs := kfs { s with current := n }) (de_meth0 (dkv 0) T.cls (k_head_version T) (hr.mono (by decide)) rfl ⟨_, g2, rfl, rfl, rfl⟩) rfl (dkv 0) T.cls T.a_working (by show 6 < 1000; decide) ⟨?_, rfl⟩)
  rw [e] <;> rfl
def rkPutTag (fs : Ob) (ds : List PyData) (d : PyData) (fs' : Ob) : Prop := ∃ s n c, GoodS s ∧ fs = kfs s ∧ ds = [.int (n : Nat), .int (c : Nat)] ∧ d = .none ∧ fs' = kfs { s with tags := Kvg9.assign n c s.tags }
theorem k_put_tag (T : Tx K mg) : CalM P w K mg base (He.ga K "Keeper") "put_tag" 2 ["self", "name", "number"] (spK K (He.ga K "Keeper") 2 rkPutTag) :=
  T.meth 37 12 (q := "Keeper.put_tag") (T.m_put_tag) sc_K_put_tag (fun _ _ _ _ _ _ us hl => match us, hl with | [_, _, _], _ => rfl) rfl fun cdv A outer s H E ka hr fs ds d fs' _hl hR => by
  obtain ⟨s, n, c, g, rfl, rfl, rfl, rfl⟩ := hR
  exact dss_one (ds_fld (de_call (c_with_name T) (hr.mono (by decide)) (da_cons (de_fld (dkv 0) T.cls T.a_tags rfl) (da_cons (dv 1) (da_one (dv 2)))) ⟨s.tags, n, c, by have := g.tl; omega, g.ts, rfl, rfl⟩) rfl (dkv 0) T.cls T.a_tags (by show 6 < 1000; decide) ⟨rfl, rfl⟩)
def rkDropTag (fs : Ob) (ds : List PyData) (d : PyData) (fs' : Ob) : Prop := ∃ s n, GoodS s ∧ fs = kfs s ∧ ds = [.int (n : Nat)] ∧ d = .none ∧ fs' = kfs { s with tags := s.tags.filter fun e => e.1 != n }
theorem k_drop_tag (T : Tx K mg) : CalM P w K mg base (He.ga K "Keeper") "drop_tag" 2 ["self", "name"] (spK K (He.ga K "Keeper") 1 rkDropTag) :=
  T.meth 38 13 (q := "Keeper.drop_tag") (T.m_drop_tag) sc_K_drop_tag (fun _ _ _ _ _ _ us hl => match us, hl with | [_, _], _ => rfl) rfl fun cdv A outer s H E ka hr fs ds d fs' _hl hR => by
  obtain ⟨s, n, g, rfl, rfl, rfl, rfl⟩ := hR
  exact dss_one (ds_fld (de_call (c_without_name T) (hr.mono (by decide)) (da_cons (de_fld (dkv 0) T.cls T.a_tags rfl) (da_one (dv 1))) ⟨s.tags, n, by have := g.tl; omega, rfl, rfl⟩) rfl (dkv 0) T.cls T.a_tags (by show 6 < 1000; decide) ⟨rfl, rfl⟩)
theorem nd_cm (o : Option Commit) : nd (eOp eCm o) = true := by cases o <;> rfl
theorem enum_is {α : Type} (f : α → PyData) (l : List α) : ((l.map f).zipIdx.map fun q => PyData.tuple [.int (q.2 : Nat), q.1]) = l.zipIdx.map fun q => .tuple [.int (q.2 : Nat), f q.1] := by
  rw [List.zipIdx_map, List.map_map] <;> rfl
def rkKeepCommits (fs : Ob) (ds : List PyData) (d : PyData) (fs' : Ob) : Prop := ∃ s dm, GoodS s ∧ fs = kfs s ∧ ds = [.dict (dk dm)] ∧ d = .none ∧ fs' = kfs { s with commits := s.commits.zipIdx.map fun q => if (dGet dm (q.2 : Nat)).isSome then q.1 else none }
theorem k_keep_commits (T : Tx K mg) : CalM P w K mg base (He.ga K "Keeper") "keep_commits" 1 ["self", "kept"] (spK K (He.ga K "Keeper") 1 rkKeepCommits) :=
  T.meth 39 14 (q := "Keeper.keep_commits") (T.m_keep_commits) sc_K_keep_commits (fun _ _ _ _ _ _ us hl => match us, hl with | [_, _], _ => rfl) rfl fun cdv A outer s H E ka hr fs ds d fs' _hl hR => by
  obtain ⟨s, dm, g, rfl, rfl, rfl, rfl⟩ := hR
  have hl := g.len
  refine dss_one (ds_fld (do_map (l := s.commits.zipIdx) (enc := fun q => .tuple [.int (q.2 : Nat), eOp eCm q.1]) (enc' := fun q => eOp eCm (if (dGet dm (q.2 : Nat)).isSome then q.1 else none)) (own := [("commit", 2), ("at", 3)]) sc_K_keep_commits.nd (DI.to (di_enum T.n_enumerate (de_fld (dkv 0) T.cls T.a_commits rfl)) (enum_is _ _)) (line_le (by rw [List.length_zipIdx]; omega)) (blkOk_by (N := N_K_keep_commits) (sc := defScope (inClass (top 42) 14)) (by decide +kernel))
    (fun q hq => ⟨_, _, (by simp), fun s H C cl fp => ⟨dg_tup (dgs_cons (dg_name sc_K_keep_commits.nd (i := 3) rfl (by first | exact .inl rfl | exact .inr rfl)) (dgs_cons (dg_name sc_K_keep_commits.nd (i := 2) rfl (by first | exact .inl rfl | exact .inr rfl)) dgs_nil)) rfl, de_if (dt_cmp (dc_inD (Room.units1 hr) (dv 3) (dv 1))) (fun hk => DE.to (dv 2) (by rw [if_pos hk])) (fun hk => DE.to de_non (by rw [if_neg (by rw [hk]; exact Bool.false_ne_true)] <;> rfl)), ?_⟩⟩)).de rfl (dkv 0) T.cls T.a_commits (by show 6 < 1000; decide) ⟨?_, rfl⟩)
  · exact nd_cm _
  · show _ = some (kfs _)
    unfold kfs
    rw [List.map_map] <;> rfl
end
end Pv
/-! ### 14. edits -/
namespace Pv
open PySem PySem.Spec PyProof.Rows L2
open Kvg9 (Feature Version Vertex Commit Store Change Operation Response)

/-! the mathematics -/
def eRes (r : Response) : PyData := .list ((Kvg9Neutral.resultRow r).map .int)
/-- what an operation does and tells -/
def rkOp (args : List PyData → Operation → Prop) (fs : Ob) (ds : List PyData) (d : PyData) (fs' : Ob) : Prop := ∃ s op, GoodS s ∧ args ds op ∧ fs = kfs s ∧ d = eRes (s.run op).2 ∧ fs' = kfs (s.run op).1
theorem all_pairs : ∀ (k : Nat) (vl : List Int), vl.length = 2 * k → (Kvg9.pairsOf vl).all Kvg9.isVertex = vl.all isC
  | 0, vl, h => by
    have e : vl = [] := List.length_eq_zero_iff.mp (by omega)
    subst e
    rfl
  | k + 1, [], h => by simp at h
  | k + 1, [x], h => by simp only [List.length_cons, List.length_nil] at h; omega
  | k + 1, x :: y :: vl, h => by
    have ih := all_pairs k vl (by simp at h; omega)
    show (Kvg9.isVertex (x, y) && (Kvg9.pairsOf vl).all Kvg9.isVertex) = (isC x && (isC y && vl.all isC))
    rw [ih]
    unfold Kvg9.isVertex isC Kvg9.maxCoordinate
    simp only [Bool.and_assoc] <;> rfl
theorem feat_iff (s : Store) (id : Nat) (al vl : List Int) : isFeat s.attributeCount id al vl = false ↔ (65535 < id ∨ al.length ≠ s.attributeCount ∨ al.all Kvg9.isAttribute = false ∨ vl.length % 2 ≠ 0 ∨ Kvg9.pairsOf vl = [] ∨ Kvg9.maxVertices < (Kvg9.pairsOf vl).length ∨ (Kvg9.pairsOf vl).all Kvg9.isVertex = false) := by
  by_cases hm : vl.length % 2 = 0
  · obtain ⟨k, hk⟩ : ∃ k, vl.length = 2 * k := ⟨vl.length / 2, by omega⟩
    have hp := pairs_len k vl hk
    have ha := all_pairs k vl hk
    have h0 : Kvg9.pairsOf vl = [] ↔ k = 0 := by rw [← hp, List.length_eq_zero_iff]
    rw [ha, h0, hp]
    unfold isFeat Kvg9.maxVertices
    rw [hk]
    cases al.all Kvg9.isAttribute <;> cases vl.all isC <;> simp <;> omega
  · unfold isFeat
    have c : ((vl.length : Int) % 2 = 1) := by omega
    simp [c, hm]
theorem feat_sz {s : Store} {id : Nat} {al vl : List Int} (h : isFeat s.attributeCount id al vl = true) : ∃ k, vl.length = 2 * k ∧ 0 < k ∧ k ≤ 12 := by
  have n : ¬ isFeat s.attributeCount id al vl = false := by rw [h]; exact Bool.noConfusion
  rw [feat_iff] at n
  simp only [not_or] at n
  obtain ⟨n1, n2, n3, n4, n5, n6, n7⟩ := n
  have hm : vl.length % 2 = 0 := by omega
  obtain ⟨k, hk⟩ : ∃ k, vl.length = 2 * k := ⟨vl.length / 2, by omega⟩
  have hp := pairs_len k vl hk
  rw [hp] at n6
  unfold Kvg9.maxVertices at n6
  refine ⟨k, hk, ?_, by omega⟩
  rcases Nat.eq_zero_or_pos k with e | e
  · rw [e] at hp
    exact absurd (List.length_eq_zero_iff.mp hp) n5
  · exact e
theorem run_put (s : Store) (id : Nat) (al vl : List Int) : s.run (.putFeature id al vl) = if isFeat s.attributeCount id al vl = false then (s, .error (-22)) else if Kvg9.find s.working id = none ∧ 16 ≤ s.working.length then (s, .error (-28)) else ({ s with working := Kvg9.insertFeature ⟨id, al, Kvg9.pairsOf vl⟩ s.working }, .number (if (Kvg9.find s.working id).isSome then 1 else 0)) := by
  show (if 65535 < id ∨ al.length ≠ s.attributeCount ∨ al.all Kvg9.isAttribute = false ∨ vl.length % 2 ≠ 0 ∨ Kvg9.pairsOf vl = [] ∨ Kvg9.maxVertices < (Kvg9.pairsOf vl).length ∨ (Kvg9.pairsOf vl).all Kvg9.isVertex = false then _ else _) = _
  by_cases c : isFeat s.attributeCount id al vl = false
  · rw [if_pos c, if_pos ((feat_iff s id al vl).mp c)]
  · rw [if_neg c, if_neg (fun z => c ((feat_iff s id al vl).mpr z))] <;> rfl
theorem remove_len (n : Nat) : ∀ v : Version, Srt v → (∃ f, Kvg9.find v n = some f) → (Kvg9.removeFeature v n).length = v.length - 1
  | [], _, ⟨f, h⟩ => by cases h
  | g :: v, hs, ⟨f, h⟩ => by
    obtain ⟨h1, h2⟩ := List.pairwise_cons.mp hs
    unfold Kvg9.removeFeature
    by_cases c : g.id = n
    · rw [List.filter_cons_of_neg (by simp [c]), List.filter_eq_self.mpr fun x hx => by
        have := h1 x hx
        simp
        omega] <;> simp
    · rw [List.filter_cons_of_pos (by simp [c])]
      rw [find_cons, if_neg c] at h
      have ih := remove_len n v h2 ⟨f, h⟩
      unfold Kvg9.removeFeature at ih
      have hp : 0 < v.length := List.length_pos_of_mem (find_mem h).1
      rw [List.length_cons, List.length_cons, ih]
      omega

section
variable {P : Program} {w : World} {K : Fg} {mg : Str → Option Value} {base : Heap}
def rkPut := rkOp fun ds op => ∃ (id : Nat) (al vl : List Int), al.length ≤ 100 ∧ vl.length ≤ 100 ∧ ds = [.int id, .list (al.map .int), .list (vl.map .int)] ∧ op = .putFeature id al vl
theorem c_put_feature (T : Tx K mg) : Cal P w K mg base "put_feature" 3 ["keeper", "number", "attributes", "numbers"] (spK K (He.ga K "Keeper") 3 rkPut) :=
  T.keep 14 14 29 sc_put_feature (fun _ _ _ _ _ _ us hl => match us, hl with | [_, _, _, _], _ => rfl) rfl fun cdv A outer s H E ka hr fs ds d fs' _hl hR => by
  obtain ⟨s, op, g, ⟨id, al, vl, h1, h2, rfl, rfl⟩, rfl, rfl, rfl⟩ := hR
  rw [run_put]
  have hw := g.wk.few
  refine dss_cons (ds_if (dt_not (dt_val (de_call (c_is_feature T) (hr.mono (by decide)) (da_cons (de_fld (dkv 0) T.cls T.a_width rfl) (da_cons (dv 1) (da_cons (dv 2) (da_one (dv 3))))) ⟨s.attributeCount, id, al, vl, h1, h2, rfl, rfl⟩))) (fun hk => dss_one (ds_ret (do_listF T.n_list (de_glst T.g_OUTSIDE_edits T.l_OUTSIDE_edits)).de ?_)) fun hk => dss_nil ?_)
  · have hk : isFeat s.attributeCount id al vl = false := by simpa using hk
    rw [if_pos hk]
    exact ⟨rfl, rfl⟩
  have hk : isFeat s.attributeCount id al vl = true := by simpa using hk
  rw [if_neg (by rw [hk]; exact Bool.noConfusion)]
  obtain ⟨k, e1, e2, e3⟩ := feat_sz hk
  refine dss_cons (ds_set (i := 4) sc_put_feature.nd rfl (by first | exact .inl rfl | exact .inr rfl) (de_cmp (dc_notN (de_call (c_feature_at T) (hr.mono (by decide)) (da_cons (de_fld (dkv 0) T.cls T.a_working rfl) (da_one (dv 1))) ⟨s.working, id, rfl, rfl⟩))) ?_)
  cases hf : Kvg9.find s.working id with
  | none =>
    refine dss_cons (ds_if (dt_w (dw_and (dt_not (dt_val (dv 4))) fun _ => dw_and1 (dt_cmp (dc_ge (de_lenT T.n_len (de_fld (dkv 0) T.cls T.a_working rfl)) (de_gint T.i_MOST_FEATURES))))) (fun hk => dss_one (ds_ret (do_listF T.n_list (de_glst T.g_TOO_MANY_edits T.l_TOO_MANY_edits)).de ?_)) fun hk2 => dss_nil ?_)
    · have h : (16 : Int) ≤ (s.working.map eFeat).length := of_decide_eq_true (by simpa [isN, eOp] using hk)
      rw [List.length_map] at h
      rw [if_pos ⟨rfl, by omega⟩]
      exact ⟨rfl, rfl⟩
    · have h : ¬ (16 : Int) ≤ (s.working.map eFeat).length := of_decide_eq_false (by simpa [isN, eOp] using hk2)
      rw [List.length_map] at h
      rw [if_neg (fun z => h (by have := z.2; omega))]
      refine dss_cons (ds_expr (de_meth (dkv 0) T.cls (k_set_working T) (hr.mono (by decide)) (da_one (de_call (c_with_feature T) (hr.mono (by decide)) (da_cons (de_fld (dkv 0) T.cls T.a_working rfl) (da_one (de_tup (da_cons (dv 1) (da_cons (de_tupleL T.n_tuple (dv 2)) (da_one (de_call (c_pairs_of T) (hr.mono (by decide)) (da_one (dv 3)) ⟨k, vl, e1, by omega, rfl, rfl⟩))))))) ⟨s.working, ⟨id, al, Kvg9.pairsOf vl⟩, by omega, g.wk.srt, rfl, rfl⟩)) rfl rfl ⟨s, _, rfl, rfl, rfl, rfl⟩) ?_)
      exact dss_one (ds_ret (do_if (dt_val (dv 4)) (fun h => by cases h) fun _ => do_lst (da_one de_int)).de ⟨rfl, rfl⟩)
  | some f =>
    rw [if_neg (fun z => by cases z.1)]
    refine dss_cons (ds_if (dt_w (dw_and (k2 := false) (dt_not (dt_val (dv 4))) fun h => by cases h)) (fun hk => by cases hk) fun hk2 => dss_nil ?_)
    refine dss_cons (ds_expr (de_meth (dkv 0) T.cls (k_set_working T) (hr.mono (by decide)) (da_one (de_call (c_with_feature T) (hr.mono (by decide)) (da_cons (de_fld (dkv 0) T.cls T.a_working rfl) (da_one (de_tup (da_cons (dv 1) (da_cons (de_tupleL T.n_tuple (dv 2)) (da_one (de_call (c_pairs_of T) (hr.mono (by decide)) (da_one (dv 3)) ⟨k, vl, e1, by omega, rfl, rfl⟩))))))) ⟨s.working, ⟨id, al, Kvg9.pairsOf vl⟩, by omega, g.wk.srt, rfl, rfl⟩)) rfl rfl ⟨s, _, rfl, rfl, rfl, rfl⟩) ?_)
    exact dss_one (ds_ret (do_if (dt_val (dv 4)) (fun _ => do_lst (da_one de_int)) fun h => by cases h).de ⟨rfl, rfl⟩)
def rkRemove := rkOp fun ds op => ∃ id : Nat, ds = [.int id] ∧ op = .removeFeature id
theorem c_remove_feature (T : Tx K mg) : Cal P w K mg base "remove_feature" 2 ["keeper", "number"] (spK K (He.ga K "Keeper") 1 rkRemove) :=
  T.keep 15 15 30 sc_remove_feature (fun _ _ _ _ _ _ us hl => match us, hl with | [_, _], _ => rfl) rfl fun cdv A outer s H E ka hr fs ds d fs' _hl hR => by
  obtain ⟨s, op, g, ⟨id, rfl, rfl⟩, rfl, rfl, rfl⟩ := hR
  have hw := g.wk.few
  have e : s.run (.removeFeature id) = if (Kvg9.find s.working id).isNone then (s, .error (-2)) else ({ s with working := Kvg9.removeFeature s.working id }, .number (s.working.length - 1)) := rfl
  cases hf : Kvg9.find s.working id with
  | none =>
    rw [hf] at e
    rw [show s.run (.removeFeature id) = (s, .error (-2)) from e]
    exact dss_cons (ds_if (dt_cmp (dc_isN (de_call (c_feature_at T) (hr.mono (by decide)) (da_cons (de_fld (dkv 0) T.cls T.a_working rfl) (da_one (dv 1))) ⟨s.working, id, rfl, rfl⟩))) (fun hk => dss_one (ds_ret (do_listF T.n_list (de_glst T.g_MISSING_edits T.l_MISSING_edits)).de ⟨rfl, rfl⟩)) fun hk => by rw [hf] at hk; cases hk)
  | some f =>
    rw [hf] at e
    rw [show s.run (.removeFeature id) = ({ s with working := Kvg9.removeFeature s.working id }, .number (s.working.length - 1)) from e]
    refine dss_cons (ds_if (dt_cmp (dc_isN (de_call (c_feature_at T) (hr.mono (by decide)) (da_cons (de_fld (dkv 0) T.cls T.a_working rfl) (da_one (dv 1))) ⟨s.working, id, rfl, rfl⟩))) (fun hk => by rw [hf] at hk; cases hk) fun hk => dss_nil ?_)
    refine dss_cons (ds_expr (de_meth (dkv 0) T.cls (k_set_working T) (hr.mono (by decide)) (da_one (de_call (c_without_feature T) (hr.mono (by decide)) (da_cons (de_fld (dkv 0) T.cls T.a_working rfl) (da_one (dv 1))) ⟨s.working, id, by omega, rfl, rfl⟩)) rfl rfl ⟨s, _, rfl, rfl, rfl, rfl⟩) ?_)
    refine dss_one (ds_ret (do_lst (da_one (de_lenT (ds := (Kvg9.removeFeature s.working id).map eFeat) T.n_len (de_fld (dkv 0) T.cls T.a_working rfl)))).de ⟨rfl, ?_⟩)
    rw [List.length_map, remove_len id _ g.wk.srt ⟨f, hf⟩] <;> rfl
theorem run_edit (s : Store) (id : Nat) (f : Feature → Except Int (Feature × Response)) : s.edit id f = match Kvg9.find s.working id with
  | none => (s, .error (-2))
  | some feature => match f feature with
    | .error code => (s, .error code)
    | .ok (g, r) => ({ s with working := Kvg9.insertFeature g s.working }, r) := rfl
def rkSetAttr := rkOp fun ds op => ∃ (id i : Nat) (v : Int), ds = [.int id, .int i, .int v] ∧ op = .setAttribute id i v
theorem c_set_attribute (T : Tx K mg) : Cal P w K mg base "set_attribute" 2 ["keeper", "number", "index", "value"] (spK K (He.ga K "Keeper") 3 rkSetAttr) :=
  T.keep 16 16 31 sc_set_attribute (fun _ _ _ _ _ _ us hl => match us, hl with | [_, _, _, _], _ => rfl) rfl fun cdv A outer s H E ka hr fs ds d fs' _hl hR => by
  obtain ⟨s, op, g, ⟨id, i, v, rfl, rfl⟩, rfl, rfl, rfl⟩ := hR
  have hw := g.wk.few
  have e : s.run (.setAttribute id i v) = s.edit id fun f => match f.attributes[i]? with
    | none => .error (-2)
    | some old => if Kvg9.isAttribute v then .ok ({ f with attributes := f.attributes.set i v }, ⟨0, [old]⟩) else .error (-22) := rfl
  rw [e, run_edit]
  refine dss_cons (ds_set (i := 4) sc_set_attribute.nd rfl (by first | exact .inl rfl | exact .inr rfl) (de_call (c_feature_at T) (hr.mono (by decide)) (da_cons (de_fld (dkv 0) T.cls T.a_working rfl) (da_one (dv 1))) ⟨s.working, id, rfl, rfl⟩) ?_)
  cases hf : Kvg9.find s.working id with
  | none => exact dss_cons (ds_if (dt_w (dw_or (k2 := true) (dt_cmp (dc_isN (dv 4))) fun h => by cases h)) (fun _ => dss_one (ds_ret (do_listF T.n_list (de_glst T.g_MISSING_edits T.l_MISSING_edits)).de ⟨rfl, rfl⟩)) fun h => by cases h)
  | some f =>
    obtain ⟨hm, rfl⟩ := find_mem hf
    have ha := (g.wk.ft f hm).1
    have hw8 := g.w
    refine dss_cons (ds_if (dt_w (dw_or (dt_cmp (dc_isN (dv 4))) fun _ => dw_or1 (dt_cmp (dc_ge (dv 2) (de_lenT (ds := f.attributes.map .int) T.n_len (de_ixT (dv 4) de_int rfl)))))) (fun hk => dss_one (ds_ret (do_listF T.n_list (de_glst T.g_MISSING_edits T.l_MISSING_edits)).de ?_)) fun hk => dss_nil ?_)
    · have h : ((f.attributes.map PyData.int).length : Int) ≤ i := of_decide_eq_true hk
      rw [List.length_map] at h
      simp only [List.getElem?_eq_none (show f.attributes.length ≤ i by omega)]
      exact ⟨rfl, rfl⟩
    have h : ¬ ((f.attributes.map PyData.int).length : Int) ≤ i := of_decide_eq_false hk
    rw [List.length_map] at h
    have hi : i < f.attributes.length := by omega
    simp only [List.getElem?_eq_getElem hi]
    refine dss_cons (ds_if (dt_not (dt_val (de_call (c_is_value T) (hr.mono (by decide)) (da_one (dv 3)) ⟨v, rfl, rfl⟩))) (fun hk => dss_one (ds_ret (do_listF T.n_list (de_glst T.g_OUTSIDE_edits T.l_OUTSIDE_edits)).de ?_)) fun hk => dss_nil ?_)
    · have hk : Kvg9.isAttribute v = false := by simpa using hk
      rw [if_neg (by rw [hk]; exact Bool.noConfusion)]
      exact ⟨rfl, rfl⟩
    have hk : Kvg9.isAttribute v = true := by simpa using hk
    rw [if_pos hk]
    refine dss_cons (ds_set (i := 5) sc_set_attribute.nd rfl (by first | exact .inl rfl | exact .inr rfl) (DE.to (de_call (c_put_at T) (hr.mono (by decide)) (da_cons (de_ixT (dv 4) de_int rfl) (da_cons (dv 2) (da_one (dv 3)))) ⟨f.attributes.map .int, i, .int v, by rw [List.length_map]; omega, by rw [List.length_map]; exact hi, rfl, rfl, rfl⟩) (show _ = eAt (f.attributes.set i v) by unfold eAt; rw [List.map_set])) ?_)
    refine dss_cons (ds_expr (de_meth (dkv 0) T.cls (k_set_working T) (hr.mono (by decide)) (da_one (de_call (c_with_feature T) (hr.mono (by decide)) (da_cons (de_fld (dkv 0) T.cls T.a_working rfl) (da_one (de_tup (da_cons (dv 1) (da_cons (dv 5) (da_one (de_ixT (dv 4) de_int rfl))))))) ⟨s.working, { f with attributes := f.attributes.set i v }, by omega, g.wk.srt, rfl, rfl⟩)) rfl rfl ⟨s, _, rfl, rfl, rfl, rfl⟩) ?_)
    exact dss_one (ds_ret (do_lst (da_cons de_int (da_one (de_ixT (d := .int f.attributes[i]) (de_ixT (dv 4) de_int rfl) (dv 2) (at_get (by rw [List.getElem?_map, List.getElem?_eq_getElem hi] <;> rfl)))))).de ⟨rfl, rfl⟩)
def rkPutVertices (fs : Ob) (ds : List PyData) (d : PyData) (fs' : Ob) : Prop := ∃ s f vs, GoodS s ∧ fs = kfs s ∧ ds = [eFeat f, eVs vs] ∧ d = .none ∧ fs' = kfs { s with working := Kvg9.insertFeature { f with vertices := vs } s.working }
theorem c_put_vertices (T : Tx K mg) : Cal P w K mg base "put_vertices" 2 ["keeper", "feature", "vertices"] (spK K (He.ga K "Keeper") 2 rkPutVertices) :=
  T.keep 17 17 32 sc_put_vertices (fun _ _ _ _ _ _ us hl => match us, hl with | [_, _, _], _ => rfl) rfl fun cdv A outer s H E ka hr fs ds d fs' _hl hR => by
  obtain ⟨s, f, vs, g, rfl, rfl, rfl, rfl⟩ := hR
  have hw := g.wk.few
  exact dss_one (ds_expr (de_meth (dkv 0) T.cls (k_set_working T) (hr.mono (by decide)) (da_one (de_call (c_with_feature T) (hr.mono (by decide)) (da_cons (de_fld (dkv 0) T.cls T.a_working rfl) (da_one (de_tup (da_cons (de_ixT (dv 1) de_int rfl) (da_cons (de_ixT (dv 1) de_int rfl) (da_one (dv 2))))))) ⟨s.working, { f with vertices := vs }, by omega, g.wk.srt, rfl, rfl⟩)) rfl rfl ⟨s, _, rfl, rfl, rfl, rfl⟩) ⟨rfl, rfl⟩)
end
end Pv
/-! ### 15. edits of vertices -/
namespace Pv
open PySem PySem.Spec PyProof.Rows L2
open Kvg9 (Feature Version Vertex Commit Store Change Operation Response)
theorem vx_set (l : List Vertex) (i : Nat) (x y : Int) : PyData.tuple ((l.map eVx).set i (.tuple [.int x, .int y])) = eVs (l.set i (x, y)) := by
  unfold eVs
  rw [List.map_set] <;> rfl
theorem vx_ahead (l : List Vertex) (i : Nat) (x y : Int) : PyData.tuple ((l.map eVx).take i ++ .tuple [.int x, .int y] :: (l.map eVx).drop i) = eVs (l.take i ++ (x, y) :: l.drop i) := by
  unfold eVs
  rw [List.map_append, List.map_cons, List.map_take, List.map_drop] <;> rfl
theorem vx_erase (l : List Vertex) (i : Nat) : PyData.tuple ((l.map eVx).eraseIdx i) = eVs (l.eraseIdx i) := by
  unfold eVs
  rw [List.eraseIdx_eq_take_drop_succ, List.eraseIdx_eq_take_drop_succ, List.map_append, List.map_take, List.map_drop]
theorem vertex_c (x y : Int) : Kvg9.isVertex (x, y) = (isC x && isC y) := by
  unfold Kvg9.isVertex isC Kvg9.maxCoordinate
  simp only [Bool.and_assoc] <;> rfl
section
variable {P : Program} {w : World} {K : Fg} {mg : Str → Option Value} {base : Heap}
def rkMove := rkOp fun ds op => ∃ (id i : Nat) (x y : Int), ds = [.int id, .int i, .int x, .int y] ∧ op = .moveVertex id i x y
theorem c_move_vertex (T : Tx K mg) : Cal P w K mg base "move_vertex" 3 ["keeper", "number", "index", "x", "y"] (spK K (He.ga K "Keeper") 4 rkMove) :=
  T.keep 18 18 33 sc_move_vertex (fun _ _ _ _ _ _ us hl => match us, hl with | [_, _, _, _, _], _ => rfl) rfl fun cdv A outer s H E ka hr fs ds d fs' _hl hR => by
  obtain ⟨s, op, g, ⟨id, i, x, y, rfl, rfl⟩, rfl, rfl, rfl⟩ := hR
  have e : s.run (.moveVertex id i x y) = s.edit id fun f => match f.vertices[i]? with
    | none => .error (-2)
    | some old => if Kvg9.isVertex (x, y) then .ok ({ f with vertices := f.vertices.set i (x, y) }, ⟨0, [old.1, old.2]⟩) else .error (-22) := rfl
  rw [e, run_edit]
  refine dss_cons (ds_set (i := 5) sc_move_vertex.nd rfl (by first | exact .inl rfl | exact .inr rfl) (de_call (c_feature_at T) (hr.mono (by decide)) (da_cons (de_fld (dkv 0) T.cls T.a_working rfl) (da_one (dv 1))) ⟨s.working, id, rfl, rfl⟩) ?_)
  cases hf : Kvg9.find s.working id with
  | none => exact dss_cons (ds_if (dt_w (dw_or (k2 := true) (dt_cmp (dc_isN (dv 5))) fun h => by cases h)) (fun _ => dss_one (ds_ret (do_listF T.n_list (de_glst T.g_MISSING_edits T.l_MISSING_edits)).de ⟨rfl, rfl⟩)) fun h => by cases h)
  | some f =>
    obtain ⟨hm, rfl⟩ := find_mem hf
    have hv := (g.wk.ft f hm).2.2.2.1
    refine dss_cons (ds_if (dt_w (dw_or (dt_cmp (dc_isN (dv 5))) fun _ => dw_or1 (dt_cmp (dc_ge (dv 2) (de_lenT (ds := f.vertices.map eVx) T.n_len (de_ixT (dv 5) de_int rfl)))))) (fun hk => dss_one (ds_ret (do_listF T.n_list (de_glst T.g_MISSING_edits T.l_MISSING_edits)).de ?_)) fun hk => dss_nil ?_)
    · have h : ((f.vertices.map eVx).length : Int) ≤ i := of_decide_eq_true hk
      rw [List.length_map] at h
      simp only [List.getElem?_eq_none (show f.vertices.length ≤ i by omega)]
      exact ⟨rfl, rfl⟩
    have h : ¬ ((f.vertices.map eVx).length : Int) ≤ i := of_decide_eq_false hk
    rw [List.length_map] at h
    have hi : i < f.vertices.length := by omega
    have hx : (f.vertices.map eVx)[i]? = some (eVx f.vertices[i]) := by rw [List.getElem?_map, List.getElem?_eq_getElem hi] <;> rfl
    simp only [List.getElem?_eq_getElem hi]
    refine dss_cons (ds_if (dt_w (dw_or (dt_not (dt_val (de_call (c_is_coordinate T) (hr.mono (by decide)) (da_one (dv 3)) ⟨x, rfl, rfl⟩))) fun _ => dw_or1 (dt_not (dt_val (de_call (c_is_coordinate T) (hr.mono (by decide)) (da_one (dv 4)) ⟨y, rfl, rfl⟩))))) (fun hk => dss_one (ds_ret (do_listF T.n_list (de_glst T.g_OUTSIDE_edits T.l_OUTSIDE_edits)).de ?_)) fun hk => dss_nil ?_)
    · have hk : Kvg9.isVertex (x, y) = false := by
        rw [vertex_c]
        revert hk
        cases isC x <;> cases isC y <;> simp
      rw [if_neg (by rw [hk]; exact Bool.noConfusion)]
      exact ⟨rfl, rfl⟩
    have hk : Kvg9.isVertex (x, y) = true := by
      rw [vertex_c]
      revert hk
      cases isC x <;> cases isC y <;> simp
    rw [if_pos hk]
    refine dss_cons (ds_expr (de_callK (c_put_vertices T) (hr.mono (by decide)) (dak_cons (dkv 0) (da_cons (dv 5) (da_one (DE.to (de_call (c_put_at T) (hr.mono (by decide)) (da_cons (de_ixT (dv 5) de_int rfl) (da_cons (dv 2) (da_one (de_tup (da_cons (dv 3) (da_one (dv 4))))))) ⟨f.vertices.map eVx, i, .tuple [.int x, .int y], by rw [List.length_map]; omega, by rw [List.length_map]; exact hi, rfl, rfl, rfl⟩) (vx_set f.vertices i x y))))) ⟨s, f, _, g, rfl, rfl, rfl, rfl⟩) ?_)
    exact dss_one (ds_ret (do_lst (da_cons de_int (da_cons (de_ixT (ds := [.int f.vertices[i].1, .int f.vertices[i].2]) (de_ixT (de_ixT (dv 5) de_int rfl) (dv 2) (at_get hx)) de_int rfl) (da_one (de_ixT (ds := [.int f.vertices[i].1, .int f.vertices[i].2]) (de_ixT (de_ixT (dv 5) de_int rfl) (dv 2) (at_get hx)) de_int rfl))))).de ⟨rfl, rfl⟩)
def rkInsert := rkOp fun ds op => ∃ (id i : Nat) (x y : Int), ds = [.int id, .int i, .int x, .int y] ∧ op = .insertVertex id i x y
theorem c_insert_vertex (T : Tx K mg) : Cal P w K mg base "insert_vertex" 3 ["keeper", "number", "index", "x", "y"] (spK K (He.ga K "Keeper") 4 rkInsert) :=
  T.keep 19 19 34 sc_insert_vertex (fun _ _ _ _ _ _ us hl => match us, hl with | [_, _, _, _, _], _ => rfl) rfl fun cdv A outer s H E ka hr fs ds d fs' _hl hR => by
  obtain ⟨s, op, g, ⟨id, i, x, y, rfl, rfl⟩, rfl, rfl, rfl⟩ := hR
  have e : s.run (.insertVertex id i x y) = s.edit id fun f => if f.vertices.length < i then .error (-2) else if Kvg9.isVertex (x, y) = false then .error (-22) else if Kvg9.maxVertices ≤ f.vertices.length then .error (-28)
    else .ok ({ f with vertices := f.vertices.take i ++ (x, y) :: f.vertices.drop i }, .number (f.vertices.length + 1)) := rfl
  rw [e, run_edit]
  refine dss_cons (ds_set (i := 5) sc_insert_vertex.nd rfl (by first | exact .inl rfl | exact .inr rfl) (de_call (c_feature_at T) (hr.mono (by decide)) (da_cons (de_fld (dkv 0) T.cls T.a_working rfl) (da_one (dv 1))) ⟨s.working, id, rfl, rfl⟩) ?_)
  cases hf : Kvg9.find s.working id with
  | none => exact dss_cons (ds_if (dt_w (dw_or (k2 := true) (dt_cmp (dc_isN (dv 5))) fun h => by cases h)) (fun _ => dss_one (ds_ret (do_listF T.n_list (de_glst T.g_MISSING_edits T.l_MISSING_edits)).de ⟨rfl, rfl⟩)) fun h => by cases h)
  | some f =>
    obtain ⟨hm, rfl⟩ := find_mem hf
    have hv := (g.wk.ft f hm).2.2.2.1
    refine dss_cons (ds_if (dt_w (dw_or (dt_cmp (dc_isN (dv 5))) fun _ => dw_or1 (dt_cmp (dc_gt (dv 2) (de_lenT (ds := f.vertices.map eVx) T.n_len (de_ixT (dv 5) de_int rfl)))))) (fun hk => dss_one (ds_ret (do_listF T.n_list (de_glst T.g_MISSING_edits T.l_MISSING_edits)).de ?_)) fun hk => dss_nil ?_)
    · have h : ((f.vertices.map eVx).length : Int) < i := of_decide_eq_true hk
      rw [List.length_map] at h
      simp only [if_pos (show f.vertices.length < i by omega)]
      exact ⟨rfl, rfl⟩
    have h : ¬ ((f.vertices.map eVx).length : Int) < i := of_decide_eq_false hk
    rw [List.length_map] at h
    simp only [if_neg (show ¬ f.vertices.length < i by omega)]
    refine dss_cons (ds_if (dt_w (dw_or (dt_not (dt_val (de_call (c_is_coordinate T) (hr.mono (by decide)) (da_one (dv 3)) ⟨x, rfl, rfl⟩))) fun _ => dw_or1 (dt_not (dt_val (de_call (c_is_coordinate T) (hr.mono (by decide)) (da_one (dv 4)) ⟨y, rfl, rfl⟩))))) (fun hk => dss_one (ds_ret (do_listF T.n_list (de_glst T.g_OUTSIDE_edits T.l_OUTSIDE_edits)).de ?_)) fun hk => dss_nil ?_)
    · have hk : Kvg9.isVertex (x, y) = false := by
        rw [vertex_c]
        revert hk
        cases isC x <;> cases isC y <;> simp
      simp only [if_pos hk]
      exact ⟨rfl, rfl⟩
    have hk : ¬ Kvg9.isVertex (x, y) = false := by
      rw [vertex_c]
      revert hk
      cases isC x <;> cases isC y <;> simp
    simp only [if_neg hk]
    refine dss_cons (ds_if (dt_cmp (dc_ge (de_lenT (ds := f.vertices.map eVx) T.n_len (de_ixT (dv 5) de_int rfl)) (de_gint T.i_MOST_VERTICES))) (fun hk => dss_one (ds_ret (do_listF T.n_list (de_glst T.g_TOO_MANY_edits T.l_TOO_MANY_edits)).de ?_)) fun hk2 => dss_nil ?_)
    · have h : (12 : Int) ≤ (f.vertices.map eVx).length := of_decide_eq_true hk
      rw [List.length_map] at h
      simp only [if_pos (show Kvg9.maxVertices ≤ f.vertices.length by unfold Kvg9.maxVertices; omega)]
      exact ⟨rfl, rfl⟩
    have h2 : ¬ (12 : Int) ≤ (f.vertices.map eVx).length := of_decide_eq_false hk2
    rw [List.length_map] at h2
    simp only [if_neg (show ¬ Kvg9.maxVertices ≤ f.vertices.length by unfold Kvg9.maxVertices; omega)]
    refine dss_cons (ds_expr (de_callK (c_put_vertices T) (hr.mono (by decide)) (dak_cons (dkv 0) (da_cons (dv 5) (da_one (DE.to (de_call (c_put_ahead T) (hr.mono (by decide)) (da_cons (de_ixT (dv 5) de_int rfl) (da_cons (dv 2) (da_one (de_tup (da_cons (dv 3) (da_one (dv 4))))))) ⟨f.vertices.map eVx, i, .tuple [.int x, .int y], by rw [List.length_map]; omega, by rw [List.length_map]; omega, rfl, rfl, rfl⟩) (vx_ahead f.vertices i x y))))) ⟨s, f, _, g, rfl, rfl, rfl, rfl⟩) ?_)
    refine dss_one (ds_ret (do_lst (da_one (de_add (de_lenT (ds := f.vertices.map eVx) T.n_len (de_ixT (dv 5) de_int rfl)) de_int))).de ⟨rfl, ?_⟩)
    rw [List.length_map] <;> rfl
def rkRemoveV := rkOp fun ds op => ∃ (id i : Nat), ds = [.int id, .int i] ∧ op = .removeVertex id i
theorem c_remove_vertex (T : Tx K mg) : Cal P w K mg base "remove_vertex" 3 ["keeper", "number", "index"] (spK K (He.ga K "Keeper") 2 rkRemoveV) :=
  T.keep 20 20 35 sc_remove_vertex (fun _ _ _ _ _ _ us hl => match us, hl with | [_, _, _], _ => rfl) rfl fun cdv A outer s H E ka hr fs ds d fs' _hl hR => by
  obtain ⟨s, op, g, ⟨id, i, rfl, rfl⟩, rfl, rfl, rfl⟩ := hR
  have e : s.run (.removeVertex id i) = s.edit id fun f => if f.vertices.length ≤ i then .error (-2) else if f.vertices.length = 1 then .error (-33) else .ok ({ f with vertices := f.vertices.eraseIdx i }, .number (f.vertices.length - 1)) := rfl
  rw [e, run_edit]
  refine dss_cons (ds_set (i := 3) sc_remove_vertex.nd rfl (by first | exact .inl rfl | exact .inr rfl) (de_call (c_feature_at T) (hr.mono (by decide)) (da_cons (de_fld (dkv 0) T.cls T.a_working rfl) (da_one (dv 1))) ⟨s.working, id, rfl, rfl⟩) ?_)
  cases hf : Kvg9.find s.working id with
  | none => exact dss_cons (ds_if (dt_w (dw_or (k2 := true) (dt_cmp (dc_isN (dv 3))) fun h => by cases h)) (fun _ => dss_one (ds_ret (do_listF T.n_list (de_glst T.g_MISSING_edits T.l_MISSING_edits)).de ⟨rfl, rfl⟩)) fun h => by cases h)
  | some f =>
    obtain ⟨hm, rfl⟩ := find_mem hf
    have hv := (g.wk.ft f hm).2.2.2.1
    refine dss_cons (ds_if (dt_w (dw_or (dt_cmp (dc_isN (dv 3))) fun _ => dw_or1 (dt_cmp (dc_ge (dv 2) (de_lenT (ds := f.vertices.map eVx) T.n_len (de_ixT (dv 3) de_int rfl)))))) (fun hk => dss_one (ds_ret (do_listF T.n_list (de_glst T.g_MISSING_edits T.l_MISSING_edits)).de ?_)) fun hk => dss_nil ?_)
    · have h : ((f.vertices.map eVx).length : Int) ≤ i := of_decide_eq_true hk
      rw [List.length_map] at h
      simp only [if_pos (show f.vertices.length ≤ i by omega)]
      exact ⟨rfl, rfl⟩
    have h : ¬ ((f.vertices.map eVx).length : Int) ≤ i := of_decide_eq_false hk
    rw [List.length_map] at h
    simp only [if_neg (show ¬ f.vertices.length ≤ i by omega)]
    refine dss_cons (ds_if (dt_cmp (dc_eqI (de_lenT (ds := f.vertices.map eVx) T.n_len (de_ixT (dv 3) de_int rfl)) de_int)) (fun hk => dss_one (ds_ret (do_listF T.n_list (de_glst T.g_ONLY_ONE T.l_ONLY_ONE)).de ?_)) fun hk2 => dss_nil ?_)
    · have h : ((f.vertices.map eVx).length : Int) = 1 := of_decide_eq_true hk
      rw [List.length_map] at h
      simp only [if_pos (show f.vertices.length = 1 by omega)]
      exact ⟨rfl, rfl⟩
    have h2 : ¬ ((f.vertices.map eVx).length : Int) = 1 := of_decide_eq_false hk2
    rw [List.length_map] at h2
    simp only [if_neg (show ¬ f.vertices.length = 1 by omega)]
    refine dss_cons (ds_expr (de_callK (c_put_vertices T) (hr.mono (by decide)) (dak_cons (dkv 0) (da_cons (dv 3) (da_one (DE.to (de_call (c_left_out T) (hr.mono (by decide)) (da_cons (de_ixT (dv 3) de_int rfl) (da_one (dv 2))) ⟨f.vertices.map eVx, i, by rw [List.length_map]; omega, by rw [List.length_map]; omega, rfl, rfl⟩) (vx_erase f.vertices i))))) ⟨s, f, _, g, rfl, rfl, rfl, rfl⟩) ?_)
    refine dss_one (ds_ret (do_lst (da_one (de_sub (de_lenT (ds := f.vertices.map eVx) T.n_len (de_ixT (dv 3) de_int rfl)) de_int))).de ⟨rfl, ?_⟩)
    rw [List.length_map]
    show PyData.list [.int _] = PyData.list [.int ((f.vertices.length - 1 : Nat) : Int)]
    rw [Int.natCast_sub (by omega)] <;> rfl
/-- the operations of edited: the number, the numbers behind it, the operation -/
inductive OpE : Int → List Int → Operation → Prop
  | rm (n : Nat) : OpE 2 [n] (.removeFeature n)
  | sa (n i : Nat) (v : Int) : OpE 3 [n, i, v] (.setAttribute n i v)
  | mv (n i : Nat) (x y : Int) : OpE 4 [n, i, x, y] (.moveVertex n i x y)
  | iv (n i : Nat) (x y : Int) : OpE 5 [n, i, x, y] (.insertVertex n i x y)
  | rv (n i : Nat) : OpE 6 [n, i] (.removeVertex n i)
def rkEdited := rkOp fun ds op => ∃ o l, OpE o l op ∧ ds = [.int o, .list (l.map .int)]
theorem c_edited (T : Tx K mg) : Cal P w K mg base "edited" 4 ["keeper", "operation", "numbers"] (spK K (He.ga K "Keeper") 2 rkEdited) :=
  T.keep 21 21 36 sc_edited (fun _ _ _ _ _ _ us hl => match us, hl with | [_, _, _], _ => rfl) rfl fun cdv A outer s H E ka hr fs ds d fs' _hl hR => by
  obtain ⟨s, op, g, ⟨o, l, ho, rfl⟩, rfl, rfl, rfl⟩ := hR
  cases ho with
  | rm n =>
    exact dss_cons (ds_if (dt_cmp (dc_eqI (dv 1) de_int)) (fun _ => dss_one (ds_ret (de_callK (c_remove_feature T) (hr.mono (by decide)) (dak_cons (dkv 0) (da_one (de_ixL (dv 2) de_int rfl))) ⟨s, _, g, ⟨n, rfl, rfl⟩, rfl, rfl, rfl⟩) ⟨rfl, rfl⟩)) fun hk => absurd hk (by decide))
  | sa n i v =>
    exact dss_cons (ds_if (dt_cmp (dc_eqI (dv 1) de_int)) (fun hk => absurd hk (by decide)) fun _ => dss_nil (dss_cons (ds_if (dt_cmp (dc_eqI (dv 1) de_int)) (fun _ => dss_one (ds_ret (de_callK (c_set_attribute T) (hr.mono (by decide)) (dak_cons (dkv 0) (da_cons (de_ixL (dv 2) de_int rfl) (da_cons (de_ixL (dv 2) de_int rfl) (da_one (de_ixL (dv 2) de_int rfl))))) ⟨s, _, g, ⟨n, i, v, rfl, rfl⟩, rfl, rfl, rfl⟩) ⟨rfl, rfl⟩)) fun hk => absurd hk (by decide))))
  | mv n i x y =>
    exact dss_cons (ds_if (dt_cmp (dc_eqI (dv 1) de_int)) (fun hk => absurd hk (by decide)) fun _ => dss_nil (dss_cons (ds_if (dt_cmp (dc_eqI (dv 1) de_int)) (fun hk => absurd hk (by decide)) fun _ => dss_nil (dss_cons (ds_if (dt_cmp (dc_eqI (dv 1) de_int)) (fun _ => dss_one (ds_ret (de_callK (c_move_vertex T) (hr.mono (by decide)) (dak_cons (dkv 0) (da_cons (de_ixL (dv 2) de_int rfl) (da_cons (de_ixL (dv 2) de_int rfl) (da_cons (de_ixL (dv 2) de_int rfl) (da_one (de_ixL (dv 2) de_int rfl)))))) ⟨s, _, g, ⟨n, i, x, y, rfl, rfl⟩, rfl, rfl, rfl⟩) ⟨rfl, rfl⟩)) fun hk => absurd hk (by decide))))))
  | iv n i x y =>
    exact dss_cons (ds_if (dt_cmp (dc_eqI (dv 1) de_int)) (fun hk => absurd hk (by decide)) fun _ => dss_nil (dss_cons (ds_if (dt_cmp (dc_eqI (dv 1) de_int)) (fun hk => absurd hk (by decide)) fun _ => dss_nil (dss_cons (ds_if (dt_cmp (dc_eqI (dv 1) de_int)) (fun hk => absurd hk (by decide)) fun _ => dss_nil (dss_cons (ds_if (dt_cmp (dc_eqI (dv 1) de_int)) (fun _ => dss_one (ds_ret (de_callK (c_insert_vertex T) (hr.mono (by decide)) (dak_cons (dkv 0) (da_cons (de_ixL (dv 2) de_int rfl) (da_cons (de_ixL (dv 2) de_int rfl) (da_cons (de_ixL (dv 2) de_int rfl) (da_one (de_ixL (dv 2) de_int rfl)))))) ⟨s, _, g, ⟨n, i, x, y, rfl, rfl⟩, rfl, rfl, rfl⟩) ⟨rfl, rfl⟩)) fun hk => absurd hk (by decide))))))))
  | rv n i =>
    exact dss_cons (ds_if (dt_cmp (dc_eqI (dv 1) de_int)) (fun hk => absurd hk (by decide)) fun _ => dss_nil (dss_cons (ds_if (dt_cmp (dc_eqI (dv 1) de_int)) (fun hk => absurd hk (by decide)) fun _ => dss_nil (dss_cons (ds_if (dt_cmp (dc_eqI (dv 1) de_int)) (fun hk => absurd hk (by decide)) fun _ => dss_nil (dss_cons (ds_if (dt_cmp (dc_eqI (dv 1) de_int)) (fun hk => absurd hk (by decide)) fun _ => dss_nil (dss_one (ds_ret (de_callK (c_remove_vertex T) (hr.mono (by decide)) (dak_cons (dkv 0) (da_cons (de_ixL (dv 2) de_int rfl) (da_one (de_ixL (dv 2) de_int rfl)))) ⟨s, _, g, ⟨n, i, rfl, rfl⟩, rfl, rfl, rfl⟩) ⟨rfl, rfl⟩)))))))))
end
end Pv
/-! ### 16. history -/
namespace Pv
open PySem PySem.Spec PyProof.Rows L2
open Kvg9 (Feature Version Vertex Commit Store Change Operation Response)

/-! the mathematics -/
theorem dGet_cons (p : Int × PyData) (m : List (Int × PyData)) (k : Int) : dGet (p :: m) k = if p.1 = k then some p.2 else dGet m k := by
  unfold dGet
  rw [List.find?_cons]
  by_cases c : p.1 = k
  · rw [if_pos c, decide_eq_true c] <;> rfl
  · rw [if_neg c, decide_eq_false c]
theorem dGet_any (k : Int) : ∀ m : List (Int × PyData), (m.any fun p => decide (p.1 = k)) = (dGet m k).isSome
  | [] => rfl
  | p :: m => by
    rw [List.any_cons, dGet_any k m, dGet_cons]
    by_cases c : p.1 = k
    · rw [if_pos c, decide_eq_true c] <;> rfl
    · rw [if_neg c, decide_eq_false c, Bool.false_or]
theorem dGet_app (q : Int × PyData) (j : Int) : ∀ m : List (Int × PyData), dGet (m ++ [q]) j = match dGet m j with
    | some d => some d
    | none => if q.1 = j then some q.2 else none
  | [] => by
    rw [List.nil_append, dGet_cons] <;> rfl
  | p :: m => by
    rw [List.cons_append, dGet_cons, dGet_cons]
    by_cases c : p.1 = j
    · rw [if_pos c, if_pos c]
    · rw [if_neg c, if_neg c, dGet_app q j m]
theorem dGet_rep (k : Int) (d : PyData) (j : Int) : ∀ m : List (Int × PyData), dGet (m.map fun p => if p.1 = k then (p.1, d) else p) j = if j = k then (dGet m k).map (fun _ => d) else dGet m j
  | [] => by
    show none = _
    split <;> rfl
  | p :: m => by
    rw [List.map_cons, dGet_cons, dGet_cons, dGet_cons, dGet_rep k d j m]
    by_cases c1 : j = k
    · subst c1
      by_cases c2 : p.1 = j
      · simp [c2]
      · simp [c2]
    · rw [if_neg c1, if_neg c1]
      by_cases c2 : p.1 = k
      · have c3 : ¬ p.1 = j := fun z => c1 (z.symm.trans c2)
        have c4 : ¬ k = j := fun z => c1 z.symm
        simp [c2, c4]
      · simp [c2]
theorem dGet_put (m : List (Int × PyData)) (k : Int) (d : PyData) (j : Int) : dGet (dPut m k d) j = if j = k then some d else dGet m j := by
  unfold dPut
  rw [dGet_any]
  cases e : dGet m k with
  | none =>
    rw [if_neg (by simp), dGet_app]
    by_cases c : j = k
    · subst c
      simp [e]
    · have c2 : ¬ k = j := fun z => c z.symm
      simp [c, c2]
      cases dGet m j <;> rfl
  | some x =>
    rw [if_pos (show (some x).isSome = true from Option.isSome_some), dGet_rep, e] <;> rfl
theorem dPut_len (m : List (Int × PyData)) (k : Int) (d : PyData) : (dPut m k d).length ≤ m.length + 1 := by
  unfold dPut
  split
  · rw [List.length_map]
    omega
  · rw [List.length_append, List.length_singleton]
    omega
def stepA (s : Store) (found : List Nat) (i : Nat) : List Nat := if found.contains i then found ++ (s.parents i).filter (fun p => !(found.contains p)) else found
def part (s : Store) (c : Nat) (pre : List Nat) : List Nat := pre.foldl (stepA s) [c]
def dwn (c : Nat) : List Nat := (List.range (c + 1)).reverse
theorem anc_part (s : Store) (c : Nat) : s.ancestors c = part s c (dwn c) := rfl
theorem part_app (s : Store) (c : Nat) (pre : List Nat) (x : Nat) : part s c (pre ++ [x]) = stepA s (part s c pre) x := by
  unfold part
  rw [List.foldl_append] <;> rfl
theorem step_mem (s : Store) (found : List Nat) (i k : Nat) : k ∈ stepA s found i ↔ k ∈ found ∨ (i ∈ found ∧ k ∈ s.parents i) := by
  unfold stepA
  by_cases c : i ∈ found
  · rw [if_pos (by simpa using c), List.mem_append, List.mem_filter]
    constructor
    · rintro (h | h)
      · exact .inl h
      · exact .inr ⟨c, h.1⟩
    · rintro (h | h)
      · exact .inl h
      · by_cases c2 : k ∈ found
        · exact .inl c2
        · exact .inr ⟨h.2, by simpa using c2⟩
  · rw [if_neg (by simpa using c)]
    constructor
    · exact .inl
    · rintro (h | h)
      · exact h
      · exact absurd h.1 c
theorem GoodS.par {s : Store} (g : GoodS s) {i p : Nat} (h : p ∈ s.parents i) : p < i ∧ ∃ q, s.commit p = some q := by
  unfold Store.parents at h
  cases e : s.commit i with
  | none => rw [e] at h; cases h
  | some c =>
    rw [e] at h
    exact (g.cm i c e).2.1 p h
theorem fold_keep {s : Store} (g : GoodS s) (x : Nat) : ∀ (l acc : List Nat), (∀ j ∈ l, j ≤ x) → (x ∈ l.foldl (stepA s) acc ↔ x ∈ acc)
  | [], acc, _ => Iff.rfl
  | j :: l, acc, h => by
    rw [List.foldl_cons, fold_keep g x l _ fun i hi => h i (List.mem_cons_of_mem _ hi), step_mem]
    constructor
    · rintro (h1 | ⟨_, h1⟩)
      · exact h1
      · have := (g.par h1).1
        have := h j List.mem_cons_self
        omega
    · exact .inl
theorem dwn_desc (c : Nat) : (dwn c).Pairwise (fun a b => b < a) := by
  unfold dwn
  rw [List.pairwise_reverse]
  exact List.pairwise_lt_range
theorem dwn_mem (c x : Nat) : x ∈ dwn c ↔ x ≤ c := by
  unfold dwn
  rw [List.mem_reverse, List.mem_range]
  omega
theorem dwn_le {c x : Nat} {pre post : List Nat} (h : dwn c = pre ++ x :: post) : ∀ j ∈ x :: post, j ≤ x := fun j hj => by
  have d := dwn_desc c
  rw [h] at d
  have := (List.pairwise_append.mp d).2.1
  rcases List.mem_cons.mp hj with e | hj
  · omega
  · have := (List.pairwise_cons.mp this).1 j hj
    omega
theorem part_fix {s : Store} (g : GoodS s) {c x : Nat} {pre post : List Nat} (h : dwn c = pre ++ x :: post) : x ∈ s.ancestors c ↔ x ∈ part s c pre := by
  rw [anc_part, h]
  unfold part
  rw [List.foldl_append]
  exact fold_keep g x _ _ (dwn_le h)
def anc (s : Store) (c : Nat) : List Nat := (dwn c).filter fun i => (s.ancestors c).contains i
theorem part_ok {s : Store} (g : GoodS s) {c : Nat} {q : Commit} (hc : s.commit c = some q) : ∀ (pre : List Nat), ∀ x ∈ part s c pre, x ≤ c ∧ ∃ q, s.commit x = some q := by
  have main : ∀ (l acc : List Nat), (∀ x ∈ acc, x ≤ c ∧ ∃ q, s.commit x = some q) → ∀ x ∈ l.foldl (stepA s) acc, x ≤ c ∧ ∃ q, s.commit x = some q := by
    intro l
    induction l with
    | nil => intro acc h; exact h
    | cons i l ih =>
      intro acc h
      rw [List.foldl_cons]
      refine ih _ fun x hx => ?_
      rcases (step_mem s acc i x).mp hx with h1 | ⟨h1, h2⟩
      · exact h x h1
      · have := (h i h1).1
        have := g.par h2
        exact ⟨by omega, this.2⟩
  intro pre
  exact main pre [c] fun x hx => by
    rw [List.mem_singleton.mp hx]
    exact ⟨Nat.le_refl _, q, hc⟩
theorem part_self (s : Store) (c : Nat) : ∀ (l acc : List Nat), c ∈ acc → c ∈ l.foldl (stepA s) acc
  | [], _, h => h
  | i :: l, acc, h => part_self s c l _ ((step_mem s acc i c).mpr (.inl h))
theorem anc_self (s : Store) (c : Nat) : c ∈ s.ancestors c := by
  rw [anc_part]
  exact part_self s c _ _ (List.mem_singleton.mpr rfl)
theorem anc_ok {s : Store} (g : GoodS s) {c : Nat} {q : Commit} (hc : s.commit c = some q) {x : Nat} (h : x ∈ s.ancestors c) : x ≤ c ∧ ∃ q, s.commit x = some q := by
  rw [anc_part] at h
  exact part_ok g hc _ x h
theorem anc_mem {s : Store} (g : GoodS s) {c : Nat} {q : Commit} (hc : s.commit c = some q) (x : Nat) : x ∈ anc s c ↔ x ∈ s.ancestors c := by
  unfold anc
  rw [List.mem_filter, dwn_mem]
  constructor
  · rintro ⟨_, h⟩
    simpa using h
  · intro h
    exact ⟨(anc_ok g hc h).1, by simpa using h⟩
/-- an ancestor's parents are ancestors -/
theorem anc_par {s : Store} (g : GoodS s) {c : Nat} {q : Commit} (hc : s.commit c = some q) {i p : Nat} (hi : i ∈ s.ancestors c) (hp : p ∈ s.parents i) : p ∈ s.ancestors c := by
  have hle := (anc_ok g hc hi).1
  obtain ⟨pre, post, h⟩ := List.append_of_mem ((dwn_mem c i).mpr hle)
  have h1 := (part_fix g h).mp hi
  rw [anc_part, h]
  unfold part
  rw [List.foldl_append, List.foldl_cons]
  have up : ∀ (l acc : List Nat), p ∈ acc → p ∈ l.foldl (stepA s) acc := fun l acc => part_self s p l acc
  exact up _ _ ((step_mem s _ i p).mpr (.inr ⟨h1, hp⟩))
theorem anc_zero {s : Store} (g : GoodS s) {c : Nat} {q : Commit} (hc : s.commit c = some q) : ∀ i, i ∈ s.ancestors c → 0 ∈ s.ancestors c := by
  intro i
  induction i using Nat.strongRecOn with
  | ind i ih =>
    intro hi
    rcases Nat.eq_zero_or_pos i with e | e
    · rw [← e]
      exact hi
    · obtain ⟨_, q2, h2⟩ := anc_ok g hc hi
      have ne := (g.cm i q2 h2).2.2.1 (by omega)
      obtain ⟨p, hp⟩ := List.exists_mem_of_ne_nil _ ne
      rw [← parents_of h2] at hp
      exact ih p (g.par hp).1 (anc_par g hc hi hp)
theorem fold_max : ∀ (l : List Nat) (a x : Nat), a ≤ x → (∀ y ∈ l, y ≤ x) → (x = a ∨ x ∈ l) → l.foldl max a = x
  | [], a, x, _, _, h => by
    rcases h with h | h
    · exact h.symm
    · cases h
  | y :: l, a, x, ha, h, hx => by
    rw [List.foldl_cons]
    have hy := h y List.mem_cons_self
    refine fold_max l (max a y) x (by omega) (fun z hz => h z (List.mem_cons_of_mem _ hz)) ?_
    rcases hx with e | hx
    · left
      omega
    · rcases List.mem_cons.mp hx with e | hx
      · left
        omega
      · exact .inr hx
theorem dwn_enc (c : Nat) : (List.range (c + 1)).map (fun (t : Nat) => PyData.int ((c : Int) + (t : Nat) * (-1))) = (dwn c).map eN := by
  unfold dwn
  refine List.ext_getElem (by simp) fun i h1 h2 => ?_
  simp only [List.length_map, List.length_range] at h1
  rw [List.getElem_map, List.getElem_map, List.getElem_reverse, List.getElem_range, List.getElem_range]
  unfold eN
  congr 1
  simp only [List.length_range]
  omega
theorem rgc_down : ∀ c : Nat, c < 60 → RgC (c : Int) (-1) (-1) (c + 1) := by
  intro k hk
  have h : ∀ k : Nat, k < 60 → (Builtin.Range.small (k : Int) (-1) (-1) = true ∧ Builtin.Range.rangeSize (k : Int) (-1) (-1) = k + 1) := by decide
  exact ⟨by decide, by decide, (h k hk).1, (h k hk).2⟩
theorem GoodS.lt40 {s : Store} (g : GoodS s) {k : Nat} {c : Commit} (h : s.commit k = some c) : k < 40 := by
  have := commit_lt h
  have := g.len
  omega

theorem de_neg {X : Cx} {F : Fr} {m m1 : Option Ob} {δ : List Sl} {a : Expr} {pos : Pos} {i : Int} (h : DE X F m δ a (.int i) m1) : DE X F m δ (.UnaryOp .USub a pos) (.int (-i)) m1 := fun G H σ R Q q =>
  ⟨_, pe_un un_neg pe_w, h G H σ R _ fun v G1 H1 x1 rv => ⟨i, rv.int, q _ _ _ x1 (.inl (.int _))⟩⟩
section
variable {P : Program} {w : World} {K : Fg} {mg : Str → Option Value} {base : Heap}
abbrev eCs (s : Store) : PyData := .list (s.commits.map (eOp eCm))
def rAncestors (ds : List PyData) (d : PyData) : Prop := ∃ (s : Store) (c : Nat) (q : Commit), GoodS s ∧ s.commit c = some q ∧ ds = [eCs s, .int c] ∧ d = .list ((anc s c).map eN)
theorem c_ancestors_of (T : Tx K mg) : Cal P w K mg base "ancestors_of" 1 ["commits", "number"] (spP K 2 rAncestors) :=
  T.pure 40 25 48 sc_ancestors_of (fun _ _ _ _ _ _ us hl => match us, hl with | [_, _], _ => rfl) fun cdv A outer s H E hr ds d _hl hR => by
  obtain ⟨s, c, q, g, hc, rfl, rfl⟩ := hR
  have h40 := g.lt40 hc
  refine dss_cons (ds_new (i := 2) sc_ancestors_of.nd rfl (by first | exact .inl rfl | exact .inr rfl) (do_lst da_nil) ?_)
  refine dss_cons (ds_newD1 (i := 3) sc_ancestors_of.nd rfl (by first | exact .inl rfl | exact .inr rfl) (dv 1) de_bl rfl ?_)
  refine dss_cons (ds_for (l := dwn c) (enc := eN) (fun pre m δ => m = none ∧ ∃ dm t1 t2, δ = [.v (eCs s), .v (.int c), .own (.list ((pre.filter fun i => (s.ancestors c).contains i).map eN)), .own (.dict (dk dm)), t1, t2] ∧ dm.length ≤ 1 + 2 * pre.length ∧ ∀ k : Nat, (dGet dm k).isSome = true ↔ k ∈ part s c pre)
    (DI.to (di_range3 T.n_range (dv 1) (de_neg de_int) (de_neg de_int) (rgc_down c (by omega))) (dwn_enc c)) ⟨rfl, _, .u, .u, rfl, by simp, fun k => ?_⟩ ?_ ?_)
  · rw [dGet_cons]
    by_cases e : (c : Int) = k
    · have e2 : k = c := by omega
      simp [part, e2]
    · have e2 : ¬ k = c := by omega
      simp [part, e2, e, dGet]
  · rintro pre x post m δ hv ⟨rfl, dm, t1, t2, rfl, hl, hk⟩
    have hpl : pre.length ≤ c := by
      have := congrArg List.length hv
      unfold dwn at this
      rw [List.length_reverse, List.length_range, List.length_append, List.length_cons] at this
      omega
    have hx := part_fix g hv
    refine ⟨_, _, (dg_name sc_ancestors_of.nd (i := 4) rfl (by first | exact .inl rfl | exact .inr rfl)), dss_one (ds_if (dt_cmp (dc_inO (i := 3) (dm := dm) (Room.units1 hr) (dv 4) rfl (.inl rfl) rfl)) (fun hi => ?_) fun hi => dss_nil ?_)⟩
    · have hin : x ∈ part s c pre := (hk x).mp hi
      obtain ⟨_, q2, h2⟩ := part_ok g hc pre x hin
      have hp := (g.cm x q2 h2).2.2.2
      refine dss_cons (ds_append (i := 2) rfl (.inl rfl) rfl (dv 4) rfl (line_lt ?_) ?_)
      · have := List.length_filter_le (fun i => (s.ancestors c).contains i) pre
        rw [List.length_map]
        omega
      refine dss_one (ds_for (l := q2.parents) (enc := eN) (fun pr m δ => m = none ∧ ∃ dm t1 t2, δ = [.v (eCs s), .v (.int c), .own (.list ((pre.filter fun i => (s.ancestors c).contains i).map eN ++ [.int x])), .own (.dict (dk dm)), t1, t2] ∧ dm.length ≤ 1 + 2 * pre.length + pr.length ∧ ∀ k : Nat, (dGet dm k).isSome = true ↔ k ∈ part s c pre ∨ k ∈ pr)
        (di_tup (de_ixT (ds := [.tuple (q2.parents.map eN), eVer q2.version]) (de_ixL (dv 0) (dv 4) (commit_at h2)) de_int rfl)) ⟨rfl, dm, _, t2, rfl, hl, fun k => by simp [hk k]⟩ ?_ ?_)
      · rintro pr y po m δ hw ⟨rfl, dm2, t3, t4, rfl, hl2, hk2⟩
        have hprl : pr.length ≤ 2 := by
          have := congrArg List.length hw
          rw [List.length_append, List.length_cons] at this
          omega
        refine ⟨_, _, (dg_name sc_ancestors_of.nd (i := 5) rfl (by first | exact .inl rfl | exact .inr rfl)), dss_one (ds_dput (i := 3) (dm := dm2) (Room.units1 hr) rfl (.inl rfl) rfl de_bl rfl (dv 5) (line_lt (by omega)) ⟨rfl, dPut dm2 y (.bool true), _, _, rfl, ?_, fun k => ?_⟩)⟩
        · have := dPut_len dm2 y (.bool true)
          rw [List.length_append, List.length_singleton]
          omega
        · rw [dGet_put, List.mem_append, List.mem_singleton]
          by_cases e : (k : Int) = y
          · have e2 : k = y := by omega
            simp [e2]
          · have e2 : ¬ k = y := by omega
            rw [if_neg e, hk2 k]
            simp [e2]
      · rintro m δ ⟨rfl, dm2, t3, t4, rfl, hl2, hk2⟩
        refine ⟨rfl, dm2, t3, t4, ?_, by rw [List.length_append, List.length_singleton]; omega, fun k => ?_⟩
        · rw [List.filter_append, List.filter_cons_of_pos (by simpa using hx.mpr hin), List.filter_nil, List.map_append] <;> rfl
        · rw [hk2 k, part_app, step_mem, parents_of h2]
          constructor
          · rintro (h | h)
            · exact .inl h
            · exact .inr ⟨hin, h⟩
          · rintro (h | h)
            · exact .inl h
            · exact .inr h.2
    · have hin : ¬ x ∈ part s c pre := fun z => by rw [(hk x).mpr z] at hi; cases hi
      refine ⟨rfl, dm, .v (eN x), t2, ?_, by rw [List.length_append, List.length_singleton]; omega, fun k => ?_⟩
      · rw [List.filter_append, List.filter_cons_of_neg (by simpa using fun z => hin (hx.mp z)), List.filter_nil, List.append_nil] <;> rfl
      · rw [hk k, part_app, step_mem]
        constructor
        · exact .inl
        · rintro (h | h)
          · exact h
          · exact absurd h.1 hin
  · rintro m δ ⟨rfl, dm, t1, t2, rfl, hl, hk⟩
    exact dss_freeze (2) rfl (dss_one (ds_ret (dv 2) rfl))
end
end Pv
/-! ### 17. common ancestors, origins, what is reached -/
namespace Pv
open PySem PySem.Spec PyProof.Rows L2
open Kvg9 (Feature Version Vertex Commit Store Change Operation Response)

/-! the mathematics -/
theorem anc_desc (s : Store) (c : Nat) : (anc s c).Pairwise (fun a b => b < a) := List.Pairwise.filter _ (dwn_desc c)
theorem common_is {s : Store} (g : GoodS s) {a b : Nat} {q r : Commit} (ha : s.commit a = some q) (hb : s.commit b = some r) {x : Nat} {pre post : List Nat} (h : anc s a = pre ++ x :: post) (hx : x ∈ anc s b) (hp : ∀ y ∈ pre, ¬ y ∈ anc s b) : s.commonAncestor a b = x := by
  unfold Store.commonAncestor
  refine fold_max _ 0 x (Nat.zero_le _) (fun y hy => ?_) (.inr ?_)
  · obtain ⟨h1, h2⟩ := List.mem_filter.mp hy
    have h2 : y ∈ s.ancestors b := by simpa using h2
    have h3 := (anc_mem g ha y).mpr h1
    rw [h] at h3
    rcases List.mem_append.mp h3 with h4 | h4
    · exact absurd ((anc_mem g hb y).mpr h2) (hp y h4)
    · have d := anc_desc s a
      rw [h] at d
      have d := (List.pairwise_append.mp d).2.1
      rcases List.mem_cons.mp h4 with e | h4
      · omega
      · have := (List.pairwise_cons.mp d).1 y h4
        omega
  · refine List.mem_filter.mpr ⟨(anc_mem g ha x).mp (by rw [h]; simp), ?_⟩
    simpa using (anc_mem g hb x).mp hx
theorem common_ex {s : Store} (g : GoodS s) {a b : Nat} {q r : Commit} (ha : s.commit a = some q) (hb : s.commit b = some r) : ¬ ∀ y ∈ anc s a, ¬ y ∈ anc s b := fun h =>
  h 0 ((anc_mem g ha 0).mpr (anc_zero g ha a (anc_self s a))) ((anc_mem g hb 0).mpr (anc_zero g hb b (anc_self s b)))
/-- what stands at an id in a commit -/
def prp {α : Type} (s : Store) (id : Nat) (f : Feature → α) (c : Nat) : Option α := (Kvg9.find (s.version c) id).map f
def ear {α : Type} [DecidableEq α] (s : Store) (id : Nat) (f : Feature → α) (c : Nat) : Option Nat := (s.parents c).find? fun p => decide (prp s id f p = prp s id f c)
theorem find_first {α : Type} {p : α → Bool} {pre post : List α} {x : α} (h : ∀ y ∈ pre, p y = false) (hx : p x = true) : (pre ++ x :: post).find? p = some x := by
  rw [List.find?_append, List.find?_eq_none.mpr (fun y hy => by rw [h y hy]; exact Bool.noConfusion), List.find?_cons_of_pos hx] <;> rfl
theorem org_step {α : Type} [DecidableEq α] (s : Store) (id : Nat) (f : Feature → α) (n c : Nat) (h : prp s id f c ≠ none) : s.origin id f (n + 1) c = match ear s id f c with
    | some p => s.origin id f n p
    | none => c := by
  unfold prp at h
  show (match (Kvg9.find (s.version c) id).map f with
    | none => c
    | some v => match (s.parents c).find? fun p => (Kvg9.find (s.version p) id).map f == some v with
      | some p => s.origin id f n p
      | none => c) = _
  unfold ear prp
  cases e : (Kvg9.find (s.version c) id).map f with
  | none => exact absurd e h
  | some v =>
    have q : (fun p => (Kvg9.find (s.version p) id).map f == some v) = fun p => decide ((Kvg9.find (s.version p) id).map f = some v) := funext fun p => by
      by_cases c2 : (Kvg9.find (s.version p) id).map f = some v <;> simp [c2]
    simp only [q]
theorem ear_ok {α : Type} [DecidableEq α] {s : Store} (g : GoodS s) {id : Nat} {f : Feature → α} {c p : Nat} (h : ear s id f c = some p) : p < c ∧ (∃ q, s.commit p = some q) ∧ prp s id f p = prp s id f c := by
  unfold ear at h
  have h1 := g.par (List.mem_of_find?_eq_some h)
  have h2 := List.find?_some h
  exact ⟨h1.1, h1.2, of_decide_eq_true h2⟩
theorem find_good {s : Store} (g : GoodS s) {c n : Nat} {q : Commit} {f : Feature} (hc : s.commit c = some q) (h : Kvg9.find q.version n = some f) : f.attributes.length = s.attributeCount := ((g.cm c q hc).1.ft f (find_mem h).1).1

section
variable {P : Program} {w : World} {K : Fg} {mg : Str → Option Value} {base : Heap}
def rCommon (ds : List PyData) (d : PyData) : Prop := ∃ (s : Store) (a b : Nat) (q r : Commit), GoodS s ∧ s.commit a = some q ∧ s.commit b = some r ∧ ds = [eCs s, .int a, .int b] ∧ d = .int (s.commonAncestor a b : Nat)
theorem c_common_ancestor_of (T : Tx K mg) : Cal P w K mg base "common_ancestor_of" 2 ["commits", "first", "second"] (spP K 3 rCommon) :=
  T.pure 41 26 49 sc_common_ancestor_of (fun _ _ _ _ _ _ us hl => match us, hl with | [_, _, _], _ => rfl) fun cdv A outer s H E hr ds d _hl hR => by
  obtain ⟨s, a, b, q, r, g, ha, hb, rfl, rfl⟩ := hR
  refine dss_cons (ds_set (i := 3) sc_common_ancestor_of.nd rfl (by first | exact .inl rfl | exact .inr rfl) (de_call (c_ancestors_of T) (hr.mono (by decide)) (da_cons (dv 0) (da_one (dv 2))) ⟨s, b, r, g, hb, rfl, rfl⟩) ?_)
  refine dss_cons (ds_for (l := anc s a) (enc := eN) (fun pre m δ => m = none ∧ (∃ t, δ = [.v (eCs s), .v (.int a), .v (.int b), .v (.list ((anc s b).map eN)), t]) ∧ ∀ y ∈ pre, ¬ y ∈ anc s b) (di_lst (de_call (c_ancestors_of T) (hr.mono (by decide)) (da_cons (dv 0) (da_one (dv 1))) ⟨s, a, q, g, ha, rfl, rfl⟩)) ⟨rfl, ⟨_, rfl⟩, fun _ h => nomatch h⟩ ?_ ?_)
  · rintro pre x post m δ hv ⟨rfl, ⟨t, rfl⟩, hp⟩
    have hin : (decide ((x : Int) ∈ (anc s b).map fun n : Nat => (n : Int)) = true) ↔ x ∈ anc s b := by
      rw [decide_eq_true_eq, List.mem_map]
      constructor
      · rintro ⟨y, hy, e⟩
        have e2 : y = x := by omega
        rw [← e2]
        exact hy
      · intro h
        exact ⟨x, h, rfl⟩
    refine ⟨_, _, (dg_name sc_common_ancestor_of.nd (i := 4) rfl (by first | exact .inl rfl | exact .inr rfl)), dss_one (ds_if (dt_cmp (dc_inL (ns := (anc s b).map fun n : Nat => (n : Int)) (dv 4) (DE.to (dv 3) (by rw [List.map_map] <;> rfl)))) (fun hk => dss_one (ds_ret (dv 4) ?_)) fun hk => dss_nil ?_)⟩
    · rw [common_is g ha hb hv (hin.mp hk) hp] <;> rfl
    · refine ⟨rfl, ⟨.v (eN x), rfl⟩, fun y hy => ?_⟩
      rcases List.mem_append.mp hy with h | h
      · exact hp y h
      · rw [List.mem_singleton.mp h]
        intro z
        rw [hin.mpr z] at hk
        cases hk
  · rintro m δ ⟨rfl, ⟨t, rfl⟩, hp⟩
    exact absurd hp (common_ex g ha hb)
def rAttrIn (ds : List PyData) (d : PyData) : Prop := ∃ (s : Store) (c n i : Nat) (q : Commit), GoodS s ∧ s.commit c = some q ∧ i < s.attributeCount ∧ ds = [eCs s, .int c, .int n, .int i] ∧ d = eOp .int (prp s n (fun f => f.attributes.getD i 0) c)
theorem c_attribute_in (T : Tx K mg) : Cal P w K mg base "attribute_in" 2 ["commits", "commit", "number", "index"] (spP K 4 rAttrIn) :=
  T.pure 42 27 50 sc_attribute_in (fun _ _ _ _ _ _ us hl => match us, hl with | [_, _, _, _], _ => rfl) fun cdv A outer s H E hr ds d _hl hR => by
  obtain ⟨s, c, n, i, q, g, hc, hi, rfl, rfl⟩ := hR
  have e : prp s n (fun f => f.attributes.getD i 0) c = (Kvg9.find q.version n).map fun f => f.attributes.getD i 0 := by
    unfold prp
    rw [version_of hc]
  rw [e]
  refine dss_cons (ds_set (i := 4) sc_attribute_in.nd rfl (by first | exact .inl rfl | exact .inr rfl) (de_call (c_feature_at T) (hr.mono (by decide)) (da_cons (de_ixT (ds := [.tuple (q.parents.map eN), eVer q.version]) (de_ixL (dv 0) (dv 1) (commit_at hc)) de_int rfl) (da_one (dv 2))) ⟨q.version, n, rfl, rfl⟩) ?_)
  cases hf : Kvg9.find q.version n with
  | none => exact dss_one (ds_ret (de_if (dt_cmp (dc_isN (dv 4))) (fun _ => de_non) fun h => by cases h) rfl)
  | some f =>
    have hl := find_good g hc hf
    refine dss_one (ds_ret (de_if (dt_cmp (dc_isN (dv 4))) (fun h => by cases h) fun _ => de_ixT (ds := f.attributes.map .int) (d := .int (f.attributes.getD i 0)) (de_ixT (dv 4) de_int rfl) (dv 3) (at_get ?_)) rfl)
    rw [List.getElem?_map, List.getElem?_eq_getElem (by omega), List.getD_eq_getElem?_getD, List.getElem?_eq_getElem (by omega)] <;> rfl
def rVertIn (ds : List PyData) (d : PyData) : Prop := ∃ (s : Store) (c n : Nat) (q : Commit), GoodS s ∧ s.commit c = some q ∧ ds = [eCs s, .int c, .int n] ∧ d = eOp eVs (prp s n Feature.vertices c)
theorem c_vertices_in (T : Tx K mg) : Cal P w K mg base "vertices_in" 2 ["commits", "commit", "number"] (spP K 3 rVertIn) :=
  T.pure 43 28 51 sc_vertices_in (fun _ _ _ _ _ _ us hl => match us, hl with | [_, _, _], _ => rfl) fun cdv A outer s H E hr ds d _hl hR => by
  obtain ⟨s, c, n, q, g, hc, rfl, rfl⟩ := hR
  have e : prp s n Feature.vertices c = (Kvg9.find q.version n).map Feature.vertices := by
    unfold prp
    rw [version_of hc]
  rw [e]
  refine dss_cons (ds_set (i := 3) sc_vertices_in.nd rfl (by first | exact .inl rfl | exact .inr rfl) (de_call (c_feature_at T) (hr.mono (by decide)) (da_cons (de_ixT (ds := [.tuple (q.parents.map eN), eVer q.version]) (de_ixL (dv 0) (dv 1) (commit_at hc)) de_int rfl) (da_one (dv 2))) ⟨q.version, n, rfl, rfl⟩) ?_)
  cases hf : Kvg9.find q.version n with
  | none => exact dss_one (ds_ret (de_if (dt_cmp (dc_isN (dv 3))) (fun _ => de_non) fun h => by cases h) rfl)
  | some f => exact dss_one (ds_ret (de_if (dt_cmp (dc_isN (dv 3))) (fun h => by cases h) fun _ => de_ixT (dv 3) de_int rfl) rfl)
def rParAttr (ds : List PyData) (d : PyData) : Prop := ∃ (s : Store) (c n i : Nat) (q : Commit), GoodS s ∧ s.commit c = some q ∧ i < s.attributeCount ∧ ds = [eCs s, .int c, .int n, .int i] ∧ d = eOp eN (ear s n (fun f => f.attributes.getD i 0) c)
theorem c_parent_with_attribute (T : Tx K mg) : Cal P w K mg base "parent_with_attribute" 3 ["commits", "commit", "number", "index"] (spP K 4 rParAttr) :=
  T.pure 44 29 52 sc_parent_with_attribute (fun _ _ _ _ _ _ us hl => match us, hl with | [_, _, _, _], _ => rfl) fun cdv A outer s H E hr ds d _hl hR => by
  obtain ⟨s, c, n, i, q, g, hc, hi, rfl, rfl⟩ := hR
  refine dss_cons (ds_set (i := 4) sc_parent_with_attribute.nd rfl (by first | exact .inl rfl | exact .inr rfl) (de_call (c_attribute_in T) (hr.mono (by decide)) (da_cons (dv 0) (da_cons (dv 1) (da_cons (dv 2) (da_one (dv 3))))) ⟨s, c, n, i, q, g, hc, hi, rfl, rfl⟩) ?_)
  refine dss_cons (ds_for (l := q.parents) (enc := eN) (fun pre m δ => m = none ∧ (∃ t, δ = [.v (eCs s), .v (.int c), .v (.int n), .v (.int i), .v (eOp .int (prp s n (fun f => f.attributes.getD i 0) c)), t]) ∧ ∀ y ∈ pre, decide (prp s n (fun f => f.attributes.getD i 0) y = prp s n (fun f => f.attributes.getD i 0) c) = false)
    (di_tup (de_ixT (ds := [.tuple (q.parents.map eN), eVer q.version]) (de_ixL (dv 0) (dv 1) (commit_at hc)) de_int rfl)) ⟨rfl, ⟨_, rfl⟩, fun _ h => nomatch h⟩ ?_ ?_)
  · rintro pre x post m δ hv ⟨rfl, ⟨t, rfl⟩, hp⟩
    have hx : x ∈ s.parents c := by
      rw [parents_of hc, hv]
      simp
    obtain ⟨_, q2, h2⟩ := g.par hx
    refine ⟨_, _, (dg_name sc_parent_with_attribute.nd (i := 5) rfl (by first | exact .inl rfl | exact .inr rfl)), dss_one (ds_if (dt_cmp (dc_eqE eqe_ON hr.units (de_call (c_attribute_in T) (hr.mono (by decide)) (da_cons (dv 0) (da_cons (dv 5) (da_cons (dv 2) (da_one (dv 3))))) ⟨s, x, n, i, q2, g, h2, hi, rfl, rfl⟩) (dv 4))) (fun hk => dss_one (ds_ret (dv 5) ?_)) fun hk => dss_nil ?_)⟩
    · unfold ear
      rw [parents_of hc, hv, find_first hp hk] <;> rfl
    · refine ⟨rfl, ⟨.v (eN x), rfl⟩, fun y hy => ?_⟩
      rcases List.mem_append.mp hy with h | h
      · exact hp y h
      · rw [List.mem_singleton.mp h]
        exact hk
  · rintro m δ ⟨rfl, ⟨t, rfl⟩, hp⟩
    refine dss_one (ds_ret de_non ?_)
    unfold ear
    rw [parents_of hc, List.find?_eq_none.mpr (fun y hy => by rw [hp y hy]; exact Bool.noConfusion)] <;> rfl
def rParVert (ds : List PyData) (d : PyData) : Prop := ∃ (s : Store) (c n : Nat) (q : Commit), GoodS s ∧ s.commit c = some q ∧ ds = [eCs s, .int c, .int n] ∧ d = eOp eN (ear s n Feature.vertices c)
theorem c_parent_with_vertices (T : Tx K mg) : Cal P w K mg base "parent_with_vertices" 3 ["commits", "commit", "number"] (spP K 3 rParVert) :=
  T.pure 45 30 53 sc_parent_with_vertices (fun _ _ _ _ _ _ us hl => match us, hl with | [_, _, _], _ => rfl) fun cdv A outer s H E hr ds d _hl hR => by
  obtain ⟨s, c, n, q, g, hc, rfl, rfl⟩ := hR
  refine dss_cons (ds_set (i := 3) sc_parent_with_vertices.nd rfl (by first | exact .inl rfl | exact .inr rfl) (de_call (c_vertices_in T) (hr.mono (by decide)) (da_cons (dv 0) (da_cons (dv 1) (da_one (dv 2)))) ⟨s, c, n, q, g, hc, rfl, rfl⟩) ?_)
  refine dss_cons (ds_for (l := q.parents) (enc := eN) (fun pre m δ => m = none ∧ (∃ t, δ = [.v (eCs s), .v (.int c), .v (.int n), .v (eOp eVs (prp s n Feature.vertices c)), t]) ∧ ∀ y ∈ pre, decide (prp s n Feature.vertices y = prp s n Feature.vertices c) = false)
    (di_tup (de_ixT (ds := [.tuple (q.parents.map eN), eVer q.version]) (de_ixL (dv 0) (dv 1) (commit_at hc)) de_int rfl)) ⟨rfl, ⟨_, rfl⟩, fun _ h => nomatch h⟩ ?_ ?_)
  · rintro pre x post m δ hv ⟨rfl, ⟨t, rfl⟩, hp⟩
    have hx : x ∈ s.parents c := by
      rw [parents_of hc, hv]
      simp
    obtain ⟨_, q2, h2⟩ := g.par hx
    refine ⟨_, _, (dg_name sc_parent_with_vertices.nd (i := 4) rfl (by first | exact .inl rfl | exact .inr rfl)), dss_one (ds_if (dt_cmp (dc_eqE eqe_OVs hr.units (de_call (c_vertices_in T) (hr.mono (by decide)) (da_cons (dv 0) (da_cons (dv 4) (da_one (dv 2)))) ⟨s, x, n, q2, g, h2, rfl, rfl⟩) (dv 3))) (fun hk => dss_one (ds_ret (dv 4) ?_)) fun hk => dss_nil ?_)⟩
    · unfold ear
      rw [parents_of hc, hv, find_first hp hk] <;> rfl
    · refine ⟨rfl, ⟨.v (eN x), rfl⟩, fun y hy => ?_⟩
      rcases List.mem_append.mp hy with h | h
      · exact hp y h
      · rw [List.mem_singleton.mp h]
        exact hk
  · rintro m δ ⟨rfl, ⟨t, rfl⟩, hp⟩
    refine dss_one (ds_ret de_non ?_)
    unfold ear
    rw [parents_of hc, List.find?_eq_none.mpr (fun y hy => by rw [hp y hy]; exact Bool.noConfusion)] <;> rfl
def rOrgAttr (ds : List PyData) (d : PyData) : Prop := ∃ (s : Store) (c n i : Nat) (q : Commit), GoodS s ∧ s.commit c = some q ∧ i < s.attributeCount ∧ prp s n (fun f => f.attributes.getD i 0) c ≠ none ∧ ds = [eCs s, .int c, .int n, .int i] ∧ d = .int (s.origin n (fun f => f.attributes.getD i 0) s.commits.length c : Nat)
theorem c_attribute_origin (T : Tx K mg) : Cal P w K mg base "attribute_origin" 4 ["commits", "commit", "number", "index"] (spP K 4 rOrgAttr) :=
  T.pure 46 31 54 sc_attribute_origin (fun _ _ _ _ _ _ us hl => match us, hl with | [_, _, _, _], _ => rfl) fun cdv A outer s H E hr ds d _hl hR => by
  obtain ⟨s, c, n, i, q, g, hc, hi, hne, rfl, rfl⟩ := hR
  refine dss_cons (ds_set (i := 4) sc_attribute_origin.nd rfl (by first | exact .inl rfl | exact .inr rfl) (dv 1) ?_)
  refine dss_cons (ds_set (i := 5) sc_attribute_origin.nd rfl (by first | exact .inl rfl | exact .inr rfl) (de_call (c_parent_with_attribute T) (hr.mono (by decide)) (da_cons (dv 0) (da_cons (dv 4) (da_cons (dv 2) (da_one (dv 3))))) ⟨s, c, n, i, q, g, hc, hi, rfl, rfl⟩) ?_)
  refine dss_cons (ds_while (fun h m δ => m = none ∧ ∃ k, h < k ∧ s.origin n (fun f => f.attributes.getD i 0) k h = s.origin n (fun f => f.attributes.getD i 0) s.commits.length c ∧ prp s n (fun f => f.attributes.getD i 0) h ≠ none ∧ δ = [.v (eCs s), .v (.int c), .v (.int n), .v (.int i), .v (.int (h : Nat)), .v (eOp eN (ear s n (fun f => f.attributes.getD i 0) h))]) c ⟨rfl, s.commits.length, commit_lt hc, rfl, hne, rfl⟩ ?_)
  rintro h m δ ⟨rfl, k, hk, ho, hn, rfl⟩
  obtain ⟨k, rfl⟩ : ∃ j, k = j + 1 := ⟨k - 1, by omega⟩
  rw [org_step s n _ k h hn] at ho
  cases he : ear s n (fun f => f.attributes.getD i 0) h with
  | none =>
    rw [he] at ho
    refine ⟨_, dt_cmp (dc_notN (dv 5)), fun z => (by cases z), fun _ => dss_one (ds_ret (dv 4) ?_)⟩
    rw [← ho] <;> rfl
  | some p =>
    rw [he] at ho
    obtain ⟨h1, ⟨q2, h2⟩, h3⟩ := ear_ok g he
    refine ⟨_, dt_cmp (dc_notN (dv 5)), fun _ => ?_, fun z => by cases z⟩
    refine dss_cons (ds_set (i := 4) sc_attribute_origin.nd rfl (by first | exact .inl rfl | exact .inr rfl) (dv 5) ?_)
    refine dss_one (ds_set (i := 5) sc_attribute_origin.nd rfl (by first | exact .inl rfl | exact .inr rfl) (de_call (c_parent_with_attribute T) (hr.mono (by decide)) (da_cons (dv 0) (da_cons (dv 4) (da_cons (dv 2) (da_one (dv 3))))) ⟨s, p, n, i, q2, g, h2, hi, rfl, rfl⟩) ⟨p, h1, rfl, k, by omega, ho, by rw [h3]; exact hn, rfl⟩)
def rOrgVert (ds : List PyData) (d : PyData) : Prop := ∃ (s : Store) (c n : Nat) (q : Commit), GoodS s ∧ s.commit c = some q ∧ prp s n Feature.vertices c ≠ none ∧ ds = [eCs s, .int c, .int n] ∧ d = .int (s.origin n Feature.vertices s.commits.length c : Nat)
theorem c_vertices_origin (T : Tx K mg) : Cal P w K mg base "vertices_origin" 4 ["commits", "commit", "number"] (spP K 3 rOrgVert) :=
  T.pure 47 32 55 sc_vertices_origin (fun _ _ _ _ _ _ us hl => match us, hl with | [_, _, _], _ => rfl) fun cdv A outer s H E hr ds d _hl hR => by
  obtain ⟨s, c, n, q, g, hc, hne, rfl, rfl⟩ := hR
  refine dss_cons (ds_set (i := 3) sc_vertices_origin.nd rfl (by first | exact .inl rfl | exact .inr rfl) (dv 1) ?_)
  refine dss_cons (ds_set (i := 4) sc_vertices_origin.nd rfl (by first | exact .inl rfl | exact .inr rfl) (de_call (c_parent_with_vertices T) (hr.mono (by decide)) (da_cons (dv 0) (da_cons (dv 3) (da_one (dv 2)))) ⟨s, c, n, q, g, hc, rfl, rfl⟩) ?_)
  refine dss_cons (ds_while (fun h m δ => m = none ∧ ∃ k, h < k ∧ s.origin n Feature.vertices k h = s.origin n Feature.vertices s.commits.length c ∧ prp s n Feature.vertices h ≠ none ∧ δ = [.v (eCs s), .v (.int c), .v (.int n), .v (.int (h : Nat)), .v (eOp eN (ear s n Feature.vertices h))]) c ⟨rfl, s.commits.length, commit_lt hc, rfl, hne, rfl⟩ ?_)
  rintro h m δ ⟨rfl, k, hk, ho, hn, rfl⟩
  obtain ⟨k, rfl⟩ : ∃ j, k = j + 1 := ⟨k - 1, by omega⟩
  rw [org_step s n _ k h hn] at ho
  cases he : ear s n Feature.vertices h with
  | none =>
    rw [he] at ho
    refine ⟨_, dt_cmp (dc_notN (dv 4)), fun z => (by cases z), fun _ => dss_one (ds_ret (dv 3) ?_)⟩
    rw [← ho] <;> rfl
  | some p =>
    rw [he] at ho
    obtain ⟨h1, ⟨q2, h2⟩, h3⟩ := ear_ok g he
    refine ⟨_, dt_cmp (dc_notN (dv 4)), fun _ => ?_, fun z => by cases z⟩
    refine dss_cons (ds_set (i := 3) sc_vertices_origin.nd rfl (by first | exact .inl rfl | exact .inr rfl) (dv 4) ?_)
    refine dss_one (ds_set (i := 4) sc_vertices_origin.nd rfl (by first | exact .inl rfl | exact .inr rfl) (de_call (c_parent_with_vertices T) (hr.mono (by decide)) (da_cons (dv 0) (da_cons (dv 3) (da_one (dv 2)))) ⟨s, p, n, q2, g, h2, rfl, rfl⟩) ⟨p, h1, rfl, k, by omega, ho, by rw [h3]; exact hn, rfl⟩)
/-- what is reached, as the dict the program makes -/
def rch (s : Store) (l : List Nat) : List (Int × PyData) := (l.flatMap (anc s)).foldl (fun m (k : Nat) => dPut m k (.bool true)) []
theorem rch_fold : ∀ (l : List Nat) (m : List (Int × PyData)) (k : Nat), (dGet (l.foldl (fun m (k : Nat) => dPut m k (.bool true)) m) k).isSome = true ↔ (dGet m k).isSome = true ∨ k ∈ l
  | [], m, k => by simp
  | x :: l, m, k => by
    rw [List.foldl_cons, rch_fold l, dGet_put, List.mem_cons]
    by_cases e : (k : Int) = x
    · have e2 : k = x := by omega
      simp [e2]
    · have e2 : ¬ k = x := by omega
      simp [e, e2]
theorem rch_len : ∀ (l : List Nat) (m : List (Int × PyData)), (l.foldl (fun m (k : Nat) => dPut m k (.bool true)) m).length ≤ m.length + l.length
  | [], m => by simp
  | x :: l, m => by
    have h1 := rch_len l (dPut m x (.bool true))
    have h2 := dPut_len m x (.bool true)
    rw [List.foldl_cons, List.length_cons]
    omega
theorem rch_mem {s : Store} (l : List Nat) (k : Nat) : (dGet (rch s l) k).isSome = true ↔ k ∈ l.flatMap (anc s) := by
  unfold rch
  rw [rch_fold]
  simp [dGet]
theorem anc_len (s : Store) (c : Nat) : (anc s c).length ≤ c + 1 := by
  unfold anc
  refine Nat.le_trans (List.length_filter_le _ _) ?_
  unfold dwn
  rw [List.length_reverse, List.length_range]
  exact Nat.le_refl _
theorem flat_anc {s : Store} (g : GoodS s) : ∀ l : List Nat, (∀ n ∈ l, ∃ q, s.commit n = some q) → (l.flatMap (anc s)).length ≤ 40 * l.length
  | [], _ => by simp
  | n :: l, h => by
    have ih := flat_anc g l fun m hm => h m (List.mem_cons_of_mem _ hm)
    obtain ⟨q, hq⟩ := h n List.mem_cons_self
    have := g.lt40 hq
    have := anc_len s n
    rw [List.flatMap_cons, List.length_append, List.length_cons]
    omega
def rReached (ds : List PyData) (d : PyData) : Prop := ∃ (s : Store) (l : List Nat), GoodS s ∧ (∀ n ∈ l, ∃ q, s.commit n = some q) ∧ l.length ≤ 100 ∧ ds = [eCs s, .list (l.map eN)] ∧ d = .dict (dk (rch s l))
theorem c_reached_from (T : Tx K mg) : Cal P w K mg base "reached_from" 2 ["commits", "numbers"] (spP K 2 rReached) :=
  T.pure 48 33 56 sc_reached_from (fun _ _ _ _ _ _ us hl => match us, hl with | [_, _], _ => rfl) fun cdv A outer s H E hr ds d _hl hR => by
  obtain ⟨s, l, g, hl, hz, rfl, rfl⟩ := hR
  refine dss_cons (ds_newD0 (i := 2) sc_reached_from.nd rfl (by first | exact .inl rfl | exact .inr rfl) ?_)
  refine dss_cons (ds_for (l := l) (enc := eN) (fun pre m δ => m = none ∧ ∃ t1 t2, δ = [.v (eCs s), .v (.list (l.map eN)), .own (.dict (dk (rch s pre))), t1, t2]) (di_lst (dv 1)) ⟨rfl, .u, .u, rfl⟩ ?_ ?_)
  · rintro pre x post m δ hv ⟨rfl, t1, t2, rfl⟩
    obtain ⟨q, hq⟩ := hl x (by rw [hv]; simp)
    have hb := flat_anc g pre fun n hn => hl n (by rw [hv]; exact List.mem_append_left _ hn)
    have hpl : pre.length < 100 := by
      have := congrArg List.length hv
      rw [List.length_append, List.length_cons] at this
      omega
    have h40 := g.lt40 hq
    have hal := anc_len s x
    refine ⟨_, _, (dg_name sc_reached_from.nd (i := 3) rfl (by first | exact .inl rfl | exact .inr rfl)), dss_one (ds_for (l := anc s x) (enc := eN) (fun pr m δ => m = none ∧ ∃ t2, δ = [.v (eCs s), .v (.list (l.map eN)), .own (.dict (dk (pr.foldl (fun m (k : Nat) => dPut m k (.bool true)) (rch s pre)))), .v (eN x), t2]) (di_lst (de_call (c_ancestors_of T) (hr.mono (by decide)) (da_cons (dv 0) (da_one (dv 3))) ⟨s, x, q, g, hq, rfl, rfl⟩)) ⟨rfl, t2, rfl⟩ ?_ ?_)⟩
    · rintro pr y po m δ hw ⟨rfl, t3, rfl⟩
      have h1 := rch_len pr (rch s pre)
      have h2 : (rch s pre).length ≤ _ := rch_len (pre.flatMap (anc s)) []
      have h3 : pr.length < (anc s x).length := by
        have := congrArg List.length hw
        rw [List.length_append, List.length_cons] at this
        omega
      refine ⟨_, _, (dg_name sc_reached_from.nd (i := 4) rfl (by first | exact .inl rfl | exact .inr rfl)), dss_one (ds_dput (i := 2) (dm := pr.foldl (fun m (k : Nat) => dPut m k (.bool true)) (rch s pre)) (Room.units1 hr) rfl (.inl rfl) rfl de_bl rfl (dv 4) (line_lt ?_) ⟨rfl, .v (eN y), ?_⟩)⟩
      · simp only [List.length_nil] at h2
        omega
      · rw [List.foldl_append] <;> rfl
    · rintro m δ ⟨rfl, t3, rfl⟩
      refine ⟨rfl, .v (eN x), t3, ?_⟩
      have e : rch s (pre ++ [x]) = (anc s x).foldl (fun m (k : Nat) => dPut m k (.bool true)) (rch s pre) := by
        unfold rch
        rw [List.flatMap_append, List.foldl_append, List.flatMap_cons, List.flatMap_nil, List.append_nil]
      rw [e]
  · rintro m δ ⟨rfl, t1, t2, rfl⟩
    exact dss_freeze (2) rfl (dss_one (ds_ret (dv 2) rfl))
end
end Pv
/-! ### 18. hashes -/
namespace Pv
open PySem PySem.Spec PyProof.Rows L2
open Kvg9 (Feature Version Vertex Commit Store Change Operation Response)

/-! the mathematics -/
def fstep (h b : Nat) : Nat := Nat.xor h b * 1099511628211 % 2 ^ 64
theorem fnv_is (l : List Nat) : Kvg9.fnv l = l.foldl fstep 14695981039346656037 := rfl
theorem fnv_lt (l : List Nat) : Kvg9.fnv l < 2 ^ 64 := by
  have main : ∀ (l : List Nat) (a : Nat), a < 2 ^ 64 → l.foldl fstep a < 2 ^ 64 := by
    intro l
    induction l with
    | nil => intro a h; exact h
    | cons b l ih =>
      intro a h
      rw [List.foldl_cons]
      exact ih _ (Nat.mod_lt _ (by decide))
  rw [fnv_is]
  exact main l _ (by decide)
theorem fstep_int (h b : Nat) : (Builtin.bitXor (h : Int) (b : Int)) * 1099511628211 % 18446744073709551616 = (fstep h b : Nat) := by
  rw [Bits.bitXor_pp (by omega) (by omega)]
  unfold fstep
  show ((h ^^^ b : Nat) : Int) * 1099511628211 % 18446744073709551616 = (((h ^^^ b) * 1099511628211 % 2 ^ 64 : Nat) : Int)
  rw [Int.natCast_emod, Int.natCast_mul] <;> rfl
def byt (k n : Nat) : List Nat := (List.range k).map fun i => n / 256 ^ i % 256
theorem byt_len (k n : Nat) : (byt k n).length = k := by unfold byt; rw [List.length_map, List.length_range]
theorem byt_succ (k n : Nat) : byt (k + 1) n = byt k n ++ [n / 256 ^ k % 256] := by
  unfold byt
  rw [List.range_succ, List.map_append] <;> rfl
theorem byt4 (v : Int) : byt 4 (v % 2 ^ 32).toNat = Kvg9.bytes4 v := by
  unfold Kvg9.bytes4 byt
  simp [List.range_succ]
  omega
theorem byt8 {n : Nat} (h : n < 2 ^ 64) : byt 8 n = Kvg9.bytes8 n := by
  unfold Kvg9.bytes8
  rw [← byt4, ← byt4]
  have e1 : (((n % 2 ^ 32 : Nat) : Int) % 2 ^ 32).toNat = n % 2 ^ 32 := by omega
  have e2 : (((n / 2 ^ 32 : Nat) : Int) % 2 ^ 32).toNat = n / 2 ^ 32 := by omega
  rw [e1, e2]
  unfold byt
  simp [List.range_succ]
  omega
theorem word_nat (v : Int) : v % 4294967296 = ((v % 2 ^ 32).toNat : Int) := by
  have e : (2 : Int) ^ 32 = 4294967296 := by decide
  rw [e]
  omega
def fnums (f : Feature) : List Int := [(f.id : Int), (f.attributes.length : Int)] ++ f.attributes ++ [(f.vertices.length : Int)] ++ f.vertices.flatMap fun x => [x.1, x.2]
def vnums (v : Version) : List Int := (v.length : Int) :: v.flatMap fnums
theorem fnums_bytes (f : Feature) : (fnums f).flatMap Kvg9.bytes4 = Kvg9.encodeFeature f := by
  unfold fnums Kvg9.encodeFeature
  simp only [List.flatMap_append, List.flatMap_cons, List.flatMap_nil, List.append_nil, List.append_assoc, List.flatMap_assoc]
theorem vnums_bytes (v : Version) : Kvg9.fnv ((vnums v).flatMap Kvg9.bytes4) = Kvg9.hashVersion v := by
  unfold vnums Kvg9.hashVersion
  rw [List.flatMap_cons, List.flatMap_assoc]
  congr 3
  exact funext fnums_bytes
theorem vx_len : ∀ l : List Vertex, (l.flatMap fun x => [x.1, x.2]).length = 2 * l.length
  | [] => rfl
  | x :: l => by
    have := vx_len l
    rw [List.flatMap_cons, List.length_append, List.length_cons, this]
    simp
    omega
theorem fnums_len (f : Feature) : (fnums f).length = 3 + f.attributes.length + 2 * f.vertices.length := by
  unfold fnums
  simp only [List.length_append, List.length_cons, List.length_nil, vx_len]
  omega
/-- what may be hashed -/
def Sml (v : Version) : Prop := v.length ≤ 16 ∧ ∀ f ∈ v, f.attributes.length ≤ 8 ∧ f.vertices.length ≤ 12
theorem OkV.sml {w : Nat} {v : Version} (h : OkV w v) (hw : w ≤ 8) : Sml v := ⟨h.few, fun f hf => by
  have := h.ft f hf
  exact ⟨by omega, this.2.2.2.1⟩⟩
theorem flat_len : ∀ v : Version, (∀ f ∈ v, f.attributes.length ≤ 8 ∧ f.vertices.length ≤ 12) → (v.flatMap fnums).length ≤ 40 * v.length
  | [], _ => by simp
  | f :: v, h => by
    have ih := flat_len v fun g hg => h g (List.mem_cons_of_mem _ hg)
    have := h f List.mem_cons_self
    have := fnums_len f
    rw [List.flatMap_cons, List.length_append, List.length_cons]
    omega
theorem vnums_len {v : Version} (h : Sml v) : (vnums v).length ≤ 700 := by
  have := flat_len v h.2
  have := h.1
  unfold vnums
  rw [List.length_cons]
  omega
theorem b4_len (v : Int) : (Kvg9.bytes4 v).length = 4 := rfl
theorem flat4_len : ∀ l : List Int, (l.flatMap Kvg9.bytes4).length = 4 * l.length
  | [] => rfl
  | x :: l => by
    rw [List.flatMap_cons, List.length_append, flat4_len l, b4_len, List.length_cons]
    omega
/-- the hashes up to a commit -/
def hsh (s : Store) (l : List Nat) (c : Nat) : Nat := Kvg9.fnv ((s.parents c).flatMap (fun p => Kvg9.bytes8 (l.getD p 0)) ++ Kvg9.bytes8 (Kvg9.hashVersion (s.version c)))
def hshs (s : Store) (k : Nat) : List Nat := (List.range k).foldl (fun l c => l ++ [hsh s l c]) []
theorem hshs_succ (s : Store) (k : Nat) : hshs s (k + 1) = hshs s k ++ [hsh s (hshs s k) k] := by
  unfold hshs
  rw [List.range_succ, List.foldl_append] <;> rfl
theorem hshs_len (s : Store) : ∀ k, (hshs s k).length = k
  | 0 => rfl
  | k + 1 => by rw [hshs_succ, List.length_append, List.length_singleton, hshs_len s k]
theorem hshs_get (s : Store) {i : Nat} : ∀ {k : Nat}, i < k → (hshs s k).getD i 0 = hsh s (hshs s i) i
  | 0, h => absurd h (Nat.not_lt_zero _)
  | k + 1, h => by
    rw [hshs_succ, List.getD_eq_getElem?_getD]
    by_cases c : i < k
    · have ih := hshs_get s c
      rw [List.getD_eq_getElem?_getD] at ih
      rw [List.getElem?_append_left (by rw [hshs_len]; exact c), ih]
    · have e : i = k := by omega
      subst e
      rw [List.getElem?_append_right (by rw [hshs_len]; exact Nat.le_refl _), hshs_len, Nat.sub_self] <;> rfl
def hv (s : Store) (c : Nat) : Nat := hsh s (hshs s c) c
theorem hashes_get {s : Store} {c : Nat} {q : Commit} (h : s.commit c = some q) : s.hashes.getD c 0 = hv s c := hshs_get s (commit_lt h)
theorem hv_lt (s : Store) (c : Nat) : hv s c < 2 ^ 64 := fnv_lt _
theorem hv_eq {s : Store} (g : GoodS s) {c : Nat} {q : Commit} (h : s.commit c = some q) : hv s c = Kvg9.fnv (q.parents.flatMap (fun p => Kvg9.bytes8 (hv s p)) ++ Kvg9.bytes8 (Kvg9.hashVersion q.version)) := by
  show Kvg9.fnv ((s.parents c).flatMap (fun p => Kvg9.bytes8 ((hshs s c).getD p 0)) ++ Kvg9.bytes8 (Kvg9.hashVersion (s.version c))) = _
  rw [parents_of h, version_of h]
  have e : q.parents.map (fun p => Kvg9.bytes8 ((hshs s c).getD p 0)) = q.parents.map fun p => Kvg9.bytes8 (hv s p) := List.map_congr_left fun p hp => by
    rw [hshs_get s ((g.cm c q h).2.1 p hp).1] <;> rfl
  rw [List.flatMap_def, List.flatMap_def, e]
theorem b8_len (n : Nat) : (Kvg9.bytes8 n).length = 8 := rfl
theorem flat8_len (f : Nat → Nat) : ∀ l : List Nat, (l.flatMap fun p => Kvg9.bytes8 (f p)).length = 8 * l.length
  | [] => rfl
  | x :: l => by
    rw [List.flatMap_cons, List.length_append, flat8_len f l, b8_len, List.length_cons]
    omega

theorem cmul_f (i : Int) : CMul i 1099511628211 := .inr ⟨by omega, by omega⟩
theorem pos_lw : (0 : Int) < 18446744073709551616 := by omega
section
variable {P : Program} {w : World} {K : Fg} {mg : Str → Option Value} {base : Heap}
def rHashBytes (ds : List PyData) (d : PyData) : Prop := ∃ l : List Nat, ds = [.list (l.map eN)] ∧ d = .int (Kvg9.fnv l : Nat)
theorem c_hash_of_bytes (T : Tx K mg) : Cal P w K mg base "hash_of_bytes" 1 ["numbers"] (spP K 1 rHashBytes) :=
  T.pure 49 34 57 sc_hash_of_bytes (fun _ _ _ _ _ _ us hl => match us, hl with | [_], _ => rfl) fun cdv A outer s H E hr ds d _hl hR => by
  obtain ⟨l, rfl, rfl⟩ := hR
  refine dss_cons (ds_set (i := 1) sc_hash_of_bytes.nd rfl (by first | exact .inl rfl | exact .inr rfl) (de_gint T.i_FIRST_HASH) ?_)
  refine dss_cons (ds_for (l := l) (enc := eN) (fun pre m δ => m = none ∧ ∃ t, δ = [.v (.list (l.map eN)), .v (.int (pre.foldl fstep 14695981039346656037 : Nat)), t]) (di_lst (dv 0)) ⟨rfl, .u, rfl⟩ ?_ ?_)
  · rintro pre x post m δ hv ⟨rfl, t, rfl⟩
    refine ⟨_, _, (dg_name sc_hash_of_bytes.nd (i := 2) rfl (by first | exact .inl rfl | exact .inr rfl)), dss_one (ds_set (i := 1) sc_hash_of_bytes.nd rfl (by first | exact .inl rfl | exact .inr rfl) (de_mod (de_mul (de_xor (dv 1) (dv 2)) (de_gint T.i_FACTOR) (cmul_f _)) (de_gint T.i_LONG_WORD) pos_lw) ⟨rfl, .v (eN x), ?_⟩)⟩
    rw [fstep_int, List.foldl_append, List.foldl_cons, List.foldl_nil] <;> rfl
  · rintro m δ ⟨rfl, t, rfl⟩
    exact dss_one (ds_ret (dv 1) rfl)
def rBytesOf (ds : List PyData) (d : PyData) : Prop := ∃ n k : Nat, k ≤ 8 ∧ ds = [.int n, .int k] ∧ d = .list ((byt k n).map eN)
theorem c_bytes_of (T : Tx K mg) : Cal P w K mg base "bytes_of" 1 ["number", "many"] (spP K 2 rBytesOf) :=
  T.pure 50 35 58 sc_bytes_of (fun _ _ _ _ _ _ us hl => match us, hl with | [_, _], _ => rfl) fun cdv A outer s H E hr ds d _hl hR => by
  obtain ⟨n, k, hk, rfl, rfl⟩ := hR
  refine dss_cons (ds_new (i := 2) sc_bytes_of.nd rfl (by first | exact .inl rfl | exact .inr rfl) (do_lst da_nil) ?_)
  refine dss_cons (ds_set (i := 3) sc_bytes_of.nd rfl (by first | exact .inl rfl | exact .inr rfl) (dv 0) ?_)
  refine dss_cons (ds_for (l := List.range k) (enc := eN) (fun pre m δ => m = none ∧ ∃ t, δ = [.v (.int n), .v (.int k), .own (.list ((byt pre.length n).map eN)), .v (.int (n / 256 ^ pre.length : Nat)), t]) (di_range1 T.n_range (dv 1) (by omega)) ⟨rfl, .u, ?_⟩ ?_ ?_)
  · rw [List.length_nil, Nat.pow_zero, Nat.div_one] <;> rfl
  · rintro pre x post m δ hv ⟨rfl, t, rfl⟩
    have hpl : pre.length < 8 := by
      have := congrArg List.length hv
      rw [List.length_range, List.length_append, List.length_cons] at this
      omega
    refine ⟨_, _, (dg_name sc_bytes_of.nd (i := 4) rfl (by first | exact .inl rfl | exact .inr rfl)), dss_cons (ds_append (i := 2) rfl (.inl rfl) rfl (de_mod (dv 3) de_int (by decide)) rfl (line_lt ?_) ?_)⟩
    · rw [List.length_map, byt_len]
      omega
    refine dss_one (ds_set (i := 3) sc_bytes_of.nd rfl (by first | exact .inl rfl | exact .inr rfl) (de_fdiv (dv 3) de_int (by unfold CDiv; decide)) ⟨rfl, .v (eN x), ?_⟩)
    have e1 : ((n / 256 ^ pre.length : Nat) : Int) / 256 = ((n / 256 ^ (pre ++ [x]).length : Nat) : Int) := by
      rw [List.length_append, List.length_singleton, Nat.pow_succ, ← Nat.div_div_eq_div_mul] <;> rfl
    rw [e1, List.length_append, List.length_singleton, byt_succ, List.map_append] <;> rfl
  · rintro m δ ⟨rfl, t, rfl⟩
    rw [List.length_range]
    exact dss_freeze (2) rfl (dss_one (ds_ret (dv 2) rfl))
def rNumbersIn (ds : List PyData) (d : PyData) : Prop := ∃ v, Sml v ∧ ds = [eVer v] ∧ d = .list ((vnums v).map .int)
theorem c_numbers_in (T : Tx K mg) : Cal P w K mg base "numbers_in" 1 ["version"] (spP K 1 rNumbersIn) :=
  T.pure 51 36 59 sc_numbers_in (fun _ _ _ _ _ _ us hl => match us, hl with | [_], _ => rfl) fun cdv A outer s H E hr ds d _hl hR => by
  obtain ⟨v, hs, rfl, rfl⟩ := hR
  have hz := hs.1
  refine dss_cons (ds_new (i := 1) sc_numbers_in.nd rfl (by first | exact .inl rfl | exact .inr rfl) (do_lst (da_one (de_lenT (ds := v.map eFeat) T.n_len (dv 0)))) ?_)
  refine dss_cons (ds_for (l := v) (enc := eFeat) (fun pre m δ => m = none ∧ ∃ t1 t2 t3 t4 t5, δ = [.v (eVer v), .own (.list (((v.length : Int) :: pre.flatMap fnums).map .int)), t1, t2, t3, t4, t5]) (di_tup (dv 0)) ⟨rfl, .u, .u, .u, .u, .u, by rw [List.length_map] <;> rfl⟩ ?_ ?_)
  · rintro pre f post m δ hv ⟨rfl, t1, t2, t3, t4, t5, rfl⟩
    have hf := hs.2 f (by rw [hv]; simp)
    have hpl : pre.length < 16 := by
      have := congrArg List.length hv
      rw [List.length_append, List.length_cons] at this
      omega
    have hb := flat_len pre fun g hg => hs.2 g (by rw [hv]; exact List.mem_append_left _ hg)
    refine ⟨_, _, dg_tup (dgs_cons (dg_name sc_numbers_in.nd (i := 2) rfl (by first | exact .inl rfl | exact .inr rfl)) (dgs_cons (dg_name sc_numbers_in.nd (i := 3) rfl (by first | exact .inl rfl | exact .inr rfl)) (dgs_cons (dg_name sc_numbers_in.nd (i := 4) rfl (by first | exact .inl rfl | exact .inr rfl)) dgs_nil))) rfl, ?_⟩
    refine dss_cons (ds_append (i := 1) rfl (.inl rfl) rfl (dv 2) rfl (line_lt ?_) ?_)
    · rw [List.length_map, List.length_cons]
      omega
    refine dss_cons (ds_append (i := 1) rfl (.inl rfl) rfl (de_lenT (ds := f.attributes.map .int) T.n_len (dv 3)) rfl (line_lt ?_) ?_)
    · simp only [List.length_map, List.length_cons, List.length_append, List.length_nil]
      omega
    refine dss_cons (ds_extendT (i := 1) rfl (.inl rfl) rfl (es2 := f.attributes.map .int) (dv 3) (line_le ?_) ?_)
    · simp only [List.length_map, List.length_cons, List.length_append, List.length_nil]
      omega
    refine dss_cons (ds_append (i := 1) rfl (.inl rfl) rfl (de_lenT (ds := f.vertices.map eVx) T.n_len (dv 4)) rfl (line_lt ?_) ?_)
    · simp only [List.length_map, List.length_cons, List.length_append, List.length_nil]
      omega
    refine dss_one (ds_for (l := f.vertices) (enc := eVx) (fun pr m δ => m = none ∧ ∃ t4 t5, δ = [.v (eVer v), .own (.list (((((v.length : Int) :: pre.flatMap fnums) ++ [(f.id : Int), (f.attributes.length : Int)] ++ f.attributes ++ [(f.vertices.length : Int)]) ++ pr.flatMap fun x => [x.1, x.2]).map .int)), .v (.int f.id), .v (eAt f.attributes), .v (eVs f.vertices), t4, t5]) (di_tup (dv 4)) ⟨rfl, t4, t5, ?_⟩ ?_ ?_)
    · simp only [List.length_map, List.map_append, List.map_cons, List.map_nil, List.append_assoc, List.flatMap_nil, List.append_nil, List.cons_append, List.nil_append] <;> rfl
    · rintro pr x po m δ hw ⟨rfl, t4, t5, rfl⟩
      have hprl : pr.length < 12 := by
        have := congrArg List.length hw
        rw [List.length_append, List.length_cons] at this
        omega
      have hvl := vx_len pr
      refine ⟨_, _, dg_tup (dgs_cons (dg_name sc_numbers_in.nd (i := 5) rfl (by first | exact .inl rfl | exact .inr rfl)) (dgs_cons (dg_name sc_numbers_in.nd (i := 6) rfl (by first | exact .inl rfl | exact .inr rfl)) dgs_nil)) rfl, ?_⟩
      refine dss_cons (ds_append (i := 1) rfl (.inl rfl) rfl (dv 5) rfl (line_lt ?_) ?_)
      · simp only [List.length_map, List.length_cons, List.length_append, List.length_nil]
        omega
      refine dss_one (ds_append (i := 1) rfl (.inl rfl) rfl (dv 6) rfl (line_lt ?_) ⟨rfl, .v (.int x.1), .v (.int x.2), ?_⟩)
      · simp only [List.length_map, List.length_cons, List.length_append, List.length_nil]
        omega
      · simp only [List.map_append, List.map_cons, List.map_nil, List.append_assoc, List.flatMap_append, List.flatMap_cons, List.flatMap_nil, List.append_nil, List.cons_append, List.nil_append] <;> rfl
    · rintro m δ ⟨rfl, t4, t5, rfl⟩
      refine ⟨rfl, .v (.int f.id), .v (eAt f.attributes), .v (eVs f.vertices), t4, t5, ?_⟩
      have e : (v.length : Int) :: (pre ++ [f]).flatMap fnums = (((v.length : Int) :: pre.flatMap fnums) ++ [(f.id : Int), (f.attributes.length : Int)] ++ f.attributes ++ [(f.vertices.length : Int)]) ++ f.vertices.flatMap fun x => [x.1, x.2] := by
        simp only [fnums, List.flatMap_append, List.flatMap_cons, List.flatMap_nil, List.append_nil, List.append_assoc, List.cons_append, List.nil_append]
      rw [e]
  · rintro m δ ⟨rfl, t1, t2, t3, t4, t5, rfl⟩
    exact dss_freeze (1) rfl (dss_one (ds_ret (dv 1) rfl))
def rVersionHash (ds : List PyData) (d : PyData) : Prop := ∃ v, Sml v ∧ ds = [eVer v] ∧ d = .int (Kvg9.hashVersion v : Nat)
theorem c_version_hash (T : Tx K mg) : Cal P w K mg base "version_hash" 2 ["version"] (spP K 1 rVersionHash) :=
  T.pure 52 37 60 sc_version_hash (fun _ _ _ _ _ _ us hl => match us, hl with | [_], _ => rfl) fun cdv A outer s H E hr ds d _hl hR => by
  obtain ⟨v, hs, rfl, rfl⟩ := hR
  have hz := vnums_len hs
  refine dss_cons (ds_new (i := 1) sc_version_hash.nd rfl (by first | exact .inl rfl | exact .inr rfl) (do_lst da_nil) ?_)
  refine dss_cons (ds_for (l := vnums v) (enc := .int) (fun pre m δ => m = none ∧ ∃ t, δ = [.v (eVer v), .own (.list ((pre.flatMap Kvg9.bytes4).map eN)), t]) (di_lst (de_call (c_numbers_in T) (hr.mono (by decide)) (da_one (dv 0)) ⟨v, hs, rfl, rfl⟩)) ⟨rfl, .u, rfl⟩ ?_ ?_)
  · rintro pre x post m δ hv ⟨rfl, t, rfl⟩
    have hpl : pre.length < 700 := by
      have := congrArg List.length hv
      rw [List.length_append, List.length_cons] at this
      omega
    refine ⟨_, _, (dg_name sc_version_hash.nd (i := 2) rfl (by first | exact .inl rfl | exact .inr rfl)), dss_one (ds_extend (i := 1) rfl (.inl rfl) rfl (de_call (c_bytes_of T) (hr.mono (by decide)) (da_cons (DE.to (de_mod (dv 2) (de_gint T.i_WORD) (by decide)) (congrArg PyData.int (word_nat x))) (da_one de_int)) ⟨(x % 2 ^ 32).toNat, 4, by decide, rfl, rfl⟩) (line_le ?_) ⟨rfl, .v (.int x), ?_⟩)⟩
    · rw [List.length_map, List.length_map, byt_len, flat4_len]
      omega
    · rw [byt4, List.flatMap_append, List.map_append, List.flatMap_cons, List.flatMap_nil, List.append_nil] <;> rfl
  · rintro m δ ⟨rfl, t, rfl⟩
    refine dss_freeze (1) rfl (dss_one (ds_ret (de_call (c_hash_of_bytes T) (hr.mono (by decide)) (da_one (dv 1)) ⟨_, rfl, rfl⟩) ?_))
    rw [vnums_bytes] <;> rfl
def rHashBehind (ds : List PyData) (d : PyData) : Prop := ∃ (q : Commit) (dm : List (Int × PyData)) (f : Nat → Nat), Sml q.version ∧ q.parents.length ≤ 2 ∧ (∀ p ∈ q.parents, dGet dm p = some (.int (f p : Nat)) ∧ f p < 2 ^ 64) ∧ ds = [eCm q, .dict (dk dm)] ∧ d = .int (Kvg9.fnv (q.parents.flatMap (fun p => Kvg9.bytes8 (f p)) ++ Kvg9.bytes8 (Kvg9.hashVersion q.version)) : Nat)
theorem c_hash_behind (T : Tx K mg) : Cal P w K mg base "hash_behind" 3 ["commit", "hashes"] (spP K 2 rHashBehind) :=
  T.pure 53 38 61 sc_hash_behind (fun _ _ _ _ _ _ us hl => match us, hl with | [_, _], _ => rfl) fun cdv A outer s H E hr ds d _hl hR => by
  obtain ⟨q, dm, f, hs, hp2, hp, rfl, rfl⟩ := hR
  refine dss_cons (ds_asg (d := .tuple [.tuple (q.parents.map eN), eVer q.version]) (dv 0) (dg_tup (dgs_cons (dg_name sc_hash_behind.nd (i := 2) rfl (by first | exact .inl rfl | exact .inr rfl)) (dgs_cons (dg_name sc_hash_behind.nd (i := 3) rfl (by first | exact .inl rfl | exact .inr rfl)) dgs_nil)) rfl) ?_)
  refine dss_cons (ds_new (i := 4) sc_hash_behind.nd rfl (by first | exact .inl rfl | exact .inr rfl) (do_lst da_nil) ?_)
  refine dss_cons (ds_for (l := q.parents) (enc := eN) (fun pre m δ => m = none ∧ ∃ t, δ = [.v (eCm q), .v (.dict (dk dm)), .v (.tuple (q.parents.map eN)), .v (eVer q.version), .own (.list ((pre.flatMap fun p => Kvg9.bytes8 (f p)).map eN)), t]) (di_tup (dv 2)) ⟨rfl, .u, rfl⟩ ?_ ?_)
  · rintro pre x post m δ hv ⟨rfl, t, rfl⟩
    obtain ⟨h1, h2⟩ := hp x (by rw [hv]; simp)
    have hpl : pre.length < 2 := by
      have := congrArg List.length hv
      rw [List.length_append, List.length_cons] at this
      omega
    refine ⟨_, _, (dg_name sc_hash_behind.nd (i := 5) rfl (by first | exact .inl rfl | exact .inr rfl)), dss_one (ds_extend (i := 4) rfl (.inl rfl) rfl (de_call (c_bytes_of T) (hr.mono (by decide)) (da_cons (de_dget (dm := dm) (n := (x : Int)) (Room.units1 hr) (dv 1) (dv 5) h1) (da_one de_int)) ⟨f x, 8, by decide, rfl, rfl⟩) (line_le ?_) ⟨rfl, .v (eN x), ?_⟩)⟩
    · rw [List.length_map, List.length_map, byt_len, flat8_len]
      omega
    · rw [byt8 h2, List.flatMap_append, List.map_append, List.flatMap_cons, List.flatMap_nil, List.append_nil] <;> rfl
  · rintro m δ ⟨rfl, t, rfl⟩
    have hvl : Kvg9.hashVersion q.version < 2 ^ 64 := fnv_lt _
    refine dss_cons (ds_extend (i := 4) rfl (.inl rfl) rfl (de_call (c_bytes_of T) (hr.mono (by decide)) (da_cons (de_call (c_version_hash T) (hr.mono (by decide)) (da_one (dv 3)) ⟨q.version, hs, rfl, rfl⟩) (da_one de_int)) ⟨Kvg9.hashVersion q.version, 8, by decide, rfl, rfl⟩) (line_le ?_) ?_)
    · rw [List.length_map, List.length_map, byt_len, flat8_len]
      omega
    rw [byt8 hvl, ← List.map_append]
    exact dss_freeze (4) rfl (dss_one (ds_ret (de_call (c_hash_of_bytes T) (hr.mono (by decide)) (da_one (dv 4)) ⟨_, rfl, rfl⟩) rfl))
def rCommitHash (ds : List PyData) (d : PyData) : Prop := ∃ (s : Store) (c : Nat) (q : Commit), GoodS s ∧ s.commit c = some q ∧ ds = [eCs s, .int c] ∧ d = .int (s.hashes.getD c 0 : Nat)
theorem c_commit_hash (T : Tx K mg) : Cal P w K mg base "commit_hash" 4 ["commits", "number"] (spP K 2 rCommitHash) :=
  T.pure 54 39 62 sc_commit_hash (fun _ _ _ _ _ _ us hl => match us, hl with | [_, _], _ => rfl) fun cdv A outer s H E hr ds d _hl hR => by
  obtain ⟨s, c, q, g, hc, rfl, rfl⟩ := hR
  rw [hashes_get hc]
  have hal := anc_len s c
  have h40 := g.lt40 hc
  refine dss_cons (ds_newD0 (i := 2) sc_commit_hash.nd rfl (by first | exact .inl rfl | exact .inr rfl) ?_)
  refine dss_cons (ds_for (l := (anc s c).reverse) (enc := eN) (fun pre m δ => m = none ∧ ∃ dm t, δ = [.v (eCs s), .v (.int c), .own (.dict (dk dm)), t] ∧ dm.length ≤ pre.length ∧ ∀ i ∈ pre, dGet dm (i : Nat) = some (.int (hv s i : Nat)))
    (DI.to (di_rev T.n_reversed (de_call (c_ancestors_of T) (hr.mono (by decide)) (da_cons (dv 0) (da_one (dv 1))) ⟨s, c, q, g, hc, rfl, rfl⟩)) (by rw [List.map_reverse])) ⟨rfl, [], .u, rfl, Nat.le_refl _, fun _ h => nomatch h⟩ ?_ ?_)
  · rintro pre x post m δ hw ⟨rfl, dm, t, rfl, hl, hk⟩
    have hx : x ∈ anc s c := by
      rw [← List.mem_reverse, hw]
      simp
    have hxa := (anc_mem g hc x).mp hx
    obtain ⟨_, q2, h2⟩ := anc_ok g hc hxa
    have hcm := g.cm x q2 h2
    have asc : (anc s c).reverse.Pairwise (· < ·) := by
      rw [List.pairwise_reverse]
      exact anc_desc s c
    have hpre : ∀ p ∈ q2.parents, p ∈ pre := fun p hp => by
      have hpa := (anc_mem g hc p).mpr (anc_par g hc hxa (by rw [parents_of h2]; exact hp))
      rw [← List.mem_reverse, hw] at hpa
      rcases List.mem_append.mp hpa with h | h
      · exact h
      · exfalso
        have hlt := (hcm.2.1 p hp).1
        rw [hw] at asc
        have d := (List.pairwise_append.mp asc).2.1
        rcases List.mem_cons.mp h with e | h
        · omega
        · have := (List.pairwise_cons.mp d).1 p h
          omega
    have hpl : pre.length < 40 := by
      have := congrArg List.length hw
      rw [List.length_reverse, List.length_append, List.length_cons] at this
      omega
    refine ⟨_, _, (dg_name sc_commit_hash.nd (i := 3) rfl (by first | exact .inl rfl | exact .inr rfl)), dss_one (ds_dput (i := 2) (dm := dm) (Room.units1 hr) rfl (.inl rfl) rfl (de_callO (i := 2) (dm := dm) (c_hash_behind T) (hr.mono (by decide)) (de_ixL (dv 0) (dv 3) (commit_at h2)) rfl (.inl rfl) rfl ⟨q2, dm, hv s, hcm.1.sml g.w, hcm.2.2.2, fun p hp => ⟨hk p (hpre p hp), hv_lt s p⟩, rfl, rfl⟩) rfl (dv 3) (line_lt (by omega)) ⟨rfl, _, .v (eN x), rfl, ?_, fun i hi => ?_⟩)⟩
    · have := dPut_len dm x (.int (Kvg9.fnv (q2.parents.flatMap (fun p => Kvg9.bytes8 (hv s p)) ++ Kvg9.bytes8 (Kvg9.hashVersion q2.version)) : Nat))
      rw [List.length_append, List.length_singleton]
      omega
    · rw [dGet_put, ← hv_eq g h2]
      by_cases e : (i : Int) = x
      · have e2 : i = x := by omega
        rw [if_pos e, e2]
      · rw [if_neg e]
        refine hk i ?_
        rcases List.mem_append.mp hi with h | h
        · exact h
        · exact absurd (by rw [List.mem_singleton.mp h]) e
  · rintro m δ ⟨rfl, dm, t, rfl, hl, hk⟩
    refine dss_freeze (2) rfl (dss_one (ds_ret (de_dget (dm := dm) (n := (c : Int)) (Room.units1 hr) (dv 2) (dv 1) (hk c ?_)) rfl))
    rw [List.mem_reverse]
    exact (anc_mem g hc c).mpr (anc_self s c)
end
end Pv
/-! ### 19. merges -/
namespace Pv
open PySem PySem.Spec PyProof.Rows L2
open Kvg9 (Feature Version Vertex Commit Store Change Operation Response Conflict)

/-! the mathematics -/
def clr {α : Type} [DecidableEq α] (b o t : α) : Bool := decide (o = t) || (decide (b = o) || decide (b = t))
def cv {α : Type} [DecidableEq α] (b o t : α) : α := if b = o then t else o
theorem mv_some {α : Type} [DecidableEq α] {b o t : α} (h : clr b o t = true) : Kvg9.mergeValue b o t = some (cv b o t) := by
  unfold Kvg9.mergeValue cv
  unfold clr at h
  by_cases c1 : o = t
  · rw [if_pos c1]
    by_cases c2 : b = o
    · rw [if_pos c2, c1]
    · rw [if_neg c2]
  · rw [if_neg c1]
    by_cases c2 : b = o
    · rw [if_pos c2, if_pos c2]
    · rw [if_neg c2, if_neg c2]
      by_cases c3 : b = t
      · rw [if_pos c3]
      · simp [c1, c2, c3] at h
theorem mv_none {α : Type} [DecidableEq α] {b o t : α} (h : clr b o t = false) : Kvg9.mergeValue b o t = none := by
  unfold Kvg9.mergeValue
  unfold clr at h
  simp only [Bool.or_eq_false_iff, decide_eq_false_iff_not] at h
  rw [if_neg h.1, if_neg h.2.1, if_neg h.2.2]
def sd {α : Type} (side : Bool) (o t : α) : α := if side then t else o
def mvi {α : Type} [DecidableEq α] (b o t : List α) (z : α) (i : Nat) : Option α := Kvg9.mergeValue (b.getD i z) (o.getD i z) (t.getD i z)
def ml1 {α : Type} [DecidableEq α] (side : Bool) (b o t : List α) (z : α) (l : List Nat) : List α := l.map fun i => (mvi b o t z i).getD (sd side (o.getD i z) (t.getD i z))
def ml2 {α : Type} [DecidableEq α] (b o t : List α) (z : α) (l : List Nat) : List Nat := l.filter fun i => (mvi b o t z i).isNone
theorem ml_is {α : Type} [DecidableEq α] (side : Bool) (b o t : List α) (z : α) : Kvg9.mergeLists side b o t z = (ml1 side b o t z (List.range b.length), ml2 b o t z (List.range b.length)) := by
  unfold Kvg9.mergeLists ml1 ml2
  simp only [List.map_map, List.filter_map]
  refine Prod.ext ?_ ?_
  · refine List.map_congr_left fun i _ => ?_
    show ((mvi b o t z i).getD (if side then t.getD i z else o.getD i z)) = _
    unfold sd
    cases side <;> rfl
  · show List.map _ _ = _
    rw [show (Prod.snd ∘ fun i => (Kvg9.mergeValue (b.getD i z) (o.getD i z) (t.getD i z), i)) = id from rfl, List.map_id] <;> rfl
theorem ml1_app {α : Type} [DecidableEq α] (side : Bool) (b o t : List α) (z : α) (l : List Nat) (i : Nat) : ml1 side b o t z (l ++ [i]) = ml1 side b o t z l ++ [(mvi b o t z i).getD (sd side (o.getD i z) (t.getD i z))] := by
  unfold ml1
  rw [List.map_append] <;> rfl
theorem ml2_app {α : Type} [DecidableEq α] (b o t : List α) (z : α) (l : List Nat) (i : Nat) : ml2 b o t z (l ++ [i]) = ml2 b o t z l ++ (if (mvi b o t z i).isNone then [i] else []) := by
  unfold ml2
  rw [List.filter_append]
  by_cases c : (mvi b o t z i).isNone = true <;> simp [List.filter_cons, c]
theorem getD_map {α : Type} (e : α → PyData) (l : List α) (z : α) {i : Nat} (h : i < l.length) : (l.map e)[i]? = some (e (l.getD i z)) := by
  rw [List.getElem?_map, List.getElem?_eq_getElem h, List.getD_eq_getElem?_getD, List.getElem?_eq_getElem h] <;> rfl
def mvx (side : Bool) (b o t : List Vertex) : List Vertex × List (Nat × Nat) := match Kvg9.mergeValue b o t with
  | some v => (v, [])
  | none => if b.length = o.length ∧ b.length = t.length then ((Kvg9.mergeLists side b o t (0, 0)).1, (Kvg9.mergeLists side b o t (0, 0)).2.map fun i => (4, i)) else (sd side o t, [(5, 0)])
def mf3 (side : Bool) (b o t : Feature) : Feature × List (Nat × Nat) := (⟨b.id, (Kvg9.mergeLists side b.attributes o.attributes t.attributes 0).1, (mvx side b.vertices o.vertices t.vertices).1⟩, ((Kvg9.mergeLists side b.attributes o.attributes t.attributes 0).2.map fun i => (3, i)) ++ (mvx side b.vertices o.vertices t.vertices).2)
def mft (side : Bool) (b o t : Option Feature) : Option Feature × List (Nat × Nat) := match Kvg9.mergeValue b o t with
  | some f => (f, [])
  | none => match b, o, t with
    | some b, some o, some t => (some (mf3 side b o t).1, (mf3 side b o t).2)
    | none, o, t => (sd side o t, [(2, 0)])
    | some _, o, t => (sd side o t, [(1, 0)])
def cfl (n : Nat) (p : Nat × Nat) : Conflict := ⟨n, p.1, p.2⟩
theorem mf3_is (side : Bool) (b o t : Feature) : Kvg9.mergeFeature side b o t = ((mf3 side b o t).1, (mf3 side b o t).2.map (cfl b.id)) := by
  unfold Kvg9.mergeFeature mf3 mvx
  cases h : Kvg9.mergeValue b.vertices o.vertices t.vertices with
  | some v => simp [cfl, List.map_map, Function.comp_def]
  | none =>
    by_cases c : b.vertices.length = o.vertices.length ∧ b.vertices.length = t.vertices.length
    · simp only [if_pos c]
      simp [cfl, List.map_map, Function.comp_def]
    · simp only [if_neg c]
      cases side <;> simp [sd, cfl, List.map_map, Function.comp_def]
theorem mft_is (side : Bool) (base ours theirs : Version) (n : Nat) : Kvg9.mergeId side base ours theirs n = ((mft side (Kvg9.find base n) (Kvg9.find ours n) (Kvg9.find theirs n)).1, (mft side (Kvg9.find base n) (Kvg9.find ours n) (Kvg9.find theirs n)).2.map (cfl n)) := by
  unfold Kvg9.mergeId mft
  cases h : Kvg9.mergeValue (Kvg9.find base n) (Kvg9.find ours n) (Kvg9.find theirs n) with
  | some f => rfl
  | none =>
    cases hb : Kvg9.find base n with
    | none =>
      cases side <;> rfl
    | some b =>
      have e := (find_mem hb).2
      cases ho : Kvg9.find ours n with
      | none => cases ht : Kvg9.find theirs n <;> cases side <;> rfl
      | some o =>
        cases ht : Kvg9.find theirs n with
        | none => cases side <;> rfl
        | some t =>
          simp only [mf3_is, e]
def eCf (c : Conflict) : PyData := .tuple [.int c.id, .int c.kind, .int c.index]
theorem merge_is (side : Bool) (base ours theirs : Version) : Kvg9.merge side base ours theirs = ((Kvg9.idsOf [base, ours, theirs]).filterMap fun n => (mft side (Kvg9.find base n) (Kvg9.find ours n) (Kvg9.find theirs n)).1, (Kvg9.idsOf [base, ours, theirs]).flatMap fun n => (mft side (Kvg9.find base n) (Kvg9.find ours n) (Kvg9.find theirs n)).2.map (cfl n)) := by
  unfold Kvg9.merge
  simp only [List.filterMap_map, List.flatMap_map]
  refine Prod.ext ?_ ?_
  · show List.filterMap _ _ = List.filterMap _ _
    refine congrArg (fun f => List.filterMap f _) (funext fun n => ?_)
    show (Kvg9.mergeId side base ours theirs n).1 = _
    rw [mft_is]
  · show List.flatMap _ _ = List.flatMap _ _
    refine congrArg (fun f => List.flatMap f _) (funext fun n => ?_)
    rw [mft_is]
theorem mvx_len {side : Bool} {b o t : List Vertex} (h : b.length ≤ 12) : (mvx side b o t).2.length ≤ 12 := by
  unfold mvx
  split
  · simp
  · split
    · rw [List.length_map, ml_is]
      have := List.length_filter_le (fun i => (mvi b o t ((0 : Int), (0 : Int)) i).isNone) (List.range b.length)
      rw [List.length_range] at this
      show (ml2 _ _ _ _ _).length ≤ 12
      unfold ml2
      omega
    · simp
theorem mft_len {side : Bool} {b o t : Option Feature} (h : ∀ f, b = some f → f.attributes.length ≤ 8 ∧ f.vertices.length ≤ 12) : (mft side b o t).2.length ≤ 20 := by
  unfold mft
  cases hm : Kvg9.mergeValue b o t with
  | some f => simp
  | none =>
    cases b with
    | none => simp
    | some b' =>
      cases o with
      | none => simp
      | some o' =>
        cases t with
        | none => simp
        | some t' =>
          have hb := h b' rfl
          have h2 := mvx_len (side := side) (o := o'.vertices) (t := t'.vertices) hb.2
          show (mf3 side b' o' t').2.length ≤ 20
          unfold mf3
          rw [List.length_append, List.length_map, ml_is]
          have h3 := List.length_filter_le (fun i => (mvi b'.attributes o'.attributes t'.attributes (0 : Int) i).isNone) (List.range b'.attributes.length)
          rw [List.length_range] at h3
          show (ml2 _ _ _ _ _).length + _ ≤ 20
          unfold ml2
          omega

section
variable {P : Program} {w : World} {K : Fg} {mg : Str → Option Value} {base : Heap}
def rIsClear (ds : List PyData) (d : PyData) : Prop := ∃ (α : Type) (_ : DecidableEq α) (e : α → PyData) (n : Nat) (b o t : α), EqE e n ∧ n ≤ 64 ∧ ds = [e b, e o, e t] ∧ d = .bool (clr b o t)
theorem c_is_clear (T : Tx K mg) : Cal P w K mg base "is_clear" 1 ["base", "ours", "theirs"] (spP K 3 rIsClear) :=
  T.pure 55 40 69 sc_is_clear (fun _ _ _ _ _ _ us hl => match us, hl with | [_, _, _], _ => rfl) fun cdv A outer s H E hr ds d _hl hR => by
  obtain ⟨α, inst, e, n, b, o, t, he, hn, rfl, rfl⟩ := hR
  exact dss_one (ds_ret (de_or (de_cmp (dc_eqE he hr.units (dv 1) (dv 2) hn)) fun _ => de_or (de_cmp (dc_eqE he hr.units (dv 0) (dv 1) hn)) fun _ => de_one (de_cmp (dc_eqE he hr.units (dv 0) (dv 2) hn))) rfl)
def rClear (ds : List PyData) (d : PyData) : Prop := ∃ (α : Type) (_ : DecidableEq α) (e : α → PyData) (n : Nat) (b o t : α), EqE e n ∧ n ≤ 64 ∧ ds = [e b, e o, e t] ∧ d = e (cv b o t)
theorem c_clear_value (T : Tx K mg) : Cal P w K mg base "clear_value" 1 ["base", "ours", "theirs"] (spP K 3 rClear) :=
  T.pure 56 41 70 sc_clear_value (fun _ _ _ _ _ _ us hl => match us, hl with | [_, _, _], _ => rfl) fun cdv A outer s H E hr ds d _hl hR => by
  obtain ⟨α, inst, e, n, b, o, t, he, hn, rfl, rfl⟩ := hR
  refine dss_one (ds_ret (de_if (dt_cmp (dc_eqE he hr.units (dv 0) (dv 1) hn)) (fun hk => DE.to (dv 2) ?_) (fun hk => DE.to (dv 1) ?_)) rfl)
  · unfold cv
    rw [if_pos (of_decide_eq_true hk)]
  · unfold cv
    rw [if_neg (of_decide_eq_false hk)]
def eSd (side : Bool) : PyData := .int (if side then 1 else 0)
def rOfSide (ds : List PyData) (d : PyData) : Prop := ∃ (side : Bool) (o t : PyData), ds = [eSd side, o, t] ∧ d = sd side o t
theorem c_of_side (T : Tx K mg) : Cal P w K mg base "of_side" 1 ["side", "ours", "theirs"] (spP K 3 rOfSide) :=
  T.pure 57 42 71 sc_of_side (fun _ _ _ _ _ _ us hl => match us, hl with | [_, _, _], _ => rfl) fun cdv A outer s H E hr ds d _hl hR => by
  obtain ⟨side, o, t, rfl, rfl⟩ := hR
  cases side with
  | true => exact dss_one (ds_ret (de_if (dt_cmp (dc_eqI (i := 1) (dv 0) de_int)) (fun hk => absurd hk (by decide)) (fun hk => (dv 2))) rfl)
  | false => exact dss_one (ds_ret (de_if (dt_cmp (dc_eqI (i := 0) (dv 0) de_int)) (fun hk => (dv 1)) (fun hk => absurd hk (by decide))) rfl)
theorem sd_map {α β : Type} (e : α → β) (side : Bool) (o t : α) : sd side (e o) (e t) = e (sd side o t) := by cases side <;> rfl
def rOneByOne (ds : List PyData) (d : PyData) : Prop := ∃ (α : Type) (_ : DecidableEq α) (e : α → PyData) (n : Nat) (b o t : List α) (z : α) (side : Bool) (kind : Nat), EqE e n ∧ n ≤ 64 ∧ b.length ≤ 100 ∧ b.length = o.length ∧ b.length = t.length ∧ ds = [.tuple (b.map e), .tuple (o.map e), .tuple (t.map e), eSd side, .int kind] ∧
  d = .tuple [.tuple ((Kvg9.mergeLists side b o t z).1.map e), .list (((Kvg9.mergeLists side b o t z).2.map fun i => (kind, i)).map ePr)]
theorem c_merged_one_by_one (T : Tx K mg) : Cal P w K mg base "merged_one_by_one" 2 ["bases", "ours", "theirs", "side", "kind"] (spP K 5 rOneByOne) :=
  T.pure 58 43 72 sc_merged_one_by_one (fun _ _ _ _ _ _ us hl => match us, hl with | [_, _, _, _, _], _ => rfl) fun cdv A outer s H E hr ds d _hl hR => by
  obtain ⟨α, inst, e, n, b, o, t, z, side, kind, he, hn, hb, hbo, hbt, rfl, rfl⟩ := hR
  rw [ml_is]
  refine dss_cons (ds_new (i := 5) sc_merged_one_by_one.nd rfl (by first | exact .inl rfl | exact .inr rfl) (do_lst da_nil) ?_)
  refine dss_cons (ds_new (i := 6) sc_merged_one_by_one.nd rfl (by first | exact .inl rfl | exact .inr rfl) (do_lst da_nil) ?_)
  refine dss_cons (ds_for (l := List.range b.length) (enc := eN) (fun pre m δ => m = none ∧ ∃ t1 t2 t3 t4, δ = [.v (.tuple (b.map e)), .v (.tuple (o.map e)), .v (.tuple (t.map e)), .v (eSd side), .v (.int kind), .own (.list ((ml1 side b o t z pre).map e)), .own (.list (((ml2 b o t z pre).map fun i => (kind, i)).map ePr)), t1, t2, t3, t4])
    (DI.to (di_range1 (n := b.length) T.n_range (DE.to (de_lenT T.n_len (dv 0)) (by rw [List.length_map])) (by omega)) rfl) ⟨rfl, .u, .u, .u, .u, rfl⟩ ?_ ?_)
  · rintro pre x post m δ hv ⟨rfl, t1, t2, t3, t4, rfl⟩
    have hx : x < b.length := by
      have : x ∈ List.range b.length := by
        rw [hv]
        simp
      exact List.mem_range.mp this
    have hpl : pre.length < b.length := by
      have := congrArg List.length hv
      rw [List.length_range, List.length_append, List.length_cons] at this
      omega
    have l1 : ((ml1 side b o t z pre).map e).length = pre.length := by
      unfold ml1
      rw [List.length_map, List.length_map]
    have l2 : (((ml2 b o t z pre).map fun i => (kind, i)).map ePr).length ≤ pre.length := by
      unfold ml2
      rw [List.length_map, List.length_map]
      exact List.length_filter_le _ _
    refine ⟨_, _, (dg_name sc_merged_one_by_one.nd (i := 7) rfl (by first | exact .inl rfl | exact .inr rfl)), dss_cons (ds_par3 (i := 8) (j := 9) (l := 10) sc_merged_one_by_one.nd rfl rfl rfl (by decide) (by decide) (by decide) rfl rfl rfl (da_cons (de_ixT (dv 0) (dv 7) (at_get (getD_map e b z hx))) (da_cons (de_ixT (dv 1) (dv 7) (at_get (getD_map e o z (by omega)))) (da_one (de_ixT (dv 2) (dv 7) (at_get (getD_map e t z (by omega))))))) ?_)⟩
    refine dss_one (ds_if (dt_val (de_call (c_is_clear T) (hr.mono (by decide)) (da_cons (dv 8) (da_cons (dv 9) (da_one (dv 10)))) ⟨α, inst, e, n, b.getD x z, o.getD x z, t.getD x z, he, hn, rfl, rfl⟩)) (fun hk => ?_) fun hk => ?_)
    · have hm : mvi b o t z x = some (cv (b.getD x z) (o.getD x z) (t.getD x z)) := mv_some hk
      refine dss_one (ds_append (i := 5) rfl (.inl rfl) rfl (de_call (c_clear_value T) (hr.mono (by decide)) (da_cons (dv 8) (da_cons (dv 9) (da_one (dv 10)))) ⟨α, inst, e, n, b.getD x z, o.getD x z, t.getD x z, he, hn, rfl, rfl⟩) (he.nd _) (line_lt ?_) ⟨rfl, .v (eN x), .v (e (b.getD x z)), .v (e (o.getD x z)), .v (e (t.getD x z)), ?_⟩)
      · omega
      · rw [ml1_app, ml2_app, hm, if_neg (show ¬ (some (cv (b.getD x z) (o.getD x z) (t.getD x z))).isNone = true from Bool.noConfusion), List.append_nil, List.map_append] <;> rfl
    · have hm : mvi b o t z x = none := mv_none hk
      refine dss_cons (ds_append (i := 5) rfl (.inl rfl) rfl (de_call (c_of_side T) (hr.mono (by decide)) (da_cons (dv 3) (da_cons (dv 9) (da_one (dv 10)))) ⟨side, _, _, rfl, rfl⟩) ?_ (line_lt ?_) ?_)
      · rw [sd_map]
        exact he.nd _
      · omega
      refine dss_one (ds_append (i := 6) rfl (.inl rfl) rfl (de_tup (da_cons (dv 4) (da_one (dv 7)))) rfl (line_lt ?_) ⟨rfl, .v (eN x), .v (e (b.getD x z)), .v (e (o.getD x z)), .v (e (t.getD x z)), ?_⟩)
      · omega
      · rw [ml1_app, ml2_app, hm, if_pos (show (none : Option α).isNone = true from rfl), List.map_append, List.map_append, List.map_append, sd_map] <;> rfl
  · rintro m δ ⟨rfl, t1, t2, t3, t4, rfl⟩
    exact dss_freeze (5) rfl (dss_freeze (6) rfl (dss_one (ds_ret (de_tup (da_cons (de_tupleL T.n_tuple (dv 5)) (da_one (dv 6)))) rfl)))
end
end Pv
/-! ### 20. merges of features and versions -/
namespace Pv
open PySem PySem.Spec PyProof.Rows L2
open Kvg9 (Feature Version Vertex Commit Store Change Operation Response Conflict)
theorem mvx_some {side : Bool} {b o t v : List Vertex} (h : Kvg9.mergeValue b o t = some v) : mvx side b o t = (v, []) := by
  unfold mvx
  rw [h]
theorem mvx_none {side : Bool} {b o t : List Vertex} (h : Kvg9.mergeValue b o t = none) : mvx side b o t = if b.length = o.length ∧ b.length = t.length then ((Kvg9.mergeLists side b o t (0, 0)).1, (Kvg9.mergeLists side b o t (0, 0)).2.map fun i => (4, i)) else (sd side o t, [(5, 0)]) := by
  unfold mvx
  rw [h]
theorem mft_some {side : Bool} {b o t f : Option Feature} (h : Kvg9.mergeValue b o t = some f) : mft side b o t = (f, []) := by
  unfold mft
  rw [h]
theorem mft_none {side : Bool} {b o t : Option Feature} (h : Kvg9.mergeValue b o t = none) : mft side b o t = match (generalizing := false) b, o, t with
    | some b, some o, some t => (some (mf3 side b o t).1, (mf3 side b o t).2)
    | none, o, t => (sd side o t, [(2, 0)])
    | some _, o, t => (sd side o t, [(1, 0)]) := by
  unfold mft
  rw [h] <;> cases b <;> cases o <;> cases t <;> rfl
section
variable {P : Program} {w : World} {K : Fg} {mg : Str → Option Value} {base : Heap}
def rMergedV (ds : List PyData) (d : PyData) : Prop := ∃ (b o t : List Vertex) (side : Bool), b.length ≤ 100 ∧ ds = [eVs b, eVs o, eVs t, eSd side] ∧ d = .tuple [eVs (mvx side b o t).1, .list ((mvx side b o t).2.map ePr)]
theorem c_merged_vertices (T : Tx K mg) : Cal P w K mg base "merged_vertices" 3 ["base", "ours", "theirs", "side"] (spP K 4 rMergedV) :=
  T.pure 59 44 73 sc_merged_vertices (fun _ _ _ _ _ _ us hl => match us, hl with | [_, _, _, _], _ => rfl) fun cdv A outer s H E hr ds d _hl hR => by
  obtain ⟨b, o, t, side, hb, rfl, rfl⟩ := hR
  refine dss_cons (ds_if (dt_val (de_call (c_is_clear T) (hr.mono (by decide)) (da_cons (dv 0) (da_cons (dv 1) (da_one (dv 2)))) ⟨_, inferInstance, eVs, 2, b, o, t, eqe_Vs, by decide, rfl, rfl⟩)) (fun hk => dss_one (ds_ret (de_tup (da_cons (de_call (c_clear_value T) (hr.mono (by decide)) (da_cons (dv 0) (da_cons (dv 1) (da_one (dv 2)))) ⟨_, inferInstance, eVs, 2, b, o, t, eqe_Vs, by decide, rfl, rfl⟩) (da_one (do_lst da_nil).de))) ?_)) fun hk => dss_nil ?_)
  · rw [mvx_some (mv_some hk)] <;> rfl
  rw [mvx_none (mv_none hk)]
  by_cases c : b.length = o.length ∧ b.length = t.length
  · rw [if_pos c]
    have c1 : (decide (((b.map eVx).length : Int) = ((o.map eVx).length : Int))) = true := by
      rw [List.length_map, List.length_map, c.1]
      simp
    have c2 : (decide (((b.map eVx).length : Int) = ((t.map eVx).length : Int))) = true := by
      rw [List.length_map, List.length_map, c.2]
      simp
    refine dss_cons (ds_if (dt_w (dw_and (dt_cmp (dc_eqI (de_lenT (ds := b.map eVx) T.n_len (dv 0)) (de_lenT (ds := o.map eVx) T.n_len (dv 1)))) fun _ => dw_and1 (dt_cmp (dc_eqI (de_lenT (ds := b.map eVx) T.n_len (dv 0)) (de_lenT (ds := t.map eVx) T.n_len (dv 2)))))) (fun _ => ?_) fun h => by rw [c1, c2] at h; cases h)
    exact dss_one (ds_ret (de_call (c_merged_one_by_one T) (hr.mono (by decide)) (da_cons (dv 0) (da_cons (dv 1) (da_cons (dv 2) (da_cons (dv 3) (da_one (de_gint T.i_VERTEX)))))) ⟨_, inferInstance, eVx, 1, b, o, t, (0, 0), side, 4, eqe_Vx, by decide, hb, c.1, c.2, rfl, rfl⟩) rfl)
  · rw [if_neg c]
    refine dss_cons (ds_if (k := false) (DT.to (dt_w (dw_and (dt_cmp (dc_eqI (de_lenT (ds := b.map eVx) T.n_len (dv 0)) (de_lenT (ds := o.map eVx) T.n_len (dv 1)))) fun _ => dw_and1 (dt_cmp (dc_eqI (de_lenT (ds := b.map eVx) T.n_len (dv 0)) (de_lenT (ds := t.map eVx) T.n_len (dv 2)))))) ?_) (fun h => by cases h) fun h => dss_nil ?_)
    · rw [List.length_map, List.length_map, List.length_map]
      by_cases c1 : b.length = o.length
      · by_cases c2 : b.length = t.length
        · exact absurd ⟨c1, c2⟩ c
        · have : ¬ (b.length : Int) = t.length := by omega
          simp [this]
      · have : ¬ (b.length : Int) = o.length := by omega
        simp [this]
    refine dss_one (ds_ret (de_tup (da_cons (de_call (c_of_side T) (hr.mono (by decide)) (da_cons (dv 3) (da_cons (dv 1) (da_one (dv 2)))) ⟨side, _, _, rfl, rfl⟩) (da_one (do_lst (da_one (de_tup (da_cons (de_gint T.i_VERTICES) (da_one de_int))))).de)) ?_) ?_)
    · rw [sd_map] <;> rfl
    · rw [sd_map] <;> rfl
def rMergedF (ds : List PyData) (d : PyData) : Prop := ∃ (b o t : Option Feature) (side : Bool) (w : Nat), w ≤ 8 ∧ (∀ f, b = some f → f.attributes.length = w ∧ f.vertices.length ≤ 12) ∧ (∀ f, o = some f → f.attributes.length = w) ∧ (∀ f, t = some f → f.attributes.length = w) ∧ ds = [eOF b, eOF o, eOF t, eSd side] ∧ d = .tuple [eOF (mft side b o t).1, .list ((mft side b o t).2.map ePr)]
theorem c_merged_feature (T : Tx K mg) : Cal P w K mg base "merged_feature" 4 ["base", "ours", "theirs", "side"] (spP K 4 rMergedF) :=
  T.pure 60 45 74 sc_merged_feature (fun _ _ _ _ _ _ us hl => match us, hl with | [_, _, _, _], _ => rfl) fun cdv A outer s H E hr ds d _hl hR => by
  obtain ⟨b, o, t, side, w, hw, hb, ho, ht, rfl, rfl⟩ := hR
  refine dss_cons (ds_if (dt_val (de_call (c_is_clear T) (hr.mono (by decide)) (da_cons (dv 0) (da_cons (dv 1) (da_one (dv 2)))) ⟨_, inferInstance, eOF, 3, b, o, t, eqe_OF, by decide, rfl, rfl⟩)) (fun hk => dss_one (ds_ret (de_tup (da_cons (de_call (c_clear_value T) (hr.mono (by decide)) (da_cons (dv 0) (da_cons (dv 1) (da_one (dv 2)))) ⟨_, inferInstance, eOF, 3, b, o, t, eqe_OF, by decide, rfl, rfl⟩) (da_one (do_lst da_nil).de)) ?_) ?_)) fun hk => dss_nil ?_)
  · rw [List.all_cons, eqe_OF.nd] <;> rfl
  · rw [mft_some (mv_some hk)] <;> rfl
  rw [mft_none (mv_none hk)]
  have nd_of : ∀ o t : Option Feature, nd (sd side (eOF o) (eOF t)) = true := fun o t => by
    rw [sd_map]
    exact eqe_OF.nd _
  cases b with
  | none =>
    refine dss_cons (ds_if (dt_cmp (dc_isN (dv 0))) (fun _ => dss_one (ds_ret (de_tup (da_cons (de_call (c_of_side T) (hr.mono (by decide)) (da_cons (dv 3) (da_cons (dv 1) (da_one (dv 2)))) ⟨side, _, _, rfl, rfl⟩) (da_one (do_lst (da_one (de_tup (da_cons (de_gint T.i_ADDED_TWICE) (da_one de_int))))).de)) ?_) ?_)) fun h => by cases h)
    · rw [List.all_cons, nd_of] <;> rfl
    · rw [sd_map] <;> rfl
  | some b =>
    refine dss_cons (ds_if (dt_cmp (dc_isN (dv 0))) (fun h => by cases h) fun _ => dss_nil ?_)
    cases o with
    | none =>
      refine dss_cons (ds_if (dt_w (dw_or (k2 := false) (dt_cmp (dc_isN (dv 1))) fun h => by cases h)) (fun _ => dss_one (ds_ret (de_tup (da_cons (de_call (c_of_side T) (hr.mono (by decide)) (da_cons (dv 3) (da_cons (dv 1) (da_one (dv 2)))) ⟨side, _, _, rfl, rfl⟩) (da_one (do_lst (da_one (de_tup (da_cons (de_gint T.i_REMOVED_AND_CHANGED) (da_one de_int))))).de)) ?_) ?_)) fun h => by cases h)
      · rw [List.all_cons, nd_of] <;> rfl
      · rw [sd_map] <;> rfl
    | some o =>
      cases t with
      | none =>
        refine dss_cons (ds_if (dt_w (dw_or (dt_cmp (dc_isN (dv 1))) fun _ => dw_or1 (dt_cmp (dc_isN (dv 2))))) (fun _ => dss_one (ds_ret (de_tup (da_cons (de_call (c_of_side T) (hr.mono (by decide)) (da_cons (dv 3) (da_cons (dv 1) (da_one (dv 2)))) ⟨side, _, _, rfl, rfl⟩) (da_one (do_lst (da_one (de_tup (da_cons (de_gint T.i_REMOVED_AND_CHANGED) (da_one de_int))))).de)) ?_) ?_)) fun h => by cases h)
        · rw [List.all_cons, nd_of] <;> rfl
        · rw [sd_map] <;> rfl
      | some t =>
        have h1 := hb b rfl
        have h2 := ho o rfl
        have h3 := ht t rfl
        have hm := mvx_len (side := side) (o := o.vertices) (t := t.vertices) h1.2
        have hl : (Kvg9.mergeLists side b.attributes o.attributes t.attributes 0).2.length ≤ 8 := by
          rw [ml_is]
          have h3 := List.length_filter_le (fun i => (mvi b.attributes o.attributes t.attributes (0 : Int) i).isNone) (List.range b.attributes.length)
          rw [List.length_range] at h3
          show (ml2 _ _ _ _ _).length ≤ 8
          unfold ml2
          omega
        refine dss_cons (ds_if (dt_w (dw_or (dt_cmp (dc_isN (dv 1))) fun _ => dw_or1 (dt_cmp (dc_isN (dv 2))))) (fun h => by cases h) fun _ => dss_nil ?_)
        refine dss_cons (ds_asg (de_call (c_merged_one_by_one T) (hr.mono (by decide)) (da_cons (de_ixT (d := eAt b.attributes) (dv 0) de_int rfl) (da_cons (de_ixT (d := eAt o.attributes) (dv 1) de_int rfl) (da_cons (de_ixT (d := eAt t.attributes) (dv 2) de_int rfl) (da_cons (dv 3) (da_one (de_gint T.i_ATTRIBUTE)))))) ⟨_, inferInstance, .int, 0, b.attributes, o.attributes, t.attributes, 0, side, 3, eqe_int, by decide, by omega, by omega, by omega, rfl, rfl⟩) (dg_tup (dgs_cons (dg_name sc_merged_feature.nd (i := 4) rfl (by first | exact .inl rfl | exact .inr rfl)) (dgs_cons (dg_name sc_merged_feature.nd (i := 5) rfl (by first | exact .inl rfl | exact .inr rfl)) dgs_nil)) rfl) ?_)
        refine dss_cons (ds_asg (de_call (c_merged_vertices T) (hr.mono (by decide)) (da_cons (de_ixT (d := eVs b.vertices) (dv 0) de_int rfl) (da_cons (de_ixT (d := eVs o.vertices) (dv 1) de_int rfl) (da_cons (de_ixT (d := eVs t.vertices) (dv 2) de_int rfl) (da_one (dv 3))))) ⟨b.vertices, o.vertices, t.vertices, side, by omega, rfl, rfl⟩) (dg_tup (dgs_cons (dg_name sc_merged_feature.nd (i := 6) rfl (by first | exact .inl rfl | exact .inr rfl)) (dgs_cons (dg_name sc_merged_feature.nd (i := 7) rfl (by first | exact .inl rfl | exact .inr rfl)) dgs_nil)) rfl) ?_)
        refine dss_one (ds_ret (de_tup (da_cons (de_tup (da_cons (de_ixT (d := .int b.id) (dv 0) de_int rfl) (da_cons (dv 4) (da_one (dv 6))))) (da_one (do_cat (dv 5) (dv 7) (line_le ?_)).de))) ?_)
        · rw [List.length_map, List.length_map, List.length_map]
          omega
        · show PyData.tuple [_, PyData.list _] = PyData.tuple [_, PyData.list _]
          rw [← List.map_append] <;> rfl
def rMergedVersion (ds : List PyData) (d : PyData) : Prop := ∃ (b o t : Version) (side : Bool) (w : Nat), w ≤ 8 ∧ b.length + o.length + t.length < 64 ∧ (∀ f ∈ b, f.attributes.length = w ∧ f.vertices.length ≤ 12) ∧ Wd w o ∧ Wd w t ∧ ds = [eVer b, eVer o, eVer t, eSd side] ∧ d = .tuple [eVer (Kvg9.merge side b o t).1, .list ((Kvg9.merge side b o t).2.map eCf)]
theorem c_merged_version (T : Tx K mg) : Cal P w K mg base "merged_version" 5 ["base", "ours", "theirs", "side"] (spP K 4 rMergedVersion) :=
  T.pure 61 46 75 sc_merged_version (fun _ _ _ _ _ _ us hl => match us, hl with | [_, _, _, _], _ => rfl) fun cdv A outer s H E hr ds d _hl hR => by
  obtain ⟨b, o, t, side, w, hw, hz, hb, ho, ht, rfl, rfl⟩ := hR
  rw [merge_is]
  have hz2 : ([b, o, t] : List Version).flatten.length < 64 := by
    simp only [List.flatten_cons, List.flatten_nil, List.append_nil, List.length_append]
    omega
  have hids := ids_len [b, o, t]
  refine dss_cons (ds_new (i := 4) sc_merged_version.nd rfl (by first | exact .inl rfl | exact .inr rfl) (do_lst da_nil) ?_)
  refine dss_cons (ds_new (i := 5) sc_merged_version.nd rfl (by first | exact .inl rfl | exact .inr rfl) (do_lst da_nil) ?_)
  refine dss_cons (ds_for (l := Kvg9.idsOf [b, o, t]) (enc := eN) (fun pre m δ => m = none ∧ ∃ t1 t2 t3 t4 t5 t6, δ = [.v (eVer b), .v (eVer o), .v (eVer t), .v (eSd side), .own (.list ((pre.filterMap fun n => (mft side (Kvg9.find b n) (Kvg9.find o n) (Kvg9.find t n)).1).map eFeat)), .own (.list ((pre.flatMap fun n => (mft side (Kvg9.find b n) (Kvg9.find o n) (Kvg9.find t n)).2.map (cfl n)).map eCf)), t1, t2, t3, t4, t5, t6] ∧ (pre.flatMap fun n => (mft side (Kvg9.find b n) (Kvg9.find o n) (Kvg9.find t n)).2.map (cfl n)).length ≤ 20 * pre.length)
    (di_lst (de_call (c_numbers_of T) (hr.mono (by decide)) (da_one (do_lst (da_cons (dv 0) (da_cons (dv 1) (da_one (dv 2))))).de) ⟨[b, o, t], hz2, rfl, rfl⟩)) ⟨rfl, .u, .u, .u, .u, .u, .u, rfl, Nat.le_refl _⟩ ?_ ?_)
  · rintro pre n post m δ hv ⟨rfl, t1, t2, t3, t4, t5, t6, rfl, hcl⟩
    have hpl : pre.length < 64 := by
      have := congrArg List.length hv
      rw [List.length_append, List.length_cons] at this
      omega
    have hlen := mft_len (side := side) (b := Kvg9.find b n) (o := Kvg9.find o n) (t := Kvg9.find t n) fun f hf => by
      have := hb f (find_mem hf).1
      omega
    refine ⟨_, _, (dg_name sc_merged_version.nd (i := 6) rfl (by first | exact .inl rfl | exact .inr rfl)), ?_⟩
    refine dss_cons (ds_set (i := 7) sc_merged_version.nd rfl (by first | exact .inl rfl | exact .inr rfl) (de_tup (da_cons (de_call (c_feature_at T) (hr.mono (by decide)) (da_cons (dv 0) (da_one (dv 6))) ⟨b, n, rfl, rfl⟩) (da_cons (de_call (c_feature_at T) (hr.mono (by decide)) (da_cons (dv 1) (da_one (dv 6))) ⟨o, n, rfl, rfl⟩) (da_one (de_call (c_feature_at T) (hr.mono (by decide)) (da_cons (dv 2) (da_one (dv 6))) ⟨t, n, rfl, rfl⟩)))) ?_) ?_)
    · rw [List.all_cons, List.all_cons, List.all_cons, eqe_OF.nd, eqe_OF.nd, eqe_OF.nd] <;> rfl
    refine dss_cons (ds_asg (de_call (c_merged_feature T) (hr.mono (by decide)) (da_cons (de_ixT (dv 7) de_int rfl) (da_cons (de_ixT (dv 7) de_int rfl) (da_cons (de_ixT (dv 7) de_int rfl) (da_one (dv 3))))) ⟨Kvg9.find b n, Kvg9.find o n, Kvg9.find t n, side, w, hw, fun f hf => hb f (find_mem hf).1, fun f hf => ho f (find_mem hf).1, fun f hf => ht f (find_mem hf).1, rfl, rfl⟩) (dg_tup (dgs_cons (dg_name sc_merged_version.nd (i := 8) rfl (by first | exact .inl rfl | exact .inr rfl)) (dgs_cons (dg_name sc_merged_version.nd (i := 9) rfl (by first | exact .inl rfl | exact .inr rfl)) dgs_nil)) rfl) ?_)
    cases hf : (mft side (Kvg9.find b n) (Kvg9.find o n) (Kvg9.find t n)).1 with
    | none =>
      refine dss_cons (ds_if (dt_cmp (dc_notN (dv 8))) (fun h => by cases h) fun _ => dss_nil ?_)
      refine dss_one (ds_extend (i := 5) rfl (.inl rfl) rfl (do_map (l := (mft side (Kvg9.find b n) (Kvg9.find o n) (Kvg9.find t n)).2) (enc := ePr) (enc' := fun p => eCf (cfl n p)) (own := [("kind", 10), ("index", 11)]) sc_merged_version.nd (di_lst (dv 9)) (line_le (by omega)) (blkOk_by (N := N_merged_version) (sc := defScope (top 75)) (by decide +kernel))
        (fun p hp => ⟨_, _, (by simp), fun s1 H1 C1 cl1 fp1 => ⟨dg_tup (dgs_cons (dg_name sc_merged_version.nd (i := 10) rfl (by first | exact .inl rfl | exact .inr rfl)) (dgs_cons (dg_name sc_merged_version.nd (i := 11) rfl (by first | exact .inl rfl | exact .inr rfl)) dgs_nil)) rfl, de_tup (da_cons (dv 6) (da_cons (dv 10) (da_one (dv 11)))), rfl⟩⟩)).de (line_le ?_) ⟨rfl, .v (eN n), .v (.tuple [eOF (Kvg9.find b n), eOF (Kvg9.find o n), eOF (Kvg9.find t n)]), .v (eOF none), .v (.list ((mft side (Kvg9.find b n) (Kvg9.find o n) (Kvg9.find t n)).2.map ePr)), t5, t6, ?_, ?_⟩)
      · rw [List.length_map, List.length_map]
        omega
      · have gg : List.filterMap (fun n => (mft side (Kvg9.find b n) (Kvg9.find o n) (Kvg9.find t n)).1) [n] = [] := by simp [hf]
        simp only [List.filterMap_append, gg, List.flatMap_append, List.flatMap_cons, List.flatMap_nil, List.append_nil, List.map_append, List.map_map] <;> rfl
      · rw [List.flatMap_append, List.length_append, List.length_append, List.length_singleton, List.flatMap_cons, List.flatMap_nil, List.append_nil, List.length_map]
        omega
    | some f =>
      have hfl := List.length_filterMap_le (fun n => (mft side (Kvg9.find b n) (Kvg9.find o n) (Kvg9.find t n)).1) pre
      refine dss_cons (ds_if (dt_cmp (dc_notN (dv 8))) (fun _ => dss_one (ds_append (i := 4) rfl (.inl rfl) rfl (dv 8) rfl (line_lt ?_) ?_)) fun h => by cases h)
      · rw [List.length_map]
        omega
      refine dss_one (ds_extend (i := 5) rfl (.inl rfl) rfl (do_map (l := (mft side (Kvg9.find b n) (Kvg9.find o n) (Kvg9.find t n)).2) (enc := ePr) (enc' := fun p => eCf (cfl n p)) (own := [("kind", 10), ("index", 11)]) sc_merged_version.nd (di_lst (dv 9)) (line_le (by omega)) (blkOk_by (N := N_merged_version) (sc := defScope (top 75)) (by decide +kernel))
        (fun p hp => ⟨_, _, (by simp), fun s1 H1 C1 cl1 fp1 => ⟨dg_tup (dgs_cons (dg_name sc_merged_version.nd (i := 10) rfl (by first | exact .inl rfl | exact .inr rfl)) (dgs_cons (dg_name sc_merged_version.nd (i := 11) rfl (by first | exact .inl rfl | exact .inr rfl)) dgs_nil)) rfl, de_tup (da_cons (dv 6) (da_cons (dv 10) (da_one (dv 11)))), rfl⟩⟩)).de (line_le ?_) ⟨rfl, .v (eN n), .v (.tuple [eOF (Kvg9.find b n), eOF (Kvg9.find o n), eOF (Kvg9.find t n)]), .v (eOF (some f)), .v (.list ((mft side (Kvg9.find b n) (Kvg9.find o n) (Kvg9.find t n)).2.map ePr)), t5, t6, ?_, ?_⟩)
      · rw [List.length_map, List.length_map]
        omega
      · have gg : List.filterMap (fun n => (mft side (Kvg9.find b n) (Kvg9.find o n) (Kvg9.find t n)).1) [n] = [f] := by simp [hf]
        simp only [List.filterMap_append, gg, List.flatMap_append, List.flatMap_cons, List.flatMap_nil, List.append_nil, List.map_append, List.map_map] <;> rfl
      · rw [List.flatMap_append, List.length_append, List.length_append, List.length_singleton, List.flatMap_cons, List.flatMap_nil, List.append_nil, List.length_map]
        omega
  · rintro m δ ⟨rfl, t1, t2, t3, t4, t5, t6, rfl, hcl⟩
    exact dss_freeze (4) rfl (dss_freeze (5) rfl (dss_one (ds_ret (de_tup (da_cons (de_tupleL T.n_tuple (dv 4)) (da_one (dv 5)))) rfl)))
end
end Pv
/-! ### 21. commits, branches, tags -/
namespace Pv
open PySem PySem.Spec PyProof.Rows L2
open Kvg9 (Feature Version Vertex Commit Store Change Operation Response Conflict)

/-! the mathematics -/
theorem drop_len (n : Nat) : ∀ l : List (Nat × Nat), Asc l → (∃ c, Kvg9.lookup l n = some c) → (l.filter fun e => e.1 != n).length = l.length - 1
  | [], _, ⟨c, h⟩ => by cases h
  | g :: l, hs, ⟨c, h⟩ => by
    obtain ⟨h1, h2⟩ := List.pairwise_cons.mp hs
    by_cases e : g.1 = n
    · rw [List.filter_cons_of_neg (by simp [e]), List.filter_eq_self.mpr fun x hx => by
        have := h1 x hx
        simp
        omega] <;> simp
    · rw [lookup_cons, if_neg e] at h
      have ih := drop_len n l h2 ⟨c, h⟩
      have hp : 0 < l.length := List.length_pos_of_mem (lookup_mem h)
      rw [List.filter_cons_of_pos (by simp [e]), List.length_cons, List.length_cons, ih]
      omega
theorem GoodS.addB {s : Store} (g : GoodS s) {b : Nat} (hn : Kvg9.lookup s.branches b = none) (hl : s.branches.length < 8) : GoodS { s with branches := Kvg9.assign b s.head s.branches } ∧ ({ s with branches := Kvg9.assign b s.head s.branches } : Store).head = s.head := by
  have ne : s.current ≠ b := fun e => by
    have := g.hd
    rw [e, hn] at this
    cases this
  have lk : Kvg9.lookup (Kvg9.assign b s.head s.branches) s.current = some s.head := by rw [lookup_assign_ne _ ne, g.hd]
  refine ⟨⟨g.w, g.wk, g.len, g.cm, assign_asc _ _ _ g.bs, ?_, fun e he => ?_, g.ts, g.tl, g.te, ⟨_, lk⟩⟩, ?_⟩
  · have := assign_len b s.head s.branches
    show (Kvg9.assign b s.head s.branches).length ≤ 8
    omega
  · rcases assign_mem _ _ _ _ he with e2 | he
    · rw [e2]
      exact g.hc
    · exact g.be e he
  · show (Kvg9.lookup (Kvg9.assign b s.head s.branches) s.current).getD 0 = s.head
    rw [lk] <;> rfl
theorem GoodS.sw {s : Store} (g : GoodS s) {b c : Nat} (h : Kvg9.lookup s.branches b = some c) : GoodS { s with current := b, working := s.version c } ∧ ({ s with current := b, working := s.version c } : Store).head = c := by
  obtain ⟨q, hq⟩ := g.be _ (lookup_mem h)
  have hq : s.commit c = some q := hq
  refine ⟨⟨g.w, by show OkV _ (s.version c); rw [version_of hq]; exact (g.cm c q hq).1, g.len, g.cm, g.bs, g.bl, g.be, g.ts, g.tl, g.te, ⟨c, h⟩⟩, ?_⟩
  show (Kvg9.lookup s.branches b).getD 0 = c
  rw [h] <;> rfl
theorem GoodS.par1 {s : Store} (g : GoodS s) : OkP s [s.head] := ⟨by simp, by simp, fun p hp => by rw [List.mem_singleton.mp hp]; exact g.hc⟩
theorem GoodS.hv {s : Store} (g : GoodS s) : OkV s.attributeCount (s.version s.head) := by
  obtain ⟨c, h⟩ := g.hc
  rw [version_of h]
  exact (g.cm _ _ h).1
theorem exists_iff {s : Store} {n : Nat} : s.exists_ n = true ↔ ∃ c, s.commit n = some c := by
  unfold Store.exists_
  cases s.commit n <;> simp
theorem exists_no {s : Store} {n : Nat} : s.exists_ n = false ↔ s.commit n = none := by
  unfold Store.exists_
  cases s.commit n <;> simp

section
variable {P : Program} {w : World} {K : Fg} {mg : Str → Option Value} {base : Heap}
def rkCommit := rkOp fun ds op => ds = [] ∧ op = .commit
theorem c_commit (T : Tx K mg) : Cal P w K mg base "commit" 5 ["keeper"] (spK K (He.ga K "Keeper") 0 rkCommit) :=
  T.keep 62 47 86 sc_commit (fun _ _ _ _ _ _ us hl => match us, hl with | [_], _ => rfl) rfl fun cdv A outer s H E ka hr fs ds d fs' _hl hR => by
  obtain ⟨s, op, g, ⟨rfl, rfl⟩, rfl, rfl, rfl⟩ := hR
  have e : s.run .commit = if s.isChanged = false then (s, .error (-6)) else if 40 ≤ s.commits.length then (s, .error (-28)) else (s.append [s.head] s.working, .number s.commits.length) := rfl
  rw [e]
  refine dss_cons (ds_if (dt_not (dt_val (de_meth0 (dkv 0) T.cls (k_is_changed T) (hr.mono (by decide)) rfl ⟨s, g, rfl, rfl, rfl⟩))) (fun hk => dss_one (ds_ret (do_listF T.n_list (de_glst T.g_NOTHING T.l_NOTHING)).de ?_)) fun hk => dss_nil ?_)
  · have hk : s.isChanged = false := by simpa using hk
    rw [if_pos hk]
    exact ⟨rfl, rfl⟩
  have hk : ¬ s.isChanged = false := by simpa using hk
  rw [if_neg hk]
  refine dss_cons (ds_if (dt_cmp (dc_ge (de_lenL (ds := s.commits.map (eOp eCm)) T.n_len (de_fld (dkv 0) T.cls T.a_commits rfl)) (de_gint T.i_MOST_COMMITS))) (fun hk => dss_one (ds_ret (do_listF T.n_list (de_glst T.g_TOO_MANY_names T.l_TOO_MANY_names)).de ?_)) fun hk2 => dss_nil ?_)
  · have h : (40 : Int) ≤ (s.commits.map (eOp eCm)).length := of_decide_eq_true hk
    rw [List.length_map] at h
    rw [if_pos (by omega)]
    exact ⟨rfl, rfl⟩
  have h : ¬ (40 : Int) ≤ (s.commits.map (eOp eCm)).length := of_decide_eq_false hk2
  rw [List.length_map] at h
  rw [if_neg (by omega)]
  exact dss_one (ds_ret (do_lst (da_one (de_meth (dkv 0) T.cls (k_add_commit T) (hr.mono (by decide)) (da_cons (de_tup (da_one (de_meth0 (dkv 0) T.cls (k_head T) (hr.mono (by decide)) rfl ⟨s, g, rfl, rfl, rfl⟩))) (da_one (de_fld (dkv 0) T.cls T.a_working rfl))) rfl rfl ⟨s, [s.head], s.working, g, by omega, g.par1, g.wk, rfl, rfl, rfl, rfl⟩))).de ⟨rfl, rfl⟩)
def rkDiscard := rkOp fun ds op => ds = [] ∧ op = .discard
theorem c_discard (T : Tx K mg) : Cal P w K mg base "discard" 5 ["keeper"] (spK K (He.ga K "Keeper") 0 rkDiscard) :=
  T.keep 63 48 87 sc_discard (fun _ _ _ _ _ _ us hl => match us, hl with | [_], _ => rfl) rfl fun cdv A outer s H E ka hr fs ds d fs' _hl hR => by
  obtain ⟨s, op, g, ⟨rfl, rfl⟩, rfl, rfl, rfl⟩ := hR
  have h1 := g.wk.few
  have h2 := g.hv.few
  refine dss_cons (ds_set (i := 1) sc_discard.nd rfl (by first | exact .inl rfl | exact .inr rfl) (de_lenL T.n_len (de_call (c_changes_between T) (hr.mono (by decide)) (da_cons (de_meth0 (dkv 0) T.cls (k_head_version T) (hr.mono (by decide)) rfl ⟨s, g, rfl, rfl, rfl⟩) (da_one (de_fld (dkv 0) T.cls T.a_working rfl))) ⟨s.version s.head, s.working, s.attributeCount, by omega, g.hv.wd, g.wk.wd, rfl, rfl⟩)) ?_)
  refine dss_cons (ds_expr (de_meth (dkv 0) T.cls (k_set_working T) (hr.mono (by decide)) (da_one (de_meth0 (dkv 0) T.cls (k_head_version T) (hr.mono (by decide)) rfl ⟨s, g, rfl, rfl, rfl⟩)) rfl rfl ⟨s, _, rfl, rfl, rfl, rfl⟩) ?_)
  refine dss_one (ds_ret (do_lst (da_one (dv 1))).de ⟨rfl, ?_⟩)
  rw [List.length_map] <;> rfl
def rkCreateB := rkOp fun ds op => ∃ b : Nat, ds = [.int b] ∧ op = .createBranch b
theorem c_create_branch (T : Tx K mg) : Cal P w K mg base "create_branch" 4 ["keeper", "name"] (spK K (He.ga K "Keeper") 1 rkCreateB) :=
  T.keep 64 49 88 sc_create_branch (fun _ _ _ _ _ _ us hl => match us, hl with | [_, _], _ => rfl) rfl fun cdv A outer s H E ka hr fs ds d fs' _hl hR => by
  obtain ⟨s, op, g, ⟨b, rfl, rfl⟩, rfl, rfl, rfl⟩ := hR
  have e : s.run (.createBranch b) = if (Kvg9.lookup s.branches b).isSome then (s, .error (-17)) else if 8 ≤ s.branches.length then (s, .error (-28)) else ({ s with branches := Kvg9.assign b s.head s.branches }, .number s.head) := rfl
  cases hn : Kvg9.lookup s.branches b with
  | some c =>
    rw [hn] at e
    rw [show s.run (.createBranch b) = (s, .error (-17)) from e]
    exact dss_cons (ds_if (dt_cmp (dc_notN (de_call (c_commit_named T) (hr.mono (by decide)) (da_cons (de_fld (dkv 0) T.cls T.a_branches rfl) (da_one (dv 1))) ⟨s.branches, b, rfl, rfl⟩))) (fun _ => dss_one (ds_ret (do_listF T.n_list (de_glst T.g_TAKEN T.l_TAKEN)).de ⟨rfl, rfl⟩)) fun h => by rw [hn] at h; cases h)
  | none =>
    rw [hn] at e
    rw [show s.run (.createBranch b) = if 8 ≤ s.branches.length then (s, .error (-28)) else ({ s with branches := Kvg9.assign b s.head s.branches }, .number s.head) from e]
    refine dss_cons (ds_if (dt_cmp (dc_notN (de_call (c_commit_named T) (hr.mono (by decide)) (da_cons (de_fld (dkv 0) T.cls T.a_branches rfl) (da_one (dv 1))) ⟨s.branches, b, rfl, rfl⟩))) (fun h => by rw [hn] at h; cases h) fun _ => dss_nil ?_)
    refine dss_cons (ds_if (dt_cmp (dc_ge (de_lenL (ds := s.branches.map ePr) T.n_len (de_fld (dkv 0) T.cls T.a_branches rfl)) (de_gint T.i_MOST_NAMES))) (fun hk => dss_one (ds_ret (do_listF T.n_list (de_glst T.g_TOO_MANY_names T.l_TOO_MANY_names)).de ?_)) fun hk => dss_nil ?_)
    · have h : (8 : Int) ≤ (s.branches.map ePr).length := of_decide_eq_true hk
      rw [List.length_map] at h
      rw [if_pos (by omega)]
      exact ⟨rfl, rfl⟩
    have h : ¬ (8 : Int) ≤ (s.branches.map ePr).length := of_decide_eq_false hk
    rw [List.length_map] at h
    rw [if_neg (by omega)]
    obtain ⟨g2, e2⟩ := g.addB hn (by omega)
    refine dss_cons (ds_expr (de_meth (dkv 0) T.cls (k_add_branch T) (hr.mono (by decide)) (da_one (dv 1)) rfl rfl ⟨s, b, g, rfl, rfl, rfl, rfl⟩) ?_)
    refine dss_one (ds_ret (do_lst (da_one (de_meth0 (dkv 0) T.cls (k_head T) (hr.mono (by decide)) rfl ⟨_, g2, rfl, rfl, rfl⟩))).de ⟨rfl, ?_⟩)
    rw [e2] <;> rfl
def rkSwitchB := rkOp fun ds op => ∃ b : Nat, ds = [.int b] ∧ op = .switchBranch b
theorem c_switch_branch (T : Tx K mg) : Cal P w K mg base "switch_branch" 5 ["keeper", "name"] (spK K (He.ga K "Keeper") 1 rkSwitchB) :=
  T.keep 65 50 89 sc_switch_branch (fun _ _ _ _ _ _ us hl => match us, hl with | [_, _], _ => rfl) rfl fun cdv A outer s H E ka hr fs ds d fs' _hl hR => by
  obtain ⟨s, op, g, ⟨b, rfl, rfl⟩, rfl, rfl, rfl⟩ := hR
  have e : s.run (.switchBranch b) = match Kvg9.lookup s.branches b with
    | none => (s, .error (-2))
    | some c => if s.isChanged then (s, .error (-16)) else ({ s with current := b, working := s.version c }, .number c) := rfl
  cases hn : Kvg9.lookup s.branches b with
  | none =>
    rw [hn] at e
    rw [show s.run (.switchBranch b) = (s, .error (-2)) from e]
    exact dss_cons (ds_if (dt_cmp (dc_isN (de_call (c_commit_named T) (hr.mono (by decide)) (da_cons (de_fld (dkv 0) T.cls T.a_branches rfl) (da_one (dv 1))) ⟨s.branches, b, rfl, rfl⟩))) (fun _ => dss_one (ds_ret (do_listF T.n_list (de_glst T.g_MISSING_names T.l_MISSING_names)).de ⟨rfl, rfl⟩)) fun h => by rw [hn] at h; cases h)
  | some c =>
    rw [hn] at e
    rw [show s.run (.switchBranch b) = if s.isChanged then (s, .error (-16)) else ({ s with current := b, working := s.version c }, .number c) from e]
    refine dss_cons (ds_if (dt_cmp (dc_isN (de_call (c_commit_named T) (hr.mono (by decide)) (da_cons (de_fld (dkv 0) T.cls T.a_branches rfl) (da_one (dv 1))) ⟨s.branches, b, rfl, rfl⟩))) (fun h => by rw [hn] at h; cases h) fun _ => dss_nil ?_)
    refine dss_cons (ds_if (dt_val (de_meth0 (dkv 0) T.cls (k_is_changed T) (hr.mono (by decide)) rfl ⟨s, g, rfl, rfl, rfl⟩)) (fun hk => dss_one (ds_ret (do_listF T.n_list (de_glst T.g_CHANGED_names T.l_CHANGED_names)).de ?_)) fun hk => dss_nil ?_)
    · rw [if_pos hk]
      exact ⟨rfl, rfl⟩
    rw [if_neg (by rw [hk]; exact Bool.noConfusion)]
    obtain ⟨g2, e2⟩ := g.sw hn
    refine dss_cons (ds_expr (de_meth (dkv 0) T.cls (k_switch T) (hr.mono (by decide)) (da_one (dv 1)) rfl rfl ⟨s, b, c, g, hn, rfl, rfl, rfl, rfl⟩) ?_)
    refine dss_one (ds_ret (do_lst (da_one (de_meth0 (dkv 0) T.cls (k_head T) (hr.mono (by decide)) rfl ⟨_, g2, rfl, rfl, rfl⟩))).de ⟨rfl, ?_⟩)
    rw [e2] <;> rfl
def rkDeleteB := rkOp fun ds op => ∃ b : Nat, ds = [.int b] ∧ op = .deleteBranch b
theorem c_delete_branch (T : Tx K mg) : Cal P w K mg base "delete_branch" 4 ["keeper", "name"] (spK K (He.ga K "Keeper") 1 rkDeleteB) :=
  T.keep 66 51 90 sc_delete_branch (fun _ _ _ _ _ _ us hl => match us, hl with | [_, _], _ => rfl) rfl fun cdv A outer s H E ka hr fs ds d fs' _hl hR => by
  obtain ⟨s, op, g, ⟨b, rfl, rfl⟩, rfl, rfl, rfl⟩ := hR
  have e : s.run (.deleteBranch b) = if (Kvg9.lookup s.branches b).isNone then (s, .error (-2)) else if b = s.current then (s, .error (-16)) else ({ s with branches := s.branches.filter fun e => e.1 != b }, .number (s.branches.length - 1)) := rfl
  cases hn : Kvg9.lookup s.branches b with
  | none =>
    rw [hn] at e
    rw [show s.run (.deleteBranch b) = (s, .error (-2)) from e]
    exact dss_cons (ds_if (dt_cmp (dc_isN (de_call (c_commit_named T) (hr.mono (by decide)) (da_cons (de_fld (dkv 0) T.cls T.a_branches rfl) (da_one (dv 1))) ⟨s.branches, b, rfl, rfl⟩))) (fun _ => dss_one (ds_ret (do_listF T.n_list (de_glst T.g_MISSING_names T.l_MISSING_names)).de ⟨rfl, rfl⟩)) fun h => by rw [hn] at h; cases h)
  | some c =>
    rw [hn] at e
    rw [show s.run (.deleteBranch b) = if b = s.current then (s, .error (-16)) else ({ s with branches := s.branches.filter fun e => e.1 != b }, .number (s.branches.length - 1)) from e]
    refine dss_cons (ds_if (dt_cmp (dc_isN (de_call (c_commit_named T) (hr.mono (by decide)) (da_cons (de_fld (dkv 0) T.cls T.a_branches rfl) (da_one (dv 1))) ⟨s.branches, b, rfl, rfl⟩))) (fun h => by rw [hn] at h; cases h) fun _ => dss_nil ?_)
    refine dss_cons (ds_if (dt_cmp (dc_eqI (dv 1) (de_fld (dkv 0) T.cls T.a_current rfl))) (fun hk => dss_one (ds_ret (do_listF T.n_list (de_glst T.g_CHANGED_names T.l_CHANGED_names)).de ?_)) fun hk => dss_nil ?_)
    · have h : (b : Int) = s.current := of_decide_eq_true hk
      rw [if_pos (by omega)]
      exact ⟨rfl, rfl⟩
    have h : ¬ (b : Int) = s.current := of_decide_eq_false hk
    rw [if_neg (by omega)]
    refine dss_cons (ds_expr (de_meth (dkv 0) T.cls (k_drop_branch T) (hr.mono (by decide)) (da_one (dv 1)) rfl rfl ⟨s, b, g, rfl, rfl, rfl, rfl⟩) ?_)
    refine dss_one (ds_ret (do_lst (da_one (de_lenL (ds := (s.branches.filter fun e => e.1 != b).map ePr) T.n_len (de_fld (dkv 0) T.cls T.a_branches rfl)))).de ⟨rfl, ?_⟩)
    rw [List.length_map, drop_len b _ g.bs ⟨c, hn⟩] <;> rfl
def rkResetB := rkOp fun ds op => ∃ c : Nat, ds = [.int c] ∧ op = .resetBranch c
theorem c_reset_branch (T : Tx K mg) : Cal P w K mg base "reset_branch" 5 ["keeper", "number"] (spK K (He.ga K "Keeper") 1 rkResetB) :=
  T.keep 67 52 91 sc_reset_branch (fun _ _ _ _ _ _ us hl => match us, hl with | [_, _], _ => rfl) rfl fun cdv A outer s H E ka hr fs ds d fs' _hl hR => by
  obtain ⟨s, op, g, ⟨c, rfl, rfl⟩, rfl, rfl, rfl⟩ := hR
  have e : s.run (.resetBranch c) = if s.exists_ c = false then (s, .error (-2)) else if s.isChanged then (s, .error (-16)) else ({ s with branches := Kvg9.assign s.current c s.branches, working := s.version c }, .number s.head) := rfl
  rw [e]
  refine dss_cons (ds_if (dt_not (dt_val (de_meth (dkv 0) T.cls (k_has_commit T) (hr.mono (by decide)) (da_one (dv 1)) rfl rfl ⟨s, g, rfl, rfl, c, rfl, rfl⟩))) (fun hk => dss_one (ds_ret (do_listF T.n_list (de_glst T.g_MISSING_names T.l_MISSING_names)).de ?_)) fun hk => dss_nil ?_)
  · have hk : s.exists_ c = false := by simpa using hk
    rw [if_pos hk]
    exact ⟨rfl, rfl⟩
  have hk : s.exists_ c = true := by simpa using hk
  rw [if_neg (by rw [hk]; exact Bool.noConfusion)]
  obtain ⟨q, hq⟩ := exists_iff.mp hk
  refine dss_cons (ds_if (dt_val (de_meth0 (dkv 0) T.cls (k_is_changed T) (hr.mono (by decide)) rfl ⟨s, g, rfl, rfl, rfl⟩)) (fun hk => dss_one (ds_ret (do_listF T.n_list (de_glst T.g_CHANGED_names T.l_CHANGED_names)).de ?_)) fun hk => dss_nil ?_)
  · rw [if_pos hk]
    exact ⟨rfl, rfl⟩
  rw [if_neg (by rw [hk]; exact Bool.noConfusion)]
  refine dss_cons (ds_set (i := 2) sc_reset_branch.nd rfl (by first | exact .inl rfl | exact .inr rfl) (de_meth0 (dkv 0) T.cls (k_head T) (hr.mono (by decide)) rfl ⟨s, g, rfl, rfl, rfl⟩) ?_)
  refine dss_cons (ds_expr (de_meth (dkv 0) T.cls (k_point T) (hr.mono (by decide)) (da_one (dv 1)) rfl rfl ⟨s, c, q, g, hq, rfl, rfl, rfl, rfl⟩) ?_)
  exact dss_one (ds_ret (do_lst (da_one (dv 2))).de ⟨rfl, rfl⟩)
def rkSetTag := rkOp fun ds op => ∃ t c : Nat, ds = [.int t, .int c] ∧ op = .setTag t c
theorem c_set_tag (T : Tx K mg) : Cal P w K mg base "set_tag" 4 ["keeper", "name", "number"] (spK K (He.ga K "Keeper") 2 rkSetTag) :=
  T.keep 68 53 92 sc_set_tag (fun _ _ _ _ _ _ us hl => match us, hl with | [_, _, _], _ => rfl) rfl fun cdv A outer s H E ka hr fs ds d fs' _hl hR => by
  obtain ⟨s, op, g, ⟨t, c, rfl, rfl⟩, rfl, rfl, rfl⟩ := hR
  have e : s.run (.setTag t c) = if s.exists_ c = false then (s, .error (-2)) else if (Kvg9.lookup s.tags t).isNone ∧ 8 ≤ s.tags.length then (s, .error (-28)) else ({ s with tags := Kvg9.assign t c s.tags }, .number (if (Kvg9.lookup s.tags t).isSome then 1 else 0)) := rfl
  rw [e]
  refine dss_cons (ds_if (dt_not (dt_val (de_meth (dkv 0) T.cls (k_has_commit T) (hr.mono (by decide)) (da_one (dv 2)) rfl rfl ⟨s, g, rfl, rfl, c, rfl, rfl⟩))) (fun hk => dss_one (ds_ret (do_listF T.n_list (de_glst T.g_MISSING_names T.l_MISSING_names)).de ?_)) fun hk => dss_nil ?_)
  · have hk : s.exists_ c = false := by simpa using hk
    rw [if_pos hk]
    exact ⟨rfl, rfl⟩
  have hk : s.exists_ c = true := by simpa using hk
  rw [if_neg (by rw [hk]; exact Bool.noConfusion)]
  refine dss_cons (ds_set (i := 3) sc_set_tag.nd rfl (by first | exact .inl rfl | exact .inr rfl) (de_cmp (dc_notN (de_call (c_commit_named T) (hr.mono (by decide)) (da_cons (de_fld (dkv 0) T.cls T.a_tags rfl) (da_one (dv 1))) ⟨s.tags, t, rfl, rfl⟩))) ?_)
  cases hn : Kvg9.lookup s.tags t with
  | none =>
    refine dss_cons (ds_if (dt_w (dw_and (dt_not (dt_val (dv 3))) fun _ => dw_and1 (dt_cmp (dc_ge (de_lenL (ds := s.tags.map ePr) T.n_len (de_fld (dkv 0) T.cls T.a_tags rfl)) (de_gint T.i_MOST_NAMES))))) (fun hk => dss_one (ds_ret (do_listF T.n_list (de_glst T.g_TOO_MANY_names T.l_TOO_MANY_names)).de ?_)) fun hk2 => dss_nil ?_)
    · have h : (8 : Int) ≤ (s.tags.map ePr).length := of_decide_eq_true (by simpa [isN, eOp] using hk)
      rw [List.length_map] at h
      rw [if_pos ⟨rfl, by omega⟩]
      exact ⟨rfl, rfl⟩
    have h : ¬ (8 : Int) ≤ (s.tags.map ePr).length := of_decide_eq_false (by simpa [isN, eOp] using hk2)
    rw [List.length_map] at h
    rw [if_neg (fun z => h (by have := z.2; omega))]
    refine dss_cons (ds_expr (de_meth (dkv 0) T.cls (k_put_tag T) (hr.mono (by decide)) (da_cons (dv 1) (da_one (dv 2))) rfl rfl ⟨s, t, c, g, rfl, rfl, rfl, rfl⟩) ?_)
    exact dss_one (ds_ret (do_if (dt_val (dv 3)) (fun h => by cases h) fun _ => do_lst (da_one de_int)).de ⟨rfl, rfl⟩)
  | some x =>
    rw [if_neg (fun z => by cases z.1)]
    refine dss_cons (ds_if (dt_w (dw_and (k2 := false) (dt_not (dt_val (dv 3))) fun h => by cases h)) (fun hk => by cases hk) fun hk2 => dss_nil ?_)
    refine dss_cons (ds_expr (de_meth (dkv 0) T.cls (k_put_tag T) (hr.mono (by decide)) (da_cons (dv 1) (da_one (dv 2))) rfl rfl ⟨s, t, c, g, rfl, rfl, rfl, rfl⟩) ?_)
    exact dss_one (ds_ret (do_if (dt_val (dv 3)) (fun _ => do_lst (da_one de_int)) fun h => by cases h).de ⟨rfl, rfl⟩)
def rkDeleteTag := rkOp fun ds op => ∃ t : Nat, ds = [.int t] ∧ op = .deleteTag t
theorem c_delete_tag (T : Tx K mg) : Cal P w K mg base "delete_tag" 3 ["keeper", "name"] (spK K (He.ga K "Keeper") 1 rkDeleteTag) :=
  T.keep 69 54 93 sc_delete_tag (fun _ _ _ _ _ _ us hl => match us, hl with | [_, _], _ => rfl) rfl fun cdv A outer s H E ka hr fs ds d fs' _hl hR => by
  obtain ⟨s, op, g, ⟨t, rfl, rfl⟩, rfl, rfl, rfl⟩ := hR
  have e : s.run (.deleteTag t) = match Kvg9.lookup s.tags t with
    | none => (s, .error (-2))
    | some c => ({ s with tags := s.tags.filter fun e => e.1 != t }, .number c) := rfl
  rw [e]
  refine dss_cons (ds_set (i := 2) sc_delete_tag.nd rfl (by first | exact .inl rfl | exact .inr rfl) (de_call (c_commit_named T) (hr.mono (by decide)) (da_cons (de_fld (dkv 0) T.cls T.a_tags rfl) (da_one (dv 1))) ⟨s.tags, t, rfl, rfl⟩) ?_)
  cases hn : Kvg9.lookup s.tags t with
  | none => exact dss_cons (ds_if (dt_cmp (dc_isN (dv 2))) (fun _ => dss_one (ds_ret (do_listF T.n_list (de_glst T.g_MISSING_names T.l_MISSING_names)).de ⟨rfl, rfl⟩)) fun h => by cases h)
  | some c =>
    refine dss_cons (ds_if (dt_cmp (dc_isN (dv 2))) (fun h => by cases h) fun _ => dss_nil ?_)
    refine dss_cons (ds_expr (de_meth (dkv 0) T.cls (k_drop_tag T) (hr.mono (by decide)) (da_one (dv 1)) rfl rfl ⟨s, t, g, rfl, rfl, rfl, rfl⟩) ?_)
    exact dss_one (ds_ret (do_lst (da_one (dv 2))).de ⟨rfl, rfl⟩)
/-- the operations of named -/
inductive OpN : Int → List Int → Operation → Prop
  | cm : OpN 9 [] .commit
  | di : OpN 10 [] .discard
  | cb (b : Nat) : OpN 11 [b] (.createBranch b)
  | sb (b : Nat) : OpN 12 [b] (.switchBranch b)
  | db (b : Nat) : OpN 13 [b] (.deleteBranch b)
  | rb (c : Nat) : OpN 14 [c] (.resetBranch c)
  | st (t c : Nat) : OpN 15 [t, c] (.setTag t c)
  | dt (t : Nat) : OpN 16 [t] (.deleteTag t)
def rkNamed := rkOp fun ds op => ∃ o l, OpN o l op ∧ ds = [.int o, .list (l.map .int)]
theorem c_named (T : Tx K mg) : Cal P w K mg base "named" 6 ["keeper", "operation", "numbers"] (spK K (He.ga K "Keeper") 2 rkNamed) :=
  T.keep 71 56 95 sc_named (fun _ _ _ _ _ _ us hl => match us, hl with | [_, _, _], _ => rfl) rfl fun cdv A outer s H E ka hr fs ds d fs' _hl hR => by
  obtain ⟨s, op, g, ⟨o, l, ho, rfl⟩, rfl, rfl, rfl⟩ := hR
  cases ho with
  | cm =>
    exact dss_cons (ds_if (dt_cmp (dc_eqI (dv 1) de_int)) (fun _ => dss_one (ds_ret (de_callK (c_commit T) (hr.mono (by decide)) (dak_cons (dkv 0) da_nil) ⟨s, _, g, ⟨rfl, rfl⟩, rfl, rfl, rfl⟩) ⟨rfl, rfl⟩)) fun hk => absurd hk (by decide))
  | di =>
    exact dss_cons (ds_if (dt_cmp (dc_eqI (dv 1) de_int)) (fun hk => absurd hk (by decide)) fun _ => dss_nil (dss_cons (ds_if (dt_cmp (dc_eqI (dv 1) de_int)) (fun _ => dss_one (ds_ret (de_callK (c_discard T) (hr.mono (by decide)) (dak_cons (dkv 0) da_nil) ⟨s, _, g, ⟨rfl, rfl⟩, rfl, rfl, rfl⟩) ⟨rfl, rfl⟩)) fun hk => absurd hk (by decide))))
  | cb b =>
    exact dss_cons (ds_if (dt_cmp (dc_eqI (dv 1) de_int)) (fun hk => absurd hk (by decide)) fun _ => dss_nil (dss_cons (ds_if (dt_cmp (dc_eqI (dv 1) de_int)) (fun hk => absurd hk (by decide)) fun _ => dss_nil (dss_cons (ds_if (dt_cmp (dc_eqI (dv 1) de_int)) (fun _ => dss_one (ds_ret (de_callK (c_create_branch T) (hr.mono (by decide)) (dak_cons (dkv 0) (da_one (de_ixL (dv 2) de_int rfl))) ⟨s, _, g, ⟨b, rfl, rfl⟩, rfl, rfl, rfl⟩) ⟨rfl, rfl⟩)) fun hk => absurd hk (by decide))))))
  | sb b =>
    exact dss_cons (ds_if (dt_cmp (dc_eqI (dv 1) de_int)) (fun hk => absurd hk (by decide)) fun _ => dss_nil (dss_cons (ds_if (dt_cmp (dc_eqI (dv 1) de_int)) (fun hk => absurd hk (by decide)) fun _ => dss_nil (dss_cons (ds_if (dt_cmp (dc_eqI (dv 1) de_int)) (fun hk => absurd hk (by decide)) fun _ => dss_nil (dss_cons (ds_if (dt_cmp (dc_eqI (dv 1) de_int)) (fun _ => dss_one (ds_ret (de_callK (c_switch_branch T) (hr.mono (by decide)) (dak_cons (dkv 0) (da_one (de_ixL (dv 2) de_int rfl))) ⟨s, _, g, ⟨b, rfl, rfl⟩, rfl, rfl, rfl⟩) ⟨rfl, rfl⟩)) fun hk => absurd hk (by decide))))))))
  | db b =>
    exact dss_cons (ds_if (dt_cmp (dc_eqI (dv 1) de_int)) (fun hk => absurd hk (by decide)) fun _ => dss_nil (dss_cons (ds_if (dt_cmp (dc_eqI (dv 1) de_int)) (fun hk => absurd hk (by decide)) fun _ => dss_nil (dss_cons (ds_if (dt_cmp (dc_eqI (dv 1) de_int)) (fun hk => absurd hk (by decide)) fun _ => dss_nil (dss_cons (ds_if (dt_cmp (dc_eqI (dv 1) de_int)) (fun hk => absurd hk (by decide)) fun _ => dss_nil (dss_cons (ds_if (dt_cmp (dc_eqI (dv 1) de_int)) (fun _ => dss_one (ds_ret (de_callK (c_delete_branch T) (hr.mono (by decide)) (dak_cons (dkv 0) (da_one (de_ixL (dv 2) de_int rfl))) ⟨s, _, g, ⟨b, rfl, rfl⟩, rfl, rfl, rfl⟩) ⟨rfl, rfl⟩)) fun hk => absurd hk (by decide))))))))))
  | rb c =>
    exact dss_cons (ds_if (dt_cmp (dc_eqI (dv 1) de_int)) (fun hk => absurd hk (by decide)) fun _ => dss_nil (dss_cons (ds_if (dt_cmp (dc_eqI (dv 1) de_int)) (fun hk => absurd hk (by decide)) fun _ => dss_nil (dss_cons (ds_if (dt_cmp (dc_eqI (dv 1) de_int)) (fun hk => absurd hk (by decide)) fun _ => dss_nil (dss_cons (ds_if (dt_cmp (dc_eqI (dv 1) de_int)) (fun hk => absurd hk (by decide)) fun _ => dss_nil (dss_cons (ds_if (dt_cmp (dc_eqI (dv 1) de_int)) (fun hk => absurd hk (by decide)) fun _ => dss_nil (dss_cons (ds_if (dt_cmp (dc_eqI (dv 1) de_int)) (fun _ => dss_one (ds_ret (de_callK (c_reset_branch T) (hr.mono (by decide)) (dak_cons (dkv 0) (da_one (de_ixL (dv 2) de_int rfl))) ⟨s, _, g, ⟨c, rfl, rfl⟩, rfl, rfl, rfl⟩) ⟨rfl, rfl⟩)) fun hk => absurd hk (by decide))))))))))))
  | st t c =>
    exact dss_cons (ds_if (dt_cmp (dc_eqI (dv 1) de_int)) (fun hk => absurd hk (by decide)) fun _ => dss_nil (dss_cons (ds_if (dt_cmp (dc_eqI (dv 1) de_int)) (fun hk => absurd hk (by decide)) fun _ => dss_nil (dss_cons (ds_if (dt_cmp (dc_eqI (dv 1) de_int)) (fun hk => absurd hk (by decide)) fun _ => dss_nil (dss_cons (ds_if (dt_cmp (dc_eqI (dv 1) de_int)) (fun hk => absurd hk (by decide)) fun _ => dss_nil (dss_cons (ds_if (dt_cmp (dc_eqI (dv 1) de_int)) (fun hk => absurd hk (by decide)) fun _ => dss_nil (dss_cons (ds_if (dt_cmp (dc_eqI (dv 1) de_int)) (fun hk => absurd hk (by decide)) fun _ => dss_nil (dss_cons (ds_if (dt_cmp (dc_eqI (dv 1) de_int)) (fun _ => dss_one (ds_ret (de_callK (c_set_tag T) (hr.mono (by decide)) (dak_cons (dkv 0) (da_cons (de_ixL (dv 2) de_int rfl) (da_one (de_ixL (dv 2) de_int rfl)))) ⟨s, _, g, ⟨t, c, rfl, rfl⟩, rfl, rfl, rfl⟩) ⟨rfl, rfl⟩)) fun hk => absurd hk (by decide))))))))))))))
  | dt t =>
    exact dss_cons (ds_if (dt_cmp (dc_eqI (dv 1) de_int)) (fun hk => absurd hk (by decide)) fun _ => dss_nil (dss_cons (ds_if (dt_cmp (dc_eqI (dv 1) de_int)) (fun hk => absurd hk (by decide)) fun _ => dss_nil (dss_cons (ds_if (dt_cmp (dc_eqI (dv 1) de_int)) (fun hk => absurd hk (by decide)) fun _ => dss_nil (dss_cons (ds_if (dt_cmp (dc_eqI (dv 1) de_int)) (fun hk => absurd hk (by decide)) fun _ => dss_nil (dss_cons (ds_if (dt_cmp (dc_eqI (dv 1) de_int)) (fun hk => absurd hk (by decide)) fun _ => dss_nil (dss_cons (ds_if (dt_cmp (dc_eqI (dv 1) de_int)) (fun hk => absurd hk (by decide)) fun _ => dss_nil (dss_cons (ds_if (dt_cmp (dc_eqI (dv 1) de_int)) (fun hk => absurd hk (by decide)) fun _ => dss_nil (dss_one (ds_ret (de_callK (c_delete_tag T) (hr.mono (by decide)) (dak_cons (dkv 0) (da_one (de_ixL (dv 2) de_int rfl))) ⟨s, _, g, ⟨t, rfl, rfl⟩, rfl, rfl, rfl⟩) ⟨rfl, rfl⟩)))))))))))))))
end
end Pv
/-! ### 22. garbage; what a merge gives -/
namespace Pv
open PySem PySem.Spec PyProof.Rows L2
open Kvg9 (Feature Version Vertex Commit Store Change Operation Response Conflict)

/-! the mathematics -/
theorem range_get {α : Type} (l : List α) (z : α) : (List.range l.length).map (fun i => l.getD i z) = l := by
  refine List.ext_getElem (by simp) fun i h1 h2 => ?_
  rw [List.getElem_map, List.getElem_range, List.getD_eq_getElem?_getD, List.getElem?_eq_getElem h2] <;> rfl
theorem range_zip {α : Type} (l : List α) (z : α) : l.zipIdx = (List.range l.length).map (fun i => (l.getD i z, i)) := by
  refine List.ext_getElem (by simp) fun i h1 h2 => ?_
  rw [List.length_zipIdx] at h1
  rw [List.getElem_map, List.getElem_range, List.getElem_zipIdx, List.getD_eq_getElem?_getD, List.getElem?_eq_getElem h1]
  simp
theorem gone_add {α : Type} (p : Nat → Bool) (f : Nat → Option α) : ∀ r : List Nat, (r.filter fun i => (f i).isSome && !p i).length + ((r.map fun i => if p i then f i else none).filter Option.isSome).length = ((r.map f).filter Option.isSome).length
  | [] => rfl
  | i :: r => by
    have ih := gone_add p f r
    rw [List.map_cons, List.map_cons]
    cases hp : p i <;> cases hf : f i <;> simp [hp, hf, List.filter_cons] <;> omega
theorem gone_len (s : Store) (p : Nat → Bool) : ((List.range s.commits.length).filter fun i => s.exists_ i && !p i).length = (s.commits.filter Option.isSome).length - ((s.commits.zipIdx.map fun q => if p q.2 then q.1 else none).filter Option.isSome).length := by
  have h := gone_add p (fun i => s.commits.getD i none) (List.range s.commits.length)
  rw [range_get] at h
  rw [range_zip s.commits none, List.map_map]
  show ((List.range s.commits.length).filter fun i => (s.commits.getD i none).isSome && !p i).length = _
  have e : ((List.range s.commits.length).map ((fun q : Option Commit × Nat => if p q.2 = true then q.1 else none) ∘ fun i => (s.commits.getD i none, i))) = (List.range s.commits.length).map fun i => if p i then s.commits.getD i none else none := rfl
  rw [e]
  omega
def tips (s : Store) : List Nat := s.branches.map Prod.snd ++ s.tags.map Prod.snd
theorem GoodS.tip {s : Store} (g : GoodS s) : ∀ n ∈ tips s, ∃ q, s.commit n = some q := fun n hn => by
  rcases List.mem_append.mp hn with h | h
  · obtain ⟨e, he, rfl⟩ := List.mem_map.mp h
    exact g.be e he
  · obtain ⟨e, he, rfl⟩ := List.mem_map.mp h
    exact g.te e he
theorem kept_is {s : Store} (g : GoodS s) (k : Nat) : (dGet (rch s (tips s)) k).isSome = ((tips s).flatMap s.ancestors).contains k := by
  have h : (dGet (rch s (tips s)) k).isSome = true ↔ ((tips s).flatMap s.ancestors).contains k = true := by
    rw [rch_mem, List.mem_flatMap]
    have : ((tips s).flatMap s.ancestors).contains k = true ↔ k ∈ (tips s).flatMap s.ancestors := by simp
    rw [this, List.mem_flatMap]
    constructor
    · rintro ⟨n, h1, h2⟩
      obtain ⟨q, hq⟩ := g.tip n h1
      exact ⟨n, h1, (anc_mem g hq k).mp h2⟩
    · rintro ⟨n, h1, h2⟩
      obtain ⟨q, hq⟩ := g.tip n h1
      exact ⟨n, h1, (anc_mem g hq k).mpr h2⟩
  cases e : (dGet (rch s (tips s)) k).isSome with
  | true => exact (h.mp e).symm
  | false =>
    cases e2 : ((tips s).flatMap s.ancestors).contains k with
    | true => rw [h.mpr e2] at e; cases e
    | false => rfl
theorem run_collect {s : Store} (g : GoodS s) : s.run .collectGarbage = ({ s with commits := s.commits.zipIdx.map fun q => if (dGet (rch s (tips s)) (q.2 : Nat)).isSome then q.1 else none }, .number ((List.range s.commits.length).filter fun i => s.exists_ i && !(dGet (rch s (tips s)) i).isSome).length) := by
  rw [gone_len s fun i => (dGet (rch s (tips s)) i).isSome]
  simp only [kept_is g]
  rfl
theorem eqe_Cf : EqE eCf 1 := ⟨fun a => by simp [eCf, PyData.canLay0, PyData.canLayAll0], fun a => by simp [eCf, PyData.depth, PyData.depthAll], fun a b => by
  unfold eCf PyData.eqv
  simp only [PyData.eqvAll, PyData.eqv]
  obtain ⟨a1, a2, a3⟩ := a
  obtain ⟨b1, b2, b3⟩ := b
  have q : ∀ x y : Nat, ((x : Int) == y) = decide (x = y) := fun x y => by
    by_cases h : x = y
    · simp [h]
    · have h2 : ¬ (x : Int) = y := by omega
      simp [h, h2]
  simp only [q]
  by_cases h1 : a1 = b1 <;> by_cases h2 : a2 = b2 <;> by_cases h3 : a3 = b3 <;> simp [h1, h2, h3], fun _ => rfl⟩
/-! what a merge gives -/
theorem mv_mem {α : Type} [DecidableEq α] {b o t x : α} (h : Kvg9.mergeValue b o t = some x) : x = o ∨ x = t := by
  unfold Kvg9.mergeValue at h
  split at h
  · exact .inl (Option.some.inj h).symm
  · split at h
    · exact .inr (Option.some.inj h).symm
    · split at h
      · exact .inl (Option.some.inj h).symm
      · cases h
theorem sd_mem {α : Type} (side : Bool) (o t : α) : sd side o t = o ∨ sd side o t = t := by
  cases side
  · exact .inl rfl
  · exact .inr rfl
theorem ml1_len {α : Type} [DecidableEq α] (side : Bool) (b o t : List α) (z : α) (l : List Nat) : (ml1 side b o t z l).length = l.length := by
  unfold ml1
  rw [List.length_map]
theorem getD_mem {α : Type} {l : List α} {i : Nat} (z : α) (h : i < l.length) : l.getD i z ∈ l := by
  rw [List.getD_eq_getElem?_getD, List.getElem?_eq_getElem h]
  exact List.getElem_mem h
theorem ml1_mem {α : Type} [DecidableEq α] {side : Bool} {b o t : List α} {z : α} (h1 : b.length = o.length) (h2 : b.length = t.length) {x : α} (h : x ∈ ml1 side b o t z (List.range b.length)) : x ∈ o ∨ x ∈ t := by
  unfold ml1 at h
  obtain ⟨i, hi, rfl⟩ := List.mem_map.mp h
  have hi := List.mem_range.mp hi
  have ho : o.getD i z ∈ o := getD_mem z (by omega)
  have ht : t.getD i z ∈ t := getD_mem z (by omega)
  cases hm : mvi b o t z i with
  | some y =>
    rcases mv_mem hm with e | e
    · rw [e]
      exact .inl ho
    · rw [e]
      exact .inr ht
  | none =>
    rcases sd_mem side (o.getD i z) (t.getD i z) with e | e
    · rw [Option.getD_none, e]
      exact .inl ho
    · rw [Option.getD_none, e]
      exact .inr ht
def OkX (l : List Vertex) : Prop := 0 < l.length ∧ l.length ≤ 12 ∧ ∀ x ∈ l, Kvg9.isVertex x = true
theorem mvx_ok {side : Bool} {b o t : List Vertex} (ho : OkX o) (ht : OkX t) : OkX (mvx side b o t).1 := by
  cases hm : Kvg9.mergeValue b o t with
  | some v =>
    rw [mvx_some hm]
    rcases mv_mem hm with e | e
    · rw [e]
      exact ho
    · rw [e]
      exact ht
  | none =>
    rw [mvx_none hm]
    by_cases c : b.length = o.length ∧ b.length = t.length
    · rw [if_pos c, ml_is]
      show OkX (ml1 side b o t (0, 0) (List.range b.length))
      refine ⟨?_, ?_, fun x hx => ?_⟩
      · rw [ml1_len, List.length_range, c.1]
        exact ho.1
      · rw [ml1_len, List.length_range, c.1]
        exact ho.2.1
      · rcases ml1_mem c.1 c.2 hx with h | h
        · exact ho.2.2 x h
        · exact ht.2.2 x h
    · rw [if_neg c]
      rcases sd_mem side o t with e | e
      · show OkX (sd side o t)
        rw [e]
        exact ho
      · show OkX (sd side o t)
        rw [e]
        exact ht
def OkF (w : Nat) (f : Feature) : Prop := f.attributes.length = w ∧ f.id ≤ 65535 ∧ 0 < f.vertices.length ∧ f.vertices.length ≤ 12 ∧ ∀ x ∈ f.vertices, Kvg9.isVertex x = true
theorem mft_ok {side : Bool} {w n : Nat} {b o t : Option Feature} (hb : ∀ f, b = some f → f.id = n ∧ OkF w f) (ho : ∀ f, o = some f → f.id = n ∧ OkF w f) (ht : ∀ f, t = some f → f.id = n ∧ OkF w f) {f : Feature} (h : (mft side b o t).1 = some f) : f.id = n ∧ OkF w f := by
  cases hm : Kvg9.mergeValue b o t with
  | some x =>
    rw [mft_some hm] at h
    have h : x = some f := h
    rcases mv_mem hm with e | e
    · exact ho f (e.symm.trans h)
    · exact ht f (e.symm.trans h)
  | none =>
    rw [mft_none hm] at h
    have pick : ∀ {o t : Option Feature}, (∀ f, o = some f → f.id = n ∧ OkF w f) → (∀ f, t = some f → f.id = n ∧ OkF w f) → sd side o t = some f → f.id = n ∧ OkF w f := fun {o t} ho ht h => by
      rcases sd_mem side o t with e | e
      · exact ho f (e.symm.trans h)
      · exact ht f (e.symm.trans h)
    cases b with
    | none => exact pick ho ht h
    | some b =>
      cases o with
      | none => exact pick ho ht h
      | some o =>
        cases t with
        | none => exact pick ho ht h
        | some t =>
          have e := Option.some.inj h
          obtain ⟨i1, k1⟩ := hb b rfl
          obtain ⟨i2, k2⟩ := ho o rfl
          obtain ⟨i3, k3⟩ := ht t rfl
          have x := mvx_ok (side := side) (b := b.vertices) (show OkX o.vertices from k2.2.2) (show OkX t.vertices from k3.2.2)
          subst e
          refine ⟨i1, ?_, k1.2.1, x.1, x.2.1, x.2.2⟩
          show (Kvg9.mergeLists side b.attributes o.attributes t.attributes 0).1.length = w
          rw [ml_is]
          show (ml1 _ _ _ _ _ _).length = w
          rw [ml1_len, List.length_range]
          exact k1.1
theorem srt_map {f : Nat → Option Feature} (hf : ∀ n x, f n = some x → x.id = n) : ∀ l : List Nat, l.Pairwise (· < ·) → Srt (l.filterMap f)
  | [], _ => List.Pairwise.nil
  | n :: l, h => by
    obtain ⟨h1, h2⟩ := List.pairwise_cons.mp h
    have ih := srt_map hf l h2
    cases e : f n with
    | none =>
      rw [List.filterMap_cons_none e]
      exact ih
    | some x =>
      rw [List.filterMap_cons_some e]
      refine List.pairwise_cons.mpr ⟨fun y hy => ?_, ih⟩
      obtain ⟨m, hm, e2⟩ := List.mem_filterMap.mp hy
      have := h1 m hm
      rw [hf n x e, hf m y e2]
      exact this
theorem merge_ok {side : Bool} {w : Nat} {b o t : Version} (hb : OkV w b) (ho : OkV w o) (ht : OkV w t) (hl : (Kvg9.merge side b o t).1.length ≤ 16) : OkV w (Kvg9.merge side b o t).1 := by
  have fo : ∀ {v : Version}, OkV w v → ∀ n f, Kvg9.find v n = some f → f.id = n ∧ OkF w f := fun {v} hv n f h => ⟨(find_mem h).2, hv.ft f (find_mem h).1⟩
  have key : ∀ n x, (mft side (Kvg9.find b n) (Kvg9.find o n) (Kvg9.find t n)).1 = some x → x.id = n ∧ OkF w x := fun n x h => mft_ok (fo hb n) (fo ho n) (fo ht n) h
  rw [merge_is] at hl ⊢
  refine ⟨srt_map (fun n x h => (key n x h).1) _ (ids_asc _), hl, fun f hf => ?_⟩
  obtain ⟨n, _, e⟩ := List.mem_filterMap.mp hf
  exact (key n f e).2
theorem merge_len {side : Bool} {b o t : Version} (hz : b.length + o.length + t.length < 64) (hb : ∀ f ∈ b, f.attributes.length ≤ 8 ∧ f.vertices.length ≤ 12) : (Kvg9.merge side b o t).2.length ≤ 1280 := by
  rw [merge_is]
  have hids := ids_len [b, o, t]
  have hz2 : ([b, o, t] : List Version).flatten.length < 64 := by
    simp only [List.flatten_cons, List.flatten_nil, List.append_nil, List.length_append]
    omega
  have main : ∀ l : List Nat, (l.flatMap fun n => (mft side (Kvg9.find b n) (Kvg9.find o n) (Kvg9.find t n)).2.map (cfl n)).length ≤ 20 * l.length := by
    intro l
    induction l with
    | nil => simp
    | cons n l ih =>
      have hlen := mft_len (side := side) (b := Kvg9.find b n) (o := Kvg9.find o n) (t := Kvg9.find t n) fun f hf => hb f (find_mem hf).1
      rw [List.flatMap_cons, List.length_append, List.length_map, List.length_cons]
      omega
  have := main (Kvg9.idsOf [b, o, t])
  show (List.flatMap _ _).length ≤ 1280
  omega
theorem common_commit {s : Store} (g : GoodS s) {a b : Nat} {q r : Commit} (ha : s.commit a = some q) (hb : s.commit b = some r) : ∃ c, s.commit (s.commonAncestor a b) = some c := by
  cases h : (anc s a).find? fun y => decide (y ∈ anc s b) with
  | none => exact absurd (fun y hy => by simpa using List.find?_eq_none.mp h y hy) (common_ex g ha hb)
  | some x =>
    obtain ⟨h1, pre, post, h2, h3⟩ := List.find?_eq_some_iff_append.mp h
    have hx : x ∈ anc s b := of_decide_eq_true h1
    rw [common_is g ha hb h2 hx fun y hy => by simpa using h3 y hy]
    exact (anc_ok g hb ((anc_mem g hb x).mp hx)).2

section
variable {P : Program} {w : World} {K : Fg} {mg : Str → Option Value} {base : Heap}
def rkCollect := rkOp fun ds op => ds = [] ∧ op = .collectGarbage
theorem c_collect_garbage (T : Tx K mg) : Cal P w K mg base "collect_garbage" 3 ["keeper"] (spK K (He.ga K "Keeper") 0 rkCollect) :=
  T.keep 70 55 94 sc_collect_garbage (fun _ _ _ _ _ _ us hl => match us, hl with | [_], _ => rfl) rfl fun cdv A outer s H E ka hr fs ds d fs' _hl hR => by
  obtain ⟨s, op, g, ⟨rfl, rfl⟩, rfl, rfl, rfl⟩ := hR
  rw [run_collect g]
  have b1 := g.bl
  have b2 := g.tl
  have b3 := g.len
  refine dss_cons (ds_set (i := 1) sc_collect_garbage.nd rfl (by first | exact .inl rfl | exact .inr rfl) (de_call (c_reached_from T) (hr.mono (by decide)) (da_cons (de_fld (dkv 0) T.cls T.a_commits rfl) (da_one (do_map (l := s.branches ++ s.tags) (enc := ePr) (enc' := fun e => .int e.2) (own := [("row", 3)]) sc_collect_garbage.nd (DI.to (di_lst (do_cat (de_fld (dkv 0) T.cls T.a_branches rfl) (de_fld (dkv 0) T.cls T.a_tags rfl) (line_le (by rw [List.length_map, List.length_map]; omega))).de) (by rw [List.map_append])) (line_le (by rw [List.length_append]; omega)) (blkOk_by (N := N_collect_garbage) (sc := defScope (top 94)) (by decide +kernel))
    (fun e he => ⟨_, _, (by simp), fun s1 H1 C1 cl1 fp1 => ⟨(dg_name sc_collect_garbage.nd (i := 3) rfl (by first | exact .inl rfl | exact .inr rfl)), de_ixT (dv 3) de_int rfl, rfl⟩⟩)).de)) ⟨s, tips s, g, g.tip, ?_, ?_, rfl⟩) ?_)
  · unfold tips
    rw [List.length_append, List.length_map, List.length_map]
    omega
  · unfold tips
    simp only [List.map_append, List.map_map] <;> rfl
  refine dss_cons (ds_setLc (i := 2) (l := List.range s.commits.length) (enc := eN) (enc' := eN) (q := fun i => s.exists_ i && !(dGet (rch s (tips s)) i).isSome) (own := [("at", 4)]) sc_collect_garbage.nd rfl rfl (sw_true rfl rfl rfl (by decide +kernel)) (DI.to (di_range1 (n := s.commits.length) T.n_range (DE.to (de_lenL T.n_len (de_fld (dkv 0) T.cls T.a_commits rfl)) (by rw [List.length_map])) (by omega)) rfl) (line_le (by rw [List.length_range]; omega)) (blkOk_by (N := N_collect_garbage) (sc := defScope (top 94)) (by decide +kernel))
    (fun i hi => ⟨_, _, (by simp), fun s1 H1 C1 cl1 fp1 => ⟨(dg_name sc_collect_garbage.nd (i := 4) rfl (by first | exact .inl rfl | exact .inr rfl)), dts_one (dt_w (dw_and (dt_val (de_meth (dkv 0) T.cls (k_has_commit T) (hr.mono (by decide)) (da_one (dv 4)) rfl rfl ⟨s, g, rfl, rfl, i, rfl, rfl⟩)) fun _ => dw_and1 (dt_cmp (dc_notInD (dm := rch s (tips s)) (Room.units1 hr) (dv 4) (dv 1))))), fun _ => ⟨(dv 4), rfl⟩⟩⟩) ?_)
  refine dss_cons (ds_expr (de_meth (dkv 0) T.cls (k_keep_commits T) (hr.mono (by decide)) (da_one (dv 1)) rfl rfl ⟨s, _, g, rfl, rfl, rfl, rfl⟩) ?_)
  refine dss_one (ds_ret (do_lst (da_one (de_lenL T.n_len (dv 2)))).de ⟨rfl, ?_⟩)
  rw [List.length_map] <;> rfl
def rRefused (ds : List PyData) (d : PyData) : Prop := ∃ cs : List Conflict, cs.length ≤ 1280 ∧ ds = [.list (cs.map eCf)] ∧ d = eRes (Kvg9.conflictsResult cs)
def cfi (c : Conflict) : List Int := [(c.id : Int), (c.kind : Int), (c.index : Int)]
theorem cfi_len : ∀ l : List Conflict, (l.flatMap cfi).length = 3 * l.length
  | [] => rfl
  | c :: l => by
    rw [List.flatMap_cons, List.length_append, cfi_len l, List.length_cons]
    show 3 + _ = _
    omega
theorem c_refused_by (T : Tx K mg) : Cal P w K mg base "refused_by" 1 ["conflicts"] (spP K 1 rRefused) :=
  T.pure 72 57 96 sc_refused_by (fun _ _ _ _ _ _ us hl => match us, hl with | [_], _ => rfl) fun cdv A outer s H E hr ds d _hl hR => by
  obtain ⟨cs, hz, rfl, rfl⟩ := hR
  refine dss_cons (ds_new (i := 1) sc_refused_by.nd rfl (by first | exact .inl rfl | exact .inr rfl) (do_lst (da_cons (de_neg de_int) (da_one (de_lenL T.n_len (dv 0))))) ?_)
  refine dss_cons (ds_for (l := cs) (enc := eCf) (fun pre m δ => m = none ∧ ∃ t1 t2 t3, δ = [.v (.list (cs.map eCf)), .own (.list ((((-35 : Int) :: (cs.length : Int) :: pre.flatMap cfi)).map .int)), t1, t2, t3]) (di_lst (dv 0)) ⟨rfl, .u, .u, .u, by rw [List.length_map] <;> rfl⟩ ?_ ?_)
  · rintro pre c post m δ hv ⟨rfl, t1, t2, t3, rfl⟩
    have hpl : pre.length ≤ 1280 := by
      have := congrArg List.length hv
      rw [List.length_append, List.length_cons] at this
      omega
    have hl := cfi_len pre
    refine ⟨_, _, dg_tup (dgs_cons (dg_name sc_refused_by.nd (i := 2) rfl (by first | exact .inl rfl | exact .inr rfl)) (dgs_cons (dg_name sc_refused_by.nd (i := 3) rfl (by first | exact .inl rfl | exact .inr rfl)) (dgs_cons (dg_name sc_refused_by.nd (i := 4) rfl (by first | exact .inl rfl | exact .inr rfl)) dgs_nil))) rfl, dss_one (ds_extend (i := 1) rfl (.inl rfl) rfl (do_lst (da_cons (dv 2) (da_cons (dv 3) (da_one (dv 4))))).de (line_le ?_) ⟨rfl, .v (.int c.id), .v (.int c.kind), .v (.int c.index), ?_⟩)⟩
    · simp only [List.length_map, List.length_cons, List.length_nil]
      omega
    · rw [List.flatMap_append, List.map_cons, List.map_cons, List.map_cons, List.map_cons, List.map_append, List.flatMap_cons, List.flatMap_nil, List.append_nil] <;> rfl
  · rintro m δ ⟨rfl, t1, t2, t3, rfl⟩
    exact dss_freeze (1) rfl (dss_one (ds_ret (dv 1) rfl))
def rkTooMuch := rkQ 1 fun s ds d => ∃ v : Version, ds = [eVer v] ∧ d = .bool (decide (16 < v.length) || decide (40 ≤ s.commits.length))
theorem c_is_too_much (T : Tx K mg) : Cal P w K mg base "is_too_much" 1 ["keeper", "version"] (spK K (He.ga K "Keeper") 1 rkTooMuch) :=
  T.keep 73 58 97 sc_is_too_much (fun _ _ _ _ _ _ us hl => match us, hl with | [_, _], _ => rfl) rfl fun cdv A outer s H E ka hr fs ds d fs' _hl hR => by
  obtain ⟨s, g, rfl, rfl, v, rfl, rfl⟩ := hR
  refine dss_one (ds_ret (de_or (de_cmp (dc_gt (de_lenT (ds := v.map eFeat) T.n_len (dv 1)) (de_gint T.i_MOST_FEATURES))) fun _ => de_one (de_cmp (dc_ge (de_lenL (ds := s.commits.map (eOp eCm)) T.n_len (de_fld (dkv 0) T.cls T.a_commits rfl)) (de_gint T.i_MOST_COMMITS)))) ⟨rfl, ?_⟩)
  rw [List.length_map, List.length_map]
  have e1 : decide ((16 : Int) < (v.length : Int)) = decide (16 < v.length) := decide_eq_decide.mpr ⟨fun h => by omega, fun h => by omega⟩
  have e2 : decide ((40 : Int) ≤ (s.commits.length : Int)) = decide (40 ≤ s.commits.length) := decide_eq_decide.mpr ⟨fun h => by omega, fun h => by omega⟩
  rw [e1, e2]
end
end Pv
/-! ### 23. merging and applying -/
namespace Pv
open PySem PySem.Spec PyProof.Rows L2
open Kvg9 (Feature Version Vertex Commit Store Change Operation Response Conflict)

def mcr (s : Store) (h o : Nat) (side : Option Bool) : Store × Response :=
  if (Kvg9.merge (side.getD false) (s.version (s.commonAncestor h o)) (s.version h) (s.version o)).2 ≠ [] ∧ side = none then (s, Kvg9.conflictsResult (Kvg9.merge (side.getD false) (s.version (s.commonAncestor h o)) (s.version h) (s.version o)).2)
  else if 16 < (Kvg9.merge (side.getD false) (s.version (s.commonAncestor h o)) (s.version h) (s.version o)).1.length ∨ 40 ≤ s.commits.length then (s, .error (-28))
  else (s.append [h, o] (Kvg9.merge (side.getD false) (s.version (s.commonAncestor h o)) (s.version h) (s.version o)).1, ⟨2, [(s.commits.length : Int), ((Kvg9.merge (side.getD false) (s.version (s.commonAncestor h o)) (s.version h) (s.version o)).2.length : Int)]⟩)
def eSide : Option Bool → PyData
  | none => .none
  | some b => eSd b
theorem mb_is (s : Store) (branch : Nat) (side : Option Bool) : s.mergeBranch branch side = match Kvg9.lookup s.branches branch with
    | none => (s, .error (-2))
    | some theirs =>
      if s.isChanged then (s, .error (-16))
      else if s.isAncestor theirs s.head then (s, ⟨0, [(s.head : Int)]⟩)
      else if s.isAncestor s.head theirs then ({ s with branches := Kvg9.assign s.current theirs s.branches, working := s.version theirs }, ⟨1, [(theirs : Int)]⟩)
      else mcr s s.head theirs side := rfl
theorem ap_is (s : Store) (before after : Nat) : s.apply before after = if (Kvg9.merge false (s.version before) (s.version s.head) (s.version after)).2 ≠ [] then (s, Kvg9.conflictsResult (Kvg9.merge false (s.version before) (s.version s.head) (s.version after)).2)
    else if (Kvg9.merge false (s.version before) (s.version s.head) (s.version after)).1 = s.version s.head then (s, .error (-6))
    else if 16 < (Kvg9.merge false (s.version before) (s.version s.head) (s.version after)).1.length ∨ 40 ≤ s.commits.length then (s, .error (-28))
    else (s.append [s.head] (Kvg9.merge false (s.version before) (s.version s.head) (s.version after)).1, .number s.commits.length) := rfl
theorem GoodS.ver {s : Store} (g : GoodS s) {k : Nat} {c : Commit} (h : s.commit k = some c) : OkV s.attributeCount (s.version k) := by
  rw [version_of h]
  exact (g.cm k c h).1
theorem OkV.two {w : Nat} {v : Version} (h : OkV w v) : ∀ f ∈ v, f.attributes.length = w ∧ f.vertices.length ≤ 12 := fun f hf => ⟨(h.ft f hf).1, (h.ft f hf).2.2.2.1⟩
theorem isAnc_iff {s : Store} {a b : Nat} : s.isAncestor a b = true ↔ a ∈ s.ancestors b := by
  unfold Store.isAncestor
  simp
theorem in_anc {s : Store} (g : GoodS s) {c : Nat} {q : Commit} (hc : s.commit c = some q) (x : Nat) : decide ((x : Int) ∈ (anc s c).map fun n : Nat => (n : Int)) = s.isAncestor x c := by
  have h : (x : Int) ∈ ((anc s c).map fun n : Nat => (n : Int)) ↔ s.isAncestor x c = true := by
    rw [isAnc_iff, ← anc_mem g hc, List.mem_map]
    constructor
    · rintro ⟨y, hy, e⟩
      have e2 : y = x := by omega
      rw [← e2]
      exact hy
    · intro h
      exact ⟨x, h, rfl⟩
  cases e : s.isAncestor x c with
  | true => exact decide_eq_true (h.mpr e)
  | false => exact decide_eq_false fun z => by rw [h.mp z] at e; cases e
section
variable {P : Program} {w : World} {K : Fg} {mg : Str → Option Value} {base : Heap}
def rkMergedC (fs : Ob) (ds : List PyData) (d : PyData) (fs' : Ob) : Prop := ∃ (s : Store) (h o : Nat) (q1 q2 : Commit) (side : Option Bool), GoodS s ∧ s.commit h = some q1 ∧ s.commit o = some q2 ∧ fs = kfs s ∧ ds = [.int h, .int o, eSide side] ∧ d = eRes (mcr s h o side).2 ∧ fs' = kfs (mcr s h o side).1
theorem c_merged_commits (T : Tx K mg) : Cal P w K mg base "merged_commits" 6 ["keeper", "head", "other", "side"] (spK K (He.ga K "Keeper") 3 rkMergedC) :=
  T.keep 74 59 98 sc_merged_commits (fun _ _ _ _ _ _ us hl => match us, hl with | [_, _, _, _], _ => rfl) rfl fun cdv A outer s H E ka hr fs ds d fs' _hl hR => by
  obtain ⟨s, h, o, q1, q2, side, g, h1, h2, rfl, rfl, rfl, rfl⟩ := hR
  obtain ⟨qb, hb⟩ := common_commit g h1 h2
  have vb := g.ver hb
  have vh := g.ver h1
  have vo := g.ver h2
  have f1 := vb.few
  have f2 := vh.few
  have f3 := vo.few
  have gw := g.w
  have hml : (Kvg9.merge (side.getD false) (s.version (s.commonAncestor h o)) (s.version h) (s.version o)).2.length ≤ 1280 := merge_len (by omega) fun f hf => by
    have := vb.two f hf
    omega
  have hok := merge_ok (side := side.getD false) vb vh vo
  unfold mcr
  refine dss_cons (ds_set (i := 4) sc_merged_commits.nd rfl (by first | exact .inl rfl | exact .inr rfl) (de_fld (dkv 0) T.cls T.a_commits rfl) ?_)
  refine dss_cons (ds_set (i := 5) sc_merged_commits.nd rfl (by first | exact .inl rfl | exact .inr rfl) (de_call (c_common_ancestor_of T) (hr.mono (by decide)) (da_cons (dv 4) (da_cons (dv 1) (da_one (dv 2)))) ⟨s, h, o, q1, q2, g, h1, h2, rfl, rfl⟩) ?_)
  refine dss_cons (ds_set (i := 6) sc_merged_commits.nd rfl (by first | exact .inl rfl | exact .inr rfl) (m1 := some (kfs s)) (d := eSd (side.getD false)) (de_if (dt_cmp (dc_isN (dv 3))) (fun hk => ?_) fun hk => ?_) ?_)
  · cases side with
    | none => exact de_int
    | some b => cases hk
  · cases side with
    | none => cases hk
    | some b => exact (dv 3)
  refine dss_cons (ds_asg (de_call (c_merged_version T) (hr.mono (by decide)) (da_cons (de_ixT (ds := [.tuple (qb.parents.map eN), eVer qb.version]) (de_ixL (dv 4) (dv 5) (commit_at hb)) de_int rfl) (da_cons (de_ixT (ds := [.tuple (q1.parents.map eN), eVer q1.version]) (de_ixL (dv 4) (dv 1) (commit_at h1)) de_int rfl) (da_cons (de_ixT (ds := [.tuple (q2.parents.map eN), eVer q2.version]) (de_ixL (dv 4) (dv 2) (commit_at h2)) de_int rfl) (da_one (dv 6))))) ⟨qb.version, q1.version, q2.version, side.getD false, s.attributeCount, g.w, ?_, ?_, ?_, ?_, rfl, rfl⟩) (dg_tup (dgs_cons (dg_name sc_merged_commits.nd (i := 7) rfl (by first | exact .inl rfl | exact .inr rfl)) (dgs_cons (dg_name sc_merged_commits.nd (i := 8) rfl (by first | exact .inl rfl | exact .inr rfl)) dgs_nil)) rfl) ?_)
  · rw [← version_of hb, ← version_of h1, ← version_of h2]
    omega
  · rw [← version_of hb]
    exact vb.two
  · rw [← version_of h1]
    exact vh.wd
  · rw [← version_of h2]
    exact vo.wd
  rw [← version_of hb, ← version_of h1, ← version_of h2]
  generalize Kvg9.merge (side.getD false) (s.version (s.commonAncestor h o)) (s.version h) (s.version o) = r at hml hok ⊢
  by_cases c : r.2 ≠ [] ∧ side = none
  · rw [if_pos c]
    obtain ⟨c1, rfl⟩ := c
    have e : (!decide (r.2 = [])) = true := by simp [c1]
    refine dss_cons (ds_if (dt_w (dw_and (dt_cmp (dc_isN (dv 3))) fun _ => dw_and1 (DT.to (dt_cmp (dc_neE (eqe_list eqe_Cf) (x := r.2) (y := []) hr.units (dv 8) (do_lst da_nil).de)) e))) (fun _ => ?_) fun h => by cases h)
    exact dss_one (ds_ret (de_call (c_refused_by T) (hr.mono (by decide)) (da_one (dv 8)) ⟨r.2, hml, rfl, rfl⟩) ⟨rfl, rfl⟩)
  · rw [if_neg c]
    refine dss_cons (ds_if (k := false) (DT.to (k := isN (eSide side) && !decide (r.2 = [])) (dt_w (dw_and (dt_cmp (dc_isN (dv 3))) fun _ => dw_and1 (dt_cmp (dc_neE (eqe_list eqe_Cf) (x := r.2) (y := []) hr.units (dv 8) (do_lst da_nil).de)))) ?_) (fun h => by cases h) fun _ => dss_nil ?_)
    · cases side with
      | some b => rfl
      | none =>
        have : r.2 = [] := Classical.byContradiction fun z => c ⟨z, rfl⟩
        rw [this] <;> rfl
    refine dss_cons (ds_if (dt_val (de_callK (c_is_too_much T) (hr.mono (by decide)) (dak_cons (dkv 0) (da_one (dv 7))) ⟨s, g, rfl, rfl, r.1, rfl, rfl⟩)) (fun hk => ?_) fun hk => dss_nil ?_)
    · have hk : 16 < r.1.length ∨ 40 ≤ s.commits.length := by simpa using hk
      rw [if_pos hk]
      exact dss_one (ds_ret (do_listF T.n_list (de_glst T.g_TOO_MANY_names T.l_TOO_MANY_names)).de ⟨rfl, rfl⟩)
    · have hk : ¬ (16 < r.1.length ∨ 40 ≤ s.commits.length) := by
        simp at hk
        omega
      rw [if_neg hk]
      have okp : OkP s [h, o] := ⟨by simp, by simp, fun p hp => by
        rcases List.mem_cons.mp hp with e | hp
        · rw [e]
          exact ⟨_, h1⟩
        · rw [List.mem_singleton.mp hp]
          exact ⟨_, h2⟩⟩
      refine dss_one (ds_ret (do_lst (da_cons de_int (da_cons (de_meth (dkv 0) T.cls (k_add_commit T) (hr.mono (by decide)) (da_cons (de_tup (da_cons (dv 1) (da_one (dv 2)))) (da_one (dv 7))) rfl rfl ⟨s, [h, o], r.1, g, by omega, okp, hok (by omega), rfl, rfl, rfl, rfl⟩) (da_one (de_lenL (ds := r.2.map eCf) T.n_len (dv 8)))))).de ⟨rfl, ?_⟩)
      rw [List.length_map] <;> rfl
def rkMergeBy (fs : Ob) (ds : List PyData) (d : PyData) (fs' : Ob) : Prop := ∃ (s : Store) (b : Nat) (side : Option Bool), GoodS s ∧ fs = kfs s ∧ ds = [.int b, eSide side] ∧ d = eRes (s.mergeBranch b side).2 ∧ fs' = kfs (s.mergeBranch b side).1
theorem c_merge_by (T : Tx K mg) : Cal P w K mg base "merge_by" 7 ["keeper", "name", "side"] (spK K (He.ga K "Keeper") 2 rkMergeBy) :=
  T.keep 75 60 99 sc_merge_by (fun _ _ _ _ _ _ us hl => match us, hl with | [_, _, _], _ => rfl) rfl fun cdv A outer s H E ka hr fs ds d fs' _hl hR => by
  obtain ⟨s, b, side, g, rfl, rfl, rfl, rfl⟩ := hR
  rw [mb_is]
  refine dss_cons (ds_set (i := 3) sc_merge_by.nd rfl (by first | exact .inl rfl | exact .inr rfl) (de_call (c_commit_named T) (hr.mono (by decide)) (da_cons (de_fld (dkv 0) T.cls T.a_branches rfl) (da_one (dv 1))) ⟨s.branches, b, rfl, rfl⟩) ?_)
  cases hn : Kvg9.lookup s.branches b with
  | none => exact dss_cons (ds_if (dt_cmp (dc_isN (dv 3))) (fun _ => dss_one (ds_ret (do_listF T.n_list (de_glst T.g_MISSING_names T.l_MISSING_names)).de ⟨rfl, rfl⟩)) fun h => by cases h)
  | some o =>
    obtain ⟨q2, h2⟩ := g.be _ (lookup_mem hn)
    have h2 : s.commit o = some q2 := h2
    obtain ⟨q1, h1⟩ := g.hc
    show DSs _ _ (enK (eRes (if s.isChanged then (s, .error (-16)) else if s.isAncestor o s.head then (s, ⟨0, [(s.head : Int)]⟩) else if s.isAncestor s.head o then ({ s with branches := Kvg9.assign s.current o s.branches, working := s.version o }, ⟨1, [(o : Int)]⟩) else mcr s s.head o side).2) (kfs (if s.isChanged then (s, .error (-16)) else if s.isAncestor o s.head then (s, ⟨0, [(s.head : Int)]⟩) else if s.isAncestor s.head o then ({ s with branches := Kvg9.assign s.current o s.branches, working := s.version o }, ⟨1, [(o : Int)]⟩) else mcr s s.head o side).1)) _ _ _
    refine dss_cons (ds_if (dt_cmp (dc_isN (dv 3))) (fun h => by cases h) fun _ => dss_nil ?_)
    refine dss_cons (ds_if (dt_val (de_meth0 (dkv 0) T.cls (k_is_changed T) (hr.mono (by decide)) rfl ⟨s, g, rfl, rfl, rfl⟩)) (fun hk => dss_one (ds_ret (do_listF T.n_list (de_glst T.g_CHANGED_names T.l_CHANGED_names)).de ?_)) fun hk => dss_nil ?_)
    · rw [if_pos hk]
      exact ⟨rfl, rfl⟩
    rw [if_neg (by rw [hk]; exact Bool.noConfusion)]
    refine dss_cons (ds_set (i := 4) sc_merge_by.nd rfl (by first | exact .inl rfl | exact .inr rfl) (de_meth0 (dkv 0) T.cls (k_head T) (hr.mono (by decide)) rfl ⟨s, g, rfl, rfl, rfl⟩) ?_)
    refine dss_cons (ds_if (DT.to (dt_cmp (dc_inL (ns := (anc s s.head).map fun n : Nat => (n : Int)) (dv 3) (DE.to (de_call (c_ancestors_of T) (hr.mono (by decide)) (da_cons (de_fld (dkv 0) T.cls T.a_commits rfl) (da_one (dv 4))) ⟨s, s.head, q1, g, h1, rfl, rfl⟩) (by rw [List.map_map] <;> rfl)))) (in_anc g h1 o)) (fun hk => dss_one (ds_ret (do_lst (da_cons de_int (da_one (dv 4)))).de ?_)) fun hk2 => dss_nil ?_)
    · rw [if_pos hk]
      exact ⟨rfl, rfl⟩
    rw [if_neg (by rw [hk2]; exact Bool.noConfusion)]
    refine dss_cons (ds_if (DT.to (dt_cmp (dc_inL (ns := (anc s o).map fun n : Nat => (n : Int)) (dv 4) (DE.to (de_call (c_ancestors_of T) (hr.mono (by decide)) (da_cons (de_fld (dkv 0) T.cls T.a_commits rfl) (da_one (dv 3))) ⟨s, o, q2, g, h2, rfl, rfl⟩) (by rw [List.map_map] <;> rfl)))) (in_anc g h2 s.head)) (fun hk => ?_) fun hk3 => dss_nil ?_)
    · rw [if_pos hk]
      refine dss_cons (ds_expr (de_meth (dkv 0) T.cls (k_point T) (hr.mono (by decide)) (da_one (dv 3)) rfl rfl ⟨s, o, q2, g, h2, rfl, rfl, rfl, rfl⟩) ?_)
      exact dss_one (ds_ret (do_lst (da_cons de_int (da_one (dv 3)))).de ⟨rfl, rfl⟩)
    rw [if_neg (by rw [hk3]; exact Bool.noConfusion)]
    exact dss_one (ds_ret (de_callK (c_merged_commits T) (hr.mono (by decide)) (dak_cons (dkv 0) (da_cons (dv 4) (da_cons (dv 3) (da_one (dv 2))))) ⟨s, s.head, o, q1, q2, side, g, h1, h2, rfl, rfl, rfl, rfl⟩) ⟨rfl, rfl⟩)
def rkMergeWith := rkOp fun ds op => ∃ b side : Nat, ds = [.int b, .int side] ∧ op = .mergeWith b side
theorem c_merge_with (T : Tx K mg) : Cal P w K mg base "merge_with" 8 ["keeper", "name", "side"] (spK K (He.ga K "Keeper") 2 rkMergeWith) :=
  T.keep 76 61 100 sc_merge_with (fun _ _ _ _ _ _ us hl => match us, hl with | [_, _, _], _ => rfl) rfl fun cdv A outer s H E ka hr fs ds d fs' _hl hR => by
  obtain ⟨s, op, g, ⟨b, side, rfl, rfl⟩, rfl, rfl, rfl⟩ := hR
  have e : s.run (.mergeWith b side) = if 1 < side then (s, .error (-22)) else s.mergeBranch b (some (side == 1)) := rfl
  rw [e]
  by_cases c : 1 < side
  · rw [if_pos c]
    have c2 : (1 : Int) < side := by omega
    exact dss_one (ds_ret (de_if (DT.to (dt_cmp (dc_gt (dv 2) de_int)) (decide_eq_true c2)) (fun _ => (do_listF T.n_list (de_glst T.g_OUTSIDE_names T.l_OUTSIDE_names)).de) fun h => by cases h) ⟨rfl, rfl⟩)
  · rw [if_neg c]
    have c2 : ¬ (1 : Int) < side := by omega
    refine dss_one (ds_ret (de_if (DT.to (dt_cmp (dc_gt (dv 2) de_int)) (decide_eq_false c2)) (fun h => by cases h) fun _ => de_callK (c_merge_by T) (hr.mono (by decide)) (dak_cons (dkv 0) (da_cons (dv 1) (da_one (dv 2)))) ⟨s, b, some (side == 1), g, rfl, ?_, rfl, rfl⟩) ⟨rfl, rfl⟩)
    rcases (by omega : side = 0 ∨ side = 1) with e | e <;> subst e <;> rfl
def apr (s : Store) (vb vt : Version) : Store × Response := if (Kvg9.merge false vb (s.version s.head) vt).2 ≠ [] then (s, Kvg9.conflictsResult (Kvg9.merge false vb (s.version s.head) vt).2)
    else if (Kvg9.merge false vb (s.version s.head) vt).1 = s.version s.head then (s, .error (-6))
    else if 16 < (Kvg9.merge false vb (s.version s.head) vt).1.length ∨ 40 ≤ s.commits.length then (s, .error (-28))
    else (s.append [s.head] (Kvg9.merge false vb (s.version s.head) vt).1, .number s.commits.length)
def rkApplied (fs : Ob) (ds : List PyData) (d : PyData) (fs' : Ob) : Prop := ∃ (s : Store) (vb vt : Version), GoodS s ∧ OkV s.attributeCount vb ∧ OkV s.attributeCount vt ∧ fs = kfs s ∧ ds = [eVer vb, eVer vt] ∧ d = eRes (apr s vb vt).2 ∧ fs' = kfs (apr s vb vt).1
theorem c_applied (T : Tx K mg) : Cal P w K mg base "applied" 6 ["keeper", "base", "theirs"] (spK K (He.ga K "Keeper") 2 rkApplied) :=
  T.keep 77 62 101 sc_applied (fun _ _ _ _ _ _ us hl => match us, hl with | [_, _, _], _ => rfl) rfl fun cdv A outer s H E ka hr fs ds d fs' _hl hR => by
  obtain ⟨s, vb, vt, g, ob, ot, rfl, rfl, rfl, rfl⟩ := hR
  have oh := g.hv
  have f1 := ob.few
  have f2 := oh.few
  have f3 := ot.few
  have gw := g.w
  have hml : (Kvg9.merge false vb (s.version s.head) vt).2.length ≤ 1280 := merge_len (by omega) fun f hf => by
    have := ob.two f hf
    omega
  have hok := merge_ok (side := false) ob oh ot
  unfold apr
  refine dss_cons (ds_set (i := 3) sc_applied.nd rfl (by first | exact .inl rfl | exact .inr rfl) (de_meth0 (dkv 0) T.cls (k_head_version T) (hr.mono (by decide)) rfl ⟨s, g, rfl, rfl, rfl⟩) ?_)
  refine dss_cons (ds_asg (de_call (c_merged_version T) (hr.mono (by decide)) (da_cons (dv 1) (da_cons (dv 3) (da_cons (dv 2) (da_one de_int)))) ⟨vb, s.version s.head, vt, false, s.attributeCount, g.w, by omega, ob.two, oh.wd, ot.wd, rfl, rfl⟩) (dg_tup (dgs_cons (dg_name sc_applied.nd (i := 4) rfl (by first | exact .inl rfl | exact .inr rfl)) (dgs_cons (dg_name sc_applied.nd (i := 5) rfl (by first | exact .inl rfl | exact .inr rfl)) dgs_nil)) rfl) ?_)
  generalize Kvg9.merge false vb (s.version s.head) vt = r at hml hok ⊢
  refine dss_cons (ds_if (dt_cmp (dc_neE (eqe_list eqe_Cf) (x := r.2) (y := []) hr.units (dv 5) (do_lst da_nil).de)) (fun hk => ?_) fun hk => dss_nil ?_)
  · have c : r.2 ≠ [] := by simpa using hk
    rw [if_pos c]
    exact dss_one (ds_ret (de_call (c_refused_by T) (hr.mono (by decide)) (da_one (dv 5)) ⟨r.2, hml, rfl, rfl⟩) ⟨rfl, rfl⟩)
  have c : ¬ r.2 ≠ [] := by simpa using hk
  rw [if_neg c]
  refine dss_cons (ds_if (dt_cmp (dc_eqE eqe_Ver hr.units (dv 4) (dv 3))) (fun hk => ?_) fun hk => dss_nil ?_)
  · rw [if_pos (of_decide_eq_true hk)]
    exact dss_one (ds_ret (do_listF T.n_list (de_glst T.g_NOTHING T.l_NOTHING)).de ⟨rfl, rfl⟩)
  rw [if_neg (of_decide_eq_false hk)]
  refine dss_cons (ds_if (dt_val (de_callK (c_is_too_much T) (hr.mono (by decide)) (dak_cons (dkv 0) (da_one (dv 4))) ⟨s, g, rfl, rfl, r.1, rfl, rfl⟩)) (fun hk => ?_) fun hk => dss_nil ?_)
  · have hk : 16 < r.1.length ∨ 40 ≤ s.commits.length := by simpa using hk
    rw [if_pos hk]
    exact dss_one (ds_ret (do_listF T.n_list (de_glst T.g_TOO_MANY_names T.l_TOO_MANY_names)).de ⟨rfl, rfl⟩)
  · have hk : ¬ (16 < r.1.length ∨ 40 ≤ s.commits.length) := by
      simp at hk
      omega
    rw [if_neg hk]
    exact dss_one (ds_ret (do_lst (da_one (de_meth (dkv 0) T.cls (k_add_commit T) (hr.mono (by decide)) (da_cons (de_tup (da_one (de_meth0 (dkv 0) T.cls (k_head T) (hr.mono (by decide)) rfl ⟨s, g, rfl, rfl, rfl⟩))) (da_one (dv 4))) rfl rfl ⟨s, [s.head], r.1, g, by omega, g.par1, hok (by omega), rfl, rfl, rfl, rfl⟩))).de ⟨rfl, rfl⟩)
def rkApply := rkOp fun ds op => ∃ (c : Nat) (back : Bool), ds = [.int c, .bool back] ∧ op = if back then .revert c else .cherryPick c
theorem run_ap (s : Store) (c : Nat) (back : Bool) : s.run (if back then .revert c else .cherryPick c) = if s.exists_ c = false then (s, .error (-2)) else match s.singleParent c with
    | none => (s, .error (-33))
    | some p => if s.isChanged then (s, .error (-16)) else if back then apr s (s.version c) (s.version p) else apr s (s.version p) (s.version c) := by
  cases back <;> rfl
theorem single_one {s : Store} {c p : Nat} {q : Commit} (h : s.commit c = some q) (e : q.parents = [p]) : s.singleParent c = some p := by
  unfold Store.singleParent
  rw [parents_of h, e]
theorem single_no {s : Store} {c : Nat} {q : Commit} (h : s.commit c = some q) (e : q.parents.length ≠ 1) : s.singleParent c = none := by
  unfold Store.singleParent
  rw [parents_of h]
  split
  · rename_i e2
    rw [e2] at e
    exact absurd rfl e
  · rfl
theorem c_apply_commit (T : Tx K mg) : Cal P w K mg base "apply_commit" 7 ["keeper", "number", "is_backward"] (spK K (He.ga K "Keeper") 2 rkApply) :=
  T.keep 78 63 102 sc_apply_commit (fun _ _ _ _ _ _ us hl => match us, hl with | [_, _, _], _ => rfl) rfl fun cdv A outer s H E ka hr fs ds d fs' _hl hR => by
  obtain ⟨s, op, g, ⟨c, back, rfl, rfl⟩, rfl, rfl, rfl⟩ := hR
  rw [run_ap]
  refine dss_cons (ds_if (dt_not (dt_val (de_meth (dkv 0) T.cls (k_has_commit T) (hr.mono (by decide)) (da_one (dv 1)) rfl rfl ⟨s, g, rfl, rfl, c, rfl, rfl⟩))) (fun hk => dss_one (ds_ret (do_listF T.n_list (de_glst T.g_MISSING_names T.l_MISSING_names)).de ?_)) fun hk => dss_nil ?_)
  · have hk : s.exists_ c = false := by simpa using hk
    rw [if_pos hk]
    exact ⟨rfl, rfl⟩
  have hk : s.exists_ c = true := by simpa using hk
  rw [if_neg (by rw [hk]; exact Bool.noConfusion)]
  obtain ⟨q, hq⟩ := exists_iff.mp hk
  refine dss_cons (ds_asg (d := .tuple [.tuple (q.parents.map eN), eVer q.version]) (de_ixL (de_fld (dkv 0) T.cls T.a_commits rfl) (dv 1) (commit_at hq)) (dg_tup (dgs_cons (dg_name sc_apply_commit.nd (i := 3) rfl (by first | exact .inl rfl | exact .inr rfl)) (dgs_cons (dg_name sc_apply_commit.nd (i := 4) rfl (by first | exact .inl rfl | exact .inr rfl)) dgs_nil)) rfl) ?_)
  by_cases c1 : q.parents.length = 1
  · obtain ⟨p, hp⟩ := List.length_eq_one_iff.mp c1
    rw [single_one hq hp]
    have hpp := (g.cm c q hq).2.1 p (by rw [hp]; exact List.mem_singleton.mpr rfl)
    obtain ⟨_, q2, h2⟩ := hpp
    show DSs _ _ (enK (eRes (if s.isChanged then (s, .error (-16)) else if back then apr s (s.version c) (s.version p) else apr s (s.version p) (s.version c)).2) (kfs (if s.isChanged then (s, .error (-16)) else if back then apr s (s.version c) (s.version p) else apr s (s.version p) (s.version c)).1)) _ _ _
    refine dss_cons (ds_if (DT.to (dt_cmp (dc_neI (de_lenT (ds := q.parents.map eN) T.n_len (dv 3)) de_int)) (k' := false) (by rw [List.length_map, c1] <;> rfl)) (fun h => by cases h) fun _ => dss_nil ?_)
    refine dss_cons (ds_if (dt_val (de_meth0 (dkv 0) T.cls (k_is_changed T) (hr.mono (by decide)) rfl ⟨s, g, rfl, rfl, rfl⟩)) (fun hk => dss_one (ds_ret (do_listF T.n_list (de_glst T.g_CHANGED_names T.l_CHANGED_names)).de ?_)) fun hk => dss_nil ?_)
    · rw [if_pos hk]
      exact ⟨rfl, rfl⟩
    rw [if_neg (by rw [hk]; exact Bool.noConfusion)]
    refine dss_cons (ds_set (i := 5) sc_apply_commit.nd rfl (by first | exact .inl rfl | exact .inr rfl) (de_ixT (ds := [.tuple (q2.parents.map eN), eVer q2.version]) (de_ixL (de_fld (dkv 0) T.cls T.a_commits rfl) (de_ixT (d := .int p) (dv 3) de_int (by rw [hp] <;> rfl)) (commit_at h2)) de_int rfl) ?_)
    cases back with
    | true => exact dss_one (ds_ret (de_if (dt_val (dv 2)) (fun _ => de_callK (c_applied T) (hr.mono (by decide)) (dak_cons (dkv 0) (da_cons (dv 4) (da_one (dv 5)))) ⟨s, s.version c, s.version p, g, g.ver hq, g.ver h2, rfl, by rw [version_of hq, version_of h2], rfl, rfl⟩) fun h => by cases h) ⟨rfl, rfl⟩)
    | false => exact dss_one (ds_ret (de_if (dt_val (dv 2)) (fun h => by cases h) fun _ => de_callK (c_applied T) (hr.mono (by decide)) (dak_cons (dkv 0) (da_cons (dv 5) (da_one (dv 4)))) ⟨s, s.version p, s.version c, g, g.ver h2, g.ver hq, rfl, by rw [version_of hq, version_of h2], rfl, rfl⟩) ⟨rfl, rfl⟩)
  · rw [single_no hq c1]
    have c2 : (!decide (((q.parents.map eN).length : Int) = 1)) = true := by
      rw [List.length_map]
      have : ¬ (q.parents.length : Int) = 1 := by omega
      simp [this]
    exact dss_cons (ds_if (DT.to (dt_cmp (dc_neI (de_lenT (ds := q.parents.map eN) T.n_len (dv 3)) de_int)) c2) (fun _ => dss_one (ds_ret (do_listF T.n_list (de_glst T.g_NO_PARENT T.l_NO_PARENT)).de ⟨rfl, rfl⟩)) fun h => by cases h)
/-- the operations of joined -/
inductive OpJ : Int → List Int → Operation → Prop
  | mb (b : Nat) : OpJ 19 [b] (.merge b)
  | mw (b side : Nat) : OpJ 20 [b, side] (.mergeWith b side)
  | rv (c : Nat) : OpJ 21 [c] (.revert c)
  | cp (c : Nat) : OpJ 22 [c] (.cherryPick c)
def rkJoined := rkOp fun ds op => ∃ o l, OpJ o l op ∧ ds = [.int o, .list (l.map .int)]
theorem c_joined (T : Tx K mg) : Cal P w K mg base "joined" 9 ["keeper", "operation", "numbers"] (spK K (He.ga K "Keeper") 2 rkJoined) :=
  T.keep 79 64 103 sc_joined (fun _ _ _ _ _ _ us hl => match us, hl with | [_, _, _], _ => rfl) rfl fun cdv A outer s H E ka hr fs ds d fs' _hl hR => by
  obtain ⟨s, op, g, ⟨o, l, ho, rfl⟩, rfl, rfl, rfl⟩ := hR
  cases ho with
  | mb b =>
    exact dss_cons (ds_if (dt_cmp (dc_eqI (dv 1) de_int)) (fun _ => dss_one (ds_ret (de_callK (c_merge_by T) (hr.mono (by decide)) (dak_cons (dkv 0) (da_cons (de_ixL (dv 2) de_int rfl) (da_one de_non))) ⟨s, b, none, g, rfl, rfl, rfl, rfl⟩) ⟨rfl, rfl⟩)) fun hk => absurd hk (by decide))
  | mw b side =>
    exact dss_cons (ds_if (dt_cmp (dc_eqI (dv 1) de_int)) (fun hk => absurd hk (by decide)) fun _ => dss_nil (dss_cons (ds_if (dt_cmp (dc_eqI (dv 1) de_int)) (fun _ => dss_one (ds_ret (de_callK (c_merge_with T) (hr.mono (by decide)) (dak_cons (dkv 0) (da_cons (de_ixL (dv 2) de_int rfl) (da_one (de_ixL (dv 2) de_int rfl)))) ⟨s, _, g, ⟨b, side, rfl, rfl⟩, rfl, rfl, rfl⟩) ⟨rfl, rfl⟩)) fun hk => absurd hk (by decide))))
  | rv c =>
    exact dss_cons (ds_if (dt_cmp (dc_eqI (dv 1) de_int)) (fun hk => absurd hk (by decide)) fun _ => dss_nil (dss_cons (ds_if (dt_cmp (dc_eqI (dv 1) de_int)) (fun hk => absurd hk (by decide)) fun _ => dss_nil (dss_one (ds_ret (de_callK (c_apply_commit T) (hr.mono (by decide)) (dak_cons (dkv 0) (da_cons (de_ixL (dv 2) de_int rfl) (da_one (de_cmp (dc_eqI (dv 1) de_int))))) ⟨s, _, g, ⟨c, true, rfl, rfl⟩, rfl, rfl, rfl⟩) ⟨rfl, rfl⟩)))))
  | cp c =>
    exact dss_cons (ds_if (dt_cmp (dc_eqI (dv 1) de_int)) (fun hk => absurd hk (by decide)) fun _ => dss_nil (dss_cons (ds_if (dt_cmp (dc_eqI (dv 1) de_int)) (fun hk => absurd hk (by decide)) fun _ => dss_nil (dss_one (ds_ret (de_callK (c_apply_commit T) (hr.mono (by decide)) (dak_cons (dkv 0) (da_cons (de_ixL (dv 2) de_int rfl) (da_one (de_cmp (dc_eqI (dv 1) de_int))))) ⟨s, _, g, ⟨c, false, rfl, rfl⟩, rfl, rfl, rfl⟩) ⟨rfl, rfl⟩)))))
end
end Pv
/-! ### 24. distances -/
namespace Pv
open PySem PySem.Spec PyProof.Rows L2
open Kvg9 (Feature Version Vertex Commit Store Change Operation Response Conflict Match)

/-! the mathematics -/
theorem vx_bd {x : Vertex} (h : Kvg9.isVertex x = true) : -1000000 ≤ x.1 ∧ x.1 ≤ 1000000 ∧ -1000000 ≤ x.2 ∧ x.2 ≤ 1000000 := by
  unfold Kvg9.isVertex Kvg9.maxCoordinate at h
  simp only [Bool.and_eq_true, decide_eq_true_eq] at h
  exact ⟨h.1.1.1, h.1.1.2, h.1.2, h.2⟩
theorem sq_nn (z : Int) : 0 ≤ z * z := by
  rcases Int.le_total 0 z with h | h
  · exact Int.mul_nonneg h h
  · exact Int.mul_nonneg_of_nonpos_of_nonpos h h
theorem sq_is (a b : Vertex) : ((Kvg9.squaredDistance a b : Nat) : Int) = (a.1 - b.1) * (a.1 - b.1) + (a.2 - b.2) * (a.2 - b.2) := by
  unfold Kvg9.squaredDistance
  have h1 := sq_nn (a.1 - b.1)
  have h2 := sq_nn (a.2 - b.2)
  omega
theorem sq_bd {z : Int} (h : -2000000 ≤ z) (h2 : z ≤ 2000000) : z * z ≤ 4000000000000 := by
  have h1 : (z + 2000000) * (2000000 - z) ≥ 0 := Int.mul_nonneg (by omega) (by omega)
  have e : (z + 2000000) * (2000000 - z) = 4000000000000 - z * z := by
    rw [Int.add_mul, Int.mul_sub, Int.mul_sub]
    omega
  omega
theorem sq_lt {a b : Vertex} (ha : Kvg9.isVertex a = true) (hb : Kvg9.isVertex b = true) : Kvg9.squaredDistance a b ≤ 8000000000000 := by
  have h1 := vx_bd ha
  have h2 := vx_bd hb
  have e := sq_is a b
  have b1 := sq_bd (z := a.1 - b.1) (by omega) (by omega)
  have b2 := sq_bd (z := a.2 - b.2) (by omega) (by omega)
  omega
theorem cmul_sm {i j : Int} (h1 : -2000000 ≤ i) (h2 : i ≤ 2000000) : CMul i j := .inl ⟨by omega, by omega⟩
def fstV (l : List Vertex) : Vertex := l.headD (0, 0)
def shf (a b : List Vertex) : Bool := a.length == b.length && (a.zip b).all fun q => decide (q.2.1 - q.1.1 = (fstV b).1 - (fstV a).1) && decide (q.2.2 - q.1.2 = (fstV b).2 - (fstV a).2)
theorem shf_is (f g : Feature) : Kvg9.isShifted f g = shf f.vertices g.vertices := rfl
theorem fst_at {l : List Vertex} (h : 0 < l.length) : atI (l.map eVx) (0 : Int) = some (eVx (fstV l)) := by
  cases l with
  | nil => cases h
  | cons x l => exact at_get (l := (x :: l).map eVx) (i := 0) rfl
def nst (v : Vertex) (l : List Vertex) : Nat := (l.map (Kvg9.squaredDistance v)).foldl min (Kvg9.squaredDistance v (l.headD v))
def far (a b : List Vertex) : Nat := (a.map fun v => nst v b).foldl max 0
theorem fold_min : ∀ (l : List Nat) (a : Nat), (l.foldl min a = a ∨ l.foldl min a ∈ l) ∧ l.foldl min a ≤ a ∧ ∀ y ∈ l, l.foldl min a ≤ y
  | [], a => ⟨.inl rfl, Nat.le_refl _, fun y h => by cases h⟩
  | x :: l, a => by
    obtain ⟨h1, h2, h3⟩ := fold_min l (min a x)
    rw [List.foldl_cons]
    refine ⟨?_, by omega, fun y hy => ?_⟩
    · rcases h1 with h | h
      · rcases Nat.le_total a x with c | c
        · left
          rw [h]
          omega
        · right
          rw [h, Nat.min_eq_right c]
          exact List.mem_cons_self
      · exact .inr (List.mem_cons_of_mem _ h)
    · rcases List.mem_cons.mp hy with e | hy
      · omega
      · exact h3 y hy
theorem nst_ok {v : Vertex} {l : List Vertex} (h : 0 < l.length) : nst v l ∈ l.map (Kvg9.squaredDistance v) ∧ ∀ y ∈ l.map (Kvg9.squaredDistance v), nst v l ≤ y := by
  obtain ⟨h1, h2, h3⟩ := fold_min (l.map (Kvg9.squaredDistance v)) (Kvg9.squaredDistance v (l.headD v))
  refine ⟨?_, h3⟩
  rcases h1 with e | e
  · unfold nst
    rw [e]
    cases l with
    | nil => cases h
    | cons x l => exact List.mem_cons_self
  · exact e
theorem foldmax_ok : ∀ (l : List Nat) (a : Nat), (l.foldl max a = a ∨ l.foldl max a ∈ l) ∧ a ≤ l.foldl max a ∧ ∀ y ∈ l, y ≤ l.foldl max a
  | [], a => ⟨.inl rfl, Nat.le_refl _, fun y h => by cases h⟩
  | x :: l, a => by
    obtain ⟨h1, h2, h3⟩ := foldmax_ok l (max a x)
    rw [List.foldl_cons]
    refine ⟨?_, by omega, fun y hy => ?_⟩
    · rcases h1 with h | h
      · rcases Nat.le_total x a with c | c
        · left
          rw [h]
          omega
        · right
          rw [h, Nat.max_eq_right c]
          exact List.mem_cons_self
      · exact .inr (List.mem_cons_of_mem _ h)
    · rcases List.mem_cons.mp hy with e | hy
      · omega
      · exact h3 y hy
theorem far_ok {a b : List Vertex} (h : 0 < a.length) : far a b ∈ a.map (fun v => nst v b) ∧ ∀ y ∈ a.map (fun v => nst v b), y ≤ far a b := by
  obtain ⟨h1, h2, h3⟩ := foldmax_ok (a.map fun v => nst v b) 0
  refine ⟨?_, h3⟩
  rcases h1 with e | e
  · have e : far a b = 0 := e
    cases a with
    | nil => cases h
    | cons x l =>
      have h4 := h3 _ (List.mem_cons_self (a := nst x b) (l := l.map fun v => nst v b))
      have h4 : nst x b ≤ far (x :: l) b := h4
      have h5 : nst x b = far (x :: l) b := by omega
      rw [← h5]
      exact List.mem_cons_self
  · exact e
theorem foldmax_a : ∀ (l : List Nat) (a : Nat), l.foldl max a = max a (l.foldl max 0)
  | [], a => by simp
  | x :: l, a => by
    rw [List.foldl_cons, List.foldl_cons, foldmax_a l (max a x), foldmax_a l (max 0 x)]
    omega
theorem spread_is (a b : List Vertex) : Kvg9.spread a b = max (far a b) (far b a) := by
  show ((a.map fun v => nst v b) ++ (b.map fun v => nst v a)).foldl max 0 = _
  rw [List.foldl_append, foldmax_a] <;> rfl
theorem nst_lt {v : Vertex} {l : List Vertex} (hv : Kvg9.isVertex v = true) (hl : OkX l) : nst v l ≤ 8000000000000 := by
  obtain ⟨x, hx, e⟩ := List.mem_map.mp (nst_ok (v := v) hl.1).1
  rw [← e]
  exact sq_lt hv (hl.2.2 x hx)
theorem far_lt {a b : List Vertex} (ha : OkX a) (hb : OkX b) : far a b ≤ 8000000000000 := by
  obtain ⟨x, hx, e⟩ := List.mem_map.mp (far_ok (b := b) ha.1).1
  rw [← e]
  exact nst_lt (ha.2.2 x hx) hb
def eMt (m : Match) : List Int := [(m.kind : Int), (m.distance : Int), (m.first : Int), (m.second : Int)]
def mtc (f g : Feature) : Match := ⟨f.id, g.id, (Kvg9.correspondence f g).1, (Kvg9.correspondence f g).2⟩
theorem fst_ok {l : List Vertex} (h : OkX l) : Kvg9.isVertex (fstV l) = true := by
  cases l with
  | nil => exact absurd h.1 (Nat.lt_irrefl 0)
  | cons x l => exact h.2.2 x List.mem_cons_self
/-- the scope of the outer comprehension -/
def scFar : Scope := { kind := .function, names := [(".0", .local), ("vertex", .cell), ("min", .globalImplicit), ("other", .cell)], isGenerator := false, isCoroutine := false }

section
variable {P : Program} {w : World} {K : Fg} {mg : Str → Option Value} {base : Heap}
def rSquared (ds : List PyData) (d : PyData) : Prop := ∃ a b : Vertex, Kvg9.isVertex a = true ∧ Kvg9.isVertex b = true ∧ ds = [eVx a, eVx b] ∧ d = .int (Kvg9.squaredDistance a b : Nat)
theorem c_squared (T : Tx K mg) : Cal P w K mg base "squared" 1 ["one", "other"] (spP K 2 rSquared) :=
  T.pure 80 65 108 sc_squared (fun _ _ _ _ _ _ us hl => match us, hl with | [_, _], _ => rfl) fun cdv A outer s H E hr ds d _hl hR => by
  obtain ⟨a, b, ha, hb, rfl, rfl⟩ := hR
  rw [sq_is]
  have h1 := vx_bd ha
  have h2 := vx_bd hb
  exact dss_one (ds_ret (de_add (de_mul (de_sub (de_ixT (ds := [.int a.1, .int a.2]) (dv 0) de_int rfl) (de_ixT (ds := [.int b.1, .int b.2]) (dv 1) de_int rfl)) (de_sub (de_ixT (ds := [.int a.1, .int a.2]) (dv 0) de_int rfl) (de_ixT (ds := [.int b.1, .int b.2]) (dv 1) de_int rfl)) (cmul_sm (by omega) (by omega))) (de_mul (de_sub (de_ixT (ds := [.int a.1, .int a.2]) (dv 0) de_int rfl) (de_ixT (ds := [.int b.1, .int b.2]) (dv 1) de_int rfl)) (de_sub (de_ixT (ds := [.int a.1, .int a.2]) (dv 0) de_int rfl) (de_ixT (ds := [.int b.1, .int b.2]) (dv 1) de_int rfl)) (cmul_sm (by omega) (by omega)))) rfl)
theorem zip_xx (a b : List Vertex) : ((a.map eVx).zip (b.map eVx)).map (fun q => PyData.tuple [q.1, q.2]) = (a.zip b).map fun q => .tuple [eVx q.1, eVx q.2] := by
  rw [List.zip_map, List.map_map] <;> rfl
def rIsMoved (ds : List PyData) (d : PyData) : Prop := ∃ a b : List Vertex, OkX a ∧ OkX b ∧ ds = [eVs a, eVs b] ∧ d = .bool (shf a b)
theorem c_is_moved (T : Tx K mg) : Cal P w K mg base "is_moved" 1 ["one", "other"] (spP K 2 rIsMoved) :=
  T.pure 81 66 109 sc_is_moved (fun _ _ _ _ _ _ us hl => match us, hl with | [_, _], _ => rfl) fun cdv A outer s H E hr ds d _hl hR => by
  obtain ⟨a, b, ha, hb, rfl, rfl⟩ := hR
  refine dss_cons (ds_if (dt_cmp (dc_neI (de_lenT (ds := a.map eVx) T.n_len (dv 0)) (de_lenT (ds := b.map eVx) T.n_len (dv 1)))) (fun hk => dss_one (ds_ret de_bl ?_)) fun hk => dss_nil ?_)
  · rw [List.length_map, List.length_map] at hk
    have c : ¬ a.length = b.length := by
      intro z
      rw [z] at hk
      simp at hk
    show PyData.bool false = .bool (shf a b)
    unfold shf
    rw [show (a.length == b.length) = false by simp [c]] <;> rfl
  rw [List.length_map, List.length_map] at hk
  have c : a.length = b.length := by
    have : (a.length : Int) = b.length := by simpa using hk
    omega
  have h12 := ha.2.1
  refine dss_cons (ds_asg (de_tup (da_cons (de_sub (de_ixT (ds := [.int (fstV b).1, .int (fstV b).2]) (de_ixT (dv 1) de_int (fst_at hb.1)) de_int rfl) (de_ixT (ds := [.int (fstV a).1, .int (fstV a).2]) (de_ixT (dv 0) de_int (fst_at ha.1)) de_int rfl)) (da_one (de_sub (de_ixT (ds := [.int (fstV b).1, .int (fstV b).2]) (de_ixT (dv 1) de_int (fst_at hb.1)) de_int rfl) (de_ixT (ds := [.int (fstV a).1, .int (fstV a).2]) (de_ixT (dv 0) de_int (fst_at ha.1)) de_int rfl))))) (dg_tup (dgs_cons (dg_name sc_is_moved.nd (i := 2) rfl (by first | exact .inl rfl | exact .inr rfl)) (dgs_cons (dg_name sc_is_moved.nd (i := 3) rfl (by first | exact .inl rfl | exact .inr rfl)) dgs_nil)) rfl) ?_)
  refine dss_one (ds_ret (de_all (bs := (a.zip b).map fun q => decide (q.2.1 - q.1.1 = (fstV b).1 - (fstV a).1) && decide (q.2.2 - q.1.2 = (fstV b).2 - (fstV a).2)) T.n_all (DO.to (do_map (l := a.zip b) (enc := fun q => .tuple [eVx q.1, eVx q.2]) (enc' := fun q => .bool (decide (q.2.1 - q.1.1 = (fstV b).1 - (fstV a).1) && decide (q.2.2 - q.1.2 = (fstV b).2 - (fstV a).2))) (own := [("late", 4), ("early", 5)]) sc_is_moved.nd
    (DI.to (di_zipT T.n_zip (dv 0) (dv 1) (by rw [List.length_map, List.length_map, c])) (zip_xx a b)) (line_le (by rw [List.length_zip]; omega)) (blkOk_by (N := N_is_moved) (sc := defScope (top 109)) (by decide +kernel))
    (fun q hq => ⟨_, _, (by simp), fun s1 H1 C1 cl1 fp1 => ⟨dg_tup (dgs_cons (dg_name sc_is_moved.nd (i := 5) rfl (by first | exact .inl rfl | exact .inr rfl)) (dgs_cons (dg_name sc_is_moved.nd (i := 4) rfl (by first | exact .inl rfl | exact .inr rfl)) dgs_nil)) rfl, de_and (de_cmp (dc_eqI (de_sub (de_ixT (ds := [.int q.2.1, .int q.2.2]) (dv 4) de_int rfl) (de_ixT (ds := [.int q.1.1, .int q.1.2]) (dv 5) de_int rfl)) (dv 2))) fun _ => de_one (de_cmp (dc_eqI (de_sub (de_ixT (ds := [.int q.2.1, .int q.2.2]) (dv 4) de_int rfl) (de_ixT (ds := [.int q.1.1, .int q.1.2]) (dv 5) de_int rfl)) (dv 3))), rfl⟩⟩)) (by rw [List.map_map] <;> rfl)).de) ?_)
  show PyData.bool _ = .bool (shf a b)
  unfold shf
  rw [List.all_map, show (a.length == b.length) = true by simp [c], Bool.true_and] <;> rfl
def rFarthest (ds : List PyData) (d : PyData) : Prop := ∃ a b : List Vertex, OkX a ∧ OkX b ∧ ds = [eVs a, eVs b] ∧ d = .int (far a b : Nat)
theorem c_farthest (T : Tx K mg) : Cal P w K mg base "farthest" 2 ["one", "other"] (spP K 2 rFarthest) :=
  T.pure 82 67 110 sc_farthest (fun _ _ _ _ _ _ us hl => match us, hl with | [_, _], _ => rfl) fun cdv A outer s H E hr ds d _hl hR => by
  obtain ⟨a, b, ha, hb, rfl, rfl⟩ := hR
  have h12 := ha.2.1
  have h13 := hb.2.1
  refine dss_one (ds_ret (de_max (ns := (a.map fun v => nst v b).map fun n : Nat => (n : Int)) T.n_max (DO.to (do_map (l := a) (enc := eVx) (enc' := fun v => .int (nst v b : Nat)) (own := [("vertex", 2)]) sc_farthest.nd (di_tup (dv 0)) (line_le (by omega)) (blkOk_by (N := N_farthest) (sc := defScope (top 110)) (by decide +kernel))
    (fun v hv => ⟨_, _, (by simp), fun s1 H1 C1 cl1 fp1 => ⟨(dg_name sc_farthest.nd (i := 2) rfl (by first | exact .inl rfl | exact .inr rfl)), de_min (ns := (b.map (Kvg9.squaredDistance v)).map fun n : Nat => (n : Int)) T.n_min (DO.to (do_map (l := b) (enc := eVx) (enc' := fun x => .int (Kvg9.squaredDistance v x : Nat)) (own := [("near", 3)]) sc_farthest.nd (di_tup (dv 1)) (line_le (by omega)) ?_
      (fun x hx => ⟨_, _, (by simp), fun s1 H1 C1 cl1 fp1 => ⟨(dg_name sc_farthest.nd (i := 3) rfl (by first | exact .inl rfl | exact .inr rfl)), de_call (c_squared T) (hr.mono (by decide)) (da_cons (dv 2) (da_one (dv 3))) ⟨v, x, ha.2.2 v hv, hb.2.2 x hx, rfl, rfl⟩, rfl⟩⟩)) (by rw [List.map_map, List.map_map] <;> rfl)).de (by rw [List.length_map, List.length_map]; exact hb.1) (List.mem_map.mpr ⟨_, (nst_ok hb.1).1, rfl⟩) (fun y hy => ?_), rfl⟩⟩)) (by rw [List.map_map, List.map_map] <;> rfl)).de (by rw [List.length_map, List.length_map]; exact ha.1) (List.mem_map.mpr ⟨_, (far_ok ha.1).1, rfl⟩) (fun y hy => ?_)) rfl)
  · exact blkOk_by (N := N_farthest) (sc := scFar) (by decide +kernel)
  · obtain ⟨z, hz, e⟩ := List.mem_map.mp hy
    have := (nst_ok hb.1).2 z hz
    omega
  · obtain ⟨z, hz, e⟩ := List.mem_map.mp hy
    have := (far_ok ha.1).2 z hz
    omega
def rPairOf (ds : List PyData) (d : PyData) : Prop := ∃ f g : Feature, OkX f.vertices ∧ OkX g.vertices ∧ ds = [eFeat f, eFeat g] ∧ d = eRow (eMt (mtc f g))
theorem c_pair_of (T : Tx K mg) : Cal P w K mg base "pair_of" 3 ["first", "second"] (spP K 2 rPairOf) :=
  T.pure 83 68 111 sc_pair_of (fun _ _ _ _ _ _ us hl => match us, hl with | [_, _], _ => rfl) fun cdv A outer s H E hr ds d _hl hR => by
  obtain ⟨f, g, hf, hg, rfl, rfl⟩ := hR
  refine dss_cons (ds_par (i := 2) (j := 3) sc_pair_of.nd rfl rfl (by decide) rfl rfl (da_cons (de_ixT (d := eVs f.vertices) (dv 0) de_int rfl) (da_one (de_ixT (d := eVs g.vertices) (dv 1) de_int rfl))) ?_)
  refine dss_cons (ds_if (dt_cmp (dc_eqE eqe_Vs hr.units (dv 2) (dv 3))) (fun hk => dss_one (ds_ret (de_tup (da_cons (de_gint T.i_KEPT) (da_cons de_int (da_cons (de_ixT (d := .int f.id) (dv 0) de_int rfl) (da_one (de_ixT (d := .int g.id) (dv 1) de_int rfl)))))) ?_)) fun hk => dss_nil ?_)
  · have e : Kvg9.correspondence f g = (0, 0) := by
      unfold Kvg9.correspondence
      rw [if_pos (of_decide_eq_true hk)]
    unfold mtc
    rw [e] <;> rfl
  have hk := of_decide_eq_false hk
  refine dss_cons (ds_if (dt_val (de_call (c_is_moved T) (hr.mono (by decide)) (da_cons (dv 2) (da_one (dv 3))) ⟨f.vertices, g.vertices, hf, hg, rfl, rfl⟩)) (fun hk2 => dss_one (ds_ret (de_tup (da_cons (de_gint T.i_MOVED) (da_cons (de_call (c_squared T) (hr.mono (by decide)) (da_cons (de_ixT (dv 2) de_int (fst_at hf.1)) (da_one (de_ixT (dv 3) de_int (fst_at hg.1)))) ⟨fstV f.vertices, fstV g.vertices, fst_ok hf, fst_ok hg, rfl, rfl⟩) (da_cons (de_ixT (d := .int f.id) (dv 0) de_int rfl) (da_one (de_ixT (d := .int g.id) (dv 1) de_int rfl)))))) ?_)) fun hk2 => dss_nil ?_)
  · have e : Kvg9.correspondence f g = (1, Kvg9.squaredDistance (fstV f.vertices) (fstV g.vertices)) := by
      unfold Kvg9.correspondence
      rw [if_neg hk, shf_is, if_pos hk2] <;> rfl
    unfold mtc
    rw [e] <;> rfl
  refine dss_one (ds_ret (de_tup (da_cons (de_gint T.i_RESHAPED) (da_cons (de_max2 T.n_max (de_call (c_farthest T) (hr.mono (by decide)) (da_cons (dv 2) (da_one (dv 3))) ⟨f.vertices, g.vertices, hf, hg, rfl, rfl⟩) (de_call (c_farthest T) (hr.mono (by decide)) (da_cons (dv 3) (da_one (dv 2))) ⟨g.vertices, f.vertices, hg, hf, rfl, rfl⟩)) (da_cons (de_ixT (d := .int f.id) (dv 0) de_int rfl) (da_one (de_ixT (d := .int g.id) (dv 1) de_int rfl)))))) ?_)
  have e : Kvg9.correspondence f g = (2, max (far f.vertices g.vertices) (far g.vertices f.vertices)) := by
    unfold Kvg9.correspondence
    rw [if_neg hk, shf_is, if_neg (by rw [hk2]; exact Bool.noConfusion), spread_is]
  have e2 : (if ((far g.vertices f.vertices : Nat) : Int) > (far f.vertices g.vertices : Nat) then ((far g.vertices f.vertices : Nat) : Int) else (far f.vertices g.vertices : Nat)) = ((max (far f.vertices g.vertices) (far g.vertices f.vertices) : Nat) : Int) := by
    split <;> omega
  unfold mtc
  rw [e, e2] <;> rfl
end
end Pv
/-! ### 25. matches -/
namespace Pv
open PySem PySem.Spec PyProof.Rows L2
open Kvg9 (Feature Version Vertex Commit Store Change Operation Response Conflict Match)

/-! the mathematics -/
abbrev bB : Int := 100000000000000
def MOk (m : Match) : Prop := m.kind ≤ 2 ∧ m.distance ≤ 8000000000000 ∧ m.first ≤ 65535 ∧ m.second ≤ 65535
def cd (m : Match) : Int := TS.code bB (eMt m)
theorem mok_bd {m : Match} (h : MOk m) : TS.Bd bB (eMt m) := by
  obtain ⟨h1, h2, h3, h4⟩ := h
  intro x hx
  have eb : bB = 100000000000000 := rfl
  simp only [eMt, List.mem_cons, List.not_mem_nil, or_false] at hx
  rcases hx with e | e | e | e <;> subst e <;> omega
theorem less_is {B : Int} : ∀ l k : List Nat, l.length = k.length → TS.Bd B (l.map fun n : Nat => (n : Int)) → TS.Bd B (k.map fun n : Nat => (n : Int)) → Match.before.less l k = decide (TS.code B (l.map fun n : Nat => (n : Int)) < TS.code B (k.map fun n : Nat => (n : Int)))
  | [], [], _, _, _ => by
    show false = _
    exact (decide_eq_false (Int.lt_irrefl _)).symm
  | [], _ :: _, h, _, _ => by simp at h
  | _ :: _, [], h, _, _ => by simp at h
  | a :: l, b :: k, h, h1, h2 => by
    have hl : l.length = k.length := by simpa using h
    have ih := less_is l k hl h1.tail h2.tail
    have hl' : (l.map fun n : Nat => (n : Int)).length = (k.map fun n : Nat => (n : Int)).length := by rw [List.length_map, List.length_map, hl]
    show (decide (a < b) || (a == b && Match.before.less l k)) = _
    rw [ih, List.map_cons, List.map_cons]
    by_cases c1 : a < b
    · have := TS.code_lt (B := B) hl' h1.tail h2.tail (show (a : Int) < b by omega)
      rw [decide_eq_true c1, decide_eq_true this, Bool.true_or]
    · rw [decide_eq_false c1, Bool.false_or]
      by_cases c2 : a = b
      · subst c2
        rw [beq_self_eq_true, Bool.true_and]
        exact decide_eq_decide.mpr (TS.code_same hl').symm
      · have := TS.code_lt (B := B) hl'.symm h2.tail h1.tail (show (b : Int) < a by omega)
        rw [show (a == b) = false by simp [c2], Bool.false_and]
        exact (decide_eq_false (by omega)).symm
theorem code_inj {B : Int} : ∀ l k : List Int, l.length = k.length → TS.Bd B l → TS.Bd B k → TS.code B l = TS.code B k → l = k
  | [], [], _, _, _, _ => rfl
  | [], _ :: _, h, _, _, _ => by simp at h
  | _ :: _, [], h, _, _, _ => by simp at h
  | a :: l, b :: k, h, h1, h2, e => by
    have hl : l.length = k.length := by simpa using h
    rcases Int.lt_trichotomy a b with c | c | c
    · have := TS.code_lt (B := B) hl h1.tail h2.tail c
      omega
    · subst c
      have e2 : TS.code B l = TS.code B k := by
        rcases Int.lt_trichotomy (TS.code B l) (TS.code B k) with z | z | z
        · have := (TS.code_same (B := B) (d := a) hl).mpr z
          omega
        · exact z
        · have := (TS.code_same (B := B) (d := a) hl.symm).mpr z
          omega
      rw [code_inj l k hl h1.tail h2.tail e2]
    · have := TS.code_lt (B := B) hl.symm h2.tail h1.tail c
      omega
theorem before_is {m n : Match} (hm : MOk m) (hn : MOk n) : m.before n = decide (cd m < cd n) :=
  less_is [m.kind, m.distance, m.first, m.second] [n.kind, n.distance, n.first, n.second] rfl (mok_bd hm) (mok_bd hn)
theorem ins_ok {m : Match} (hm : MOk m) : ∀ l : List Match, (∀ n ∈ l, MOk n) → l.Pairwise (fun x y => cd x ≤ cd y) → (Kvg9.insertMatch m l).Perm (m :: l) ∧ (Kvg9.insertMatch m l).Pairwise (fun x y => cd x ≤ cd y)
  | [], _, _ => ⟨List.Perm.refl _, List.pairwise_singleton _ _⟩
  | n :: l, h, hs => by
    obtain ⟨p1, p2⟩ := List.pairwise_cons.mp hs
    have hn := h n List.mem_cons_self
    obtain ⟨q1, q2⟩ := ins_ok hm l (fun x hx => h x (List.mem_cons_of_mem _ hx)) p2
    unfold Kvg9.insertMatch
    rw [before_is hm hn]
    by_cases c : cd m < cd n
    · rw [if_pos (decide_eq_true c)]
      refine ⟨List.Perm.refl _, List.pairwise_cons.mpr ⟨fun x hx => ?_, hs⟩⟩
      rcases List.mem_cons.mp hx with e | hx
      · rw [e]
        omega
      · have := p1 x hx
        omega
    · rw [if_neg (by rw [decide_eq_false c]; exact Bool.noConfusion)]
      refine ⟨(q1.cons n).trans (List.Perm.swap m n l), List.pairwise_cons.mpr ⟨fun x hx => ?_, q2⟩⟩
      rcases List.mem_cons.mp (q1.mem_iff.mp hx) with e | hx
      · rw [e]
        omega
      · exact p1 x hx
def srtM (l : List Match) : List Match := l.foldl (fun sorted m => Kvg9.insertMatch m sorted) []
theorem srt_ok (l : List Match) (h : ∀ m ∈ l, MOk m) : (srtM l).Perm l ∧ (srtM l).Pairwise (fun x y => cd x ≤ cd y) := by
  have main : ∀ (l acc : List Match), (∀ m ∈ l, MOk m) → (∀ m ∈ acc, MOk m) → acc.Pairwise (fun x y => cd x ≤ cd y) → (l.foldl (fun sorted m => Kvg9.insertMatch m sorted) acc).Perm (acc ++ l) ∧ (l.foldl (fun sorted m => Kvg9.insertMatch m sorted) acc).Pairwise (fun x y => cd x ≤ cd y) := by
    intro l
    induction l with
    | nil =>
      intro acc _ _ h
      rw [List.append_nil]
      exact ⟨List.Perm.refl _, h⟩
    | cons m l ih =>
      intro acc hl ha hs
      obtain ⟨q1, q2⟩ := ins_ok (hl m List.mem_cons_self) acc ha hs
      obtain ⟨r1, r2⟩ := ih (Kvg9.insertMatch m acc) (fun x hx => hl x (List.mem_cons_of_mem _ hx)) (fun x hx => by
        rcases List.mem_cons.mp (q1.mem_iff.mp hx) with e | hx
        · rw [e]
          exact hl m List.mem_cons_self
        · exact ha x hx) q2
      refine ⟨?_, r2⟩
      rw [List.foldl_cons]
      refine r1.trans ((q1.append_right l).trans ?_)
      exact List.perm_middle.symm
  exact main l [] h (fun _ h => nomatch h) List.Pairwise.nil
def pss (a b : Version) (tol : Nat) : List Match := (a.flatMap fun f => b.map fun g => mtc f g).filter fun m => decide (m.distance ≤ tol * tol)
def Dst (m n : Match) : Prop := m.first < n.first ∨ (m.first = n.first ∧ m.second < n.second)
theorem pss_dst {a b : Version} (ha : Srt a) (hb : Srt b) (tol : Nat) : (pss a b tol).Pairwise Dst := by
  unfold pss
  refine List.Pairwise.filter _ ?_
  induction a with
  | nil => exact List.Pairwise.nil
  | cons f a ih =>
    obtain ⟨h1, h2⟩ := List.pairwise_cons.mp ha
    rw [List.flatMap_cons]
    refine List.pairwise_append.mpr ⟨?_, ih h2, fun x hx y hy => ?_⟩
    · rw [List.pairwise_map]
      exact List.Pairwise.imp (fun {g k} h => .inr ⟨rfl, h⟩) hb
    · obtain ⟨g, _, rfl⟩ := List.mem_map.mp hx
      obtain ⟨f2, hf2, hy⟩ := List.mem_flatMap.mp hy
      obtain ⟨g2, _, rfl⟩ := List.mem_map.mp hy
      exact .inl (h1 f2 hf2)
theorem OkV.okx {w : Nat} {v : Version} (h : OkV w v) {f : Feature} (hf : f ∈ v) : OkX f.vertices ∧ f.id ≤ 65535 := by
  have := h.ft f hf
  exact ⟨⟨this.2.2.1, this.2.2.2.1, this.2.2.2.2⟩, this.2.1⟩
theorem cor_ok {f g : Feature} (hf : OkX f.vertices) (hg : OkX g.vertices) : (Kvg9.correspondence f g).1 ≤ 2 ∧ (Kvg9.correspondence f g).2 ≤ 8000000000000 := by
  unfold Kvg9.correspondence
  split
  · exact ⟨by omega, by omega⟩
  · split
    · exact ⟨show 1 ≤ 2 by decide, sq_lt (fst_ok hf) (fst_ok hg)⟩
    · refine ⟨show 2 ≤ 2 by decide, ?_⟩
      show Kvg9.spread f.vertices g.vertices ≤ _
      rw [spread_is]
      have h1 := far_lt hf hg
      have h2 := far_lt hg hf
      omega
theorem pss_ok {a b : Version} {w : Nat} (ha : OkV w a) (hb : OkV w b) (tol : Nat) : ∀ m ∈ pss a b tol, MOk m := fun m hm => by
  obtain ⟨h, _⟩ := List.mem_filter.mp hm
  obtain ⟨f, hf, h⟩ := List.mem_flatMap.mp h
  obtain ⟨g, hg, rfl⟩ := List.mem_map.mp h
  obtain ⟨f1, f2⟩ := ha.okx hf
  obtain ⟨g1, g2⟩ := hb.okx hg
  obtain ⟨c1, c2⟩ := cor_ok f1 g1
  exact ⟨c1, c2, f2, g2⟩
theorem pss_lt {a b : Version} {w : Nat} (ha : OkV w a) (hb : OkV w b) (tol : Nat) : (srtM (pss a b tol)).Pairwise fun x y => cd x < cd y := by
  have ok := pss_ok ha hb tol
  obtain ⟨h1, h2⟩ := srt_ok _ ok
  have nd : (pss a b tol).Pairwise fun x y => cd x ≠ cd y := List.Pairwise.imp_of_mem (fun {x y} hx hy hd e => by
    have q := code_inj (eMt x) (eMt y) rfl (mok_bd (ok x hx)) (mok_bd (ok y hy)) e
    unfold eMt at q
    injection q with q1 q
    injection q with q2 q
    injection q with q3 q
    injection q with q4 _
    rcases hd with h | ⟨h, h'⟩ <;> omega) (pss_dst ha.srt hb.srt tol)
  have nd2 : ((pss a b tol).map cd).Nodup := List.pairwise_map.mpr nd
  have nd3 : ((srtM (pss a b tol)).map cd).Nodup := (h1.map cd).nodup_iff.mpr nd2
  have nd4 : (srtM (pss a b tol)).Pairwise fun x y => cd x ≠ cd y := List.pairwise_map.mp nd3
  exact List.Pairwise.imp (fun {x y} h => by
    have h3 := h.1
    have h4 := h.2
    omega) (List.Pairwise.and h2 nd4)
def tkS (taken : List Match) (m : Match) : List Match := if taken.any fun t => t.first == m.first || t.second == m.second then taken else taken ++ [m]
def tkn (l : List Match) : List Match := l.foldl tkS []
theorem match_is (a b : Version) (tol : Nat) : Kvg9.matchVersions a b tol = tkn (srtM (pss a b tol)) := rfl
theorem tkn_app (l : List Match) (m : Match) : tkn (l ++ [m]) = tkS (tkn l) m := by
  unfold tkn
  rw [List.foldl_append] <;> rfl
theorem tk_any (l : List Match) (m : Match) : (l.any fun t => t.first == m.first || t.second == m.second) = true ↔ (∃ t ∈ l, t.first = m.first) ∨ ∃ t ∈ l, t.second = m.second := by
  rw [List.any_eq_true]
  constructor
  · rintro ⟨t, ht, h⟩
    simp only [Bool.or_eq_true, beq_iff_eq] at h
    rcases h with h | h
    · exact .inl ⟨t, ht, h⟩
    · exact .inr ⟨t, ht, h⟩
  · rintro (⟨t, ht, h⟩ | ⟨t, ht, h⟩)
    · exact ⟨t, ht, by simp [h]⟩
    · exact ⟨t, ht, by simp [h]⟩
theorem tkn_len : ∀ l : List Match, (tkn l).length ≤ l.length := by
  have main : ∀ l acc : List Match, (l.foldl tkS acc).length ≤ acc.length + l.length := by
    intro l
    induction l with
    | nil => intro acc; simp
    | cons m l ih =>
      intro acc
      have h1 := ih (tkS acc m)
      have h2 : (tkS acc m).length ≤ acc.length + 1 := by
        unfold tkS
        split
        · omega
        · rw [List.length_append, List.length_singleton]
          omega
      rw [List.foldl_cons, List.length_cons]
      omega
  intro l
  have := main l []
  rw [List.length_nil, Nat.zero_add] at this
  exact this
theorem pss_len {a b : Version} (ha : a.length ≤ 16) (hb : b.length ≤ 16) (tol : Nat) : (pss a b tol).length ≤ 256 := by
  have main : ∀ a : Version, (a.flatMap fun f => b.map fun g => mtc f g).length = a.length * b.length := by
    intro a
    induction a with
    | nil => simp
    | cons f a ih => rw [List.flatMap_cons, List.length_append, ih, List.length_map, List.length_cons, Nat.add_mul, Nat.one_mul, Nat.add_comm]
  have h := List.length_filter_le (fun m : Match => decide (m.distance ≤ tol * tol)) (a.flatMap fun f => b.map fun g => mtc f g)
  rw [main] at h
  have h2 : a.length * b.length ≤ 16 * 16 := Nat.mul_le_mul ha hb
  show (List.filter _ _).length ≤ 256
  omega
theorem srtM_len {a b : Version} {w : Nat} (ha : OkV w a) (hb : OkV w b) (tol : Nat) : (srtM (pss a b tol)).length ≤ 256 := by
  rw [(srt_ok _ (pss_ok ha hb tol)).1.length_eq]
  exact pss_len ha.few hb.few tol
abbrev eM (m : Match) : PyData := eRow (eMt m)

section
variable {P : Program} {w : World} {K : Fg} {mg : Str → Option Value} {base : Heap}
def rPossible (ds : List PyData) (d : PyData) : Prop := ∃ (a b : Version) (tol w : Nat), OkV w a ∧ OkV w b ∧ tol < 2 ^ 32 ∧ ds = [eVer a, eVer b, .int tol] ∧ d = .list ((srtM (pss a b tol)).map eM)
theorem c_possible_pairs (T : Tx K mg) : Cal P w K mg base "possible_pairs" 4 ["first", "second", "tolerance"] (spP K 3 rPossible) :=
  T.pure 84 69 112 sc_possible_pairs (fun _ _ _ _ _ _ us hl => match us, hl with | [_, _, _], _ => rfl) fun cdv A outer s H E hr ds d _hl hR => by
  obtain ⟨a, b, tol, w, ha, hb, ht, rfl, rfl⟩ := hR
  have h1 := ha.few
  have h2 := hb.few
  refine dss_cons (ds_new (i := 3) sc_possible_pairs.nd rfl (by first | exact .inl rfl | exact .inr rfl) (do_lst da_nil) ?_)
  refine dss_cons (ds_for (l := a) (enc := eFeat) (fun pre m δ => m = none ∧ ∃ t1 t2, δ = [.v (eVer a), .v (eVer b), .v (.int tol), .own (.list ((pss pre b tol).map eM)), t1, t2, .u, .u]) (di_tup (dv 0)) ⟨rfl, .u, .u, rfl⟩ ?_ ?_)
  · rintro pre f post m δ hv ⟨rfl, t1, t2, rfl⟩
    have hf := (ha.okx (show f ∈ a by rw [hv]; simp)).1
    have hpl : pre.length ≤ 16 := by
      have := congrArg List.length hv
      rw [List.length_append, List.length_cons] at this
      omega
    have hl1 := pss_len hpl h2 tol
    have hl2 := List.length_filter_le (fun m : Match => decide (m.distance ≤ tol * tol)) (b.map fun g => mtc f g)
    rw [List.length_map] at hl2
    refine ⟨_, _, (dg_name sc_possible_pairs.nd (i := 4) rfl (by first | exact .inl rfl | exact .inr rfl)), ?_⟩
    refine dss_cons (ds_setLc (i := 5) (l := b) (enc := eFeat) (enc' := fun g => eM (mtc f g)) (q := fun _ => true) (own := [("other", 6)]) sc_possible_pairs.nd rfl rfl (sw_true rfl rfl rfl (by decide +kernel)) (di_tup (dv 1)) (line_le (by omega)) (blkOk_by (N := N_possible_pairs) (sc := defScope (top 112)) (by decide +kernel))
      (fun g hg => ⟨_, _, (by simp), fun s1 H1 C1 cl1 fp1 => ⟨(dg_name sc_possible_pairs.nd (i := 6) rfl (by first | exact .inl rfl | exact .inr rfl)), dts_nil, fun _ => ⟨de_call (c_pair_of T) (hr.mono (by decide)) (da_cons (dv 4) (da_one (dv 6))) ⟨f, g, hf, (hb.okx hg).1, rfl, rfl⟩, rfl⟩⟩⟩) ?_)
    refine dss_one (ds_extend (i := 3) rfl (.inl rfl) rfl (do_fil (l := b.map fun g => mtc f g) (enc := eM) (enc' := eM) (q := fun m => decide (m.distance ≤ tol * tol)) (own := [("pair", 7)]) sc_possible_pairs.nd (DI.to (di_lst (dv 5)) (by rw [filt_true, List.map_map] <;> rfl)) (line_le (by rw [List.length_map]; omega)) (blkOk_by (N := N_possible_pairs) (sc := defScope (top 112)) (by decide +kernel))
      (fun m hm => ⟨_, _, (by simp), fun s1 H1 C1 cl1 fp1 => ⟨(dg_name sc_possible_pairs.nd (i := 7) rfl (by first | exact .inl rfl | exact .inr rfl)), DT.to (dt_cmp (dc_le (de_ixT (ds := (eMt m).map .int) (d := .int m.distance) (dv 7) de_int rfl) (de_mul (dv 2) (dv 2) (.inl ⟨by omega, by omega⟩)))) (decide_eq_decide.mpr ⟨fun h => ?_, fun h => ?_⟩), fun _ => ⟨(dv 7), rfl⟩⟩⟩)).de (line_le ?_) ⟨rfl, .v (eFeat f), .v (.list (((b.filter fun _ => true).map fun g => eM (mtc f g)))), ?_⟩)
    · have : ((m.distance : Nat) : Int) ≤ ((tol * tol : Nat) : Int) := by rw [Int.natCast_mul]; exact h
      omega
    · have : ((m.distance : Nat) : Int) ≤ ((tol * tol : Nat) : Int) := by omega
      rw [Int.natCast_mul] at this
      exact this
    · rw [List.length_map, List.length_map]
      omega
    · have e : pss (pre ++ [f]) b tol = pss pre b tol ++ (b.map fun g => mtc f g).filter fun m => decide (m.distance ≤ tol * tol) := by
        unfold pss
        rw [List.flatMap_append, List.filter_append, List.flatMap_cons, List.flatMap_nil, List.append_nil]
      rw [e, List.map_append] <;> rfl
  · rintro m δ ⟨rfl, t1, t2, rfl⟩
    have ok := pss_ok ha hb tol
    refine dss_freeze (3) rfl (dss_one (ds_ret (do_sortedR (n := 4) (B := bB) (rows := (pss a b tol).map eMt) (out := (srtM (pss a b tol)).map eMt) (by decide) T.n_sorted (DE.to (dv 3) (by rw [List.map_map] <;> rfl)) (fun r hr => ?_) ((srt_ok _ ok).1.map eMt) ?_).de ?_))
    · obtain ⟨m, hm, rfl⟩ := List.mem_map.mp hr
      exact ⟨rfl, mok_bd (ok m hm)⟩
    · rw [List.pairwise_map]
      exact pss_lt ha hb tol
    · show PyData.list _ = .list _
      rw [List.map_map] <;> rfl
def rTaken (ds : List PyData) (d : PyData) : Prop := ∃ l : List Match, l.length ≤ 1000 ∧ ds = [.list (l.map eM)] ∧ d = .list ((tkn l).map eM)
theorem c_taken_pairs (T : Tx K mg) : Cal P w K mg base "taken_pairs" 1 ["pairs"] (spP K 1 rTaken) :=
  T.pure 85 70 113 sc_taken_pairs (fun _ _ _ _ _ _ us hl => match us, hl with | [_], _ => rfl) fun cdv A outer s H E hr ds d _hl hR => by
  obtain ⟨l, hz, rfl, rfl⟩ := hR
  refine dss_cons (ds_new (i := 1) sc_taken_pairs.nd rfl (by first | exact .inl rfl | exact .inr rfl) (do_lst da_nil) ?_)
  refine dss_cons (ds_newD0 (i := 2) sc_taken_pairs.nd rfl (by first | exact .inl rfl | exact .inr rfl) ?_)
  refine dss_cons (ds_newD0 (i := 3) sc_taken_pairs.nd rfl (by first | exact .inl rfl | exact .inr rfl) ?_)
  refine dss_cons (ds_for (l := l) (enc := eM) (fun pre m δ => m = none ∧ ∃ d1 d2 t, δ = [.v (.list (l.map eM)), .own (.list ((tkn pre).map eM)), .own (.dict (dk d1)), .own (.dict (dk d2)), t] ∧ d1.length ≤ pre.length ∧ d2.length ≤ pre.length ∧ (∀ k : Nat, (dGet d1 k).isSome = true ↔ ∃ t ∈ tkn pre, t.first = k) ∧ ∀ k : Nat, (dGet d2 k).isSome = true ↔ ∃ t ∈ tkn pre, t.second = k)
    (di_lst (dv 0)) ⟨rfl, [], [], .u, rfl, Nat.le_refl _, Nat.le_refl _, fun k => by simp [dGet, tkn], fun k => by simp [dGet, tkn]⟩ ?_ ?_)
  · rintro pre x post m δ hv ⟨rfl, d1, d2, t, rfl, l1, l2, k1, k2⟩
    have hpl : pre.length < 1000 := by
      have := congrArg List.length hv
      rw [List.length_append, List.length_cons] at this
      omega
    have htl := tkn_len pre
    have hany := tk_any (tkn pre) x
    refine ⟨_, _, (dg_name sc_taken_pairs.nd (i := 4) rfl (by first | exact .inl rfl | exact .inr rfl)), dss_one (ds_if (dt_w (dw_and (dt_cmp (dc_notInO (i := 2) (dm := d1) (Room.units1 hr) (de_ixT (ds := (eMt x).map .int) (d := .int x.first) (dv 4) de_int rfl) rfl (.inl rfl) rfl)) fun _ => dw_and1 (dt_cmp (dc_notInO (i := 3) (dm := d2) (Room.units1 hr) (de_ixT (ds := (eMt x).map .int) (d := .int x.second) (dv 4) de_int rfl) rfl (.inl rfl) rfl)))) (fun hk => ?_) fun hk => dss_nil ?_)⟩
    · have hk : ¬ ((∃ t ∈ tkn pre, t.first = x.first) ∨ ∃ t ∈ tkn pre, t.second = x.second) := by
        rw [← k1, ← k2]
        simpa using hk
      have e : tkn (pre ++ [x]) = tkn pre ++ [x] := by
        rw [tkn_app]
        unfold tkS
        rw [if_neg (fun z => hk (hany.mp z))]
      refine dss_cons (ds_append (i := 1) rfl (.inl rfl) rfl (dv 4) rfl (line_lt (by rw [List.length_map]; omega)) ?_)
      refine dss_cons (ds_dput (i := 2) (dm := d1) (Room.units1 hr) rfl (.inl rfl) rfl de_bl rfl (de_ixT (ds := (eMt x).map .int) (d := .int x.first) (dv 4) de_int rfl) (line_lt (by omega)) ?_)
      refine dss_one (ds_dput (i := 3) (dm := d2) (Room.units1 hr) rfl (.inl rfl) rfl de_bl rfl (de_ixT (ds := (eMt x).map .int) (d := .int x.second) (dv 4) de_int rfl) (line_lt (by omega)) ⟨rfl, dPut d1 x.first (.bool true), dPut d2 x.second (.bool true), .v (eM x), ?_, ?_, ?_, fun k => ?_, fun k => ?_⟩)
      · rw [e, List.map_append] <;> rfl
      · have := dPut_len d1 x.first (.bool true)
        rw [List.length_append, List.length_singleton]
        omega
      · have := dPut_len d2 x.second (.bool true)
        rw [List.length_append, List.length_singleton]
        omega
      · rw [dGet_put, e]
        by_cases c : (k : Int) = x.first
        · have c2 : x.first = k := by omega
          simp [c, c2]
        · have c2 : ¬ x.first = k := by omega
          rw [if_neg c, k1 k]
          simp [c2]
      · rw [dGet_put, e]
        by_cases c : (k : Int) = x.second
        · have c2 : x.second = k := by omega
          simp [c, c2]
        · have c2 : ¬ x.second = k := by omega
          rw [if_neg c, k2 k]
          simp [c2]
    · have hk : (∃ t ∈ tkn pre, t.first = x.first) ∨ ∃ t ∈ tkn pre, t.second = x.second := by
        rw [← k1, ← k2]
        cases q1 : (dGet d1 (x.first : Nat)).isSome with
        | true => exact .inl rfl
        | false =>
          cases q2 : (dGet d2 (x.second : Nat)).isSome with
          | true => exact .inr rfl
          | false => rw [q1, q2] at hk; cases hk
      have e : tkn (pre ++ [x]) = tkn pre := by
        rw [tkn_app]
        unfold tkS
        rw [if_pos (hany.mpr hk)]
      refine ⟨rfl, d1, d2, .v (eM x), by rw [e] <;> rfl, by rw [List.length_append, List.length_singleton]; omega, by rw [List.length_append, List.length_singleton]; omega, fun k => by rw [e]; exact k1 k, fun k => by rw [e]; exact k2 k⟩
  · rintro m δ ⟨rfl, d1, d2, t, rfl, _, _, _, _⟩
    exact dss_freeze (1) rfl (dss_one (ds_ret (dv 1) rfl))
def rWithout (ds : List PyData) (d : PyData) : Prop := ∃ (v : Version) (ns : List Nat), v.length ≤ 100 ∧ ds = [eVer v, .list (ns.map eN)] ∧ d = .list ((v.filter fun f => !decide (f.id ∈ ns)).map fun f => .int (f.id : Nat))
theorem c_numbers_without (T : Tx K mg) : Cal P w K mg base "numbers_without" 1 ["version", "numbers"] (spP K 2 rWithout) :=
  T.pure 86 71 114 sc_numbers_without (fun _ _ _ _ _ _ us hl => match us, hl with | [_, _], _ => rfl) fun cdv A outer s H E hr ds d _hl hR => by
  obtain ⟨v, ns, hv, rfl, rfl⟩ := hR
  refine dss_one (ds_ret (do_fil (l := v) (enc := eFeat) (enc' := fun f => .int (f.id : Nat)) (q := fun f => !decide (f.id ∈ ns)) (own := [("feature", 2)]) sc_numbers_without.nd (di_tup (dv 0)) (line_le (by omega)) (blkOk_by (N := N_numbers_without) (sc := defScope (top 114)) (by decide +kernel))
    (fun f hf => ⟨_, _, (by simp), fun s1 H1 C1 cl1 fp1 => ⟨(dg_name sc_numbers_without.nd (i := 2) rfl (by first | exact .inl rfl | exact .inr rfl)), DT.to (dt_cmp (dc_notInL (ns := ns.map fun n : Nat => (n : Int)) (de_ixT (d := .int (f.id : Nat)) (dv 2) de_int rfl) (DE.to (dv 1) (by rw [List.map_map] <;> rfl)))) ?_, fun _ => ⟨de_ixT (dv 2) de_int rfl, rfl⟩⟩⟩)).de rfl)
  have h : ((f.id : Int) ∈ ns.map fun n : Nat => (n : Int)) ↔ f.id ∈ ns := by
    rw [List.mem_map]
    constructor
    · rintro ⟨y, hy, e⟩
      have e2 : y = f.id := by omega
      rw [← e2]
      exact hy
    · intro h
      exact ⟨f.id, h, rfl⟩
  rw [decide_eq_decide.mpr h]
def rMatched (ds : List PyData) (d : PyData) : Prop := ∃ (a b : Version) (tol w : Nat), OkV w a ∧ OkV w b ∧ tol < 2 ^ 32 ∧ ds = [eVer a, eVer b, .int tol] ∧
  d = .tuple [.list ((Kvg9.matchVersions a b tol).map eM), .list ((a.filter fun f => !((Kvg9.matchVersions a b tol).any fun m => m.first == f.id)).map fun f => .int (f.id : Nat)), .list ((b.filter fun f => !((Kvg9.matchVersions a b tol).any fun m => m.second == f.id)).map fun f => .int (f.id : Nat))]
theorem any_mem (l : List Match) (p : Match → Nat) (n : Nat) : decide (n ∈ l.map p) = l.any fun m => p m == n := by
  have h : n ∈ l.map p ↔ (l.any fun m => p m == n) = true := by
    rw [List.mem_map, List.any_eq_true]
    simp only [beq_iff_eq]
  cases e : l.any fun m => p m == n with
  | true => exact decide_eq_true (h.mpr e)
  | false => exact decide_eq_false fun z => by rw [h.mp z] at e; cases e
theorem c_matched (T : Tx K mg) : Cal P w K mg base "matched" 5 ["first", "second", "tolerance"] (spP K 3 rMatched) :=
  T.pure 87 72 115 sc_matched (fun _ _ _ _ _ _ us hl => match us, hl with | [_, _, _], _ => rfl) fun cdv A outer s H E hr ds d _hl hR => by
  obtain ⟨a, b, tol, w, ha, hb, ht, rfl, rfl⟩ := hR
  have h1 := srtM_len ha hb tol
  have h2 := tkn_len (srtM (pss a b tol))
  have f1 := ha.few
  have f2 := hb.few
  rw [match_is]
  simp only [← any_mem _ Match.first, ← any_mem _ Match.second]
  generalize hg : tkn (srtM (pss a b tol)) = l at h2 ⊢
  refine dss_cons (ds_set (i := 3) sc_matched.nd rfl (by first | exact .inl rfl | exact .inr rfl) (DE.to (de_call (c_taken_pairs T) (hr.mono (by decide)) (da_one (de_call (c_possible_pairs T) (hr.mono (by decide)) (da_cons (dv 0) (da_cons (dv 1) (da_one (dv 2)))) ⟨a, b, tol, w, ha, hb, ht, rfl, rfl⟩)) ⟨srtM (pss a b tol), by omega, rfl, rfl⟩) (by rw [hg])) ?_)
  refine dss_cons (ds_set (i := 4) sc_matched.nd rfl (by first | exact .inl rfl | exact .inr rfl) (de_call (c_numbers_without T) (hr.mono (by decide)) (da_cons (dv 0) (da_one (DO.to (do_map (l := l) (enc := eM) (enc' := fun m => .int (m.first : Nat)) (own := [("pair", 5)]) sc_matched.nd (di_lst (dv 3)) (line_le (by omega)) (blkOk_by (N := N_matched) (sc := defScope (top 115)) (by decide +kernel))
    (fun m hm => ⟨_, _, (by simp), fun s1 H1 C1 cl1 fp1 => ⟨(dg_name sc_matched.nd (i := 5) rfl (by first | exact .inl rfl | exact .inr rfl)), de_ixT (ds := (eMt m).map .int) (dv 5) de_int rfl, rfl⟩⟩)) (show _ = (l.map Match.first).map eN by rw [List.map_map] <;> rfl)).de)) ⟨a, l.map Match.first, by omega, rfl, rfl⟩) ?_)
  exact dss_one (ds_ret (de_tup (da_cons (dv 3) (da_cons (dv 4) (da_one (de_call (c_numbers_without T) (hr.mono (by decide)) (da_cons (dv 1) (da_one (DO.to (do_map (l := l) (enc := eM) (enc' := fun m => .int (m.second : Nat)) (own := [("pair", 5)]) sc_matched.nd (di_lst (dv 3)) (line_le (by omega)) (blkOk_by (N := N_matched) (sc := defScope (top 115)) (by decide +kernel))
    (fun m hm => ⟨_, _, (by simp), fun s1 H1 C1 cl1 fp1 => ⟨(dg_name sc_matched.nd (i := 5) rfl (by first | exact .inl rfl | exact .inr rfl)), de_ixT (ds := (eMt m).map .int) (dv 5) de_int rfl, rfl⟩⟩)) (show _ = (l.map Match.second).map eN by rw [List.map_map] <;> rfl)).de)) ⟨b, l.map Match.second, by omega, rfl, rfl⟩))))) rfl)
end
end Pv
/-! ### 26. queries -/
namespace Pv
open PySem PySem.Spec PyProof.Rows L2
open Kvg9 (Feature Version Vertex Commit Store Change Operation Response Conflict Match)

/-! the mathematics -/
theorem GoodS.src {s : Store} (g : GoodS s) {c : Nat} {v : Version} (h : s.source c = some v) : OkV s.attributeCount v := by
  unfold Store.source at h
  split at h
  · rw [← Option.some.inj h]
    exact g.wk
  · cases e : s.commit c with
    | none => rw [e] at h; cases h
    | some q =>
      rw [e] at h
      rw [← Option.some.inj h]
      exact (g.cm c q e).1
def chi (c : Change) : List Int := [(c.id : Int), (c.kind : Int), (c.parts : Int)]
theorem chi_len : ∀ l : List Change, (l.flatMap chi).length = 3 * l.length
  | [] => rfl
  | c :: l => by
    rw [List.flatMap_cons, List.length_append, chi_len l, List.length_cons]
    show 3 + _ = _
    omega
theorem ch_len (a b : Version) : (Kvg9.changesBetween a b).length ≤ a.length + b.length := by
  have h := List.length_filterMap_le (fun id => chg id (Kvg9.find a id) (Kvg9.find b id)) (Kvg9.idsOf [a, b])
  have h2 := ids_len [a, b]
  rw [changes_is]
  simp only [List.flatten_cons, List.flatten_nil, List.append_nil, List.length_append] at h2
  omega
def nmi (e : Nat × Nat) : List Int := [(e.1 : Int), (e.2 : Int)]
theorem nmi_len : ∀ l : List (Nat × Nat), (l.flatMap nmi).length = 2 * l.length
  | [] => rfl
  | c :: l => by
    rw [List.flatMap_cons, List.length_append, nmi_len l, List.length_cons]
    show 2 + _ = _
    omega
theorem ints_nm : ∀ l : List (Nat × Nat), Kvg9.ints (l.flatMap fun e => [e.1, e.2]) = l.flatMap nmi
  | [] => rfl
  | e :: l => by
    have ih := ints_nm l
    unfold Kvg9.ints at ih ⊢
    rw [List.flatMap_cons, List.flatMap_cons, List.map_append, ih] <;> rfl
def mti (m : Match) : List Int := [(m.first : Int), (m.second : Int), (m.kind : Int), (m.distance : Int)]
theorem mti_len : ∀ l : List Match, (l.flatMap mti).length = 4 * l.length
  | [] => rfl
  | c :: l => by
    rw [List.flatMap_cons, List.length_append, mti_len l, List.length_cons]
    show 4 + _ = _
    omega
theorem word_div : CDivW i 4294967296 := wide_div (b := 33) (by omega) (by decide) (by decide) (by decide)

section
variable {P : Program} {w : World} {K : Fg} {mg : Str → Option Value} {base : Heap}
def rkGetF := rkOp fun ds op => ∃ c id : Nat, ds = [.int c, .int id] ∧ op = .getFeature c id
theorem c_get_feature (T : Tx K mg) : Cal P w K mg base "get_feature" 4 ["keeper", "number", "feature_number"] (spK K (He.ga K "Keeper") 2 rkGetF) :=
  T.keep 88 73 118 sc_get_feature (fun _ _ _ _ _ _ us hl => match us, hl with | [_, _, _], _ => rfl) rfl fun cdv A outer s H E ka hr fs ds d fs' _hl hR => by
  obtain ⟨s, op, g, ⟨c, id, rfl, rfl⟩, rfl, rfl, rfl⟩ := hR
  have e : s.run (.getFeature c id) = match (s.source c).bind fun v => Kvg9.find v id with
    | none => (s, .error (-2))
    | some f => (s, ⟨0, Kvg9.featureValues f⟩) := rfl
  rw [e]
  refine dss_cons (ds_set (i := 3) sc_get_feature.nd rfl (by first | exact .inl rfl | exact .inr rfl) (de_meth (dkv 0) T.cls (k_version_at T) (hr.mono (by decide)) (da_one (dv 1)) rfl rfl ⟨s, g, rfl, rfl, c, rfl, rfl⟩) ?_)
  refine dss_cons (ds_set (i := 4) sc_get_feature.nd rfl (by first | exact .inl rfl | exact .inr rfl) (m1 := some (kfs s)) (d := eOF ((s.source c).bind fun v => Kvg9.find v id)) (de_if (dt_cmp (dc_isN (dv 3))) (fun hk => ?_) fun hk => ?_) ?_)
  · cases hs : s.source c with
    | none => exact de_non
    | some v => rw [hs] at hk; cases hk
  · cases hs : s.source c with
    | none => rw [hs] at hk; cases hk
    | some v => exact de_call (c_feature_at T) (hr.mono (by decide)) (da_cons (dv 3) (da_one (dv 2))) ⟨v, id, rfl, rfl⟩
  cases hf : (s.source c).bind fun v => Kvg9.find v id with
  | none => exact dss_cons (ds_if (dt_cmp (dc_isN (dv 4))) (fun _ => dss_one (ds_ret (do_listF T.n_list (de_glst T.g_MISSING_queries T.l_MISSING_queries)).de ⟨rfl, rfl⟩)) fun h => by cases h)
  | some f =>
    obtain ⟨v, hv, hf2⟩ := Option.bind_eq_some_iff.mp hf
    have ok := (g.src hv).ft f (find_mem hf2).1
    have gw := g.w
    refine dss_cons (ds_if (dt_cmp (dc_isN (dv 4))) (fun h => by cases h) fun _ => dss_nil ?_)
    refine dss_cons (ds_new (i := 5) sc_get_feature.nd rfl (by first | exact .inl rfl | exact .inr rfl) (do_cat (do_cat (do_lst (da_cons de_int (da_one (de_lenT (ds := f.attributes.map .int) T.n_len (de_ixT (dv 4) de_int rfl))))).de (do_listT (ds := f.attributes.map .int) T.n_list (de_ixT (dv 4) de_int rfl)).de (line_le ?_)).de (do_lst (da_one (de_lenT (ds := f.vertices.map eVx) T.n_len (de_ixT (dv 4) de_int rfl)))).de (line_le ?_)) ?_)
    · simp only [List.length_map, List.length_cons, List.length_nil]
      omega
    · simp only [List.length_append, List.length_map, List.length_cons, List.length_nil]
      omega
    refine dss_cons (ds_for (l := f.vertices) (enc := eVx) (fun pre m δ => m = some (kfs s) ∧ ∃ t1 t2, δ = [.obj, .v (.int c), .v (.int id), .v (eOp eVer (s.source c)), .v (eOF (some f)), .own (.list (((0 : Int) :: ((f.attributes.length : Int) :: f.attributes ++ ((f.vertices.length : Int) :: pre.flatMap fun v => [v.1, v.2]))).map .int)), t1, t2]) (di_tup (de_ixT (ds := [.int f.id, eAt f.attributes, eVs f.vertices]) (dv 4) de_int rfl)) ⟨rfl, .u, .u, ?_⟩ ?_ ?_)
    · simp only [List.length_map, List.map_append, List.map_cons, List.map_nil, List.append_assoc, List.flatMap_nil, List.cons_append, List.nil_append] <;> rfl
    · rintro pre x post m δ hw ⟨rfl, t1, t2, rfl⟩
      have hpl : pre.length ≤ 12 := by
        have := congrArg List.length hw
        rw [List.length_append, List.length_cons] at this
        omega
      have hvl := vx_len pre
      refine ⟨_, _, dg_tup (dgs_cons (dg_name sc_get_feature.nd (i := 6) rfl (by first | exact .inl rfl | exact .inr rfl)) (dgs_cons (dg_name sc_get_feature.nd (i := 7) rfl (by first | exact .inl rfl | exact .inr rfl)) dgs_nil)) rfl, dss_one (ds_extend (i := 5) rfl (.inl rfl) rfl (do_lst (da_cons (dv 6) (da_one (dv 7)))).de (line_le ?_) ⟨rfl, .v (.int x.1), .v (.int x.2), ?_⟩)⟩
      · simp only [List.length_append, List.length_map, List.length_cons, List.length_nil]
        omega
      · simp only [List.map_append, List.map_cons, List.map_nil, List.append_assoc, List.flatMap_append, List.flatMap_cons, List.flatMap_nil, List.append_nil, List.cons_append, List.nil_append] <;> rfl
    · rintro m δ ⟨rfl, t1, t2, rfl⟩
      exact dss_freeze (5) rfl (dss_one (ds_ret (dv 5) ⟨rfl, rfl⟩))
def rkListF := rkOp fun ds op => ∃ c : Nat, ds = [.int c] ∧ op = .listFeatures c
theorem c_list_features (T : Tx K mg) : Cal P w K mg base "list_features" 3 ["keeper", "number"] (spK K (He.ga K "Keeper") 1 rkListF) :=
  T.keep 89 74 119 sc_list_features (fun _ _ _ _ _ _ us hl => match us, hl with | [_, _], _ => rfl) rfl fun cdv A outer s H E ka hr fs ds d fs' _hl hR => by
  obtain ⟨s, op, g, ⟨c, rfl, rfl⟩, rfl, rfl, rfl⟩ := hR
  have e : s.run (.listFeatures c) = match s.source c with
    | none => (s, .error (-2))
    | some v => (s, ⟨(v.length : Nat), v.map fun f => (f.id : Int)⟩) := rfl
  rw [e]
  refine dss_cons (ds_set (i := 2) sc_list_features.nd rfl (by first | exact .inl rfl | exact .inr rfl) (de_meth (dkv 0) T.cls (k_version_at T) (hr.mono (by decide)) (da_one (dv 1)) rfl rfl ⟨s, g, rfl, rfl, c, rfl, rfl⟩) ?_)
  cases hs : s.source c with
  | none => exact dss_cons (ds_if (dt_cmp (dc_isN (dv 2))) (fun _ => dss_one (ds_ret (do_listF T.n_list (de_glst T.g_MISSING_queries T.l_MISSING_queries)).de ⟨rfl, rfl⟩)) fun h => by cases h)
  | some v =>
    have f1 := (g.src hs).few
    refine dss_cons (ds_if (dt_cmp (dc_isN (dv 2))) (fun h => by cases h) fun _ => dss_nil ?_)
    refine dss_one (ds_ret (do_cat (do_lst (da_one (de_lenT (ds := v.map eFeat) T.n_len (dv 2)))).de (do_map (l := v) (enc := eFeat) (enc' := fun f => .int (f.id : Nat)) (own := [("feature", 3)]) sc_list_features.nd (di_tup (dv 2)) (line_le (by omega)) (blkOk_by (N := N_list_features) (sc := defScope (top 119)) (by decide +kernel))
      (fun f hf => ⟨_, _, (by simp), fun s1 H1 C1 cl1 fp1 => ⟨(dg_name sc_list_features.nd (i := 3) rfl (by first | exact .inl rfl | exact .inr rfl)), de_ixT (dv 3) de_int rfl, rfl⟩⟩)).de (line_le ?_)).de ⟨rfl, ?_⟩)
    · simp only [List.length_map, List.length_cons, List.length_nil]
      omega
    · show PyData.list _ = .list _
      rw [List.length_map]
      simp only [Kvg9Neutral.resultRow, List.map_cons, List.map_map, List.cons_append, List.nil_append] <;> rfl
def rToldCh (ds : List PyData) (d : PyData) : Prop := ∃ (a b : Version) (n : Nat), a.length + b.length < 64 ∧ Wd n a ∧ Wd n b ∧ ds = [eVer a, eVer b] ∧ d = eRes (Kvg9.changesResult (Kvg9.changesBetween a b))
theorem c_told_changes (T : Tx K mg) : Cal P w K mg base "told_changes" 4 ["first", "second"] (spP K 2 rToldCh) :=
  T.pure 90 75 120 sc_told_changes (fun _ _ _ _ _ _ us hl => match us, hl with | [_, _], _ => rfl) fun cdv A outer s H E hr ds d _hl hR => by
  obtain ⟨a, b, n, hz, ha, hb, rfl, rfl⟩ := hR
  have hl := ch_len a b
  refine dss_cons (ds_set (i := 2) sc_told_changes.nd rfl (by first | exact .inl rfl | exact .inr rfl) (de_call (c_changes_between T) (hr.mono (by decide)) (da_cons (dv 0) (da_one (dv 1))) ⟨a, b, n, hz, ha, hb, rfl, rfl⟩) ?_)
  generalize Kvg9.changesBetween a b = l at hl ⊢
  refine dss_cons (ds_new (i := 3) sc_told_changes.nd rfl (by first | exact .inl rfl | exact .inr rfl) (do_lst (da_one (de_lenL T.n_len (dv 2)))) ?_)
  refine dss_cons (ds_for (l := l) (enc := eCh) (fun pre m δ => m = none ∧ ∃ t1 t2 t3, δ = [.v (eVer a), .v (eVer b), .v (.list (l.map eCh)), .own (.list (((l.length : Int) :: pre.flatMap chi).map .int)), t1, t2, t3]) (di_lst (dv 2)) ⟨rfl, .u, .u, .u, by rw [List.length_map] <;> rfl⟩ ?_ ?_)
  · rintro pre c post m δ hv ⟨rfl, t1, t2, t3, rfl⟩
    have hpl : pre.length ≤ 64 := by
      have := congrArg List.length hv
      rw [List.length_append, List.length_cons] at this
      omega
    have hcl := chi_len pre
    refine ⟨_, _, dg_tup (dgs_cons (dg_name sc_told_changes.nd (i := 4) rfl (by first | exact .inl rfl | exact .inr rfl)) (dgs_cons (dg_name sc_told_changes.nd (i := 5) rfl (by first | exact .inl rfl | exact .inr rfl)) (dgs_cons (dg_name sc_told_changes.nd (i := 6) rfl (by first | exact .inl rfl | exact .inr rfl)) dgs_nil))) rfl, dss_one (ds_extend (i := 3) rfl (.inl rfl) rfl (do_lst (da_cons (dv 4) (da_cons (dv 5) (da_one (dv 6))))).de (line_le ?_) ⟨rfl, .v (.int c.id), .v (.int c.kind), .v (.int c.parts), ?_⟩)⟩
    · simp only [List.length_map, List.length_cons, List.length_nil]
      omega
    · rw [List.flatMap_append, List.map_cons, List.map_cons, List.map_append, List.flatMap_cons, List.flatMap_nil, List.append_nil] <;> rfl
  · rintro m δ ⟨rfl, t1, t2, t3, rfl⟩
    exact dss_freeze (3) rfl (dss_one (ds_ret (dv 3) rfl))
def rkDiff := rkOp fun ds op => ∃ a b : Nat, ds = [.int a, .int b] ∧ op = .diff a b
theorem c_diff (T : Tx K mg) : Cal P w K mg base "diff" 5 ["keeper", "first", "second"] (spK K (He.ga K "Keeper") 2 rkDiff) :=
  T.keep 91 76 121 sc_diff (fun _ _ _ _ _ _ us hl => match us, hl with | [_, _, _], _ => rfl) rfl fun cdv A outer s H E ka hr fs ds d fs' _hl hR => by
  obtain ⟨s, op, g, ⟨a, b, rfl, rfl⟩, rfl, rfl, rfl⟩ := hR
  have e : s.run (.diff a b) = match s.source a, s.source b with
    | some v, some w => (s, Kvg9.changesResult (Kvg9.changesBetween v w))
    | _, _ => (s, .error (-2)) := rfl
  rw [e]
  refine dss_cons (ds_par (i := 3) (j := 4) sc_diff.nd rfl rfl (by decide) rfl rfl (da_cons (de_meth (dkv 0) T.cls (k_version_at T) (hr.mono (by decide)) (da_one (dv 1)) rfl rfl ⟨s, g, rfl, rfl, a, rfl, rfl⟩) (da_one (de_meth (dkv 0) T.cls (k_version_at T) (hr.mono (by decide)) (da_one (dv 2)) rfl rfl ⟨s, g, rfl, rfl, b, rfl, rfl⟩))) ?_)
  cases ha : s.source a with
  | none => exact dss_cons (ds_if (dt_w (dw_or (k2 := true) (dt_cmp (dc_isN (dv 3))) fun h => by cases h)) (fun _ => dss_one (ds_ret (do_listF T.n_list (de_glst T.g_MISSING_queries T.l_MISSING_queries)).de ⟨rfl, rfl⟩)) fun h => by cases h)
  | some v =>
    cases hb : s.source b with
    | none => exact dss_cons (ds_if (dt_w (dw_or (dt_cmp (dc_isN (dv 3))) fun _ => dw_or1 (dt_cmp (dc_isN (dv 4))))) (fun _ => dss_one (ds_ret (do_listF T.n_list (de_glst T.g_MISSING_queries T.l_MISSING_queries)).de ⟨rfl, rfl⟩)) fun h => by cases h)
    | some x =>
      have o1 := g.src ha
      have o2 := g.src hb
      have f1 := o1.few
      have f2 := o2.few
      refine dss_cons (ds_if (dt_w (dw_or (dt_cmp (dc_isN (dv 3))) fun _ => dw_or1 (dt_cmp (dc_isN (dv 4))))) (fun h => by cases h) fun _ => dss_nil ?_)
      exact dss_one (ds_ret (de_call (c_told_changes T) (hr.mono (by decide)) (da_cons (dv 3) (da_one (dv 4))) ⟨v, x, s.attributeCount, by omega, o1.wd, o2.wd, rfl, rfl⟩) ⟨rfl, rfl⟩)
def rkLog := rkOp fun ds op => ∃ c : Nat, ds = [.int c] ∧ op = .log c
theorem c_log (T : Tx K mg) : Cal P w K mg base "log" 3 ["keeper", "number"] (spK K (He.ga K "Keeper") 1 rkLog) :=
  T.keep 92 77 122 sc_log (fun _ _ _ _ _ _ us hl => match us, hl with | [_, _], _ => rfl) rfl fun cdv A outer s H E ka hr fs ds d fs' _hl hR => by
  obtain ⟨s, op, g, ⟨c, rfl, rfl⟩, rfl, rfl, rfl⟩ := hR
  have e : s.run (.log c) = if s.exists_ c = false then (s, .error (-2)) else (s, ⟨((anc s c).length : Nat), Kvg9.ints (anc s c)⟩) := rfl
  rw [e]
  refine dss_cons (ds_if (dt_not (dt_val (de_meth (dkv 0) T.cls (k_has_commit T) (hr.mono (by decide)) (da_one (dv 1)) rfl rfl ⟨s, g, rfl, rfl, c, rfl, rfl⟩))) (fun hk => dss_one (ds_ret (do_listF T.n_list (de_glst T.g_MISSING_queries T.l_MISSING_queries)).de ?_)) fun hk => dss_nil ?_)
  · have hk : s.exists_ c = false := by simpa using hk
    rw [if_pos hk]
    exact ⟨rfl, rfl⟩
  have hk : s.exists_ c = true := by simpa using hk
  rw [if_neg (by rw [hk]; exact Bool.noConfusion)]
  obtain ⟨q, hq⟩ := exists_iff.mp hk
  have h40 := g.lt40 hq
  have hal := anc_len s c
  refine dss_cons (ds_set (i := 2) sc_log.nd rfl (by first | exact .inl rfl | exact .inr rfl) (de_call (c_ancestors_of T) (hr.mono (by decide)) (da_cons (de_fld (dkv 0) T.cls T.a_commits rfl) (da_one (dv 1))) ⟨s, c, q, g, hq, rfl, rfl⟩) ?_)
  refine dss_one (ds_ret (do_cat (do_lst (da_one (de_lenL T.n_len (dv 2)))).de (dv 2) (line_le ?_)).de ⟨rfl, ?_⟩)
  · simp only [List.length_map, List.length_cons, List.length_nil]
    omega
  · show PyData.list _ = .list _
    rw [List.length_map]
    simp only [Kvg9Neutral.resultRow, Kvg9.ints, List.map_cons, List.map_map, List.cons_append, List.nil_append] <;> rfl
def rkCommonA := rkOp fun ds op => ∃ a b : Nat, ds = [.int a, .int b] ∧ op = .commonAncestor a b
theorem c_common_ancestor (T : Tx K mg) : Cal P w K mg base "common_ancestor" 3 ["keeper", "first", "second"] (spK K (He.ga K "Keeper") 2 rkCommonA) :=
  T.keep 93 78 123 sc_common_ancestor (fun _ _ _ _ _ _ us hl => match us, hl with | [_, _, _], _ => rfl) rfl fun cdv A outer s H E ka hr fs ds d fs' _hl hR => by
  obtain ⟨s, op, g, ⟨a, b, rfl, rfl⟩, rfl, rfl, rfl⟩ := hR
  have e : s.run (.commonAncestor a b) = if (s.exists_ a && s.exists_ b) = false then (s, .error (-2)) else (s, .number (s.commonAncestor a b)) := rfl
  rw [e]
  refine dss_cons (ds_if (dt_w (dw_or (dt_not (dt_val (de_meth (dkv 0) T.cls (k_has_commit T) (hr.mono (by decide)) (da_one (dv 1)) rfl rfl ⟨s, g, rfl, rfl, a, rfl, rfl⟩))) fun _ => dw_or1 (dt_not (dt_val (de_meth (dkv 0) T.cls (k_has_commit T) (hr.mono (by decide)) (da_one (dv 2)) rfl rfl ⟨s, g, rfl, rfl, b, rfl, rfl⟩))))) (fun hk => dss_one (ds_ret (do_listF T.n_list (de_glst T.g_MISSING_queries T.l_MISSING_queries)).de ?_)) fun hk => dss_nil ?_)
  · have hk : (s.exists_ a && s.exists_ b) = false := by
      revert hk
      cases s.exists_ a <;> cases s.exists_ b <;> simp
    rw [if_pos hk]
    exact ⟨rfl, rfl⟩
  have hk2 : s.exists_ a = true ∧ s.exists_ b = true := by
    revert hk
    cases s.exists_ a <;> cases s.exists_ b <;> simp
  rw [if_neg (by rw [hk2.1, hk2.2]; exact Bool.noConfusion)]
  obtain ⟨q, hq⟩ := exists_iff.mp hk2.1
  obtain ⟨r, hr2⟩ := exists_iff.mp hk2.2
  exact dss_one (ds_ret (do_lst (da_one (de_call (c_common_ancestor_of T) (hr.mono (by decide)) (da_cons (de_fld (dkv 0) T.cls T.a_commits rfl) (da_cons (dv 1) (da_one (dv 2)))) ⟨s, a, b, q, r, g, hq, hr2, rfl, rfl⟩))).de ⟨rfl, rfl⟩)
def rkOrgA := rkOp fun ds op => ∃ id i : Nat, ds = [.int id, .int i] ∧ op = .originOfAttribute id i
theorem c_origin_of_attribute (T : Tx K mg) : Cal P w K mg base "origin_of_attribute" 5 ["keeper", "number", "index"] (spK K (He.ga K "Keeper") 2 rkOrgA) :=
  T.keep 94 79 124 sc_origin_of_attribute (fun _ _ _ _ _ _ us hl => match us, hl with | [_, _, _], _ => rfl) rfl fun cdv A outer s H E ka hr fs ds d fs' _hl hR => by
  obtain ⟨s, op, g, ⟨id, i, rfl, rfl⟩, rfl, rfl, rfl⟩ := hR
  have e : s.run (.originOfAttribute id i) = match Kvg9.find (s.version s.head) id with
    | none => (s, .error (-2))
    | some f => if f.attributes.length ≤ i then (s, .error (-2)) else (s, .number (s.origin id (fun g => g.attributes.getD i 0) s.commits.length s.head)) := rfl
  rw [e]
  obtain ⟨q, hq⟩ := g.hc
  refine dss_cons (ds_set (i := 3) sc_origin_of_attribute.nd rfl (by first | exact .inl rfl | exact .inr rfl) (de_call (c_feature_at T) (hr.mono (by decide)) (da_cons (de_meth0 (dkv 0) T.cls (k_head_version T) (hr.mono (by decide)) rfl ⟨s, g, rfl, rfl, rfl⟩) (da_one (dv 1))) ⟨s.version s.head, id, rfl, rfl⟩) ?_)
  cases hf : Kvg9.find (s.version s.head) id with
  | none => exact dss_cons (ds_if (dt_w (dw_or (k2 := true) (dt_cmp (dc_isN (dv 3))) fun h => by cases h)) (fun _ => dss_one (ds_ret (do_listF T.n_list (de_glst T.g_MISSING_queries T.l_MISSING_queries)).de ⟨rfl, rfl⟩)) fun h => by cases h)
  | some f =>
    have hl := (g.hv.ft f (find_mem hf).1).1
    show DSs _ _ (enK (eRes (if f.attributes.length ≤ i then ((s, .error (-2)) : Store × Response) else (s, .number (s.origin id (fun g => g.attributes.getD i 0) s.commits.length s.head))).2) (kfs (if f.attributes.length ≤ i then ((s, .error (-2)) : Store × Response) else (s, .number (s.origin id (fun g => g.attributes.getD i 0) s.commits.length s.head))).1)) _ _ _
    refine dss_cons (ds_if (dt_w (dw_or (dt_cmp (dc_isN (dv 3))) fun _ => dw_or1 (dt_cmp (dc_ge (dv 2) (de_lenT (ds := f.attributes.map .int) T.n_len (de_ixT (dv 3) de_int rfl)))))) (fun hk => dss_one (ds_ret (do_listF T.n_list (de_glst T.g_MISSING_queries T.l_MISSING_queries)).de ?_)) fun hk => dss_nil ?_)
    · have h : ((f.attributes.map PyData.int).length : Int) ≤ i := of_decide_eq_true hk
      rw [List.length_map] at h
      rw [if_pos (by omega)]
      exact ⟨rfl, rfl⟩
    have h : ¬ ((f.attributes.map PyData.int).length : Int) ≤ i := of_decide_eq_false hk
    rw [List.length_map] at h
    rw [if_neg (by omega)]
    have ne : prp s id (fun f => f.attributes.getD i 0) s.head ≠ none := by
      unfold prp
      rw [hf]
      simp
    exact dss_one (ds_ret (do_lst (da_one (de_call (c_attribute_origin T) (hr.mono (by decide)) (da_cons (de_fld (dkv 0) T.cls T.a_commits rfl) (da_cons (de_meth0 (dkv 0) T.cls (k_head T) (hr.mono (by decide)) rfl ⟨s, g, rfl, rfl, rfl⟩) (da_cons (dv 1) (da_one (dv 2))))) ⟨s, s.head, id, i, q, g, hq, by omega, ne, rfl, rfl⟩))).de ⟨rfl, rfl⟩)
def rkOrgV := rkOp fun ds op => ∃ id : Nat, ds = [.int id] ∧ op = .originOfVertices id
theorem c_origin_of_vertices (T : Tx K mg) : Cal P w K mg base "origin_of_vertices" 5 ["keeper", "number"] (spK K (He.ga K "Keeper") 1 rkOrgV) :=
  T.keep 95 80 125 sc_origin_of_vertices (fun _ _ _ _ _ _ us hl => match us, hl with | [_, _], _ => rfl) rfl fun cdv A outer s H E ka hr fs ds d fs' _hl hR => by
  obtain ⟨s, op, g, ⟨id, rfl, rfl⟩, rfl, rfl, rfl⟩ := hR
  have e : s.run (.originOfVertices id) = if (Kvg9.find (s.version s.head) id).isNone then (s, .error (-2)) else (s, .number (s.origin id Feature.vertices s.commits.length s.head)) := rfl
  obtain ⟨q, hq⟩ := g.hc
  cases hf : Kvg9.find (s.version s.head) id with
  | none =>
    rw [hf] at e
    rw [show s.run (.originOfVertices id) = (s, .error (-2)) from e]
    exact dss_cons (ds_if (dt_cmp (dc_isN (de_call (c_feature_at T) (hr.mono (by decide)) (da_cons (de_meth0 (dkv 0) T.cls (k_head_version T) (hr.mono (by decide)) rfl ⟨s, g, rfl, rfl, rfl⟩) (da_one (dv 1))) ⟨s.version s.head, id, rfl, rfl⟩))) (fun _ => dss_one (ds_ret (do_listF T.n_list (de_glst T.g_MISSING_queries T.l_MISSING_queries)).de ⟨rfl, rfl⟩)) fun h => by rw [hf] at h; cases h)
  | some f =>
    rw [hf] at e
    rw [show s.run (.originOfVertices id) = (s, .number (s.origin id Feature.vertices s.commits.length s.head)) from e]
    have ne : prp s id Feature.vertices s.head ≠ none := by
      unfold prp
      rw [hf]
      simp
    refine dss_cons (ds_if (dt_cmp (dc_isN (de_call (c_feature_at T) (hr.mono (by decide)) (da_cons (de_meth0 (dkv 0) T.cls (k_head_version T) (hr.mono (by decide)) rfl ⟨s, g, rfl, rfl, rfl⟩) (da_one (dv 1))) ⟨s.version s.head, id, rfl, rfl⟩))) (fun h => by rw [hf] at h; cases h) fun _ => dss_nil ?_)
    exact dss_one (ds_ret (do_lst (da_one (de_call (c_vertices_origin T) (hr.mono (by decide)) (da_cons (de_fld (dkv 0) T.cls T.a_commits rfl) (da_cons (de_meth0 (dkv 0) T.cls (k_head T) (hr.mono (by decide)) rfl ⟨s, g, rfl, rfl, rfl⟩) (da_one (dv 1)))) ⟨s, s.head, id, q, g, hq, ne, rfl, rfl⟩))).de ⟨rfl, rfl⟩)
def rkHash := rkOp fun ds op => ∃ c : Nat, ds = [.int c] ∧ op = .hash c
theorem c_told_hash (T : Tx K mg) : Cal P w K mg base "told_hash" 5 ["keeper", "number"] (spK K (He.ga K "Keeper") 1 rkHash) :=
  T.keep 96 81 126 sc_told_hash (fun _ _ _ _ _ _ us hl => match us, hl with | [_, _], _ => rfl) rfl fun cdv A outer s H E ka hr fs ds d fs' _hl hR => by
  obtain ⟨s, op, g, ⟨c, rfl, rfl⟩, rfl, rfl, rfl⟩ := hR
  have e : s.run (.hash c) = if s.exists_ c = false then (s, .error (-2)) else (s, ⟨0, Kvg9.ints [s.hashes.getD c 0 / 2 ^ 32, s.hashes.getD c 0 % 2 ^ 32]⟩) := rfl
  rw [e]
  refine dss_cons (ds_if (dt_not (dt_val (de_meth (dkv 0) T.cls (k_has_commit T) (hr.mono (by decide)) (da_one (dv 1)) rfl rfl ⟨s, g, rfl, rfl, c, rfl, rfl⟩))) (fun hk => dss_one (ds_ret (do_listF T.n_list (de_glst T.g_MISSING_queries T.l_MISSING_queries)).de ?_)) fun hk => dss_nil ?_)
  · have hk : s.exists_ c = false := by simpa using hk
    rw [if_pos hk]
    exact ⟨rfl, rfl⟩
  have hk : s.exists_ c = true := by simpa using hk
  rw [if_neg (by rw [hk]; exact Bool.noConfusion)]
  obtain ⟨q, hq⟩ := exists_iff.mp hk
  refine dss_cons (ds_set (i := 2) sc_told_hash.nd rfl (by first | exact .inl rfl | exact .inr rfl) (de_call (c_commit_hash T) (hr.mono (by decide)) (da_cons (de_fld (dkv 0) T.cls T.a_commits rfl) (da_one (dv 1))) ⟨s, c, q, g, hq, rfl, rfl⟩) ?_)
  generalize s.hashes.getD c 0 = h
  refine dss_one (ds_ret (do_lst (da_cons de_int (da_cons (de_fdivW (dv 2) (de_gint T.i_WORD) word_div) (da_one (de_mod (dv 2) (de_gint T.i_WORD) (by decide)))))).de ⟨rfl, ?_⟩)
  have e1 : ((h : Nat) : Int) / 4294967296 = ((h / 2 ^ 32 : Nat) : Int) := by rw [Int.natCast_ediv] <;> rfl
  have e2 : ((h : Nat) : Int) % 4294967296 = ((h % 2 ^ 32 : Nat) : Int) := by rw [Int.natCast_emod] <;> rfl
  rw [e1, e2] <;> rfl
def rToldN (ds : List PyData) (d : PyData) : Prop := ∃ l : List (Nat × Nat), l.length ≤ 100 ∧ ds = [.list (l.map ePr)] ∧ d = .list (((l.length : Int) :: l.flatMap nmi).map .int)
theorem c_told_names (T : Tx K mg) : Cal P w K mg base "told_names" 1 ["rows"] (spP K 1 rToldN) :=
  T.pure 98 83 128 sc_told_names (fun _ _ _ _ _ _ us hl => match us, hl with | [_], _ => rfl) fun cdv A outer s H E hr ds d _hl hR => by
  obtain ⟨l, hz, rfl, rfl⟩ := hR
  refine dss_cons (ds_new (i := 1) sc_told_names.nd rfl (by first | exact .inl rfl | exact .inr rfl) (do_lst (da_one (de_lenL T.n_len (dv 0)))) ?_)
  refine dss_cons (ds_for (l := l) (enc := ePr) (fun pre m δ => m = none ∧ ∃ t1 t2, δ = [.v (.list (l.map ePr)), .own (.list (((l.length : Int) :: pre.flatMap nmi).map .int)), t1, t2]) (di_lst (dv 0)) ⟨rfl, .u, .u, by rw [List.length_map] <;> rfl⟩ ?_ ?_)
  · rintro pre c post m δ hv ⟨rfl, t1, t2, rfl⟩
    have hpl : pre.length ≤ 100 := by
      have := congrArg List.length hv
      rw [List.length_append, List.length_cons] at this
      omega
    have hcl := nmi_len pre
    refine ⟨_, _, dg_tup (dgs_cons (dg_name sc_told_names.nd (i := 2) rfl (by first | exact .inl rfl | exact .inr rfl)) (dgs_cons (dg_name sc_told_names.nd (i := 3) rfl (by first | exact .inl rfl | exact .inr rfl)) dgs_nil)) rfl, dss_one (ds_extend (i := 1) rfl (.inl rfl) rfl (do_lst (da_cons (dv 2) (da_one (dv 3)))).de (line_le ?_) ⟨rfl, .v (.int c.1), .v (.int c.2), ?_⟩)⟩
    · simp only [List.length_map, List.length_cons, List.length_nil]
      omega
    · rw [List.flatMap_append, List.map_cons, List.map_cons, List.map_append, List.flatMap_cons, List.flatMap_nil, List.append_nil] <;> rfl
  · rintro m δ ⟨rfl, t1, t2, rfl⟩
    exact dss_freeze (1) rfl (dss_one (ds_ret (dv 1) rfl))
def rkState := rkOp fun ds op => ds = [] ∧ op = .getState
theorem c_get_state (T : Tx K mg) : Cal P w K mg base "get_state" 5 ["keeper"] (spK K (He.ga K "Keeper") 0 rkState) :=
  T.keep 99 84 129 sc_get_state (fun _ _ _ _ _ _ us hl => match us, hl with | [_], _ => rfl) rfl fun cdv A outer s H E ka hr fs ds d fs' _hl hR => by
  obtain ⟨s, op, g, ⟨rfl, rfl⟩, rfl, rfl, rfl⟩ := hR
  have e : s.run .getState = (s, ⟨(s.attributeCount : Nat), Kvg9.ints ([s.commits.length, s.current, s.head, if s.isChanged then 1 else 0, s.branches.length] ++ s.branches.flatMap (fun e => [e.1, e.2]) ++ [s.tags.length] ++ s.tags.flatMap fun e => [e.1, e.2])⟩) := rfl
  rw [e]
  have b1 := g.bl
  have b2 := g.tl
  have n1 := nmi_len s.branches
  have n2 := nmi_len s.tags
  refine dss_cons (ds_set (i := 1) sc_get_state.nd rfl (by first | exact .inl rfl | exact .inr rfl) (do_lst (da_cons (de_fld (dkv 0) T.cls T.a_width rfl) (da_cons (de_lenL (ds := s.commits.map (eOp eCm)) T.n_len (de_fld (dkv 0) T.cls T.a_commits rfl)) (da_cons (de_fld (dkv 0) T.cls T.a_current rfl) (da_cons (de_meth0 (dkv 0) T.cls (k_head T) (hr.mono (by decide)) rfl ⟨s, g, rfl, rfl, rfl⟩) (da_one (de_if (d := .int ((if s.isChanged then 1 else 0 : Nat) : Int)) (m1 := some (kfs s)) (dt_val (de_meth0 (dkv 0) T.cls (k_is_changed T) (hr.mono (by decide)) rfl ⟨s, g, rfl, rfl, rfl⟩)) (fun hk => DE.to de_int (by rw [if_pos hk] <;> rfl)) (fun hk => DE.to de_int (by rw [if_neg (by rw [hk]; exact Bool.noConfusion)] <;> rfl))))))))).de ?_)
  refine dss_one (ds_ret (do_cat (do_cat (dv 1) (de_call (c_told_names T) (hr.mono (by decide)) (da_one (de_fld (dkv 0) T.cls T.a_branches rfl)) ⟨s.branches, by omega, rfl, rfl⟩) (line_le ?_)).de (de_call (c_told_names T) (hr.mono (by decide)) (da_one (de_fld (dkv 0) T.cls T.a_tags rfl)) ⟨s.tags, by omega, rfl, rfl⟩) (line_le ?_)).de ⟨rfl, ?_⟩)
  · simp only [List.length_map, List.length_cons, List.length_nil]
    omega
  · simp only [List.length_append, List.length_map, List.length_cons, List.length_nil]
    omega
  · show PyData.list _ = .list _
    simp only [Kvg9Neutral.resultRow, List.length_map]
    have q : ∀ a b : List Nat, Kvg9.ints (a ++ b) = Kvg9.ints a ++ Kvg9.ints b := fun a b => List.map_append
    rw [q, q, q, ints_nm, ints_nm]
    simp only [Kvg9.ints, List.map_cons, List.map_append, List.map_nil, List.cons_append, List.nil_append, List.append_assoc] <;> rfl
end
end Pv
/-! ### 27. the answer of a query -/
namespace Pv
open PySem PySem.Spec PyProof.Rows L2
open Kvg9 (Feature Version Vertex Commit Store Change Operation Response Conflict Match)
theorem match_len {a b : Version} {w : Nat} (ha : OkV w a) (hb : OkV w b) (tol : Nat) : (Kvg9.matchVersions a b tol).length ≤ 256 := by
  rw [match_is]
  exact Nat.le_trans (tkn_len _) (srtM_len ha hb tol)
theorem mtl_is (l : List Match) : (l.flatMap fun m => Kvg9.ints [m.first, m.second, m.kind, m.distance]) = l.flatMap mti := rfl
section
variable {P : Program} {w : World} {K : Fg} {mg : Str → Option Value} {base : Heap}
def rkMatchF := rkOp fun ds op => ∃ a b t : Nat, t < 2 ^ 32 ∧ ds = [.int a, .int b, .int t] ∧ op = .matchFeatures a b t
theorem c_match_features (T : Tx K mg) : Cal P w K mg base "match_features" 6 ["keeper", "first", "second", "tolerance"] (spK K (He.ga K "Keeper") 3 rkMatchF) :=
  T.keep 97 82 127 sc_match_features (fun _ _ _ _ _ _ us hl => match us, hl with | [_, _, _, _], _ => rfl) rfl fun cdv A outer s H E ka hr fs ds d fs' _hl hR => by
  obtain ⟨s, op, g, ⟨a, b, t, ht, rfl, rfl⟩, rfl, rfl, rfl⟩ := hR
  have e : s.run (.matchFeatures a b t) = match s.source a, s.source b with
    | some v, some w => (s, ⟨((Kvg9.matchVersions v w t).length : Nat), ((Kvg9.matchVersions v w t).flatMap mti) ++ ((v.filter fun f => !((Kvg9.matchVersions v w t).any fun m => m.first == f.id)).length : Int) :: (v.filter fun f => !((Kvg9.matchVersions v w t).any fun m => m.first == f.id)).map (fun f => (f.id : Int)) ++ ((w.filter fun f => !((Kvg9.matchVersions v w t).any fun m => m.second == f.id)).length : Int) :: (w.filter fun f => !((Kvg9.matchVersions v w t).any fun m => m.second == f.id)).map fun f => (f.id : Int)⟩)
    | _, _ => (s, .error (-2)) := rfl
  rw [e]
  refine dss_cons (ds_par (i := 4) (j := 5) sc_match_features.nd rfl rfl (by decide) rfl rfl (da_cons (de_meth (dkv 0) T.cls (k_version_at T) (hr.mono (by decide)) (da_one (dv 1)) rfl rfl ⟨s, g, rfl, rfl, a, rfl, rfl⟩) (da_one (de_meth (dkv 0) T.cls (k_version_at T) (hr.mono (by decide)) (da_one (dv 2)) rfl rfl ⟨s, g, rfl, rfl, b, rfl, rfl⟩))) ?_)
  cases ha : s.source a with
  | none => exact dss_cons (ds_if (dt_w (dw_or (k2 := true) (dt_cmp (dc_isN (dv 4))) fun h => by cases h)) (fun _ => dss_one (ds_ret (do_listF T.n_list (de_glst T.g_MISSING_queries T.l_MISSING_queries)).de ⟨rfl, rfl⟩)) fun h => by cases h)
  | some v =>
    cases hb : s.source b with
    | none => exact dss_cons (ds_if (dt_w (dw_or (dt_cmp (dc_isN (dv 4))) fun _ => dw_or1 (dt_cmp (dc_isN (dv 5))))) (fun _ => dss_one (ds_ret (do_listF T.n_list (de_glst T.g_MISSING_queries T.l_MISSING_queries)).de ⟨rfl, rfl⟩)) fun h => by cases h)
    | some x =>
      have o1 := g.src ha
      have o2 := g.src hb
      have f1 := o1.few
      have f2 := o2.few
      have hml := match_len o1 o2 t
      refine dss_cons (ds_if (dt_w (dw_or (dt_cmp (dc_isN (dv 4))) fun _ => dw_or1 (dt_cmp (dc_isN (dv 5))))) (fun h => by cases h) fun _ => dss_nil ?_)
      refine dss_cons (ds_asg (de_call (c_matched T) (hr.mono (by decide)) (da_cons (dv 4) (da_cons (dv 5) (da_one (dv 3)))) ⟨v, x, t, s.attributeCount, o1, o2, ht, rfl, rfl⟩) (dg_tup (dgs_cons (dg_name sc_match_features.nd (i := 6) rfl (by first | exact .inl rfl | exact .inr rfl)) (dgs_cons (dg_name sc_match_features.nd (i := 7) rfl (by first | exact .inl rfl | exact .inr rfl)) (dgs_cons (dg_name sc_match_features.nd (i := 8) rfl (by first | exact .inl rfl | exact .inr rfl)) dgs_nil))) rfl) ?_)
      have g1 := List.length_filter_le (fun f : Feature => !((Kvg9.matchVersions v x t).any fun m => m.first == f.id)) v
      have g2 := List.length_filter_le (fun f : Feature => !((Kvg9.matchVersions v x t).any fun m => m.second == f.id)) x
      show DSs _ _ (enK (eRes (⟨((Kvg9.matchVersions v x t).length : Nat), ((Kvg9.matchVersions v x t).flatMap mti) ++ ((v.filter fun f => !((Kvg9.matchVersions v x t).any fun m => m.first == f.id)).length : Int) :: (v.filter fun f => !((Kvg9.matchVersions v x t).any fun m => m.first == f.id)).map (fun f => (f.id : Int)) ++ ((x.filter fun f => !((Kvg9.matchVersions v x t).any fun m => m.second == f.id)).length : Int) :: (x.filter fun f => !((Kvg9.matchVersions v x t).any fun m => m.second == f.id)).map fun f => (f.id : Int)⟩ : Response)) (kfs s)) _ _ _
      generalize v.filter (fun f => !((Kvg9.matchVersions v x t).any fun m => m.first == f.id)) = gn at g1 ⊢
      generalize x.filter (fun f => !((Kvg9.matchVersions v x t).any fun m => m.second == f.id)) = fr at g2 ⊢
      generalize Kvg9.matchVersions v x t = l at hml ⊢
      refine dss_cons (ds_new (i := 9) sc_match_features.nd rfl (by first | exact .inl rfl | exact .inr rfl) (do_lst (da_one (de_lenL T.n_len (dv 6)))) ?_)
      refine dss_cons (ds_for (l := l) (enc := eM) (fun pre m δ => m = some (kfs s) ∧ ∃ t1 t2 t3 t4, δ = [.obj, .v (.int a), .v (.int b), .v (.int t), .v (eVer v), .v (eVer x), .v (.list (l.map eM)), .v (.list (gn.map fun f => .int (f.id : Nat))), .v (.list (fr.map fun f => .int (f.id : Nat))), .own (.list (((l.length : Int) :: pre.flatMap mti).map .int)), t1, t2, t3, t4]) (di_lst (dv 6)) ⟨rfl, .u, .u, .u, .u, by rw [List.length_map] <;> rfl⟩ ?_ ?_)
      · rintro pre c post m δ hv ⟨rfl, t1, t2, t3, t4, rfl⟩
        have hpl : pre.length ≤ 256 := by
          have := congrArg List.length hv
          rw [List.length_append, List.length_cons] at this
          omega
        have hcl := mti_len pre
        refine ⟨_, _, dg_tup (ds := (eMt c).map .int) (dgs_cons (dg_name sc_match_features.nd (i := 10) rfl (by first | exact .inl rfl | exact .inr rfl)) (dgs_cons (dg_name sc_match_features.nd (i := 11) rfl (by first | exact .inl rfl | exact .inr rfl)) (dgs_cons (dg_name sc_match_features.nd (i := 12) rfl (by first | exact .inl rfl | exact .inr rfl)) (dgs_cons (dg_name sc_match_features.nd (i := 13) rfl (by first | exact .inl rfl | exact .inr rfl)) dgs_nil)))) rfl, dss_one (ds_extend (i := 9) rfl (.inl rfl) rfl (do_lst (da_cons (dv 12) (da_cons (dv 13) (da_cons (dv 10) (da_one (dv 11)))))).de (line_le ?_) ⟨rfl, .v (.int c.kind), .v (.int c.distance), .v (.int c.first), .v (.int c.second), ?_⟩)⟩
        · simp only [List.length_map, List.length_cons, List.length_nil]
          omega
        · rw [List.flatMap_append, List.map_cons, List.map_cons, List.map_append, List.flatMap_cons, List.flatMap_nil, List.append_nil] <;> rfl
      · rintro m δ ⟨rfl, t1, t2, t3, t4, rfl⟩
        have hcl := mti_len l
        refine dss_freeze (9) rfl (dss_one (ds_ret (do_cat (do_cat (do_cat (do_cat (dv 9) (do_lst (da_one (de_lenL T.n_len (dv 7)))).de (line_le ?_)).de (dv 7) (line_le ?_)).de (do_lst (da_one (de_lenL T.n_len (dv 8)))).de (line_le ?_)).de (dv 8) (line_le ?_)).de ⟨rfl, ?_⟩))
        · simp only [List.length_append, List.length_map, List.length_cons, List.length_nil]
          omega
        · simp only [List.length_append, List.length_map, List.length_cons, List.length_nil]
          omega
        · simp only [List.length_append, List.length_map, List.length_cons, List.length_nil]
          omega
        · simp only [List.length_append, List.length_map, List.length_cons, List.length_nil]
          omega
        · show PyData.list _ = .list _
          simp only [Kvg9Neutral.resultRow, List.length_map, List.map_cons, List.map_append, List.map_map, List.map_nil, List.cons_append, List.nil_append, List.append_assoc] <;> rfl
/-- the operations of looked -/
inductive OpL : Int → List Int → Operation → Prop
  | gf (c id : Nat) : OpL 7 [c, id] (.getFeature c id)
  | lf (c : Nat) : OpL 8 [c] (.listFeatures c)
  | df (a b : Nat) : OpL 17 [a, b] (.diff a b)
  | wd : OpL 18 [] .workingDiff
  | lg (c : Nat) : OpL 23 [c] (.log c)
  | ca (a b : Nat) : OpL 24 [a, b] (.commonAncestor a b)
  | oa (id i : Nat) : OpL 25 [id, i] (.originOfAttribute id i)
  | ov (id : Nat) : OpL 26 [id] (.originOfVertices id)
  | hs (c : Nat) : OpL 27 [c] (.hash c)
  | mf (a b t : Nat) (h : t < 2 ^ 32) : OpL 29 [a, b, t] (.matchFeatures a b t)
  | gs : OpL 30 [] .getState
def rkLooked := rkOp fun ds op => ∃ o l, OpL o l op ∧ ds = [.int o, .list (l.map .int)]
theorem c_looked (T : Tx K mg) : Cal P w K mg base "looked" 7 ["keeper", "operation", "numbers"] (spK K (He.ga K "Keeper") 2 rkLooked) :=
  T.keep 100 85 130 sc_looked (fun _ _ _ _ _ _ us hl => match us, hl with | [_, _, _], _ => rfl) rfl fun cdv A outer s H E ka hr fs ds d fs' _hl hR => by
  obtain ⟨s, op, g, ⟨o, l, ho, rfl⟩, rfl, rfl, rfl⟩ := hR
  cases ho with
  | gf c id =>
    exact dss_cons (ds_if (dt_cmp (dc_eqI (dv 1) de_int)) (fun _ => dss_one (ds_ret (de_callK (c_get_feature T) (hr.mono (by decide)) (dak_cons (dkv 0) (da_cons (de_ixL (dv 2) de_int rfl) (da_one (de_ixL (dv 2) de_int rfl)))) ⟨s, _, g, ⟨c, id, rfl, rfl⟩, rfl, rfl, rfl⟩) ⟨rfl, rfl⟩)) fun hk => absurd hk (by decide))
  | lf c =>
    exact dss_cons (ds_if (dt_cmp (dc_eqI (dv 1) de_int)) (fun hk => absurd hk (by decide)) fun _ => dss_nil (dss_cons (ds_if (dt_cmp (dc_eqI (dv 1) de_int)) (fun _ => dss_one (ds_ret (de_callK (c_list_features T) (hr.mono (by decide)) (dak_cons (dkv 0) (da_one (de_ixL (dv 2) de_int rfl))) ⟨s, _, g, ⟨c, rfl, rfl⟩, rfl, rfl, rfl⟩) ⟨rfl, rfl⟩)) fun hk => absurd hk (by decide))))
  | df a b =>
    exact dss_cons (ds_if (dt_cmp (dc_eqI (dv 1) de_int)) (fun hk => absurd hk (by decide)) fun _ => dss_nil (dss_cons (ds_if (dt_cmp (dc_eqI (dv 1) de_int)) (fun hk => absurd hk (by decide)) fun _ => dss_nil (dss_cons (ds_if (dt_cmp (dc_eqI (dv 1) de_int)) (fun _ => dss_one (ds_ret (de_callK (c_diff T) (hr.mono (by decide)) (dak_cons (dkv 0) (da_cons (de_ixL (dv 2) de_int rfl) (da_one (de_ixL (dv 2) de_int rfl)))) ⟨s, _, g, ⟨a, b, rfl, rfl⟩, rfl, rfl, rfl⟩) ⟨rfl, rfl⟩)) fun hk => absurd hk (by decide))))))
  | wd =>
    have f1 := g.wk.few
    have f2 := g.hv.few
    have hz : (s.version s.head).length + s.working.length < 64 := by omega
    exact dss_cons (ds_if (dt_cmp (dc_eqI (dv 1) de_int)) (fun hk => absurd hk (by decide)) fun _ => dss_nil (dss_cons (ds_if (dt_cmp (dc_eqI (dv 1) de_int)) (fun hk => absurd hk (by decide)) fun _ => dss_nil (dss_cons (ds_if (dt_cmp (dc_eqI (dv 1) de_int)) (fun hk => absurd hk (by decide)) fun _ => dss_nil (dss_cons (ds_if (dt_cmp (dc_eqI (dv 1) de_int)) (fun _ => dss_one (ds_ret (de_call (c_told_changes T) (hr.mono (by decide)) (da_cons (de_meth0 (dkv 0) T.cls (k_head_version T) (hr.mono (by decide)) rfl ⟨s, g, rfl, rfl, rfl⟩) (da_one (de_fld (dkv 0) T.cls T.a_working rfl))) ⟨s.version s.head, s.working, s.attributeCount, hz, g.hv.wd, g.wk.wd, rfl, rfl⟩) ⟨rfl, rfl⟩)) fun hk => absurd hk (by decide))))))))
  | lg c =>
    exact dss_cons (ds_if (dt_cmp (dc_eqI (dv 1) de_int)) (fun hk => absurd hk (by decide)) fun _ => dss_nil (dss_cons (ds_if (dt_cmp (dc_eqI (dv 1) de_int)) (fun hk => absurd hk (by decide)) fun _ => dss_nil (dss_cons (ds_if (dt_cmp (dc_eqI (dv 1) de_int)) (fun hk => absurd hk (by decide)) fun _ => dss_nil (dss_cons (ds_if (dt_cmp (dc_eqI (dv 1) de_int)) (fun hk => absurd hk (by decide)) fun _ => dss_nil (dss_cons (ds_if (dt_cmp (dc_eqI (dv 1) de_int)) (fun _ => dss_one (ds_ret (de_callK (c_log T) (hr.mono (by decide)) (dak_cons (dkv 0) (da_one (de_ixL (dv 2) de_int rfl))) ⟨s, _, g, ⟨c, rfl, rfl⟩, rfl, rfl, rfl⟩) ⟨rfl, rfl⟩)) fun hk => absurd hk (by decide))))))))))
  | ca a b =>
    exact dss_cons (ds_if (dt_cmp (dc_eqI (dv 1) de_int)) (fun hk => absurd hk (by decide)) fun _ => dss_nil (dss_cons (ds_if (dt_cmp (dc_eqI (dv 1) de_int)) (fun hk => absurd hk (by decide)) fun _ => dss_nil (dss_cons (ds_if (dt_cmp (dc_eqI (dv 1) de_int)) (fun hk => absurd hk (by decide)) fun _ => dss_nil (dss_cons (ds_if (dt_cmp (dc_eqI (dv 1) de_int)) (fun hk => absurd hk (by decide)) fun _ => dss_nil (dss_cons (ds_if (dt_cmp (dc_eqI (dv 1) de_int)) (fun hk => absurd hk (by decide)) fun _ => dss_nil (dss_cons (ds_if (dt_cmp (dc_eqI (dv 1) de_int)) (fun _ => dss_one (ds_ret (de_callK (c_common_ancestor T) (hr.mono (by decide)) (dak_cons (dkv 0) (da_cons (de_ixL (dv 2) de_int rfl) (da_one (de_ixL (dv 2) de_int rfl)))) ⟨s, _, g, ⟨a, b, rfl, rfl⟩, rfl, rfl, rfl⟩) ⟨rfl, rfl⟩)) fun hk => absurd hk (by decide))))))))))))
  | oa id i =>
    exact dss_cons (ds_if (dt_cmp (dc_eqI (dv 1) de_int)) (fun hk => absurd hk (by decide)) fun _ => dss_nil (dss_cons (ds_if (dt_cmp (dc_eqI (dv 1) de_int)) (fun hk => absurd hk (by decide)) fun _ => dss_nil (dss_cons (ds_if (dt_cmp (dc_eqI (dv 1) de_int)) (fun hk => absurd hk (by decide)) fun _ => dss_nil (dss_cons (ds_if (dt_cmp (dc_eqI (dv 1) de_int)) (fun hk => absurd hk (by decide)) fun _ => dss_nil (dss_cons (ds_if (dt_cmp (dc_eqI (dv 1) de_int)) (fun hk => absurd hk (by decide)) fun _ => dss_nil (dss_cons (ds_if (dt_cmp (dc_eqI (dv 1) de_int)) (fun hk => absurd hk (by decide)) fun _ => dss_nil (dss_cons (ds_if (dt_cmp (dc_eqI (dv 1) de_int)) (fun _ => dss_one (ds_ret (de_callK (c_origin_of_attribute T) (hr.mono (by decide)) (dak_cons (dkv 0) (da_cons (de_ixL (dv 2) de_int rfl) (da_one (de_ixL (dv 2) de_int rfl)))) ⟨s, _, g, ⟨id, i, rfl, rfl⟩, rfl, rfl, rfl⟩) ⟨rfl, rfl⟩)) fun hk => absurd hk (by decide))))))))))))))
  | ov id =>
    exact dss_cons (ds_if (dt_cmp (dc_eqI (dv 1) de_int)) (fun hk => absurd hk (by decide)) fun _ => dss_nil (dss_cons (ds_if (dt_cmp (dc_eqI (dv 1) de_int)) (fun hk => absurd hk (by decide)) fun _ => dss_nil (dss_cons (ds_if (dt_cmp (dc_eqI (dv 1) de_int)) (fun hk => absurd hk (by decide)) fun _ => dss_nil (dss_cons (ds_if (dt_cmp (dc_eqI (dv 1) de_int)) (fun hk => absurd hk (by decide)) fun _ => dss_nil (dss_cons (ds_if (dt_cmp (dc_eqI (dv 1) de_int)) (fun hk => absurd hk (by decide)) fun _ => dss_nil (dss_cons (ds_if (dt_cmp (dc_eqI (dv 1) de_int)) (fun hk => absurd hk (by decide)) fun _ => dss_nil (dss_cons (ds_if (dt_cmp (dc_eqI (dv 1) de_int)) (fun hk => absurd hk (by decide)) fun _ => dss_nil (dss_cons (ds_if (dt_cmp (dc_eqI (dv 1) de_int)) (fun _ => dss_one (ds_ret (de_callK (c_origin_of_vertices T) (hr.mono (by decide)) (dak_cons (dkv 0) (da_one (de_ixL (dv 2) de_int rfl))) ⟨s, _, g, ⟨id, rfl, rfl⟩, rfl, rfl, rfl⟩) ⟨rfl, rfl⟩)) fun hk => absurd hk (by decide))))))))))))))))
  | hs c =>
    exact dss_cons (ds_if (dt_cmp (dc_eqI (dv 1) de_int)) (fun hk => absurd hk (by decide)) fun _ => dss_nil (dss_cons (ds_if (dt_cmp (dc_eqI (dv 1) de_int)) (fun hk => absurd hk (by decide)) fun _ => dss_nil (dss_cons (ds_if (dt_cmp (dc_eqI (dv 1) de_int)) (fun hk => absurd hk (by decide)) fun _ => dss_nil (dss_cons (ds_if (dt_cmp (dc_eqI (dv 1) de_int)) (fun hk => absurd hk (by decide)) fun _ => dss_nil (dss_cons (ds_if (dt_cmp (dc_eqI (dv 1) de_int)) (fun hk => absurd hk (by decide)) fun _ => dss_nil (dss_cons (ds_if (dt_cmp (dc_eqI (dv 1) de_int)) (fun hk => absurd hk (by decide)) fun _ => dss_nil (dss_cons (ds_if (dt_cmp (dc_eqI (dv 1) de_int)) (fun hk => absurd hk (by decide)) fun _ => dss_nil (dss_cons (ds_if (dt_cmp (dc_eqI (dv 1) de_int)) (fun hk => absurd hk (by decide)) fun _ => dss_nil (dss_cons (ds_if (dt_cmp (dc_eqI (dv 1) de_int)) (fun _ => dss_one (ds_ret (de_callK (c_told_hash T) (hr.mono (by decide)) (dak_cons (dkv 0) (da_one (de_ixL (dv 2) de_int rfl))) ⟨s, _, g, ⟨c, rfl, rfl⟩, rfl, rfl, rfl⟩) ⟨rfl, rfl⟩)) fun hk => absurd hk (by decide))))))))))))))))))
  | mf a b t h =>
    exact dss_cons (ds_if (dt_cmp (dc_eqI (dv 1) de_int)) (fun hk => absurd hk (by decide)) fun _ => dss_nil (dss_cons (ds_if (dt_cmp (dc_eqI (dv 1) de_int)) (fun hk => absurd hk (by decide)) fun _ => dss_nil (dss_cons (ds_if (dt_cmp (dc_eqI (dv 1) de_int)) (fun hk => absurd hk (by decide)) fun _ => dss_nil (dss_cons (ds_if (dt_cmp (dc_eqI (dv 1) de_int)) (fun hk => absurd hk (by decide)) fun _ => dss_nil (dss_cons (ds_if (dt_cmp (dc_eqI (dv 1) de_int)) (fun hk => absurd hk (by decide)) fun _ => dss_nil (dss_cons (ds_if (dt_cmp (dc_eqI (dv 1) de_int)) (fun hk => absurd hk (by decide)) fun _ => dss_nil (dss_cons (ds_if (dt_cmp (dc_eqI (dv 1) de_int)) (fun hk => absurd hk (by decide)) fun _ => dss_nil (dss_cons (ds_if (dt_cmp (dc_eqI (dv 1) de_int)) (fun hk => absurd hk (by decide)) fun _ => dss_nil (dss_cons (ds_if (dt_cmp (dc_eqI (dv 1) de_int)) (fun hk => absurd hk (by decide)) fun _ => dss_nil (dss_cons (ds_if (dt_cmp (dc_eqI (dv 1) de_int)) (fun _ => dss_one (ds_ret (de_callK (c_match_features T) (hr.mono (by decide)) (dak_cons (dkv 0) (da_cons (de_ixL (dv 2) de_int rfl) (da_cons (de_ixL (dv 2) de_int rfl) (da_one (de_ixL (dv 2) de_int rfl))))) ⟨s, _, g, ⟨a, b, t, h, rfl, rfl⟩, rfl, rfl, rfl⟩) ⟨rfl, rfl⟩)) fun hk => absurd hk (by decide))))))))))))))))))))
  | gs =>
    exact dss_cons (ds_if (dt_cmp (dc_eqI (dv 1) de_int)) (fun hk => absurd hk (by decide)) fun _ => dss_nil (dss_cons (ds_if (dt_cmp (dc_eqI (dv 1) de_int)) (fun hk => absurd hk (by decide)) fun _ => dss_nil (dss_cons (ds_if (dt_cmp (dc_eqI (dv 1) de_int)) (fun hk => absurd hk (by decide)) fun _ => dss_nil (dss_cons (ds_if (dt_cmp (dc_eqI (dv 1) de_int)) (fun hk => absurd hk (by decide)) fun _ => dss_nil (dss_cons (ds_if (dt_cmp (dc_eqI (dv 1) de_int)) (fun hk => absurd hk (by decide)) fun _ => dss_nil (dss_cons (ds_if (dt_cmp (dc_eqI (dv 1) de_int)) (fun hk => absurd hk (by decide)) fun _ => dss_nil (dss_cons (ds_if (dt_cmp (dc_eqI (dv 1) de_int)) (fun hk => absurd hk (by decide)) fun _ => dss_nil (dss_cons (ds_if (dt_cmp (dc_eqI (dv 1) de_int)) (fun hk => absurd hk (by decide)) fun _ => dss_nil (dss_cons (ds_if (dt_cmp (dc_eqI (dv 1) de_int)) (fun hk => absurd hk (by decide)) fun _ => dss_nil (dss_cons (ds_if (dt_cmp (dc_eqI (dv 1) de_int)) (fun hk => absurd hk (by decide)) fun _ => dss_nil (dss_one (ds_ret (de_callK (c_get_state T) (hr.mono (by decide)) (dak_cons (dkv 0) da_nil) ⟨s, _, g, ⟨rfl, rfl⟩, rfl, rfl, rfl⟩) ⟨rfl, rfl⟩)))))))))))))))))))))
end
end Pv
/-! ### 28. calls -/
namespace Pv
open PySem PySem.Spec PyProof.Rows L2
open Kvg9 (Feature Version Vertex Commit Store Change Operation Response Conflict Match)
def callD (o : Int) (ns al vl : List Int) : PyData := .tuple [.int o, .list (ns.map .int), .list (al.map .int), .list (vl.map .int)]
structure PutAt (l : List Int) (a : Nat) (id : Int) (al vl : List Int) : Prop where
  h1 : l[a + 1]? = some id
  h2 : l[a + 2]? = some (al.length : Int)
  h3 : l[a + 3 + al.length]? = some (vl.length : Int)
  h4 : (l.drop (a + 3)).take al.length = al
  h5 : (l.drop (a + 4 + al.length)).take vl.length = vl
  h6 : a + 4 + al.length + vl.length ≤ l.length
def szs : List Int := [1, 0, 1, 3, 4, 4, 2, 2, 1, 0, 0, 1, 1, 1, 1, 2, 1, 2, 0, 1, 2, 1, 1, 1, 2, 2, 1, 1, 0, 3, 0]
inductive CallAt (l : List Int) (a : Nat) : Int → List Int → List Int → List Int → Nat → Prop
  | put {id : Int} {al vl : List Int} (h0 : l[a]? = some 1) (h : PutAt l a id al vl) : CallAt l a 1 [id] al vl (a + 4 + al.length + vl.length)
  | oth {o : Nat} {ns : List Int} (h0 : l[a]? = some (o : Int)) (h1 : o ≠ 1) (h2 : szs[o]? = some (ns.length : Int)) (h3 : (l.drop (a + 1)).take ns.length = ns) (h4 : a + 1 + ns.length ≤ l.length) : CallAt l a o ns [] [] (a + 1 + ns.length)
theorem fz_at {l : List Int} {i : Nat} {x : Int} (h : l[i]? = some x) : atI (l.map PyData.int) (i : Int) = some (.int x) := at_get (by rw [List.getElem?_map, h] <;> rfl)
theorem fz_cut {l : List Int} {i n : Nat} {al : List Int} (h : (l.drop i).take n = al) (hl : i + n ≤ l.length) : cutD (l.map PyData.int) (some (i : Int)) (some ((i + n : Nat) : Int)) = al.map .int := by
  rw [cut_mid _ (by omega) (by rw [List.length_map]; exact hl), ← List.map_drop, ← List.map_take, Nat.add_sub_cancel_left, h]

section
variable {P : Program} {w : World} {K : Fg} {mg : Str → Option Value} {base : Heap}
def rPutPlace (ds : List PyData) (d : PyData) : Prop := ∃ (l : List Int) (a : Nat) (id : Int) (al vl : List Int), PutAt l a id al vl ∧ ds = [fz (l.map .int), .int a] ∧ d = .tuple [callD 1 [id] al vl, .int (a + 4 + al.length + vl.length : Nat)]
theorem c_put_at_place (T : Tx K mg) : Cal P w K mg base "put_at_place" 1 ["calls", "at"] (spP K 2 rPutPlace) :=
  T.pure 101 86 137 sc_put_at_place (fun _ _ _ _ _ _ us hl => match us, hl with | [_, _], _ => rfl) fun cdv A outer s H E hr ds d _hl hR => by
  obtain ⟨l, a, id, al, vl, h, rfl, rfl⟩ := hR
  refine dss_cons (ds_set (i := 2) sc_put_at_place.nd rfl (by first | exact .inl rfl | exact .inr rfl) (d := .int ((a + 3 : Nat) : Int)) (DE.to (de_add (dv 1) de_int) rfl) ?_)
  refine dss_cons (ds_set (i := 3) sc_put_at_place.nd rfl (by first | exact .inl rfl | exact .inr rfl) (d := .int ((a + 3 + al.length : Nat) : Int)) (DE.to (de_add (dv 2) (de_ixF (dv 0) (DE.to (de_add (dv 1) de_int) (show _ = PyData.int ((a + 2 : Nat) : Int) from rfl)) (fz_at h.h2))) (show PyData.int _ = .int _ by congr 1)) ?_)
  refine dss_cons (ds_set (i := 4) sc_put_at_place.nd rfl (by first | exact .inl rfl | exact .inr rfl) (d := .int ((a + 4 + al.length + vl.length : Nat) : Int)) (DE.to (de_add (de_add (dv 3) de_int) (de_ixF (dv 0) (dv 3) (fz_at h.h3))) (show PyData.int _ = .int _ by congr 1; omega)) ?_)
  exact dss_one (ds_ret (de_tup (da_cons (de_tup (da_cons (de_gint T.i_PUT) (da_cons (do_lst (da_one (de_ixF (dv 0) (DE.to (de_add (dv 1) de_int) (show _ = PyData.int ((a + 1 : Nat) : Int) from rfl)) (fz_at h.h1)))).de (da_cons (DO.to (do_slF (dv 0) (dp_some (dv 2)) (dp_some (dv 3))) (fz_cut h.h4 (by have := h.h6; omega))).de (da_one (DO.to (do_slF (dv 0) (dp_some (DE.to (de_add (dv 3) de_int) (show PyData.int _ = .int ((a + 4 + al.length : Nat) : Int) by congr 1; omega))) (dp_some (dv 4))) (fz_cut h.h5 h.h6)).de))))) (da_one (dv 4)))) rfl)
def rCallAt (ds : List PyData) (d : PyData) : Prop := ∃ (l : List Int) (a : Nat) (o : Int) (ns al vl : List Int) (b : Nat), CallAt l a o ns al vl b ∧ ds = [fz (l.map .int), .int a] ∧ d = .tuple [callD o ns al vl, .int b]
theorem c_call_at (T : Tx K mg) : Cal P w K mg base "call_at" 2 ["calls", "at"] (spP K 2 rCallAt) :=
  T.pure 102 87 138 sc_call_at (fun _ _ _ _ _ _ us hl => match us, hl with | [_, _], _ => rfl) fun cdv A outer s H E hr ds d _hl hR => by
  obtain ⟨l, a, o, ns, al, vl, b, h, rfl, rfl⟩ := hR
  cases h with
  | @put id _ _ h0 h =>
    refine dss_cons (ds_set (i := 2) sc_call_at.nd rfl (by first | exact .inl rfl | exact .inr rfl) (de_ixF (dv 0) (dv 1) (fz_at h0)) ?_)
    exact dss_cons (ds_if (dt_cmp (dc_eqI (dv 2) (de_gint T.i_PUT))) (fun _ => dss_one (ds_ret (de_call (c_put_at_place T) (hr.mono (by decide)) (da_cons (dv 0) (da_one (dv 1))) ⟨l, a, id, al, vl, h, rfl, rfl⟩) rfl)) fun hk => absurd hk (by decide))
  | @oth o _ h0 h1 h2 h3 h4 =>
    refine dss_cons (ds_set (i := 2) sc_call_at.nd rfl (by first | exact .inl rfl | exact .inr rfl) (de_ixF (dv 0) (dv 1) (fz_at h0)) ?_)
    refine dss_cons (ds_if (DT.to (dt_cmp (dc_eqI (dv 2) (de_gint T.i_PUT))) (k' := false) (decide_eq_false (by omega))) (fun hk => by cases hk) fun _ => dss_nil ?_)
    refine dss_cons (ds_set (i := 3) sc_call_at.nd rfl (by first | exact .inl rfl | exact .inr rfl) (d := .int ((a + 1 + ns.length : Nat) : Int)) (DE.to (de_add (de_add (dv 1) de_int) (de_ixT (de_gtup T.g_SIZES T.l_SIZES) (dv 2) (fz_at (l := szs) h2))) (show PyData.int _ = .int _ by congr 1)) ?_)
    exact dss_one (ds_ret (de_tup (da_cons (de_tup (da_cons (dv 2) (da_cons (DO.to (do_slF (dv 0) (dp_some (DE.to (de_add (dv 1) de_int) (show _ = PyData.int ((a + 1 : Nat) : Int) from rfl))) (dp_some (dv 3))) (fz_cut h3 h4)).de (da_cons (do_lst da_nil).de (da_one (do_lst da_nil).de))))) (da_one (dv 3)))) rfl)
/-- the operations but create -/
inductive OpA : Int → List Int → List Int → List Int → Operation → Prop
  | put (id : Nat) (al vl : List Int) (h1 : al.length ≤ 100) (h2 : vl.length ≤ 100) : OpA 1 [(id : Int)] al vl (.putFeature id al vl)
  | e {o : Int} {l : List Int} {op : Operation} (h : OpE o l op) : OpA o l [] [] op
  | n {o : Int} {l : List Int} {op : Operation} (h : OpN o l op) : OpA o l [] [] op
  | j {o : Int} {l : List Int} {op : Operation} (h : OpJ o l op) : OpA o l [] [] op
  | c : OpA 28 [] [] [] .collectGarbage
  | l {o : Int} {l : List Int} {op : Operation} (h : OpL o l op) : OpA o l [] [] op
def rkAnswerOf := rkOp fun ds op => ∃ o ns al vl, OpA o ns al vl op ∧ ds = [callD o ns al vl]
theorem ope_rng {o : Int} {l : List Int} {op : Operation} (h : OpE o l op) : 2 ≤ o ∧ o ≤ 6 := by cases h <;> omega
theorem opn_rng {o : Int} {l : List Int} {op : Operation} (h : OpN o l op) : 9 ≤ o ∧ o ≤ 16 := by cases h <;> omega
theorem opj_rng {o : Int} {l : List Int} {op : Operation} (h : OpJ o l op) : 19 ≤ o ∧ o ≤ 22 := by cases h <;> omega
theorem opl_rng {o : Int} {l : List Int} {op : Operation} (h : OpL o l op) : o = 7 ∨ o = 8 ∨ o = 17 ∨ o = 18 ∨ (23 ≤ o ∧ o ≤ 27) ∨ o = 29 ∨ o = 30 := by cases h <;> omega
theorem chain_f {a b c : Int} (h : ¬ (a ≤ b ∧ b ≤ c)) : (decide (a ≤ b) && decide (b ≤ c)) = false := by
  by_cases h1 : a ≤ b
  · have h2 : ¬ b ≤ c := fun z => h ⟨h1, z⟩
    rw [decide_eq_false h2, Bool.and_false]
  · rw [decide_eq_false h1, Bool.false_and]
theorem chain_t {a b c : Int} (h : a ≤ b ∧ b ≤ c) : (decide (a ≤ b) && decide (b ≤ c)) = true := by
  rw [decide_eq_true h.1, decide_eq_true h.2] <;> rfl
theorem c_answer_of (T : Tx K mg) : Cal P w K mg base "answer_of" 10 ["keeper", "call"] (spK K (He.ga K "Keeper") 1 rkAnswerOf) :=
  T.keep 103 88 139 sc_answer_of (fun _ _ _ _ _ _ us hl => match us, hl with | [_, _], _ => rfl) rfl fun cdv A outer s H E ka hr fs ds d fs' _hl hR => by
  obtain ⟨s, op, g, ⟨o, ns, al, vl, ho, rfl⟩, rfl, rfl, rfl⟩ := hR
  refine dss_cons (ds_asg (d := .tuple [.int o, .list (ns.map .int), .list (al.map .int), .list (vl.map .int)]) (dv 1) (dg_tup (dgs_cons (dg_name sc_answer_of.nd (i := 2) rfl (by first | exact .inl rfl | exact .inr rfl)) (dgs_cons (dg_name sc_answer_of.nd (i := 3) rfl (by first | exact .inl rfl | exact .inr rfl)) (dgs_cons (dg_name sc_answer_of.nd (i := 4) rfl (by first | exact .inl rfl | exact .inr rfl)) (dgs_cons (dg_name sc_answer_of.nd (i := 5) rfl (by first | exact .inl rfl | exact .inr rfl)) dgs_nil)))) rfl) ?_)
  cases ho with
  | put id _ _ h1 h2 => exact dss_cons (ds_if (dt_cmp (dc_eqI (dv 2) (de_gint T.i_PUT))) (fun _ => dss_one (ds_ret (de_callK (c_put_feature T) (hr.mono (by decide)) (dak_cons (dkv 0) (da_cons (de_ixL (dv 3) de_int rfl) (da_cons (dv 4) (da_one (dv 5))))) ⟨s, _, g, ⟨id, al, vl, h1, h2, rfl, rfl⟩, rfl, rfl, rfl⟩) ⟨rfl, rfl⟩)) fun hk => absurd hk (by decide))
  | e h =>
    have q := ope_rng h
    refine dss_cons (ds_if (DT.to (dt_cmp (dc_eqI (dv 2) (de_gint T.i_PUT))) (k' := false) (decide_eq_false (by omega))) (fun hk => by cases hk) fun _ => dss_nil ?_)
    exact dss_cons (ds_if (DT.to (dt_chain de_int (dv 2) de_int) (chain_t (by omega))) (fun _ => dss_one (ds_ret (de_callK (c_edited T) (hr.mono (by decide)) (dak_cons (dkv 0) (da_cons (dv 2) (da_one (dv 3)))) ⟨s, _, g, ⟨o, ns, h, rfl⟩, rfl, rfl, rfl⟩) ⟨rfl, rfl⟩)) fun hk => by cases hk)
  | n h =>
    have q := opn_rng h
    refine dss_cons (ds_if (DT.to (dt_cmp (dc_eqI (dv 2) (de_gint T.i_PUT))) (k' := false) (decide_eq_false (by omega))) (fun hk => by cases hk) fun _ => dss_nil ?_)
    refine dss_cons (ds_if (DT.to (dt_chain de_int (dv 2) de_int) (chain_f (by omega))) (fun hk => by cases hk) fun _ => dss_nil ?_)
    exact dss_cons (ds_if (DT.to (dt_chain de_int (dv 2) de_int) (chain_t (by omega))) (fun _ => dss_one (ds_ret (de_callK (c_named T) (hr.mono (by decide)) (dak_cons (dkv 0) (da_cons (dv 2) (da_one (dv 3)))) ⟨s, _, g, ⟨o, ns, h, rfl⟩, rfl, rfl, rfl⟩) ⟨rfl, rfl⟩)) fun hk => by cases hk)
  | j h =>
    have q := opj_rng h
    refine dss_cons (ds_if (DT.to (dt_cmp (dc_eqI (dv 2) (de_gint T.i_PUT))) (k' := false) (decide_eq_false (by omega))) (fun hk => by cases hk) fun _ => dss_nil ?_)
    refine dss_cons (ds_if (DT.to (dt_chain de_int (dv 2) de_int) (chain_f (by omega))) (fun hk => by cases hk) fun _ => dss_nil ?_)
    refine dss_cons (ds_if (DT.to (dt_chain de_int (dv 2) de_int) (chain_f (by omega))) (fun hk => by cases hk) fun _ => dss_nil ?_)
    exact dss_cons (ds_if (DT.to (dt_chain de_int (dv 2) de_int) (chain_t (by omega))) (fun _ => dss_one (ds_ret (de_callK (c_joined T) (hr.mono (by decide)) (dak_cons (dkv 0) (da_cons (dv 2) (da_one (dv 3)))) ⟨s, _, g, ⟨o, ns, h, rfl⟩, rfl, rfl, rfl⟩) ⟨rfl, rfl⟩)) fun hk => by cases hk)
  | c =>
    refine dss_cons (ds_if (DT.to (dt_cmp (dc_eqI (dv 2) (de_gint T.i_PUT))) (k' := false) (by decide)) (fun hk => by cases hk) fun _ => dss_nil ?_)
    refine dss_cons (ds_if (DT.to (dt_chain de_int (dv 2) de_int) (k' := false) (by decide)) (fun hk => by cases hk) fun _ => dss_nil ?_)
    refine dss_cons (ds_if (DT.to (dt_chain de_int (dv 2) de_int) (k' := false) (by decide)) (fun hk => by cases hk) fun _ => dss_nil ?_)
    refine dss_cons (ds_if (DT.to (dt_chain de_int (dv 2) de_int) (k' := false) (by decide)) (fun hk => by cases hk) fun _ => dss_nil ?_)
    exact dss_cons (ds_if (dt_cmp (dc_eqI (dv 2) (de_gint T.i_COLLECT))) (fun _ => dss_one (ds_ret (de_callK (c_collect_garbage T) (hr.mono (by decide)) (dak_cons (dkv 0) da_nil) ⟨s, _, g, ⟨rfl, rfl⟩, rfl, rfl, rfl⟩) ⟨rfl, rfl⟩)) fun hk => absurd hk (by decide))
  | l h =>
    have q := opl_rng h
    refine dss_cons (ds_if (DT.to (dt_cmp (dc_eqI (dv 2) (de_gint T.i_PUT))) (k' := false) (decide_eq_false (by omega))) (fun hk => by cases hk) fun _ => dss_nil ?_)
    refine dss_cons (ds_if (DT.to (dt_chain de_int (dv 2) de_int) (chain_f (by omega))) (fun hk => by cases hk) fun _ => dss_nil ?_)
    refine dss_cons (ds_if (DT.to (dt_chain de_int (dv 2) de_int) (chain_f (by omega))) (fun hk => by cases hk) fun _ => dss_nil ?_)
    refine dss_cons (ds_if (DT.to (dt_chain de_int (dv 2) de_int) (chain_f (by omega))) (fun hk => by cases hk) fun _ => dss_nil ?_)
    refine dss_cons (ds_if (DT.to (dt_cmp (dc_eqI (dv 2) (de_gint T.i_COLLECT))) (k' := false) (decide_eq_false (by omega))) (fun hk => by cases hk) fun _ => dss_nil ?_)
    exact dss_one (ds_ret (de_callK (c_looked T) (hr.mono (by decide)) (dak_cons (dkv 0) (da_cons (dv 2) (da_one (dv 3)))) ⟨s, _, g, ⟨o, ns, h, rfl⟩, rfl, rfl, rfl⟩) ⟨rfl, rfl⟩)
/-- the new store -/
def newS (n : Nat) : Store := ⟨n, [some ⟨[], []⟩], [(0, 0)], [], 0, []⟩
def rkInit (fs : Ob) (ds : List PyData) (d : PyData) (fs' : Ob) : Prop := ∃ n : Nat, fs = [] ∧ ds = [.int n] ∧ d = .none ∧ fs' = kfs (newS n)
theorem c_init (T : Tx K mg) : ∃ fd, FnOk P w K mg base CX0 1 (He.ma K (He.ga K "Keeper") "__init__") fd ["self", "width"] (spK K (He.ga K "Keeper") 1 rkInit) ∧ Binds K fd ["self", "width"] [] := by
  obtain ⟨fd, Fd⟩ := T.c.d.def_ 25 (show fnL[25]? = some (dM "__init__" "Keeper.__init__" 0) from rfl)
  refine ⟨fd, fn_keep Fd sc_K___init__ rfl fun cdv A outer s H E ka hr fs ds d fs' _hl hR => ?_, FunD.bindsN Fd fun _ _ _ _ _ _ us hl => match us, hl with | [_, _], _ => rfl⟩
  obtain ⟨n, rfl, rfl, rfl, rfl⟩ := hR
  refine dss_cons (ds_fld (dv 1) rfl (dkv 0) T.cls T.a_width (by show 0 < 1000; decide) ?_)
  refine dss_cons (ds_fld (de_tup da_nil) rfl (dkv 0) T.cls T.a_working (by show 1 < 1000; decide) ?_)
  refine dss_cons (ds_fld (do_lst (da_one (de_tup (da_cons (de_tup da_nil) (da_one (de_tup da_nil)))))).de rfl (dkv 0) T.cls T.a_commits (by show 2 < 1000; decide) ?_)
  refine dss_cons (ds_fld (do_lst (da_one (de_tup (da_cons de_int (da_one de_int))))).de rfl (dkv 0) T.cls T.a_branches (by show 3 < 1000; decide) ?_)
  refine dss_cons (ds_fld (do_lst da_nil).de rfl (dkv 0) T.cls T.a_tags (by show 4 < 1000; decide) ?_)
  exact dss_one (ds_fld de_int rfl (dkv 0) T.cls T.a_current (by show 5 < 1000; decide) ⟨rfl, rfl⟩)
end
end Pv
/-! ### 29. one call answered -/
namespace Pv
open PySem PySem.Spec PyProof.Rows L2
open Kvg9 (Feature Version Vertex Commit Store Change Operation Response Conflict Match)
section
variable {X : Cx} {F : Fr} {m : Option Ob} {δ : List Sl} {G H : Hp} {σ : Sg} {D : Ends} {st : Stmt} {sts s1 s2 : List Stmt} {e c : Expr} {es : List Expr} {pos : Pos} {k : Bool} {Q : VK}
theorem w_cons (h : WS X st { D with nx := WSs X sts D } σ H) : WSs X (st :: sts) D σ H := ⟨_, pss_cons ps_w pss_w, h⟩
theorem w_nil (h : D.nx σ H) : WSs X [] D σ H := ⟨_, pss_nil, h⟩
theorem w_one (h : WS X st D σ H) : WSs X [st] D σ H := ⟨_, pss_one ps_w, h⟩
theorem w_if (hc : DT X F m δ c k) (R : Rel X.K F G H m σ δ) (h : ∀ G1 H1, Ext X.K F G H G1 H1 m → (k = true → WSs X s1 D σ H1) ∧ (k = false → WSs X s2 D σ H1)) : WS X (.If c s1 s2 pos) D σ H := by
  refine ⟨_, ps_if pt_w pss_w pss_w, ?_⟩
  refine hc G H σ R _ fun G1 H1 x1 => ?_
  cases k with
  | true =>
    rw [if_pos rfl]
    exact (h G1 H1 x1).1 rfl
  | false =>
    rw [if_neg Bool.false_ne_true]
    exact (h G1 H1 x1).2 rfl
theorem w_ret (h : WE X e σ H D.rt) : WS X (.Return (some e) pos) D σ H := ⟨_, ps_ret pe_w, h⟩
theorem w_tup {k : Nat} (h : WA X es σ H fun vs H' => vs.length ≤ sizeLine ∧ ∀ p, H' p = none → Q (.ref p) (upd H' p (.tup vs))) : WE X (.Tuple es k pos) σ H Q := ⟨_, pe_tup pa_w, h⟩
end
def KSt (K : Fg) (C : Addr) (G H : Hp) (kv : V) : Option Store → Prop
  | none => kv = .non
  | some s => GoodS s ∧ ∃ ka, kv = .ref ka ∧ G ka = none ∧ KAt K C G H ka (kfs s)
inductive AnsR : Option Store → Int → List Int → List Int → List Int → Option Store → Response → Prop
  | big (st : Option Store) (n : Nat) (h : 8 < n) : AnsR st 0 [(n : Int)] [] [] st (.error (-22))
  | new (st : Option Store) (n : Nat) (h : n ≤ 8) : AnsR st 0 [(n : Int)] [] [] (some (newS n)) (.number 0)
  | no {o : Int} {ns al vl : List Int} (h : o ≠ 0) : AnsR none o ns al vl none (.error (-11))
  | op {o : Int} {ns al vl : List Int} {s : Store} {op : Operation} (h : OpA o ns al vl op) (g : GoodS (s.run op).1) : AnsR (some s) o ns al vl (some (s.run op).1) (s.run op).2
theorem opa_ne {o : Int} {ns al vl : List Int} {op : Operation} (h : OpA o ns al vl op) : o ≠ 0 := by
  cases h with
  | put => decide
  | c => decide
  | e h => have := ope_rng h; omega
  | n h => have := opn_rng h; omega
  | j h => have := opj_rng h; omega
  | l h => have := opl_rng h; omega
theorem new_good {n : Nat} (h : n ≤ 8) : GoodS (newS n) := by
  have hc : ∀ k c, (newS n).commit k = some c → k = 0 ∧ c = ⟨[], []⟩ := fun k c e => by
    have q := commit_get e
    have hk : k < 1 := (List.getElem?_eq_some_iff.mp q).1
    have : k = 0 := by omega
    subst this
    exact ⟨rfl, (Option.some.inj (Option.some.inj q)).symm⟩
  refine ⟨h, OkV.nil n, (by show 1 ≤ 40; decide), fun k c e => ?_, List.pairwise_singleton _ _, (by show 1 ≤ 8; decide), fun e he => ?_, List.Pairwise.nil, (by show 0 ≤ 8; decide), (fun e he => by cases he), ⟨0, rfl⟩⟩
  · obtain ⟨rfl, rfl⟩ := hc k c e
    exact ⟨OkV.nil n, (fun p hp => by cases hp), (fun z => absurd rfl z), by decide⟩
  · rw [List.mem_singleton.mp he]
    exact ⟨⟨[], []⟩, rfl⟩
/-- answered's promise -/
def spA (K : Fg) (C : Addr) : Sp := fun vs H Q _ => ∃ (G : Hp) (st st' : Option Store) (kv cv : V) (o : Int) (ns al vl : List Int) (r : Response), vs = [kv, cv] ∧ Same G H ∧ Rp K G cv (callD o ns al vl) ∧ KSt K C G H kv st ∧ AnsR st o ns al vl st' r ∧
  ∀ (t : Addr) (kv' lv : V) (G' H' : Hp), Same G G' → Same G' H' → (∀ b o, H b = some o → kv ≠ .ref b → H' b = some o) → (∀ b, G b = none → H b ≠ none → G' b = none) → KSt K C G' H' kv' st' → Rp K G' lv (eRes r) →
    (kv' = kv ∨ ∀ b, kv' = .ref b → H b = none) → H' t = some (.tup [kv', lv]) → Q (.ref t) H'
theorem dc_isNK {X : Cx} {F : Fr} {m : Option Ob} {δ : List Sl} {a : Expr} {j pos'} (ha : DK X F m δ a) : DC X F m δ .Is a (.Constant .none j pos') false := fun G H σ R Q k => by
  refine ⟨_, pc_isN pe_w, ?_⟩
  refine ha G H σ R _ fun x ex => ?_
  rw [decide_eq_false (fun z : V.ref x = V.non => nomatch z)]
  exact k _ _ R.self
section
variable {P : Program} {w : World} {K : Fg} {mg : Str → Option Value} {base : Heap}
theorem same_up {G H : Hp} {a : Addr} {o : HO} (s : Same G H) (h : H a = none) : Same G (upd H a o) := fun b u e => by
  have q := s b u e
  rw [upd_ne (fun z => by rw [z, h] at q; cases q)]
  exact q
/-- a new keeper -/
theorem we_new {X : Cx} {F : Fr} {m : Option Ob} {δ : List Sl} {e : Expr} {p pos : Pos} {n : Nat} {G H : Hp} {σ : Sg} {Q : VK} (hi : ∃ fd, FnOk X.prog X.w X.K X.mg X.base CX0 1 (He.ma X.K F.C "__init__") fd ["self", "width"] (spK X.K F.C 1 rkInit) ∧ Binds X.K fd ["self", "width"] [])
    (M : Mk X.K F.C (He.ma X.K F.C "__init__")) (hr : Room 2 X.A) (hm : X.mg "Keeper" = some (.ref F.C)) (h : DE X F m δ e (.int n) m) (R : Rel X.K F G H m σ δ)
    (q : ∀ x G' H', Ext X.K F G H G' H' m → H x = none → G' x = none → KAt X.K F.C G' H' x (kfs (newS n)) → F.ka ≠ some x → Q (.ref x) H') (hs : starEach [e] X.env = (false, eval e X.env) :: starEach [] X.env := by rfl) (hg : Gl X "Keeper" := by rfl) : WE X (.Call (.Name "Keeper" p) [e] [] pos) σ H Q := by
  obtain ⟨fd, h1, h2⟩ := hi
  refine ⟨_, pe_make M h1 hr hg hm h2 .nil (pass0 (X := X)) pa_w (he := hs), ?_⟩
  refine da_one h hs G H σ R _ fun vs G1 H1 x1 rv => ?_
  cases rv with
  | cons r1 r2 =>
    cases r2
    intro x dx hx hdx hne
    have gx := same_none x1.gh hx
    have nx : ∀ b o, H1 b = some o → (upd (upd H1 dx (.own x)) x (.ins F.C dx [])) b = some o := fun b o hb => by
      rw [upd_ne (fun z => by rw [z, hx] at hb; cases hb), upd_ne (fun z => by rw [z, hdx] at hb; cases hb)]
      exact hb
    have s1 : Same G1 (upd (upd H1 dx (.own x)) x (.ins F.C dx [])) := fun b o hb => nx b o (x1.gh b o hb)
    have kn : F.ka ≠ some x := fun z => by
      obtain ⟨_, _, w⟩ := x1.ob.ins z
      rw [hx] at w
      cases w
    refine ⟨G1, x, _, [.int n], .none, [], kfs (newS n), rfl, rfl, s1, gx, ⟨dx, [], upd_same, .nil⟩, .cons r1 .nil, ⟨n, rfl, rfl, rfl, rfl⟩, fun v G' H' a1 a2 a3 nw gn ka rd => ⟨rd.non, ?_⟩⟩
    have keep : ∀ b o, H1 b = some o → H' b = some o := fun b o hb => a3 b o (nx b o hb) (fun z => by rw [z, hx] at hb; cases hb)
    have gno : ∀ b, G1 b = none → H1 b ≠ none → G' b = none := fun b g hb => nw b g (fun z => by
      cases e : H1 b with
      | none => exact hb e
      | some o => rw [nx b o e] at z; cases z)
    have x2 : Ext X.K F G1 H1 G' H' m := by
      refine ⟨a1, a2, fun b o hb _ => keep b o hb, gno, ?_⟩
      have ob := x1.ob
      cases m with
      | none => exact ob
      | some fs =>
        obtain ⟨a, d, ws, q1, q2, q3, q4⟩ := ob
        exact ⟨a, d, ws, q1, gno a q2 (by rw [q3]; exact fun z => by cases z), keep a _ q3, Paired.mapP q4 fun _ _ z => ⟨z.1, Dt.mono a1 _ _ z.2⟩⟩
    exact q x G' H' (x1.trans R.ob x2) (fresh_of x1 hx) gn ka kn
theorem KAt.ext {F : Fr} {m m' : Option Ob} {G H G' H' : Hp} {x : Addr} {fs : Ob} (k : KAt K F.C G H x fs) (x1 : Ext K F G H G' H' m') (kn : F.ka ≠ some x) : KAt K F.C G' H' x fs := by
  obtain ⟨dx, vs, h1, h2⟩ := k
  exact ⟨dx, vs, x1.hh x _ h1 kn, Paired.mapP h2 fun _ _ z => ⟨z.1, Dt.mono x1.gg _ _ z.2⟩⟩
theorem ext_tup {F : Fr} {m m' : Option Ob} {G H G' H' : Hp} {t : Addr} {o : HO} (ob : ObOk K F G H m) (x : Ext K F G H G' H' m') (ht : H' t = none) : Ext K F G H G' (upd H' t o) m' := x.trans ob (Ext.layH x.gh x.ob ht)
theorem c_answered (T : Tx K mg) : Cal P w K mg base "answered" 12 ["keeper", "call"] (spA K (He.ga K "Keeper")) := by
  obtain ⟨fd, Fd⟩ := T.c.d.def_ 104 (show fnL[104]? = some (dF "answered" 140) from rfl)
  refine ⟨_, fd, ?_, T.glo 89, Fd.kp, FunD.bindsN Fd fun _ _ _ _ _ _ us hl => match us, hl with | [_, _], _ => rfl⟩
  refine Fd.ok sc_answered (fun vs H Q E h => ?_) fun cdv A outer s H vs Q E hr h => ?_
  · obtain ⟨G, st, st', kv, cv, o, ns, al, vl, r, rfl, _⟩ := h
    rfl
  obtain ⟨G, st, st', kv, cv, o, ns, al, vl, r, rfl, gh, hcv, hk, ha, q⟩ := h
  have main : WSs (cxN P w K mg base N_answered "answered" (defScope (top 140)) (He.ga K "answered") cdv A outer s H E) (defBody (top 140)) { nx := fun _ H' => Q .non H', rt := Q } (L2.start N_answered [kv, cv]) H := by
    cases st with
    | none =>
      have hk : kv = .non := hk
      subst hk
      have R : Rel K ⟨H, He.ga K "Keeper", none⟩ G H none (L2.start N_answered [.non, cv]) [.v .none, .v (callD o ns al vl)] := rel_start (ss := [.v .none, .v (callD o ns al vl)]) gh rfl rfl (Nat.le_refl 2) (fun i s e => by
        match i, e with
        | 0, e => cases e; exact ⟨.non, rfl, .inl .non⟩
        | 1, e => cases e; exact ⟨cv, rfl, hcv⟩) (fun i d e => by
        match i, e with
        | 0, e => cases e
        | 1, e => cases e)
      have fin : ∀ G2 H2 (t : Addr) (lv : V), Ext K ⟨H, He.ga K "Keeper", none⟩ G H G2 H2 none → H2 t = none → KSt K (He.ga K "Keeper") G2 H2 .non st' → Rp K G2 lv (eRes r) → Q (.ref t) (upd H2 t (.tup [.non, lv])) := fun G2 H2 t lv x ht ks rp => by
        have x3 := ext_tup (o := .tup [.non, lv]) R.ob x ht
        refine q t .non lv G2 _ x3.gg x3.gh (fun b o hb _ => x3.hh b o hb (fun z => by cases z)) x3.nw ?_ rp (.inl rfl) upd_same
        cases st' with
        | none => rfl
        | some s => obtain ⟨_, _, z, _⟩ := ks; cases z
      cases ha with
      | big _ n h =>
        refine w_cons (w_if (dt_cmp (dc_eqI (de_ixT (d := .int 0) (dv 1) de_int rfl) (de_gint T.i_CREATE))) R fun G1 H1 x1 => ⟨fun _ => ?_, fun hk => absurd hk (by decide)⟩)
        refine w_cons (w_if (k := true) (DT.to (dt_cmp (dc_gt (de_ixL (ds := [.int n]) (de_ixT (dv 1) de_int rfl) de_int rfl) (de_gint T.i_MOST_ATTRIBUTES))) (decide_eq_true (by omega))) (R.ext x1) fun G2 H2 x2 => ⟨fun _ => ?_, fun hk => by cases hk⟩)
        refine w_one (w_ret (w_tup ?_))
        refine da_cons (dv 0) (da_one (do_lst (da_one (de_neg de_int))).de) rfl G2 H2 _ ((R.ext x1).ext x2) _ fun vs G3 H3 x3 rv => ?_
        cases rv with
        | cons r1 r2 =>
          cases r2 with
          | cons r3 r4 =>
            cases r4
            rw [r1.non]
            refine ⟨show 2 ≤ sizeLine from line_le (by decide), fun t ht => ?_⟩
            exact fin G3 H3 t _ ((x1.trans R.ob x2).trans R.ob x3) ht rfl r3
      | new _ n h =>
        refine w_cons (w_if (dt_cmp (dc_eqI (de_ixT (d := .int 0) (dv 1) de_int rfl) (de_gint T.i_CREATE))) R fun G1 H1 x1 => ⟨fun _ => ?_, fun hk => absurd hk (by decide)⟩)
        refine w_cons (w_if (k := false) (DT.to (dt_cmp (dc_gt (de_ixL (ds := [.int n]) (de_ixT (dv 1) de_int rfl) de_int rfl) (de_gint T.i_MOST_ATTRIBUTES))) (decide_eq_false (by omega))) (R.ext x1) fun G2 H2 x2 => ⟨fun hk => (by cases hk), fun _ => w_nil ?_⟩)
        refine w_one (w_ret (w_tup ⟨_, pa_cons pe_w pa_w rfl, ?_⟩))
        have R2 := (R.ext x1).ext x2
        refine we_new (F := ⟨H, He.ga K "Keeper", none⟩) (n := n) (c_init T) T.mkr (hr.mono (by decide)) T.g_Keeper (de_ixL (ds := [.int n]) (de_ixT (dv 1) de_int rfl) de_int rfl) R2 fun x G3 H3 x3 hx gx ka kn => ?_
        refine da_one (do_lst (da_one de_int)).de rfl G3 H3 _ (R2.ext x3) _ fun vs G4 H4 x4 rv => ?_
        cases rv with
        | @cons lv _ _ _ r1 r2 =>
          cases r2
          refine ⟨show 2 ≤ sizeLine from line_le (by decide), fun t ht => ?_⟩
          have x04 := (((x1.trans R.ob x2).trans R.ob x3).trans R.ob x4)
          have x5 := ext_tup (o := .tup [.ref x, lv]) R.ob x04 ht
          have hx0 : H x = none := by
            cases e : H x with
            | none => rfl
            | some u =>
              have := (x1.trans R.ob x2).hh x u e (fun z => by cases z)
              rw [hx] at this
              cases this
          obtain ⟨dx, ws, k1, k2⟩ := KAt.ext (m := none) ka x4 kn
          have gx4 : G4 x = none := x4.nw x gx (fun z => by obtain ⟨_, _, k, _⟩ := ka; rw [z] at k; cases k)
          refine q t (.ref x) _ G4 _ x5.gg x5.gh (fun b o hb _ => x5.hh b o hb (fun z => by cases z)) x5.nw ⟨new_good h, x, rfl, gx4, dx, ws, ?_, k2⟩ r1 (.inr fun b e => by cases e; exact hx0) upd_same
          rw [upd_ne (ne_of_none k1 ht)]
          exact k1
      | no h =>
        refine w_cons (w_if (k := false) (DT.to (dt_cmp (dc_eqI (de_ixT (d := .int o) (dv 1) de_int rfl) (de_gint T.i_CREATE))) (decide_eq_false h)) R fun G1 H1 x1 => ⟨fun hk => (by cases hk), fun _ => w_nil ?_⟩)
        refine w_cons (w_if (dt_cmp (dc_isN (dv 0))) (R.ext x1) fun G2 H2 x2 => ⟨fun _ => ?_, fun hk => by cases hk⟩)
        refine w_one (w_ret (w_tup ?_))
        refine da_cons de_non (da_one (do_lst (da_one (de_neg de_int))).de) rfl G2 H2 _ ((R.ext x1).ext x2) _ fun vs G3 H3 x3 rv => ?_
        cases rv with
        | cons r1 r2 =>
          cases r2 with
          | cons r3 r4 =>
            cases r4
            rw [r1.non]
            refine ⟨show 2 ≤ sizeLine from line_le (by decide), fun t ht => ?_⟩
            exact fin G3 H3 t _ ((x1.trans R.ob x2).trans R.ob x3) ht rfl r3
    | some s0 =>
      obtain ⟨g, k0, rfl, gk, kat⟩ := hk
      have R : Rel K ⟨H, He.ga K "Keeper", some k0⟩ G H (some (kfs s0)) (L2.start N_answered [.ref k0, cv]) [.obj, .v (callD o ns al vl)] := rel_start (ss := [.obj, .v (callD o ns al vl)]) gh (by obtain ⟨dx, ws, h1, h2⟩ := kat; exact ⟨k0, dx, ws, rfl, gk, h1, h2⟩) rfl (Nat.le_refl 2) (fun i s e => by
        match i, e with
        | 0, e => cases e; exact ⟨k0, rfl, rfl⟩
        | 1, e => cases e; exact ⟨cv, rfl, hcv⟩) (fun i d e => by
        match i, e with
        | 0, e => cases e
        | 1, e => cases e)
      have fin : ∀ (s' : Store) G2 H2 (t : Addr) (lv : V), st' = some s' → GoodS s' → Ext K ⟨H, He.ga K "Keeper", some k0⟩ G H G2 H2 (some (kfs s')) → H2 t = none → Rp K G2 lv (eRes r) → Q (.ref t) (upd H2 t (.tup [.ref k0, lv])) := fun s' G2 H2 t lv es g' x ht rp => by
        have x3 := ext_tup (o := .tup [.ref k0, lv]) R.ob x ht
        obtain ⟨a, dx, ws, q1, q2, q3, q4⟩ := x3.ob
        cases q1
        subst es
        exact q t (.ref k0) lv G2 _ x3.gg x3.gh (fun b o hb n => x3.hh b o hb (fun z => n (by cases z; rfl))) x3.nw ⟨g', k0, rfl, q2, dx, ws, q3, q4⟩ rp (.inl rfl) upd_same
      cases ha with
      | big _ n h =>
        refine w_cons (w_if (dt_cmp (dc_eqI (de_ixT (d := .int 0) (dv 1) de_int rfl) (de_gint T.i_CREATE))) R fun G1 H1 x1 => ⟨fun _ => ?_, fun hk => absurd hk (by decide)⟩)
        refine w_cons (w_if (k := true) (DT.to (dt_cmp (dc_gt (de_ixL (ds := [.int n]) (de_ixT (dv 1) de_int rfl) de_int rfl) (de_gint T.i_MOST_ATTRIBUTES))) (decide_eq_true (by omega))) (R.ext x1) fun G2 H2 x2 => ⟨fun _ => ?_, fun hk => by cases hk⟩)
        refine w_one (w_ret (w_tup ?_))
        refine dak_cons (dkv 0) (da_one (do_lst (da_one (de_neg de_int))).de) rfl G2 H2 _ ((R.ext x1).ext x2) _ fun a vs G3 H3 ea x3 rv => ?_
        cases ea
        cases rv with
        | cons r1 r2 =>
          cases r2
          refine ⟨show 2 ≤ sizeLine from line_le (by decide), fun t ht => ?_⟩
          exact fin s0 G3 H3 t _ rfl g ((x1.trans R.ob x2).trans R.ob x3) ht r1
      | new _ n h =>
        refine w_cons (w_if (dt_cmp (dc_eqI (de_ixT (d := .int 0) (dv 1) de_int rfl) (de_gint T.i_CREATE))) R fun G1 H1 x1 => ⟨fun _ => ?_, fun hk => absurd hk (by decide)⟩)
        refine w_cons (w_if (k := false) (DT.to (dt_cmp (dc_gt (de_ixL (ds := [.int n]) (de_ixT (dv 1) de_int rfl) de_int rfl) (de_gint T.i_MOST_ATTRIBUTES))) (decide_eq_false (by omega))) (R.ext x1) fun G2 H2 x2 => ⟨fun hk => (by cases hk), fun _ => w_nil ?_⟩)
        refine w_one (w_ret (w_tup ⟨_, pa_cons pe_w pa_w rfl, ?_⟩))
        have R2 := (R.ext x1).ext x2
        refine we_new (F := ⟨H, He.ga K "Keeper", some k0⟩) (n := n) (c_init T) T.mkr (hr.mono (by decide)) T.g_Keeper (de_ixL (ds := [.int n]) (de_ixT (dv 1) de_int rfl) de_int rfl) R2 fun x G3 H3 x3 hx gx ka kn => ?_
        refine da_one (do_lst (da_one de_int)).de rfl G3 H3 _ (R2.ext x3) _ fun vs G4 H4 x4 rv => ?_
        cases rv with
        | @cons lv _ _ _ r1 r2 =>
          cases r2
          refine ⟨show 2 ≤ sizeLine from line_le (by decide), fun t ht => ?_⟩
          have x04 := (((x1.trans R.ob x2).trans R.ob x3).trans R.ob x4)
          have x5 := ext_tup (o := .tup [.ref x, lv]) R.ob x04 ht
          have hx0 : H x = none := fresh_of (X := cxN P w K mg base N_answered "answered" (defScope (top 140)) (He.ga K "answered") cdv A outer s H E) (x1.trans R.ob x2) hx
          obtain ⟨dx, ws, k1, k2⟩ := KAt.ext (m := none) ka x4 kn
          have gx4 : G4 x = none := x4.nw x gx (fun z => by obtain ⟨_, _, k, _⟩ := ka; rw [z] at k; cases k)
          refine q t (.ref x) _ G4 _ x5.gg x5.gh (fun b o hb n => x5.hh b o hb (fun z => n (by cases z; rfl))) x5.nw ⟨new_good h, x, rfl, gx4, dx, ws, ?_, k2⟩ r1 (.inr fun b e => by cases e; exact hx0) upd_same
          rw [upd_ne (ne_of_none k1 ht)]
          exact k1
      | @op _ _ _ _ _ op h g2 =>
        have hne := opa_ne h
        refine w_cons (w_if (k := false) (DT.to (dt_cmp (dc_eqI (de_ixT (d := .int o) (dv 1) de_int rfl) (de_gint T.i_CREATE))) (decide_eq_false hne)) R fun G1 H1 x1 => ⟨fun hk => (by cases hk), fun _ => w_nil ?_⟩)
        refine w_cons (w_if (dt_cmp (dc_isNK (dkv 0))) (R.ext x1) fun G2 H2 x2 => ⟨fun hk => (by cases hk), fun _ => w_nil ?_⟩)
        refine w_one (w_ret (w_tup ?_))
        refine dak_cons (dkv 0) (da_one (de_callK (c_answer_of T) (hr.mono (by decide)) (dak_cons (dkv 0) (da_one (dv 1))) ⟨s0, op, g, ⟨o, ns, al, vl, h, rfl⟩, rfl, rfl, rfl⟩)) rfl G2 H2 _ ((R.ext x1).ext x2) _ fun a vs G3 H3 ea x3 rv => ?_
        cases ea
        cases rv with
        | cons r1 r2 =>
          cases r2
          refine ⟨show 2 ≤ sizeLine from line_le (by decide), fun t ht => ?_⟩
          exact fin _ G3 H3 t _ rfl g2 ((x1.trans R.ob x2).trans R.ob x3) ht r1
  obtain ⟨t, ht, z⟩ := main
  exact ⟨t, PSs.nox ht, z⟩
end
end Pv
/-! ### 30. all calls -/
namespace Pv
open PySem PySem.Spec PyProof.Rows L2
open Kvg9 (Feature Version Vertex Commit Store Change Operation Response Conflict Match)
section
variable {X : Cx} {F : Fr} {m : Option Ob} {δ : List Sl} {G0 G H : Hp} {σ : Sg} {D : Ends} {st : Stmt}
theorem w_ds {E : Option Ob → List Sl → Prop} (h : DS X F ⟨E, fun _ _ => False, fun _ _ => False⟩ m δ st) (fr : Frm F G0 G H) (R : Rel X.K F G H m σ δ) (k : ∀ G1 H1 m1 σ1 δ1, Frm F G0 G1 H1 → Rel X.K F G1 H1 m1 σ1 δ1 → E m1 δ1 → D.nx σ1 H1) : WS X st D σ H :=
  h G0 D ⟨k, fun _ _ _ _ _ _ _ _ _ e => e.elim, fun _ _ _ _ _ _ _ e => e.elim⟩ G H σ fr R
end
theorem Rel.weak {K : Fg} {F : Fr} {G H : Hp} {m : Option Ob} {σ : Sg} {δ δ' : List Sl} (R : Rel K F G H m σ δ) (hl : δ'.length = δ.length) (h : ∀ (j : Nat) (s : Sl), δ'[j]? = some s → s = .u ∨ δ[j]? = some s) : Rel K F G H m σ δ' := by
  have ow : ∀ (j : Nat) (d : PyData), δ'[j]? = some (.own d) → δ[j]? = some (.own d) := fun j d e => by
    rcases h j _ e with z | z
    · cases z
    · exact z
  refine ⟨R.gh, by rw [hl]; exact R.len, fun j s e => ?_, fun i j d e a ne h1 h2 h3 => R.inj i j d e a ne (ow _ _ h1) (ow _ _ h2) h3, R.ob⟩
  rcases h j s e with z | z
  · subst z
    trivial
  · exact R.sl j s z
theorem Rel.swap {K : Fg} {H0 : Hp} {C : Addr} {ka ka' : Option Addr} {G H G' H' : Hp} {m m' : Option Ob} {σ : Sg} {δ : List Sl} (R : Rel K ⟨H0, C, ka⟩ G H m σ δ) (gg : Same G G') (gh : Same G' H') (hh : ∀ b o, H b = some o → ka ≠ some b → H' b = some o) (nw : ∀ b, G b = none → H b ≠ none → G' b = none)
    (ob : ObOk K ⟨H0, C, ka'⟩ G' H' m') (no : ∀ j : Nat, δ[j]? ≠ some Sl.obj) : Rel K ⟨H0, C, ka'⟩ G' H' m' σ δ := by
  refine ⟨gh, R.len, fun j s e => ?_, R.inj, ob⟩
  have h := R.sl j s e
  cases s with
  | u => trivial
  | v d =>
    obtain ⟨v, h1, h2⟩ := h
    exact ⟨v, h1, h2.mono gg⟩
  | own d =>
    obtain ⟨a, h1, h2, h3, h4⟩ := h
    have nk := h4.nka R.ob
    obtain ⟨o, ho, _⟩ := h4.is
    exact ⟨a, h1, h2, nw a h3 (by rw [ho]; exact fun z => by cases z), h4.mono gg fun o ho => hh a o ho nk⟩
  | obj => exact absurd e (no j)
theorem Rel.setObj {K : Fg} {F : Fr} {G H : Hp} {m : Option Ob} {σ : Sg} {δ : List Sl} (r : Rel K F G H m σ δ) (i : Nat) {a : Addr} (ha : F.ka = some a) : Rel K F G H m (σ.set i (some (.ref a))) (δ.set i .obj) := by
  refine ⟨r.gh, by rw [List.length_set, List.length_set]; exact r.len, fun j s e => ?_, fun j l d1 e1 b ne h1 h2 h3 => ?_, r.ob⟩
  · by_cases c : i = j
    · subst c
      by_cases l : i < δ.length
      · rw [List.getElem?_set_self l] at e
        cases e
        exact ⟨a, ha, by rw [List.getElem?_set_self (by rw [← r.len]; exact l)]⟩
      · rw [List.getElem?_eq_none (by simpa using l)] at e
        cases e
    · rw [List.getElem?_set_ne c] at e ⊢
      exact r.sl j s e
  · obtain ⟨c1, h1⟩ := set_own (s := .obj) (fun e z => by cases z) h1
    obtain ⟨c2, h2⟩ := set_own (s := .obj) (fun e z => by cases z) h2
    rw [List.getElem?_set_ne (Ne.symm c1)] at h3
    rw [List.getElem?_set_ne (Ne.symm c2)]
    exact r.inj j l d1 e1 b ne h1 h2 h3
section
variable {X : Cx} {F : Fr} {m : Option Ob} {δ : List Sl} {G0 G H : Hp} {σ : Sg} {D : Ends} {E : En} {sts : List Stmt} {a b c : Expr} {k : Bool} {d : PyData}
theorem wt_of (h : DT X F m δ c k) (R : Rel X.K F G H m σ δ) {Q : Bool → Hp → Prop} (q : ∀ G' H', Ext X.K F G H G' H' m → Q k H') : WT X c σ H Q := h G H σ R Q q
theorem ss_of (h : DSs X F E m δ sts) (gd : Good X.K F G0 E D) (fr : Frm F G0 G H) (R : Rel X.K F G H m σ δ) : WSs X sts D σ H := h G0 D gd G H σ fr R
theorem wa_kc {st : Option Store} (h1 : st = none → DA X F m δ [a, b] [.none, d] m) (h2 : ∀ s, st = some s → DAK X F m δ [a, b] [d] m) (R : Rel X.K F G H m σ δ) {Q : List V → Hp → Prop}
    (q : ∀ kv cv G' H', Ext X.K F G H G' H' m → (st = none → kv = .non) → (∀ s, st = some s → ∃ k0, F.ka = some k0 ∧ kv = .ref k0) → Rp X.K G' cv d → Q [kv, cv] H') : WA X [a, b] σ H Q := by
  cases st with
  | none =>
    refine h1 rfl G H σ R _ fun vs G' H' x rv => ?_
    cases rv with
    | @cons v _ _ _ r1 r2 =>
      cases r2 with
      | @cons cv _ _ _ r3 r4 =>
        cases r4
        exact q v cv G' H' x (fun _ => r1.non) (fun s z => by cases z) r3
  | some s0 =>
    refine h2 s0 rfl G H σ R _ fun k0 vs G' H' ek x rv => ?_
    cases rv with
    | @cons cv _ _ _ r3 r4 =>
      cases r4
      exact q (.ref k0) cv G' H' x (fun z => by cases z) (fun s _ => ⟨k0, ek, rfl⟩) r3
end
/-- from a place and a store on: what is told -/
inductive Run (l : List Int) : Nat → Option Store → List Int → Prop
  | done (st : Option Store) : Run l l.length st []
  | step {a b : Nat} {o : Int} {ns al vl out : List Int} {st st' : Option Store} {r : Response} (hlt : a < l.length) (hb : a < b) (h : CallAt l a o ns al vl b) (hA : AnsR st o ns al vl st' r) (k : Run l b st' out) :
      Run l a st (((Kvg9Neutral.resultRow r).length : Int) :: (Kvg9Neutral.resultRow r ++ out))
def ksl : Option Store → Sl
  | none => .v .none
  | some _ => .obj
def rAnswers (ds : List PyData) (d : PyData) : Prop := ∃ l out : List Int, Run l 0 none out ∧ out.length ≤ 10000000 ∧ ds = [fz (l.map .int)] ∧ d = .list (out.map .int)
theorem eRes_is (r : Response) : eRes r = .list ((Kvg9Neutral.resultRow r).map .int) := rfl
section
variable {P : Program} {w : World} {K : Fg} {mg : Str → Option Value} {base : Heap}
theorem c_answers (T : Tx K mg) : ∃ fd, (∀ base : Heap, FnOk P w K mg base CX0 13 (He.ga K "answers") fd ["calls"] (spP K 1 rAnswers)) ∧ mg "answers" = some (.ref (He.ga K "answers")) ∧ ∀ (s : Shared) (us : List Value), us.length = 1 → BindsTo s fd ⟨us, []⟩ ((["calls"] : List Str).zip us) := by
  obtain ⟨fd, Fd⟩ := T.c.d.def_ 105 (show fnL[105]? = some (dF "answers" 141) from rfl)
  refine ⟨fd, fun base => ?_, T.glo 90, FunD.bindsA (ps := ["calls"]) Fd fun _ _ _ _ _ _ us hl => match us, hl with | [_], _ => rfl⟩
  refine Fd.ok sc_answers (fun vs H Q E h => ?_) fun cdv A outer s H0 vs Q E hr h => ?_
  · obtain ⟨G, ds, d, h1, _, h2, _⟩ := h
    rw [h2.len, h1] <;> rfl
  obtain ⟨G0, ds, d, h1, gh, rv, ⟨l, out, hrun, hz, rfl, rfl⟩, q⟩ := h
  obtain ⟨cl, rfl, rcl⟩ : ∃ v, vs = [v] ∧ Rp K G0 v (fz (l.map .int)) := by
    cases rv with
    | @cons v _ _ _ r1 r2 =>
      cases r2
      exact ⟨v, rfl, r1⟩
  have R0 : Rel K ⟨H0, He.ga K "Keeper", none⟩ G0 H0 none (L2.start N_answers [cl]) [.v (fz (l.map .int)), .u, .u, .u, .u, .u] := rel_start (ss := [.v (fz (l.map .int))]) gh rfl rfl (show 1 ≤ 6 by decide) (fun i s e => by
    match i, e with
    | 0, e => cases e; exact ⟨cl, rfl, rcl⟩) (fun i d e => by
    match i, e with
    | 0, e => cases e)
  have main : WSs (cxN P w K mg base N_answers "answers" (defScope (top 141)) (He.ga K "answers") cdv A outer s H0 E) (defBody (top 141)) { nx := fun _ H' => Q .non H', rt := Q } (L2.start N_answers [cl]) H0 := by
    refine w_cons (w_ds (E := fun m' δ' => m' = none ∧ δ' = [.v (fz (l.map .int)), .own (.list []), .u, .u, .u, .u]) (ds_new (i := 1) sc_answers.nd rfl (by first | exact .inl rfl | exact .inr rfl) (do_lst da_nil) ⟨rfl, rfl⟩) (G0 := G0) (F := ⟨H0, He.ga K "Keeper", none⟩) ⟨Same.refl _, fun _ _ h _ => h, fun _ h _ => h⟩ R0 fun G1 H1 m1 σ1 δ1 fr1 R1 e1 => ?_)
    obtain ⟨rfl, rfl⟩ := e1
    refine w_cons (w_ds (E := fun m' δ' => m' = none ∧ δ' = [.v (fz (l.map .int)), .own (.list []), .v .none, .u, .u, .u]) (ds_set (i := 2) sc_answers.nd rfl (by first | exact .inl rfl | exact .inr rfl) de_non ⟨rfl, rfl⟩) fr1 R1 fun G2 H2 m2 σ2 δ2 fr2 R2 e2 => ?_)
    obtain ⟨rfl, rfl⟩ := e2
    refine w_cons (w_ds (E := fun m' δ' => m' = none ∧ δ' = [.v (fz (l.map .int)), .own (.list []), .v .none, .v (.int 0), .u, .u]) (ds_set (i := 3) sc_answers.nd rfl (by first | exact .inl rfl | exact .inr rfl) de_int ⟨rfl, rfl⟩) fr2 R2 fun G3 H3 m3 σ3 δ3 fr3 R3 e3 => ?_)
    obtain ⟨rfl, rfl⟩ := e3
    let W : Nat → Sg → Hp → Prop := fun n σ H => ∃ (a : Nat) (st : Option Store) (out1 done : List Int) (ka : Option Addr) (G : Hp), n = l.length - a ∧ Run l a st out1 ∧ done ++ out1 = out ∧ Frm ⟨H0, He.ga K "Keeper", ka⟩ G0 G H ∧ (∀ b, ka = some b → H0 b = none) ∧ (∀ s, st = some s → GoodS s) ∧
      Rel K ⟨H0, He.ga K "Keeper", ka⟩ G H (st.map kfs) σ [.v (fz (l.map .int)), .own (.list (done.map .int)), ksl st, .v (.int a), .u, .u]
    refine w_cons ⟨_, ps_while PassesOwn.never pt_w pss_w, W, ⟨l.length - 0, 0, none, out, [], none, G3, rfl, hrun, rfl, fr3, (fun _ z => by cases z), (fun _ z => by cases z), R3⟩, ?_⟩
    rintro n σ H ⟨a, st, out1, done, ka, G, rfl, hrun, hout, fr, hka, hgs, R⟩
    refine wt_of (F := ⟨H0, He.ga K "Keeper", ka⟩) (m := st.map kfs) (dt_cmp (dc_lt (dv 3) (de_lenF T.n_len (dv 0)))) R fun G4 H4 x4 => ?_
    have fr4 := fr.ext R.ob x4
    have R4 := R.ext x4
    have hlen : out.length = done.length + out1.length := by rw [← hout, List.length_append]
    cases hrun with
    | done _ =>
      rw [if_neg (by rw [List.length_map]; simp)]
      have e : done = out := by rw [← hout, List.append_nil]
      subst e
      refine ss_of (E := ⟨fun _ _ => False, fun _ d' => d' = .list (done.map .int), fun _ _ => False⟩) (dss_freeze (1) rfl (dss_one (ds_ret (dv 1) rfl))) ⟨fun _ _ _ _ _ _ _ e => e.elim, fun G' H' m' v d' fr' s1 ob rv' e => ?_, fun _ _ _ _ _ _ _ e => e.elim⟩ fr4 R4
      subst e
      exact q v G' H' fr'.g0 s1 (fun b o hb => fr'.h0 b o hb (fun z => by rw [hka b z] at hb; cases hb)) fr'.nw rv'
    | @step _ b o ns al vl out' _ st' r hlt hb h hA k =>
      rw [if_pos (by rw [List.length_map]; exact decide_eq_true (by omega))]
      refine ⟨fun σ' H' => ∃ m', m' < l.length - a ∧ W m' σ' H', fun σ' H' z => z, ?_⟩
      refine w_cons (w_ds (E := fun m' δ' => m' = st.map kfs ∧ δ' = [.v (fz (l.map .int)), .own (.list (done.map .int)), ksl st, .v (.int b), .v (callD o ns al vl), .u]) (ds_asg (de_call (c_call_at T) (hr.mono (by decide)) (da_cons (dv 0) (da_one (dv 3))) ⟨l, a, o, ns, al, vl, b, h, rfl, rfl⟩) (dg_tup (dgs_cons (dg_name sc_answers.nd (i := 4) rfl (by first | exact .inl rfl | exact .inr rfl)) (dgs_cons (dg_name sc_answers.nd (i := 3) rfl (by first | exact .inl rfl | exact .inr rfl)) dgs_nil)) rfl) ⟨rfl, rfl⟩) fr4 R4 fun G5 H5 m5 σ5 δ5 fr5 R5 e5 => ?_)
      obtain ⟨rfl, rfl⟩ := e5
      obtain ⟨f2, fd2, g1, g2, g3, g4⟩ := c_answered (P := P) (w := w) (base := base) T
      refine w_cons ⟨_, ps_asg pe_w pg_w, ?_⟩
      refine ⟨_, pe_call g1 (hr.mono (by decide)) rfl g2 g3 g4 .nil (pass0 (X := cxN P w K mg base N_answers "answers" (defScope (top 141)) (He.ga K "answers") cdv A outer s H0 E)) pa_w, ?_⟩
      -- behind the call
      have next : ∀ (kv : V) (G6 H6 : Hp), Frm ⟨H0, He.ga K "Keeper", ka⟩ G0 G6 H6 → Rel K ⟨H0, He.ga K "Keeper", ka⟩ G6 H6 (st.map kfs) σ5 [.v (fz (l.map .int)), .own (.list (done.map .int)), ksl st, .v (.int b), .v (callD o ns al vl), .u] → (∀ b, kv = .ref b → ka = some b) → (∀ b, ka = some b → kv = .ref b) →
          ∀ (t : Addr) (kv' lv : V) (G7 H7 : Hp), Same G6 G7 → Same G7 H7 → (∀ b o, H6 b = some o → kv ≠ .ref b → H7 b = some o) → (∀ b, G6 b = none → H6 b ≠ none → G7 b = none) → KSt K (He.ga K "Keeper") G7 H7 kv' st' → Rp K G7 lv (eRes r) →
          (kv' = kv ∨ ∀ b, kv' = .ref b → H6 b = none) → H7 t = some (.tup [kv', lv]) →
          ∃ (ka' : Option Addr), Frm ⟨H0, He.ga K "Keeper", ka'⟩ G0 G7 H7 ∧ (∀ b, ka' = some b → H0 b = none) ∧ (∀ s, st' = some s → GoodS s) ∧
            Rel K ⟨H0, He.ga K "Keeper", ka'⟩ G7 H7 (st'.map kfs) ((σ5.set 2 (some kv')).set 5 (some lv)) [.v (fz (l.map .int)), .own (.list (done.map .int)), ksl st', .v (.int b), .v (callD o ns al vl), .v (eRes r)] := by
        intro kv G6 H6 fr6 R6 k1 k2 t kv' lv G7 H7 s1 s2 s3 nw ks rp fresh ht
        have h06 : ∀ b o, H0 b = some o → H6 b = some o := fun b o hb => fr6.h0 b o hb (fun z => by rw [hka b z] at hb; cases hb)
        have h07 : ∀ b o, H0 b = some o → H7 b = some o := fun b o hb => s3 b o (h06 b o hb) (fun z => by rw [hka b (k1 b z)] at hb; cases hb)
        have hh7 : ∀ b o, H6 b = some o → ka ≠ some b → H7 b = some o := fun b o hb n => s3 b o hb (fun z => n (k1 b z))
        have Rw := Rel.weak (δ' := [.v (fz (l.map .int)), .own (.list (done.map .int)), .u, .v (.int b), .v (callD o ns al vl), .u]) R6 rfl (fun j s e => by
          match j, e with
          | 0, e => exact .inr e
          | 1, e => exact .inr e
          | 2, e => cases e; exact .inl rfl
          | 3, e => exact .inr e
          | 4, e => exact .inr e
          | 5, e => exact .inr e)
        have no : ∀ j : Nat, ([.v (fz (l.map .int)), .own (.list (done.map .int)), .u, .v (.int b), .v (callD o ns al vl), .u] : List Sl)[j]? ≠ some Sl.obj := fun j e => by
          match j, e with
          | 0, e => cases e
          | 1, e => cases e
          | 2, e => cases e
          | 3, e => cases e
          | 4, e => cases e
          | 5, e => cases e
        have frm : ∀ ka', (∀ b, ka' = some b → H0 b = none) → Frm ⟨H0, He.ga K "Keeper", ka'⟩ G0 G7 H7 := fun ka' _ => by
          refine ⟨fr6.g0.trans s1, fun b o hb _ => h07 b o hb, fun b g n => nw b (fr6.nw b g n) fun z => ?_⟩
          cases e : H0 b with
          | none => exact n e
          | some u => rw [h06 b u e] at z; cases z
        cases st' with
        | none =>
          have ks : kv' = .non := ks
          subst ks
          have Rs := Rel.swap (ka' := none) (m' := none) Rw s1 s2 hh7 nw rfl no
          exact ⟨none, frm none (fun _ z => by cases z), (fun _ z => by cases z), (fun _ z => by cases z), (Rs.set 2 (.inl .non)).set 5 rp⟩
        | some s' =>
          obtain ⟨g', k', rfl, gk, dx, ws, q1, q2⟩ := ks
          have h0k : H0 k' = none := by
            rcases fresh with e | e
            · exact hka k' (k1 k' e.symm)
            · cases e2 : H0 k' with
              | none => rfl
              | some u =>
                have := h06 k' u e2
                rw [e k' rfl] at this
                cases this
          have Rs := Rel.swap (ka' := some k') (m' := some (kfs s')) Rw s1 s2 hh7 nw ⟨k', dx, ws, rfl, gk, q1, q2⟩ no
          exact ⟨some k', frm (some k') (fun b z => by cases z; exact h0k), (fun b z => by cases z; exact h0k), (fun s z => by cases z; exact g'), (Rs.setObj 2 rfl).set 5 rp⟩
      refine wa_kc (st := st) (fun e => by subst e; exact da_cons (dv 2) (da_one (dv 4))) (fun s0 e => by subst e; exact dak_cons (dkv 2) (da_one (dv 4))) R5 fun kv cv G6 H6 x6 q1 q2 r3 => ?_
      have R6 := R5.ext x6
      have kst : KSt K (He.ga K "Keeper") G6 H6 kv st := by
        cases st with
        | none => exact q1 rfl
        | some s0 =>
          obtain ⟨k0, ek, rfl⟩ := q2 s0 rfl
          obtain ⟨a', dx, ws, p1, p2, p3, p4⟩ := x6.ob
          have e2 : k0 = a' := Option.some.inj (ek.symm.trans p1)
          subst e2
          exact ⟨hgs s0 rfl, k0, rfl, p2, dx, ws, p3, p4⟩
      have kk1 : ∀ b, kv = .ref b → ka = some b := fun b z => by
        cases st with
        | none => rw [q1 rfl] at z; cases z
        | some s0 =>
          obtain ⟨k0, ek, e⟩ := q2 s0 rfl
          rw [e] at z
          cases z
          exact ek
      have kk2 : ∀ b, ka = some b → kv = .ref b := fun b z => by
        cases st with
        | none =>
          have kn : ka = none := x6.ob
          rw [kn] at z
          cases z
        | some s0 =>
          obtain ⟨k0, ek, e⟩ := q2 s0 rfl
          have ek : ka = some k0 := ek
          rw [ek] at z
          cases z
          exact e
      refine ⟨G6, st, st', kv, cv, o, ns, al, vl, r, rfl, x6.gh, r3, kst, hA, fun t kv' lv G7 H7 s1 s2 s3 nw ks rp fresh ht => ?_⟩
      obtain ⟨ka', fr7, hka7, hg7, R7⟩ := next kv G6 H6 (fr5.ext R5.ob x6) R6 kk1 kk2 t kv' lv G7 H7 s1 s2 s3 nw ks rp fresh ht
      refine ⟨_, pg_tup rfl pgs_w, t, [kv', lv], rfl, SqT.of ht, rfl, ?_⟩
      refine ⟨_, pgs_cons pg_w pgs_w, _, _, rfl, ?_⟩
      refine ⟨_, pg_name sc_answers.nd (i := 2) rfl (.inl rfl), ?_⟩
      refine ⟨_, pgs_cons pg_w pgs_w, _, _, rfl, ?_⟩
      refine ⟨_, pg_name sc_answers.nd (i := 5) rfl (.inl rfl), ?_⟩
      refine ⟨_, pgs_nil, rfl, ?_⟩
      have hz1 : done.length + 1 + (Kvg9Neutral.resultRow r).length ≤ 10000000 := by
        rw [List.length_cons, List.length_append] at hlen
        omega
      refine w_cons (w_ds (E := fun m' δ' => m' = st'.map kfs ∧ δ' = [.v (fz (l.map .int)), .own (.list ((done ++ [((Kvg9Neutral.resultRow r).length : Int)]).map .int)), ksl st', .v (.int b), .v (callD o ns al vl), .v (eRes r)]) (ds_append (i := 1) rfl (.inl rfl) rfl (de_lenL (ds := (Kvg9Neutral.resultRow r).map .int) T.n_len (dv 5)) rfl ?_ ⟨rfl, ?_⟩) fr7 R7 fun G8 H8 m8 σ8 δ8 fr8 R8 e8 => ?_)
      · rw [List.length_map, sizeLine_eq]
        omega
      · rw [List.map_append, List.length_map] <;> rfl
      obtain ⟨rfl, rfl⟩ := e8
      refine w_one (w_ds (E := fun m' δ' => m' = st'.map kfs ∧ δ' = [.v (fz (l.map .int)), .own (.list ((done ++ ((Kvg9Neutral.resultRow r).length : Int) :: Kvg9Neutral.resultRow r).map .int)), ksl st', .v (.int b), .v (callD o ns al vl), .v (eRes r)]) (ds_extend (i := 1) rfl (.inl rfl) rfl (es2 := (Kvg9Neutral.resultRow r).map .int) (dv 5) ?_ ⟨rfl, ?_⟩) fr8 R8 fun G9 H9 m9 σ9 δ9 fr9 R9 e9 => ?_)
      · rw [List.length_map, List.length_map, sizeLine_eq, List.length_append, List.length_singleton]
        omega
      · simp only [List.map_append, List.map_cons, List.map_nil, List.append_assoc, List.cons_append, List.nil_append] <;> rfl
      obtain ⟨rfl, rfl⟩ := e9
      have hbl : b ≤ l.length := by
        cases k with
        | done _ => exact Nat.le_refl _
        | step hlt2 _ _ _ _ => exact Nat.le_of_lt hlt2
      refine ⟨l.length - b, by omega, b, st', out', done ++ ((Kvg9Neutral.resultRow r).length : Int) :: Kvg9Neutral.resultRow r, ka', G9, rfl, k, ?_, fr9, hka7, hg7, ?_⟩
      · rw [← hout, List.append_assoc] <;> rfl
      · refine Rel.weak R9 rfl fun j s e => ?_
        match j, e with
        | 0, e => exact .inr e
        | 1, e => exact .inr e
        | 2, e => exact .inr e
        | 3, e => exact .inr e
        | 4, e => cases e; exact .inl rfl
        | 5, e => cases e; exact .inl rfl
  obtain ⟨t, ht, z⟩ := main
  exact ⟨t, PSs.nox ht, z⟩
end
end Pv
/-! ### 31. the store stays good -/
namespace Pv
open PySem PySem.Spec PyProof.Rows L2
open Kvg9 (Feature Version Vertex Commit Store Change Operation Response Conflict Match)
theorem ins_cons (f g : Feature) (v : Version) : Kvg9.insertFeature f (g :: v) = if f.id < g.id then f :: g :: v else if f.id = g.id then f :: v else g :: Kvg9.insertFeature f v := rfl
theorem ins_mem (f : Feature) : ∀ (v : Version) (x : Feature), x ∈ Kvg9.insertFeature f v → x = f ∨ x ∈ v
  | [], x, h => by
    left
    simpa [Kvg9.insertFeature] using h
  | g :: v, x, h => by
    rw [ins_cons] at h
    by_cases c1 : f.id < g.id
    · rw [if_pos c1] at h
      rcases List.mem_cons.mp h with h | h
      · exact .inl h
      · exact .inr h
    · rw [if_neg c1] at h
      by_cases c2 : f.id = g.id
      · rw [if_pos c2] at h
        rcases List.mem_cons.mp h with h | h
        · exact .inl h
        · exact .inr (List.mem_cons_of_mem _ h)
      · rw [if_neg c2] at h
        rcases List.mem_cons.mp h with h | h
        · exact .inr (by rw [h]; exact List.mem_cons_self)
        · rcases ins_mem f v x h with h | h
          · exact .inl h
          · exact .inr (List.mem_cons_of_mem _ h)
theorem ins_srt (f : Feature) : ∀ v : Version, Srt v → Srt (Kvg9.insertFeature f v)
  | [], _ => List.pairwise_singleton _ _
  | g :: v, h => by
    obtain ⟨h1, h2⟩ := List.pairwise_cons.mp h
    rw [ins_cons]
    by_cases c1 : f.id < g.id
    · rw [if_pos c1]
      refine List.pairwise_cons.mpr ⟨fun x hx => ?_, h⟩
      rcases List.mem_cons.mp hx with e | hx
      · rw [e]
        exact c1
      · exact Nat.lt_trans c1 (h1 x hx)
    · rw [if_neg c1]
      by_cases c2 : f.id = g.id
      · rw [if_pos c2]
        exact List.pairwise_cons.mpr ⟨fun x hx => by rw [c2]; exact h1 x hx, h2⟩
      · rw [if_neg c2]
        refine List.pairwise_cons.mpr ⟨fun x hx => ?_, ins_srt f v h2⟩
        rcases ins_mem f v x hx with e | hx
        · rw [e]
          omega
        · exact h1 x hx
theorem ins_len (f : Feature) : ∀ v : Version, (Kvg9.insertFeature f v).length ≤ v.length + 1
  | [] => by simp [Kvg9.insertFeature]
  | g :: v => by
    have := ins_len f v
    rw [ins_cons]
    split
    · simp
    · split
      · simp
      · simp only [List.length_cons]
        omega
theorem ins_len_in (f : Feature) : ∀ v : Version, Srt v → (∃ x, Kvg9.find v f.id = some x) → (Kvg9.insertFeature f v).length = v.length
  | [], _, ⟨x, h⟩ => by cases h
  | g :: v, hs, ⟨x, h⟩ => by
    obtain ⟨h1, h2⟩ := List.pairwise_cons.mp hs
    rw [ins_cons]
    by_cases c1 : f.id < g.id
    · obtain ⟨hm, e⟩ := find_mem h
      rcases List.mem_cons.mp hm with e2 | hm
      · subst e2
        omega
      · have := h1 x hm
        omega
    · rw [if_neg c1]
      by_cases c2 : f.id = g.id
      · rw [if_pos c2] <;> rfl
      · rw [if_neg c2, List.length_cons, List.length_cons, ins_len_in f v h2 ⟨x, by rw [find_cons, if_neg (Ne.symm c2)] at h; exact h⟩]
theorem ins_ok2 {w : Nat} {v : Version} {f : Feature} (h : OkV w v) (hf : OkF w f) (hc : (∃ x, Kvg9.find v f.id = some x) ∨ v.length < 16) : OkV w (Kvg9.insertFeature f v) := by
  refine ⟨ins_srt f v h.srt, ?_, fun x hx => ?_⟩
  · rcases hc with hc | hc
    · rw [ins_len_in f v h.srt hc]
      exact h.few
    · have := ins_len f v
      omega
  · rcases ins_mem f v x hx with e | hx
    · rw [e]
      exact hf
    · exact h.ft x hx
theorem edit_good {s : Store} (g : GoodS s) (id : Nat) (f : Feature → Except Int (Feature × Response)) (h : ∀ a x r, OkF s.attributeCount a → f a = .ok (x, r) → x.id = a.id ∧ OkF s.attributeCount x) : GoodS (s.edit id f).1 := by
  rw [run_edit]
  cases hf : Kvg9.find s.working id with
  | none => exact g
  | some a =>
    cases e : f a with
    | error c => simp only [e]; exact g
    | ok p =>
      obtain ⟨x, r⟩ := p
      simp only [e]
      obtain ⟨hm, hid⟩ := find_mem hf
      obtain ⟨e1, e2⟩ := h a x r (g.wk.ft a hm) e
      exact g.setW (ins_ok2 g.wk e2 (.inl ⟨a, by rw [e1, hid]; exact hf⟩))
theorem pairs_ok {k : Nat} {vl : List Int} (h : vl.length = 2 * k) (h0 : 0 < k) (h1 : k ≤ 12) (hv : (Kvg9.pairsOf vl).all Kvg9.isVertex = true) : OkX (Kvg9.pairsOf vl) := by
  have hl := pairs_len k vl h
  exact ⟨by omega, by omega, fun x hx => List.all_eq_true.mp hv x hx⟩
theorem commit_keep {s : Store} (p : Nat → Bool) (k : Nat) : ({ s with commits := s.commits.zipIdx.map fun q => if p q.2 then q.1 else none } : Store).commit k = if p k then s.commit k else none := by
  unfold Store.commit
  rw [List.getD_eq_getElem?_getD, List.getD_eq_getElem?_getD, List.getElem?_map, List.getElem?_zipIdx]
  cases e : s.commits[k]? with
  | none =>
    show none = _
    split <;> rfl
  | some o =>
    simp
theorem collect_good {s : Store} (g : GoodS s) : GoodS (s.run .collectGarbage).1 := by
  rw [run_collect g]
  have hk : ∀ k : Nat, (dGet (rch s (tips s)) k).isSome = true ↔ ∃ n ∈ tips s, k ∈ s.ancestors n := fun k => by
    rw [kept_is g]
    simp
  have ck := commit_keep (s := s) fun i => (dGet (rch s (tips s)) i).isSome
  have old : ∀ k c, ({ s with commits := s.commits.zipIdx.map fun q => if (dGet (rch s (tips s)) (q.2 : Nat)).isSome then q.1 else none } : Store).commit k = some c → (dGet (rch s (tips s)) k).isSome = true ∧ s.commit k = some c := fun k c h => by
    rw [ck k] at h
    by_cases e : (dGet (rch s (tips s)) k).isSome = true
    · rw [if_pos e] at h
      exact ⟨e, h⟩
    · rw [if_neg e] at h
      cases h
  have nw : ∀ k, (∃ n ∈ tips s, k ∈ s.ancestors n) → (∃ c, s.commit k = some c) → ∃ c, ({ s with commits := s.commits.zipIdx.map fun q => if (dGet (rch s (tips s)) (q.2 : Nat)).isSome then q.1 else none } : Store).commit k = some c := fun k h1 ⟨c, h2⟩ => ⟨c, by rw [ck k, if_pos ((hk k).mpr h1), h2]⟩
  refine ⟨g.w, g.wk, ?_, fun k c h => ?_, g.bs, g.bl, fun e he => ?_, g.ts, g.tl, fun e he => ?_, g.cu⟩
  · show (List.map _ _).length ≤ 40
    rw [List.length_map, List.length_zipIdx]
    exact g.len
  · obtain ⟨h1, h2⟩ := old k c h
    obtain ⟨n, hn, ha⟩ := (hk k).mp h1
    obtain ⟨q, hq⟩ := g.tip n hn
    obtain ⟨a1, a2, a3, a4⟩ := g.cm k c h2
    refine ⟨a1, fun p hp => ⟨(a2 p hp).1, nw p ⟨n, hn, anc_par g hq ha (by rw [parents_of h2]; exact hp)⟩ (a2 p hp).2⟩, a3, a4⟩
  · have ht : e.2 ∈ tips s := List.mem_append_left _ (List.mem_map.mpr ⟨e, he, rfl⟩)
    exact nw e.2 ⟨e.2, ht, anc_self s e.2⟩ (g.be e he)
  · have ht : e.2 ∈ tips s := List.mem_append_right _ (List.mem_map.mpr ⟨e, he, rfl⟩)
    exact nw e.2 ⟨e.2, ht, anc_self s e.2⟩ (g.te e he)
theorem mcr_good {s : Store} (g : GoodS s) {h o : Nat} {q1 q2 : Commit} (h1 : s.commit h = some q1) (h2 : s.commit o = some q2) (side : Option Bool) : GoodS (mcr s h o side).1 := by
  obtain ⟨qb, hb⟩ := common_commit g h1 h2
  have hok := merge_ok (side := side.getD false) (g.ver hb) (g.ver h1) (g.ver h2)
  unfold mcr
  split
  · exact g
  · split
    · exact g
    · rename_i c
      refine g.app (by omega) ⟨by simp, by simp, fun p hp => ?_⟩ (hok (by omega))
      rcases List.mem_cons.mp hp with e | hp
      · rw [e]
        exact ⟨_, h1⟩
      · rw [List.mem_singleton.mp hp]
        exact ⟨_, h2⟩
theorem mb_good {s : Store} (g : GoodS s) (b : Nat) (side : Option Bool) : GoodS (s.mergeBranch b side).1 := by
  rw [mb_is]
  cases hn : Kvg9.lookup s.branches b with
  | none => exact g
  | some o =>
    obtain ⟨q2, h2⟩ := g.be _ (lookup_mem hn)
    have h2 : s.commit o = some q2 := h2
    obtain ⟨q1, h1⟩ := g.hc
    simp only
    split
    · exact g
    · split
      · exact g
      · split
        · exact g.point h2
        · exact mcr_good g h1 h2 side
theorem apr_good {s : Store} (g : GoodS s) {vb vt : Version} (ob : OkV s.attributeCount vb) (ot : OkV s.attributeCount vt) : GoodS (apr s vb vt).1 := by
  have hok := merge_ok (side := false) ob g.hv ot
  unfold apr
  split
  · exact g
  · split
    · exact g
    · split
      · exact g
      · rename_i c
        exact g.app (by omega) g.par1 (hok (by omega))
theorem ap_good {s : Store} (g : GoodS s) (c : Nat) (back : Bool) : GoodS (s.run (if back then .revert c else .cherryPick c)).1 := by
  rw [run_ap]
  by_cases hx : s.exists_ c = false
  · rw [if_pos hx]
    exact g
  · rw [if_neg hx]
    obtain ⟨q, hq⟩ := exists_iff.mp (by simpa using hx)
    cases hp : s.singleParent c with
    | none => exact g
    | some p =>
      have hpm : p ∈ s.parents c := by
        unfold Store.singleParent at hp
        split at hp
        · rename_i e
          rw [e, ← Option.some.inj hp]
          exact List.mem_singleton.mpr rfl
        · cases hp
      obtain ⟨_, q2, h2⟩ := g.par hpm
      simp only
      split
      · exact g
      · split
        · exact apr_good g (g.ver hq) (g.ver h2)
        · exact apr_good g (g.ver h2) (g.ver hq)
theorem find_filter_len (p : Feature → Bool) {w : Nat} {v : Version} (h : OkV w v) : OkV w (v.filter p) := ⟨List.Pairwise.filter _ h.srt, Nat.le_trans (List.length_filter_le _ _) h.few, fun f hf => h.ft f (List.mem_filter.mp hf).1⟩
theorem lookup_filter_ne {n m : Nat} (hm : m ≠ n) : ∀ l : List (Nat × Nat), Kvg9.lookup (l.filter fun e => e.1 != n) m = Kvg9.lookup l m
  | [] => rfl
  | g :: l => by
    by_cases c : g.1 = n
    · rw [List.filter_cons_of_neg (by simp [c]), lookup_filter_ne hm l, lookup_cons, if_neg (by rw [c]; exact Ne.symm hm)]
    · rw [List.filter_cons_of_pos (by simp [c]), lookup_cons, lookup_cons, lookup_filter_ne hm l]
theorem run_good {s : Store} (g : GoodS s) {o : Int} {ns al vl : List Int} {op : Operation} (h : OpA o ns al vl op) : GoodS (s.run op).1 := by
  cases h with
  | put id _ _ h1 h2 =>
    rw [run_put]
    by_cases c : isFeat s.attributeCount id al vl = false
    · rw [if_pos c]
      exact g
    · rw [if_neg c]
      split
      · exact g
      · rename_i c2
        have ht : isFeat s.attributeCount id al vl = true := by simpa using c
        obtain ⟨k, e1, e2, e3⟩ := feat_sz ht
        have n := mt (feat_iff s id al vl).mpr c
        simp only [not_or] at n
        obtain ⟨n1, n2, n3, n4, n5, n6, n7⟩ := n
        have hx := pairs_ok e1 e2 e3 (by simpa using n7)
        refine g.setW (ins_ok2 g.wk ⟨?_, ?_, hx.1, hx.2.1, hx.2.2⟩ ?_)
        · show al.length = _
          exact Classical.byContradiction n2
        · show id ≤ _
          omega
        · show (∃ x, Kvg9.find s.working id = some x) ∨ _
          cases hf : Kvg9.find s.working id with
          | none =>
            right
            rw [hf] at c2
            have : ¬ 16 ≤ s.working.length := fun z => c2 ⟨rfl, z⟩
            omega
          | some x => exact .inl ⟨x, rfl⟩
  | c => exact collect_good g
  | e h =>
    cases h with
    | rm n =>
      show GoodS (if (Kvg9.find s.working n).isNone then (s, _) else _ : Store × Response).1
      split
      · exact g
      · exact g.setW (find_filter_len _ g.wk)
    | sa n i v =>
      refine edit_good g n _ fun a x r ha e => ?_
      split at e
      · cases e
      · split at e
        · injection e with e
          injection e with e _
          subst e
          exact ⟨rfl, by show (a.attributes.set i v).length = _; rw [List.length_set]; exact ha.1, ha.2⟩
        · cases e
    | mv n i x y =>
      refine edit_good g n _ fun a z r ha e => ?_
      split at e
      · cases e
      · split at e
        · rename_i hv
          injection e with e
          injection e with e _
          subst e
          refine ⟨rfl, ha.1, ha.2.1, ?_, ?_, fun u hu => ?_⟩
          · show 0 < (a.vertices.set i (x, y)).length
            rw [List.length_set]
            exact ha.2.2.1
          · show (a.vertices.set i (x, y)).length ≤ 12
            rw [List.length_set]
            exact ha.2.2.2.1
          · rcases List.mem_or_eq_of_mem_set hu with h | h
            · exact ha.2.2.2.2 u h
            · rw [h]
              exact hv
        · cases e
    | iv n i x y =>
      refine edit_good g n _ fun a z r ha e => ?_
      split at e
      · cases e
      · split at e
        · cases e
        · split at e
          · cases e
          · rename_i c1 c2 c3
            injection e with e
            injection e with e _
            subst e
            refine ⟨rfl, ha.1, ha.2.1, ?_, ?_, fun u hu => ?_⟩
            · show 0 < (a.vertices.take i ++ (x, y) :: a.vertices.drop i).length
              rw [List.length_append, List.length_cons]
              omega
            · show (a.vertices.take i ++ (x, y) :: a.vertices.drop i).length ≤ 12
              rw [List.length_append, List.length_cons, List.length_take, List.length_drop]
              unfold Kvg9.maxVertices at c3
              omega
            · rcases List.mem_append.mp hu with h | h
              · exact ha.2.2.2.2 u (List.mem_of_mem_take h)
              · rcases List.mem_cons.mp h with h | h
                · rw [h]
                  simpa using c2
                · exact ha.2.2.2.2 u (List.mem_of_mem_drop h)
    | rv n i =>
      refine edit_good g n _ fun a z r ha e => ?_
      split at e
      · cases e
      · split at e
        · cases e
        · rename_i c1 c2
          injection e with e
          injection e with e _
          subst e
          have hl : (a.vertices.eraseIdx i).length = a.vertices.length - 1 := List.length_eraseIdx_of_lt (by omega)
          have h0 := ha.2.2.1
          have h9 := ha.2.2.2.1
          refine ⟨rfl, ha.1, ha.2.1, ?_, ?_, fun u hu => ha.2.2.2.2 u (List.mem_of_mem_eraseIdx hu)⟩
          · show 0 < (a.vertices.eraseIdx i).length
            omega
          · show (a.vertices.eraseIdx i).length ≤ 12
            omega
  | n h =>
    cases h with
    | cm =>
      show GoodS (if s.isChanged = false then (s, _) else if 40 ≤ s.commits.length then (s, _) else (s.append [s.head] s.working, _) : Store × Response).1
      split
      · exact g
      · split
        · exact g
        · exact g.app (by omega) g.par1 g.wk
    | di => exact g.setW g.hv
    | cb b =>
      show GoodS (if (Kvg9.lookup s.branches b).isSome then (s, _) else if 8 ≤ s.branches.length then (s, _) else _ : Store × Response).1
      split
      · exact g
      · split
        · exact g
        · rename_i c1 c2
          exact (g.addB (by simpa using c1) (by omega)).1
    | sb b =>
      have e : s.run (.switchBranch b) = match Kvg9.lookup s.branches b with
        | none => (s, .error (-2))
        | some c => if s.isChanged then (s, .error (-16)) else ({ s with current := b, working := s.version c }, .number c) := rfl
      rw [e]
      cases hn : Kvg9.lookup s.branches b with
      | none => exact g
      | some c =>
        simp only
        split
        · exact g
        · exact (g.sw hn).1
    | db b =>
      show GoodS (if (Kvg9.lookup s.branches b).isNone then (s, _) else if b = s.current then (s, _) else _ : Store × Response).1
      split
      · exact g
      · split
        · exact g
        · rename_i c1 c2
          refine ⟨g.w, g.wk, g.len, g.cm, List.Pairwise.filter _ g.bs, Nat.le_trans (List.length_filter_le _ _) g.bl, fun e he => g.be e (List.mem_filter.mp he).1, g.ts, g.tl, g.te, ⟨s.head, ?_⟩⟩
          show Kvg9.lookup (s.branches.filter fun e => e.1 != b) s.current = _
          rw [lookup_filter_ne (fun z => c2 z.symm), g.hd]
    | rb c =>
      show GoodS (if s.exists_ c = false then (s, _) else if s.isChanged then (s, _) else _ : Store × Response).1
      split
      · exact g
      · split
        · exact g
        · rename_i c1 _
          obtain ⟨q, hq⟩ := exists_iff.mp (by simpa using c1)
          exact g.point hq
    | st t c =>
      show GoodS (if s.exists_ c = false then (s, _) else if (Kvg9.lookup s.tags t).isNone ∧ 8 ≤ s.tags.length then (s, _) else _ : Store × Response).1
      split
      · exact g
      · split
        · exact g
        · rename_i c1 c2
          obtain ⟨q, hq⟩ := exists_iff.mp (by simpa using c1)
          refine ⟨g.w, g.wk, g.len, g.cm, g.bs, g.bl, g.be, assign_asc _ _ _ g.ts, ?_, fun e he => ?_, g.cu⟩
          · show (Kvg9.assign t c s.tags).length ≤ 8
            cases hl : Kvg9.lookup s.tags t with
            | none =>
              have h1 := assign_len t c s.tags
              rw [hl] at c2
              have : ¬ 8 ≤ s.tags.length := fun z => c2 ⟨rfl, z⟩
              omega
            | some x =>
              rw [assign_len_in _ _ _ g.ts ⟨x, hl⟩]
              exact g.tl
          · rcases assign_mem _ _ _ _ he with e2 | he
            · rw [e2]
              exact ⟨q, hq⟩
            · exact g.te e he
    | dt t =>
      have e : s.run (.deleteTag t) = match Kvg9.lookup s.tags t with
        | none => (s, .error (-2))
        | some c => ({ s with tags := s.tags.filter fun e => e.1 != t }, .number c) := rfl
      rw [e]
      cases hn : Kvg9.lookup s.tags t with
      | none => exact g
      | some c => exact ⟨g.w, g.wk, g.len, g.cm, g.bs, g.bl, g.be, List.Pairwise.filter _ g.ts, Nat.le_trans (List.length_filter_le _ _) g.tl, fun e he => g.te e (List.mem_filter.mp he).1, g.cu⟩
  | j h =>
    cases h with
    | mb b => exact mb_good g b none
    | mw b side =>
      show GoodS (if 1 < side then (s, _) else s.mergeBranch b (some (side == 1)) : Store × Response).1
      split
      · exact g
      · exact mb_good g b _
    | rv c => exact ap_good g c true
    | cp c => exact ap_good g c false
  | l h =>
    have e : (s.run op).1 = s := by
      cases h with
      | gf c id =>
        show (match (s.source c).bind fun v => Kvg9.find v id with | none => (s, _) | some f => (s, _) : Store × Response).1 = s
        split <;> rfl
      | lf c =>
        show (match s.source c with | none => (s, _) | some v => (s, _) : Store × Response).1 = s
        split <;> rfl
      | df a b =>
        show (match s.source a, s.source b with | some v, some w => (s, _) | _, _ => (s, _) : Store × Response).1 = s
        split <;> rfl
      | wd => rfl
      | lg c =>
        show (if s.exists_ c = false then (s, _) else (s, _) : Store × Response).1 = s
        split <;> rfl
      | ca a b =>
        show (if (s.exists_ a && s.exists_ b) = false then (s, _) else (s, _) : Store × Response).1 = s
        split <;> rfl
      | oa id i =>
        show (match Kvg9.find (s.version s.head) id with | none => (s, _) | some f => if f.attributes.length ≤ i then (s, _) else (s, _) : Store × Response).1 = s
        split
        · rfl
        · split <;> rfl
      | ov id =>
        show (if (Kvg9.find (s.version s.head) id).isNone then (s, _) else (s, _) : Store × Response).1 = s
        split <;> rfl
      | hs c =>
        show (if s.exists_ c = false then (s, _) else (s, _) : Store × Response).1 = s
        split <;> rfl
      | mf a b t h =>
        show (match s.source a, s.source b with | some v, some w => (s, _) | _, _ => (s, _) : Store × Response).1 = s
        split <;> rfl
      | gs => rfl
    rw [e]
    exact g
end Pv
/-! ### 32. the calls read -/
namespace Pv
open PySem PySem.Spec PyProof.Rows L2
open Kvg9 (Feature Version Vertex Commit Store Change Operation Response Conflict Match)
open Kvg9Neutral (step operationOf asked1 isNatural isSigned isShort)
theorem nat_of {a : Int} (h : isNatural a 32 = true) : ∃ n : Nat, a = (n : Int) ∧ n < 2 ^ 32 := by
  unfold isNatural at h
  simp only [Bool.and_eq_true, decide_eq_true_eq] at h
  exact ⟨a.toNat, by omega, by omega⟩
/-- what the calls are -/
inductive AskC : List (List Int) → Int → List Int → List Int → List Int → Operation → Prop
  | cr (n : Nat) : AskC [[0, (n : Int)]] 0 [(n : Int)] [] [] (.create n)
  | op {o : Int} {ns : List Int} {op : Operation} (ho : o ≠ 1) (h : OpA o ns [] [] op) (he : operationOf [o :: ns] = some op) : AskC [o :: ns] o ns [] [] op
  | put (id : Nat) (al vl : List Int) (h1 : al.length ≤ 100) (h2 : vl.length ≤ 100) : AskC [[1, (id : Int)], al, vl] 1 [(id : Int)] al vl (.putFeature id al vl)
theorem ln0 {l : List Int} (h : 0 = l.length) : l = [] := List.length_eq_zero_iff.mp h.symm
theorem ln1 {l : List Int} (h : 1 = l.length) : ∃ x0, l = [x0] := by
  match l, h with
  | [x0], _ => exact ⟨x0, rfl⟩
theorem ln2 {l : List Int} (h : 2 = l.length) : ∃ x0 x1, l = [x0, x1] := by
  match l, h with
  | [x0, x1], _ => exact ⟨x0, x1, rfl⟩
theorem ln3 {l : List Int} (h : 3 = l.length) : ∃ x0 x1 x2, l = [x0, x1, x2] := by
  match l, h with
  | [x0, x1, x2], _ => exact ⟨x0, x1, x2, rfl⟩
theorem ln4 {l : List Int} (h : 4 = l.length) : ∃ x0 x1 x2 x3, l = [x0, x1, x2, x3] := by
  match l, h with
  | [x0, x1, x2, x3], _ => exact ⟨x0, x1, x2, x3, rfl⟩
theorem lx0 {l : List (List Int)} (h : 0 = l.length) : l = [] := List.length_eq_zero_iff.mp h.symm
theorem lx2 {l : List (List Int)} (h : 2 = l.length) : ∃ x y, l = [x, y] := by
  match l, h with
  | [x, y], _ => exact ⟨x, y, rfl⟩
theorem ask_ok {c : List (List Int)} (h : PyFlat.okCall PyKvg9.shape c) (ha : asked1 (PyKvg9.whole c) = true) : PyKvg9.whole c = c ∧ ∃ o ns al vl op, AskC c o ns al vl op := by
  obtain ⟨p, a, xs, rfl, hs⟩ := h
  unfold PyKvg9.shape at hs
  by_cases e0 : p = 0
  · subst e0
    rw [if_pos rfl] at hs
    injection Option.some.inj hs with ea ex
    obtain ⟨x0, rfl⟩ := ln1 ea
    obtain rfl := lx0 ex
    have h : (isNatural x0 32) = true := ha
    obtain ⟨x0, rfl, hn0⟩ := nat_of h
    exact ⟨rfl, _, _, _, _, _, .cr x0⟩
  rw [if_neg e0] at hs
  by_cases e1 : p = 1
  · subst e1
    rw [if_pos rfl] at hs
    injection Option.some.inj hs with ea ex
    obtain ⟨x0, rfl⟩ := ln1 ea
    obtain ⟨y, z, rfl⟩ := lx2 ex
    have h : (isNatural x0 32 && decide (y.length ≤ 30) && y.all isShort && decide (z.length ≤ 30) && z.all isShort) = true := ha
    simp only [Bool.and_eq_true, decide_eq_true_eq] at h
    obtain ⟨x0, rfl, _⟩ := nat_of h.1.1.1.1
    exact ⟨rfl, _, _, _, _, _, .put x0 y z (by omega) (by omega)⟩
  rw [if_neg e1] at hs
  by_cases e2 : p = 2
  · subst e2
    rw [if_pos rfl] at hs
    injection Option.some.inj hs with ea ex
    obtain ⟨x0, rfl⟩ := ln1 ea
    obtain rfl := lx0 ex
    have h : (isNatural x0 32) = true := ha
    obtain ⟨x0, rfl, hn0⟩ := nat_of h
    exact ⟨rfl, _, _, _, _, _, .op (by decide) (.e (.rm x0)) rfl⟩
  rw [if_neg e2] at hs
  by_cases e3 : p = 3
  · subst e3
    rw [if_pos rfl] at hs
    injection Option.some.inj hs with ea ex
    obtain ⟨x0, x1, x2, rfl⟩ := ln3 ea
    obtain rfl := lx0 ex
    have h : (isNatural x0 32 && isNatural x1 32 && isSigned x2) = true := ha
    simp only [Bool.and_eq_true] at h
    obtain ⟨x0, rfl, hn0⟩ := nat_of h.1.1
    obtain ⟨x1, rfl, hn1⟩ := nat_of h.1.2
    exact ⟨rfl, _, _, _, _, _, .op (by decide) (.e (.sa x0 x1 x2)) rfl⟩
  rw [if_neg e3] at hs
  by_cases e4 : p = 4
  · subst e4
    rw [if_pos rfl] at hs
    injection Option.some.inj hs with ea ex
    obtain ⟨x0, x1, x2, x3, rfl⟩ := ln4 ea
    obtain rfl := lx0 ex
    have h : (isNatural x0 32 && isNatural x1 32 && isSigned x2 && isSigned x3) = true := ha
    simp only [Bool.and_eq_true] at h
    obtain ⟨x0, rfl, hn0⟩ := nat_of h.1.1.1
    obtain ⟨x1, rfl, hn1⟩ := nat_of h.1.1.2
    exact ⟨rfl, _, _, _, _, _, .op (by decide) (.e (.mv x0 x1 x2 x3)) rfl⟩
  rw [if_neg e4] at hs
  by_cases e5 : p = 5
  · subst e5
    rw [if_pos rfl] at hs
    injection Option.some.inj hs with ea ex
    obtain ⟨x0, x1, x2, x3, rfl⟩ := ln4 ea
    obtain rfl := lx0 ex
    have h : (isNatural x0 32 && isNatural x1 32 && isSigned x2 && isSigned x3) = true := ha
    simp only [Bool.and_eq_true] at h
    obtain ⟨x0, rfl, hn0⟩ := nat_of h.1.1.1
    obtain ⟨x1, rfl, hn1⟩ := nat_of h.1.1.2
    exact ⟨rfl, _, _, _, _, _, .op (by decide) (.e (.iv x0 x1 x2 x3)) rfl⟩
  rw [if_neg e5] at hs
  by_cases e6 : p = 6
  · subst e6
    rw [if_pos rfl] at hs
    injection Option.some.inj hs with ea ex
    obtain ⟨x0, x1, rfl⟩ := ln2 ea
    obtain rfl := lx0 ex
    have h : (isNatural x0 32 && isNatural x1 32) = true := ha
    simp only [Bool.and_eq_true] at h
    obtain ⟨x0, rfl, hn0⟩ := nat_of h.1
    obtain ⟨x1, rfl, hn1⟩ := nat_of h.2
    exact ⟨rfl, _, _, _, _, _, .op (by decide) (.e (.rv x0 x1)) rfl⟩
  rw [if_neg e6] at hs
  by_cases e7 : p = 7
  · subst e7
    rw [if_pos rfl] at hs
    injection Option.some.inj hs with ea ex
    obtain ⟨x0, x1, rfl⟩ := ln2 ea
    obtain rfl := lx0 ex
    have h : (isNatural x0 32 && isNatural x1 32) = true := ha
    simp only [Bool.and_eq_true] at h
    obtain ⟨x0, rfl, hn0⟩ := nat_of h.1
    obtain ⟨x1, rfl, hn1⟩ := nat_of h.2
    exact ⟨rfl, _, _, _, _, _, .op (by decide) (.l (.gf x0 x1)) rfl⟩
  rw [if_neg e7] at hs
  by_cases e8 : p = 8
  · subst e8
    rw [if_pos rfl] at hs
    injection Option.some.inj hs with ea ex
    obtain ⟨x0, rfl⟩ := ln1 ea
    obtain rfl := lx0 ex
    have h : (isNatural x0 32) = true := ha
    obtain ⟨x0, rfl, hn0⟩ := nat_of h
    exact ⟨rfl, _, _, _, _, _, .op (by decide) (.l (.lf x0)) rfl⟩
  rw [if_neg e8] at hs
  by_cases e9 : p = 9
  · subst e9
    rw [if_pos rfl] at hs
    injection Option.some.inj hs with ea ex
    obtain rfl := ln0 ea
    obtain rfl := lx0 ex
    exact ⟨rfl, _, _, _, _, _, .op (by decide) (.n .cm) rfl⟩
  rw [if_neg e9] at hs
  by_cases e10 : p = 10
  · subst e10
    rw [if_pos rfl] at hs
    injection Option.some.inj hs with ea ex
    obtain rfl := ln0 ea
    obtain rfl := lx0 ex
    exact ⟨rfl, _, _, _, _, _, .op (by decide) (.n .di) rfl⟩
  rw [if_neg e10] at hs
  by_cases e11 : p = 11
  · subst e11
    rw [if_pos rfl] at hs
    injection Option.some.inj hs with ea ex
    obtain ⟨x0, rfl⟩ := ln1 ea
    obtain rfl := lx0 ex
    have h : (isNatural x0 32) = true := ha
    obtain ⟨x0, rfl, hn0⟩ := nat_of h
    exact ⟨rfl, _, _, _, _, _, .op (by decide) (.n (.cb x0)) rfl⟩
  rw [if_neg e11] at hs
  by_cases e12 : p = 12
  · subst e12
    rw [if_pos rfl] at hs
    injection Option.some.inj hs with ea ex
    obtain ⟨x0, rfl⟩ := ln1 ea
    obtain rfl := lx0 ex
    have h : (isNatural x0 32) = true := ha
    obtain ⟨x0, rfl, hn0⟩ := nat_of h
    exact ⟨rfl, _, _, _, _, _, .op (by decide) (.n (.sb x0)) rfl⟩
  rw [if_neg e12] at hs
  by_cases e13 : p = 13
  · subst e13
    rw [if_pos rfl] at hs
    injection Option.some.inj hs with ea ex
    obtain ⟨x0, rfl⟩ := ln1 ea
    obtain rfl := lx0 ex
    have h : (isNatural x0 32) = true := ha
    obtain ⟨x0, rfl, hn0⟩ := nat_of h
    exact ⟨rfl, _, _, _, _, _, .op (by decide) (.n (.db x0)) rfl⟩
  rw [if_neg e13] at hs
  by_cases e14 : p = 14
  · subst e14
    rw [if_pos rfl] at hs
    injection Option.some.inj hs with ea ex
    obtain ⟨x0, rfl⟩ := ln1 ea
    obtain rfl := lx0 ex
    have h : (isNatural x0 32) = true := ha
    obtain ⟨x0, rfl, hn0⟩ := nat_of h
    exact ⟨rfl, _, _, _, _, _, .op (by decide) (.n (.rb x0)) rfl⟩
  rw [if_neg e14] at hs
  by_cases e15 : p = 15
  · subst e15
    rw [if_pos rfl] at hs
    injection Option.some.inj hs with ea ex
    obtain ⟨x0, x1, rfl⟩ := ln2 ea
    obtain rfl := lx0 ex
    have h : (isNatural x0 32 && isNatural x1 32) = true := ha
    simp only [Bool.and_eq_true] at h
    obtain ⟨x0, rfl, hn0⟩ := nat_of h.1
    obtain ⟨x1, rfl, hn1⟩ := nat_of h.2
    exact ⟨rfl, _, _, _, _, _, .op (by decide) (.n (.st x0 x1)) rfl⟩
  rw [if_neg e15] at hs
  by_cases e16 : p = 16
  · subst e16
    rw [if_pos rfl] at hs
    injection Option.some.inj hs with ea ex
    obtain ⟨x0, rfl⟩ := ln1 ea
    obtain rfl := lx0 ex
    have h : (isNatural x0 32) = true := ha
    obtain ⟨x0, rfl, hn0⟩ := nat_of h
    exact ⟨rfl, _, _, _, _, _, .op (by decide) (.n (.dt x0)) rfl⟩
  rw [if_neg e16] at hs
  by_cases e17 : p = 17
  · subst e17
    rw [if_pos rfl] at hs
    injection Option.some.inj hs with ea ex
    obtain ⟨x0, x1, rfl⟩ := ln2 ea
    obtain rfl := lx0 ex
    have h : (isNatural x0 32 && isNatural x1 32) = true := ha
    simp only [Bool.and_eq_true] at h
    obtain ⟨x0, rfl, hn0⟩ := nat_of h.1
    obtain ⟨x1, rfl, hn1⟩ := nat_of h.2
    exact ⟨rfl, _, _, _, _, _, .op (by decide) (.l (.df x0 x1)) rfl⟩
  rw [if_neg e17] at hs
  by_cases e18 : p = 18
  · subst e18
    rw [if_pos rfl] at hs
    injection Option.some.inj hs with ea ex
    obtain rfl := ln0 ea
    obtain rfl := lx0 ex
    exact ⟨rfl, _, _, _, _, _, .op (by decide) (.l .wd) rfl⟩
  rw [if_neg e18] at hs
  by_cases e19 : p = 19
  · subst e19
    rw [if_pos rfl] at hs
    injection Option.some.inj hs with ea ex
    obtain ⟨x0, rfl⟩ := ln1 ea
    obtain rfl := lx0 ex
    have h : (isNatural x0 32) = true := ha
    obtain ⟨x0, rfl, hn0⟩ := nat_of h
    exact ⟨rfl, _, _, _, _, _, .op (by decide) (.j (.mb x0)) rfl⟩
  rw [if_neg e19] at hs
  by_cases e20 : p = 20
  · subst e20
    rw [if_pos rfl] at hs
    injection Option.some.inj hs with ea ex
    obtain ⟨x0, x1, rfl⟩ := ln2 ea
    obtain rfl := lx0 ex
    have h : (isNatural x0 32 && isNatural x1 32) = true := ha
    simp only [Bool.and_eq_true] at h
    obtain ⟨x0, rfl, hn0⟩ := nat_of h.1
    obtain ⟨x1, rfl, hn1⟩ := nat_of h.2
    exact ⟨rfl, _, _, _, _, _, .op (by decide) (.j (.mw x0 x1)) rfl⟩
  rw [if_neg e20] at hs
  by_cases e21 : p = 21
  · subst e21
    rw [if_pos rfl] at hs
    injection Option.some.inj hs with ea ex
    obtain ⟨x0, rfl⟩ := ln1 ea
    obtain rfl := lx0 ex
    have h : (isNatural x0 32) = true := ha
    obtain ⟨x0, rfl, hn0⟩ := nat_of h
    exact ⟨rfl, _, _, _, _, _, .op (by decide) (.j (.rv x0)) rfl⟩
  rw [if_neg e21] at hs
  by_cases e22 : p = 22
  · subst e22
    rw [if_pos rfl] at hs
    injection Option.some.inj hs with ea ex
    obtain ⟨x0, rfl⟩ := ln1 ea
    obtain rfl := lx0 ex
    have h : (isNatural x0 32) = true := ha
    obtain ⟨x0, rfl, hn0⟩ := nat_of h
    exact ⟨rfl, _, _, _, _, _, .op (by decide) (.j (.cp x0)) rfl⟩
  rw [if_neg e22] at hs
  by_cases e23 : p = 23
  · subst e23
    rw [if_pos rfl] at hs
    injection Option.some.inj hs with ea ex
    obtain ⟨x0, rfl⟩ := ln1 ea
    obtain rfl := lx0 ex
    have h : (isNatural x0 32) = true := ha
    obtain ⟨x0, rfl, hn0⟩ := nat_of h
    exact ⟨rfl, _, _, _, _, _, .op (by decide) (.l (.lg x0)) rfl⟩
  rw [if_neg e23] at hs
  by_cases e24 : p = 24
  · subst e24
    rw [if_pos rfl] at hs
    injection Option.some.inj hs with ea ex
    obtain ⟨x0, x1, rfl⟩ := ln2 ea
    obtain rfl := lx0 ex
    have h : (isNatural x0 32 && isNatural x1 32) = true := ha
    simp only [Bool.and_eq_true] at h
    obtain ⟨x0, rfl, hn0⟩ := nat_of h.1
    obtain ⟨x1, rfl, hn1⟩ := nat_of h.2
    exact ⟨rfl, _, _, _, _, _, .op (by decide) (.l (.ca x0 x1)) rfl⟩
  rw [if_neg e24] at hs
  by_cases e25 : p = 25
  · subst e25
    rw [if_pos rfl] at hs
    injection Option.some.inj hs with ea ex
    obtain ⟨x0, x1, rfl⟩ := ln2 ea
    obtain rfl := lx0 ex
    have h : (isNatural x0 32 && isNatural x1 32) = true := ha
    simp only [Bool.and_eq_true] at h
    obtain ⟨x0, rfl, hn0⟩ := nat_of h.1
    obtain ⟨x1, rfl, hn1⟩ := nat_of h.2
    exact ⟨rfl, _, _, _, _, _, .op (by decide) (.l (.oa x0 x1)) rfl⟩
  rw [if_neg e25] at hs
  by_cases e26 : p = 26
  · subst e26
    rw [if_pos rfl] at hs
    injection Option.some.inj hs with ea ex
    obtain ⟨x0, rfl⟩ := ln1 ea
    obtain rfl := lx0 ex
    have h : (isNatural x0 32) = true := ha
    obtain ⟨x0, rfl, hn0⟩ := nat_of h
    exact ⟨rfl, _, _, _, _, _, .op (by decide) (.l (.ov x0)) rfl⟩
  rw [if_neg e26] at hs
  by_cases e27 : p = 27
  · subst e27
    rw [if_pos rfl] at hs
    injection Option.some.inj hs with ea ex
    obtain ⟨x0, rfl⟩ := ln1 ea
    obtain rfl := lx0 ex
    have h : (isNatural x0 32) = true := ha
    obtain ⟨x0, rfl, hn0⟩ := nat_of h
    exact ⟨rfl, _, _, _, _, _, .op (by decide) (.l (.hs x0)) rfl⟩
  rw [if_neg e27] at hs
  by_cases e28 : p = 28
  · subst e28
    rw [if_pos rfl] at hs
    injection Option.some.inj hs with ea ex
    obtain rfl := ln0 ea
    obtain rfl := lx0 ex
    exact ⟨rfl, _, _, _, _, _, .op (by decide) (.c) rfl⟩
  rw [if_neg e28] at hs
  by_cases e29 : p = 29
  · subst e29
    rw [if_pos rfl] at hs
    injection Option.some.inj hs with ea ex
    obtain ⟨x0, x1, x2, rfl⟩ := ln3 ea
    obtain rfl := lx0 ex
    have h : (isNatural x0 32 && isNatural x1 32 && isNatural x2 32) = true := ha
    simp only [Bool.and_eq_true] at h
    obtain ⟨x0, rfl, hn0⟩ := nat_of h.1.1
    obtain ⟨x1, rfl, hn1⟩ := nat_of h.1.2
    obtain ⟨x2, rfl, hn2⟩ := nat_of h.2
    exact ⟨rfl, _, _, _, _, _, .op (by decide) (.l (.mf x0 x1 x2 hn2)) rfl⟩
  rw [if_neg e29] at hs
  by_cases e30 : p = 30
  · subst e30
    rw [if_pos rfl] at hs
    injection Option.some.inj hs with ea ex
    obtain rfl := ln0 ea
    obtain rfl := lx0 ex
    exact ⟨rfl, _, _, _, _, _, .op (by decide) (.l .gs) rfl⟩
  rw [if_neg e30] at hs
  cases hs
theorem opa_nc {o : Int} {ns al vl : List Int} {op : Operation} (h : OpA o ns al vl op) : ∀ n, op ≠ .create n := by
  intro n
  cases h with
  | put => exact Operation.noConfusion
  | c => exact Operation.noConfusion
  | e h => cases h <;> exact Operation.noConfusion
  | n h => cases h <;> exact Operation.noConfusion
  | j h => cases h <;> exact Operation.noConfusion
  | l h => cases h <;> exact Operation.noConfusion
theorem exec_none {op : Operation} (h : ∀ n, op ≠ .create n) : Kvg9.execute none op = (none, .error (-11)) := by
  cases op with
  | create n => exact absurd rfl (h n)
  | _ => rfl
theorem ans_op {st : Option Store} {c : List (List Int)} {o : Int} {ns al vl : List Int} {op : Operation} (hg : ∀ s, st = some s → GoodS s) (h : OpA o ns al vl op) (he : operationOf c = some op) : ∃ r, AnsR st o ns al vl (step st c).1 r ∧ (step st c).2 = Kvg9Neutral.resultRow r := by
  have e : step st c = ((Kvg9.execute st op).1, Kvg9Neutral.resultRow (Kvg9.execute st op).2) := by
    unfold Kvg9Neutral.step
    rw [he]
  rw [e]
  cases st with
  | none =>
    rw [exec_none (opa_nc h)]
    exact ⟨_, .no (opa_ne h), rfl⟩
  | some s => exact ⟨_, .op h (run_good (hg s rfl) h), rfl⟩
theorem ans_cr (st : Option Store) (n : Nat) : ∃ r, AnsR st 0 [(n : Int)] [] [] (step st [[0, (n : Int)]]).1 r ∧ (step st [[0, (n : Int)]]).2 = Kvg9Neutral.resultRow r := by
  by_cases c : 8 < n
  · cases st with
    | none =>
      have e : step none [[0, (n : Int)]] = (none, Kvg9Neutral.resultRow (.error (-22))) := by
        show ((Kvg9.execute none (.create n)).1, Kvg9Neutral.resultRow (Kvg9.execute none (.create n)).2) = _
        have e2 : Kvg9.execute none (.create n) = (none, .error (-22)) := by
          have q : (Store.mk 0 [some ⟨[], []⟩] [(0, 0)] [] 0 []).run (.create n) = ((Store.mk 0 [some ⟨[], []⟩] [(0, 0)] [] 0 []), .error (-22)) := if_pos c
          show (if ((Store.mk 0 [some ⟨[], []⟩] [(0, 0)] [] 0 []).run (.create n)).2.code < 0 then (none, ((Store.mk 0 [some ⟨[], []⟩] [(0, 0)] [] 0 []).run (.create n)).2) else (some ((Store.mk 0 [some ⟨[], []⟩] [(0, 0)] [] 0 []).run (.create n)).1, ((Store.mk 0 [some ⟨[], []⟩] [(0, 0)] [] 0 []).run (.create n)).2)) = _
          rw [q] <;> rfl
        rw [e2]
      rw [e]
      exact ⟨_, .big none n c, rfl⟩
    | some s =>
      have e : step (some s) [[0, (n : Int)]] = (some s, Kvg9Neutral.resultRow (.error (-22))) := by
        show ((Kvg9.execute (some s) (.create n)).1, Kvg9Neutral.resultRow (Kvg9.execute (some s) (.create n)).2) = _
        have e2 : Kvg9.execute (some s) (.create n) = (some s, .error (-22)) := by
          show (some (if 8 < n then (s, .error (-22)) else (newS n, .number 0) : Store × Response).1, (if 8 < n then (s, .error (-22)) else (newS n, .number 0) : Store × Response).2) = _
          rw [if_pos c]
        rw [e2]
      rw [e]
      exact ⟨_, .big (some s) n c, rfl⟩
  · have e2 : Kvg9.execute st (.create n) = (some (newS n), .number 0) := by
      cases st with
      | none =>
        have q : (Store.mk 0 [some ⟨[], []⟩] [(0, 0)] [] 0 []).run (.create n) = (newS n, .number 0) := if_neg c
        show (if ((Store.mk 0 [some ⟨[], []⟩] [(0, 0)] [] 0 []).run (.create n)).2.code < 0 then (none, ((Store.mk 0 [some ⟨[], []⟩] [(0, 0)] [] 0 []).run (.create n)).2) else (some ((Store.mk 0 [some ⟨[], []⟩] [(0, 0)] [] 0 []).run (.create n)).1, ((Store.mk 0 [some ⟨[], []⟩] [(0, 0)] [] 0 []).run (.create n)).2)) = _
        rw [q] <;> rfl
      | some s =>
        show (some (if 8 < n then (s, .error (-22)) else (newS n, .number 0) : Store × Response).1, (if 8 < n then (s, .error (-22)) else (newS n, .number 0) : Store × Response).2) = _
        rw [if_neg c]
    have e : step st [[0, (n : Int)]] = (some (newS n), Kvg9Neutral.resultRow (.number 0)) := by
      show ((Kvg9.execute st (.create n)).1, Kvg9Neutral.resultRow (Kvg9.execute st (.create n)).2) = _
      rw [e2]
    rw [e]
    exact ⟨_, .new st n (by omega), rfl⟩
theorem ansr_good {st st' : Option Store} {o : Int} {ns al vl : List Int} {r : Response} (h : AnsR st o ns al vl st' r) (hg : ∀ s, st = some s → GoodS s) : ∀ s, st' = some s → GoodS s := by
  cases h with
  | big _ n h => exact hg
  | new _ n h =>
    intro s e
    cases e
    exact new_good h
  | no h => exact hg
  | op h g =>
    intro s e
    cases e
    exact g
/-! places -/
theorem drop_at {l r : List Int} {a : Nat} {p : Int} (h : l.drop a = p :: r) : l[a]? = some p ∧ l.drop (a + 1) = r ∧ l.length = a + 1 + r.length := by
  have e0 : (l.drop a)[0]? = some p := by rw [h] <;> rfl
  rw [List.getElem?_drop, Nat.add_zero] at e0
  have e1 : (l.drop a).drop 1 = r := by rw [h] <;> rfl
  rw [List.drop_drop] at e1
  have hl := congrArg List.length h
  rw [List.length_drop, List.length_cons] at hl
  exact ⟨e0, e1, by omega⟩
theorem shape_sz : ∀ o : Nat, o ≠ 1 → ∀ n k, PyKvg9.shape (o : Int) = some (n, k) → k = 0 ∧ szs[o]? = some (n : Int) := by
  intro o h1 n k h
  by_cases c : o < 31
  · have main : ∀ o : Fin 31, o.val ≠ 1 → PyKvg9.shape (o.val : Int) = (szs[o.val]?).map fun z => (z.toNat, 0) := by decide
    have e := main ⟨o, c⟩ h1
    have e : PyKvg9.shape (o : Int) = (szs[o]?).map fun z => (z.toNat, 0) := e
    have sz : ∀ o : Fin 31, ∃ z : Nat, szs[o.val]? = some (z : Int) := fun o => by
      have m : ∀ o : Fin 31, szs[o.val]? = some (((szs[o.val]?.getD 0).toNat : Nat) : Int) := by decide
      exact ⟨_, m o⟩
    obtain ⟨z, hz⟩ := sz ⟨o, c⟩
    have hz : szs[o]? = some (z : Int) := hz
    rw [hz] at e ⊢
    rw [e] at h
    have h := Option.some.inj h
    injection h with h2 h3
    have h2 : ((z : Int)).toNat = n := h2
    exact ⟨h3.symm, by congr 1; omega⟩
  · have e : PyKvg9.shape (o : Int) = none := by
      unfold PyKvg9.shape
      have f : ∀ k : Nat, k < 31 → ¬ (o : Int) = (k : Int) := fun k hk => by omega
      repeat rw [if_neg (by omega)]
    rw [e] at h
    cases h
theorem put_place {l t : List Int} {a : Nat} {id : Int} {al vl : List Int} (h : l.drop a = 1 :: id :: (al.length : Int) :: (al ++ ((vl.length : Int) :: (vl ++ t)))) : l[a]? = some 1 ∧ PutAt l a id al vl ∧ l.drop (a + 4 + al.length + vl.length) = t := by
  have hl := congrArg List.length h
  rw [List.length_drop] at hl
  simp only [List.length_cons, List.length_append] at hl
  have at_ : ∀ k, l[a + k]? = (1 :: id :: (al.length : Int) :: (al ++ ((vl.length : Int) :: (vl ++ t))))[k]? := fun k => by rw [← h, List.getElem?_drop]
  have dr : ∀ k, l.drop (a + k) = (1 :: id :: (al.length : Int) :: (al ++ ((vl.length : Int) :: (vl ++ t)))).drop k := fun k => by rw [← h, List.drop_drop]
  have d3 : l.drop (a + 3) = al ++ ((vl.length : Int) :: (vl ++ t)) := dr 3
  have d4 : l.drop (a + 4 + al.length) = vl ++ t := by
    have e : a + 4 + al.length = (a + 3) + (al.length + 1) := by omega
    rw [e, ← List.drop_drop, d3, List.drop_append]
    simp
  refine ⟨by have := at_ 0; simpa using this, ⟨by have := at_ 1; simpa using this, by have := at_ 2; simpa using this, ?_, ?_, ?_, by omega⟩, ?_⟩
  · have e : l[a + 3 + al.length]? = (l.drop (a + 3))[al.length]? := by rw [List.getElem?_drop]
    rw [e, d3, List.getElem?_append_right (Nat.le_refl _), Nat.sub_self] <;> rfl
  · rw [d3, List.take_append_of_le_length (Nat.le_refl _), List.take_length]
  · rw [d4, List.take_append_of_le_length (Nat.le_refl _), List.take_length]
  · rw [← List.drop_drop, d4, List.drop_append]
    simp
theorem call_place {l r t : List Int} {a : Nat} {p : Int} {c : List (List Int)} {o : Int} {ns al vl : List Int} {op : Operation} (hd : l.drop a = p :: r) (hc : PyFlat.call PyKvg9.shape (p :: r) = some (c, t)) (hk : AskC c o ns al vl op) : ∃ b, a < b ∧ b ≤ l.length ∧ l.drop b = t ∧ CallAt l a o ns al vl b := by
  obtain ⟨d1, d2, d3⟩ := drop_at hd
  obtain ⟨q1, q2⟩ := PyFlat.call_inv hc
  have oth : ∀ (o : Nat) (ns : List Int), o ≠ 1 → c = [(o : Int) :: ns] → ∃ b, a < b ∧ b ≤ l.length ∧ l.drop b = t ∧ CallAt l a o ns [] [] b := by
    intro o ns h1 e
    subst e
    obtain ⟨p', a', xs, e, hs⟩ := q2
    injection e with e1 e2
    injection e1 with e3 e4
    subst e3 e4 e2
    have hz := (shape_sz o h1 _ _ hs).2
    have q1 : p :: r = ((o : Int) :: ns ++ []) ++ t := q1
    rw [List.append_nil, List.cons_append] at q1
    injection q1 with q3 q4
    subst q3
    have hrl : r.length = ns.length + t.length := by rw [q4, List.length_append]
    refine ⟨a + 1 + ns.length, by omega, by omega, ?_, .oth d1 h1 hz ?_ (by omega)⟩
    · rw [← List.drop_drop, d2, q4, List.drop_append]
      simp
    · rw [d2, q4, List.take_append_of_le_length (Nat.le_refl _), List.take_length]
  cases hk with
  | cr m => exact oth 0 _ (by decide) rfl
  | @op o ns _ ho h he =>
    have hnn : ∃ m : Nat, o = (m : Int) := by
      refine ⟨o.toNat, ?_⟩
      cases h with
      | e h => have := ope_rng h; omega
      | n h => have := opn_rng h; omega
      | j h => have := opj_rng h; omega
      | c => rfl
      | l h => have := opl_rng h; omega
      | put => exact absurd rfl ho
    obtain ⟨m, rfl⟩ := hnn
    exact oth m ns (by omega) rfl
  | put id al vl h1 h2 =>
    have q1 : p :: r = ([1, (id : Int)] ++ (((al.length : Int) :: al) ++ (((vl.length : Int) :: vl) ++ []))) ++ t := q1
    have e : l.drop a = 1 :: (id : Int) :: (al.length : Int) :: (al ++ ((vl.length : Int) :: (vl ++ t))) := by
      rw [hd, q1]
      simp
    obtain ⟨p1, p2, p3⟩ := put_place e
    exact ⟨_, by omega, p2.h6, p3, .put p1 p2⟩
theorem run_of : ∀ (f : Nat) (l r : List Int) (a : Nat) (st : Option Store) (raw : List (List (List Int))), a ≤ l.length → l.drop a = r → PyFlat.calls PyKvg9.shape f r = some raw → (∀ c ∈ raw, ∃ o ns al vl op, AskC c o ns al vl op) → (∀ s, st = some s → GoodS s) → Run l a st (PyFlat.told (PyFlat.played step st raw)) := by
  intro f
  induction f with
  | zero =>
    intro l r a st raw hle hd hc hk hg
    cases r with
    | nil =>
      have e : a = l.length := by
        have := congrArg List.length hd
        rw [List.length_drop, List.length_nil] at this
        omega
      have e2 : raw = [] := (Option.some.inj hc).symm
      subst e e2
      exact .done st
    | cons p r => cases hc
  | succ f ih =>
    intro l r a st raw hle hd hc hk hg
    cases r with
    | nil =>
      have e : a = l.length := by
        have := congrArg List.length hd
        rw [List.length_drop, List.length_nil] at this
        omega
      have e2 : raw = [] := (Option.some.inj hc).symm
      subst e e2
      exact .done st
    | cons p r =>
      have hc : (match PyFlat.call PyKvg9.shape (p :: r) with
        | none => none
        | some (c, t) => match PyFlat.calls PyKvg9.shape f t with
          | none => none
          | some cs => some (c :: cs)) = some raw := hc
      cases h1 : PyFlat.call PyKvg9.shape (p :: r) with
      | none => rw [h1] at hc; cases hc
      | some ct =>
        obtain ⟨c, t⟩ := ct
        rw [h1] at hc
        simp only at hc
        cases h2 : PyFlat.calls PyKvg9.shape f t with
        | none => rw [h2] at hc; cases hc
        | some cs =>
          rw [h2] at hc
          have hc := Option.some.inj hc
          subst hc
          obtain ⟨o, ns, al, vl, op, hkc⟩ := hk c List.mem_cons_self
          obtain ⟨b, b1, b2, b3, hat⟩ := call_place hd h1 hkc
          have han : ∃ r, AnsR st o ns al vl (step st c).1 r ∧ (step st c).2 = Kvg9Neutral.resultRow r := by
            cases hkc with
            | cr n => exact ans_cr st n
            | op ho h he => exact ans_op hg h he
            | put id _ _ g1 g2 => exact ans_op hg (.put id al vl g1 g2) rfl
          obtain ⟨rr, hA, er⟩ := han
          have k := ih l t b (step st c).1 cs b2 b3 h2 (fun d hd => hk d (List.mem_cons_of_mem _ hd)) (ansr_good hA hg)
          have e : PyFlat.told (PyFlat.played step st (c :: cs)) = ((Kvg9Neutral.resultRow rr).length : Int) :: (Kvg9Neutral.resultRow rr ++ PyFlat.told (PyFlat.played step (step st c).1 cs)) := by
            show List.flatMap _ ((step st c).2 :: _) = _
            rw [List.flatMap_cons, er] <;> rfl
          rw [e]
          exact .step (by omega) b1 hat hA k
theorem law_run {l : List Int} (h : PyKvg9.answers_asked l = true) : Run l 0 none (PyKvg9.answers l) ∧ (PyKvg9.answers l).length ≤ 10000000 := by
  unfold PyKvg9.answers_asked at h
  cases hc : PyFlat.calls PyKvg9.shape l.length l with
  | none => rw [hc] at h; cases h
  | some raw =>
    rw [hc] at h
    simp only [Bool.and_eq_true] at h
    obtain ⟨⟨⟨⟨h1, h2⟩, h3⟩, h4⟩, h5⟩ := h
    unfold Kvg9Neutral.asked at h4
    simp only [Bool.and_eq_true] at h4
    have ok := (PyFlat.put_calls l.length l raw hc).2
    have hk2 : ∀ c ∈ raw, PyKvg9.whole c = c ∧ ∃ o ns al vl op, AskC c o ns al vl op := fun c hm => ask_ok (ok c hm) (List.all_eq_true.mp h4.2 _ (List.mem_map.mpr ⟨c, hm, rfl⟩))
    have ew : raw.map PyKvg9.whole = raw := by
      have e : raw.map PyKvg9.whole = raw.map id := List.map_congr_left fun c hm => (hk2 c hm).1
      rw [e, List.map_id]
    have hk : ∀ c ∈ raw, ∃ o ns al vl op, AskC c o ns al vl op := fun c hm => (hk2 c hm).2
    have ea : PyKvg9.answers l = PyFlat.told (PyFlat.played step none raw) := by
      unfold PyKvg9.answers PyKvg9.calls
      rw [hc]
      simp only [ew] <;> rfl
    refine ⟨?_, of_decide_eq_true h5⟩
    rw [ea]
    exact run_of l.length l l 0 none raw (Nat.zero_le _) rfl hc hk (fun s z => by cases z)
end Pv
namespace Pv
open PySem PySem.Spec PyProof.Rows L2
open PySem.W (WData Codec OpenSpec Well WellAll ReadsW ReadsAllW)
/-- as walk_spec, the written part by what the head tells -/
theorem walk_spec2 {r : OpenSpec} {k : Nat} {q : Program} {loose : List Str} {XP : (Str → Option Value) → Heap → Prop} {YP : World → Heap → Prop} {d : DefRec} {ps : List Str}
    (hwell : r.wellSaid = true) (hdf : d.params.defaults = []) (hlen : r.args.length = ps.length) (hr : Room k callerA)
    (F : ∀ (w : World) (mg : Str → Option Value) (fa : Addr) (h : Heap), YP w h → h.Ns mainGlobals mg → mg d.name = some (.ref fa) →
      ∃ (K : Fg) (fd : FuncData) (sp : Sp), K.In h ∧ (∀ (s : Shared) (us : List Value), us.length = ps.length → BindsTo s fd ⟨us, []⟩ (ps.zip us)) ∧
        (∀ base : Heap, K.In base → base.Ns mainGlobals mg → FnOk r.prog w K mg base CX0 k fa fd ps sp) ∧
        ∀ (H : Hp) (xs : List V) (a : Codec.denoteAll r.args), OnlyF H → Codec.withinAll r.args a = true → Codec.app r.args r.asked a = true → DwAll K H xs (Codec.encAll r.args a) →
          sp xs H (fun v H' => Dw K H' v (r.ret.enc (Codec.app r.args r.f a))) fun _ _ _ => False) :
    PySem.W.WalkOS q loose XP YP r d [] (fun f vs => PySem.call f vs) := by
  intro w s₀ s₁ mg mb G Y fa o pm cd doc dV kV ho hd hcd hD hmg hg args vals as hpre hlay hrd hwl hlo
  obtain ⟨a, e1, e2⟩ := PySem.W.os_pre_some hpre
  obtain ⟨e3, hwi⟩ := Codec.encAll_of_decAll r.args args a e1
  subst e3
  obtain ⟨K, fd, sp, KX, hb, hF, hsp⟩ := F w mg fa _ Y G.T.g hmg
  refine PySem.W.enter_call (codeAny_mono (spec_call (R := []) (cl := classAt s₀.heap) (d0 := r.ret.enc (Codec.app r.args r.f a)) KX G.T.g G.T.b G.T.builtins G.T.nolimit hg hwl (pl_encAll _ _) (layable_weight hlay) hr hF hb (by rw [encAll_len]; exact hlen)
    (fun H xs hO hS => hsp H xs a hO hwi e2 hS) fun H e s' z => z) fun r' s' hq => ?_)
  obtain ⟨u, as', rfl, h1, h2, h3, h4⟩ := hq
  exact ⟨.inl ⟨u, _, as', rfl, fun _ => rfl, h1, (OpenSpec.post_iff hwell hwi _ _).mpr rfl, fun z => Bool.noConfusion (show false = true from z)⟩, h2, h3, h4⟩
theorem end_of {K : Fg} {H : Hp} {xs : List V} {l : List Int} {E : XK} (hd : DwAll K H xs [.list (l.map WData.int)]) (ha : PyKvg9.answers_asked l = true) : spP K 1 rAnswers xs H (fun v H' => Dw K H' v (.list ((PyKvg9.answers l).map WData.int))) E := by
  cases hd with
  | @cons v _ _ _ h1 h2 =>
    cases h2
    cases h1 with
    | @lst a ys _ hs hy =>
      have e := ints_dw l ys hy
      subst e
      obtain ⟨r1, r2⟩ := law_run ha
      refine ⟨H, [fz (l.map .int)], .list ((PyKvg9.answers l).map .int), rfl, Same.refl H, .cons (.inr (.inr ⟨a, l.map .int, l.map V.int, rfl, rfl, hs, dp_ints l⟩)) .nil, ⟨l, PyKvg9.answers l, r1, r2, rfl, rfl⟩, fun v G' H' s1 s2 s3 nw rd => ?_⟩
      obtain ⟨b, zs, rfl, q1, q2⟩ := rd.lst
      have e := ints_dp _ _ q2
      subst e
      exact .lst (SqL.of (s2 _ _ q1)) (dw_ints _)
end Pv
open PySem PySem.W PySem.Calls PyProof.Rows
theorem PySem.Challenge.cw_plotversions_s01_answers_holds : PySem.Challenge.rw_plotversions_s01_answers.Holds := by
  refine Pv.holds_of ?hc
  case hc =>
    refine Pv.walk_spec2 (k := 20) (ps := ["calls"]) (by decide +kernel) (by kernel_rfl) rfl ⟨rfl, by decide, by decide⟩ ?F
    intro w mg fa h Y ns hmg
    obtain ⟨K, hK, sy⟩ := Y
    have T : Pv.Tx K mg := ⟨sy, h, hK, ns⟩
    obtain ⟨fd, f1, f2, f3⟩ := Pv.c_answers (P := Pv.R.prog) (w := w) T
    have e : fa = He.ga K "answers" := by
      have z : mg "answers" = some (.ref fa) := hmg
      rw [f2] at z
      injection z with z
      injection z with z
      exact z.symm
    subst e
    refine ⟨K, fd, _, hK, f3, fun base _ _ => (f1 base).mono (by decide), ?_⟩
    rintro H xs ⟨l, u⟩ hO hw ha hd
    exact Pv.end_of hd (show PyKvg9.answers_asked l = true from ha)
