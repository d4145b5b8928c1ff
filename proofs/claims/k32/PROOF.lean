import PyProof.Rows.All
import Wide.All
import OpenK.AllK
import Wide.FinOn
import KE.KStateDown
import Lean
import HandS.ForMost
import HandS.Defaults
import HandS.Head0
import HandS.Head1
import HandS.Head2
import HandS.HeadEnd
import HandS.HeadHook1
import HandS.HeadHook2
import HandS.Star
import HandS.Zip
import HandS.Deep
import HandS.IsInst
import HandS.Wide
import HandS.Walk
import HandS.Flow
import HandS.Style
import KE.GoesEnum
import HandS.TupAny
import KE.KDictKeyed
import HandS.Iter
import HandS.DictComp
import KE.KDictCopyH
import KE.DataFind
import HandS.SortKw
import KE.DatumOrd
import HandS.ExcInit
import HandS.ForSpec
import PyProof.EqAt
import PyProof.EqKinds
import PyProof.TupleCall
import KE.OsGo
import HandS.Ends
import PyProof.Rows.NestShow
import PyProof.ReprLen
import HandS.SetFor
import HandS.Strs
import PySem.Challenge.RW_wirebeats_k32_whole_chains_and_beats
/-! Hd -/
set_option Elab.async false
set_option linter.all false
set_option maxRecDepth 100000
/-! The head: where each def of the text stands, what the top leaves of it, the facts by names. -/
namespace K32
open PySem PySem.Spec PyProof.Rows L2
abbrev Prg : Program := PySem.Challenge.pw_wirebeats_k32_whole_chains_and_beats
def top (i : Nat) : Stmt := PySem.Challenge.pw_wirebeats_k32_whole_chains_and_beats.main.body.getD i (.Pass ⟨0, 0, 0, 0⟩)
abbrev s_Looped_init : Stmt := inClass (top 6) 0
abbrev s_is_integer : Stmt := top 11
abbrev s_are_integers : Stmt := top 12
abbrev s_dot : Stmt := top 13
abbrev s_difference : Stmt := top 14
abbrev s_is_same : Stmt := top 15
abbrev s_count_points : Stmt := top 17
abbrev s_require_small : Stmt := top 18
abbrev s_is_inside : Stmt := top 19
abbrev s_is_point : Stmt := top 20
abbrev s_points_of : Stmt := top 21
abbrev s_reads_of : Stmt := top 23
abbrev s_require_plane : Stmt := top 24
abbrev s_words_in : Stmt := top 26
abbrev s_read_by : Stmt := top 27
abbrev s_Ranks_init : Stmt := inClass (top 28) 0
abbrev s_Ranks_readers : Stmt := inClass (top 28) 1
abbrev s_Ranks_go : Stmt := inClass (top 28) 2
abbrev s_Ranks_loop_left : Stmt := inClass (top 28) 3
abbrev s_Ranks_chain : Stmt := inClass (top 28) 4
abbrev s_ranked : Stmt := top 29
abbrev s_find_ranks : Stmt := top 30
abbrev s_is_word : Stmt := top 31
abbrev s_is_loop : Stmt := top 32
abbrev s_ranks_hold : Stmt := top 33
abbrev s_longest_chain : Stmt := top 34
abbrev s_is_weights : Stmt := top 36
abbrev s_require_weights : Stmt := top 37
abbrev s_is_vector : Stmt := top 38
abbrev s_beat_of : Stmt := top 39
abbrev s_reach_of : Stmt := top 41
abbrev s_span_of : Stmt := top 42
abbrev s_source_of : Stmt := top 44
abbrev s_gain_of : Stmt := top 45
abbrev s_plain_from : Stmt := top 46
abbrev s_arcs_of : Stmt := top 48
abbrev s_Numbers_init : Stmt := inClass (top 49) 0
abbrev s_Numbers_grow : Stmt := inClass (top 49) 1
abbrev s_Numbers_settle : Stmt := inClass (top 49) 2
abbrev s_Numbers_ring_behind : Stmt := inClass (top 49) 4
abbrev s_starts_or_ring : Stmt := top 51
abbrev s_find_starts : Stmt := top 52
abbrev s_law_opened : Stmt := top 54
abbrev s_law_draw : Stmt := top 55
abbrev s_law_one : Stmt := top 56
abbrev s_law_whole : Stmt := top 57
abbrev s_law_kinds : Stmt := top 58
abbrev s_law_vector : Stmt := top 59
abbrev s_law_near : Stmt := top 60
abbrev s_law_dot : Stmt := top 61
abbrev s_law_served : Stmt := top 62
abbrev s_law_grid : Stmt := top 63
abbrev s_law_box : Stmt := top 64
abbrev s_law_links : Stmt := top 65
abbrev s_law_is_loop : Stmt := top 66
abbrev s_law_is_chain : Stmt := top 67
abbrev s_law_told : Stmt := top 68
abbrev s_law_right : Stmt := top 69
abbrev s_law_served_right : Stmt := top 70
abbrev s_law : Stmt := top 71
def d_Looped_init : He.DefD := ⟨("Looped", some "__init__"), "__init__", "Looped.__init__", defArgs s_Looped_init, defBody s_Looped_init, defScope s_Looped_init, [], []⟩
def d_is_integer : He.DefD := ⟨("is_integer", none), "is_integer", "is_integer", defArgs s_is_integer, defBody s_is_integer, defScope s_is_integer, [], []⟩
def d_are_integers : He.DefD := ⟨("are_integers", none), "are_integers", "are_integers", defArgs s_are_integers, defBody s_are_integers, defScope s_are_integers, [], []⟩
def d_dot : He.DefD := ⟨("dot", none), "dot", "dot", defArgs s_dot, defBody s_dot, defScope s_dot, [], []⟩
def d_difference : He.DefD := ⟨("difference", none), "difference", "difference", defArgs s_difference, defBody s_difference, defScope s_difference, [], []⟩
def d_is_same : He.DefD := ⟨("is_same", none), "is_same", "is_same", defArgs s_is_same, defBody s_is_same, defScope s_is_same, [], []⟩
def d_count_points : He.DefD := ⟨("count_points", none), "count_points", "count_points", defArgs s_count_points, defBody s_count_points, defScope s_count_points, [], []⟩
def d_require_small : He.DefD := ⟨("require_small", none), "require_small", "require_small", defArgs s_require_small, defBody s_require_small, defScope s_require_small, [], []⟩
def d_is_inside : He.DefD := ⟨("is_inside", none), "is_inside", "is_inside", defArgs s_is_inside, defBody s_is_inside, defScope s_is_inside, [], []⟩
def d_is_point : He.DefD := ⟨("is_point", none), "is_point", "is_point", defArgs s_is_point, defBody s_is_point, defScope s_is_point, [], []⟩
def d_points_of : He.DefD := ⟨("points_of", none), "points_of", "points_of", defArgs s_points_of, defBody s_points_of, defScope s_points_of, [], []⟩
def d_reads_of : He.DefD := ⟨("reads_of", none), "reads_of", "reads_of", defArgs s_reads_of, defBody s_reads_of, defScope s_reads_of, [], []⟩
def d_require_plane : He.DefD := ⟨("require_plane", none), "require_plane", "require_plane", defArgs s_require_plane, defBody s_require_plane, defScope s_require_plane, [], []⟩
def d_words_in : He.DefD := ⟨("words_in", none), "words_in", "words_in", defArgs s_words_in, defBody s_words_in, defScope s_words_in, [], []⟩
def d_read_by : He.DefD := ⟨("read_by", none), "read_by", "read_by", defArgs s_read_by, defBody s_read_by, defScope s_read_by, [], []⟩
def d_Ranks_init : He.DefD := ⟨("Ranks", some "__init__"), "__init__", "Ranks.__init__", defArgs s_Ranks_init, defBody s_Ranks_init, defScope s_Ranks_init, [], []⟩
def d_Ranks_readers : He.DefD := ⟨("Ranks", some "readers"), "readers", "Ranks.readers", defArgs s_Ranks_readers, defBody s_Ranks_readers, defScope s_Ranks_readers, [], []⟩
def d_Ranks_go : He.DefD := ⟨("Ranks", some "go"), "go", "Ranks.go", defArgs s_Ranks_go, defBody s_Ranks_go, defScope s_Ranks_go, [], []⟩
def d_Ranks_loop_left : He.DefD := ⟨("Ranks", some "loop_left"), "loop_left", "Ranks.loop_left", defArgs s_Ranks_loop_left, defBody s_Ranks_loop_left, defScope s_Ranks_loop_left, [], []⟩
def d_Ranks_chain : He.DefD := ⟨("Ranks", some "chain"), "chain", "Ranks.chain", defArgs s_Ranks_chain, defBody s_Ranks_chain, defScope s_Ranks_chain, [], []⟩
def d_ranked : He.DefD := ⟨("ranked", none), "ranked", "ranked", defArgs s_ranked, defBody s_ranked, defScope s_ranked, [], []⟩
def d_find_ranks : He.DefD := ⟨("find_ranks", none), "find_ranks", "find_ranks", defArgs s_find_ranks, defBody s_find_ranks, defScope s_find_ranks, [], []⟩
def d_is_word : He.DefD := ⟨("is_word", none), "is_word", "is_word", defArgs s_is_word, defBody s_is_word, defScope s_is_word, [], []⟩
def d_is_loop : He.DefD := ⟨("is_loop", none), "is_loop", "is_loop", defArgs s_is_loop, defBody s_is_loop, defScope s_is_loop, [], []⟩
def d_ranks_hold : He.DefD := ⟨("ranks_hold", none), "ranks_hold", "ranks_hold", defArgs s_ranks_hold, defBody s_ranks_hold, defScope s_ranks_hold, [], []⟩
def d_longest_chain : He.DefD := ⟨("longest_chain", none), "longest_chain", "longest_chain", defArgs s_longest_chain, defBody s_longest_chain, defScope s_longest_chain, [], []⟩
def d_is_weights : He.DefD := ⟨("is_weights", none), "is_weights", "is_weights", defArgs s_is_weights, defBody s_is_weights, defScope s_is_weights, [], []⟩
def d_require_weights : He.DefD := ⟨("require_weights", none), "require_weights", "require_weights", defArgs s_require_weights, defBody s_require_weights, defScope s_require_weights, [], []⟩
def d_is_vector : He.DefD := ⟨("is_vector", none), "is_vector", "is_vector", defArgs s_is_vector, defBody s_is_vector, defScope s_is_vector, [], []⟩
def d_beat_of : He.DefD := ⟨("beat_of", none), "beat_of", "beat_of", defArgs s_beat_of, defBody s_beat_of, defScope s_beat_of, [], []⟩
def d_reach_of : He.DefD := ⟨("reach_of", none), "reach_of", "reach_of", defArgs s_reach_of, defBody s_reach_of, defScope s_reach_of, [], []⟩
def d_span_of : He.DefD := ⟨("span_of", none), "span_of", "span_of", defArgs s_span_of, defBody s_span_of, defScope s_span_of, [], []⟩
def d_source_of : He.DefD := ⟨("source_of", none), "source_of", "source_of", defArgs s_source_of, defBody s_source_of, defScope s_source_of, [], []⟩
def d_gain_of : He.DefD := ⟨("gain_of", none), "gain_of", "gain_of", defArgs s_gain_of, defBody s_gain_of, defScope s_gain_of, [], []⟩
def d_plain_from : He.DefD := ⟨("plain_from", none), "plain_from", "plain_from", defArgs s_plain_from, defBody s_plain_from, defScope s_plain_from, [], []⟩
def d_arcs_of : He.DefD := ⟨("arcs_of", none), "arcs_of", "arcs_of", defArgs s_arcs_of, defBody s_arcs_of, defScope s_arcs_of, [], []⟩
def d_Numbers_init : He.DefD := ⟨("Numbers", some "__init__"), "__init__", "Numbers.__init__", defArgs s_Numbers_init, defBody s_Numbers_init, defScope s_Numbers_init, [], []⟩
def d_Numbers_grow : He.DefD := ⟨("Numbers", some "grow"), "grow", "Numbers.grow", defArgs s_Numbers_grow, defBody s_Numbers_grow, defScope s_Numbers_grow, [], []⟩
def d_Numbers_settle : He.DefD := ⟨("Numbers", some "settle"), "settle", "Numbers.settle", defArgs s_Numbers_settle, defBody s_Numbers_settle, defScope s_Numbers_settle, [], []⟩
def d_Numbers_ring_behind : He.DefD := ⟨("Numbers", some "ring_behind"), "ring_behind", "Numbers.ring_behind", defArgs s_Numbers_ring_behind, defBody s_Numbers_ring_behind, defScope s_Numbers_ring_behind, [], []⟩
def d_starts_or_ring : He.DefD := ⟨("starts_or_ring", none), "starts_or_ring", "starts_or_ring", defArgs s_starts_or_ring, defBody s_starts_or_ring, defScope s_starts_or_ring, [], []⟩
def d_find_starts : He.DefD := ⟨("find_starts", none), "find_starts", "find_starts", defArgs s_find_starts, defBody s_find_starts, defScope s_find_starts, [], []⟩
def d_law_opened : He.DefD := ⟨("_law_opened", none), "_law_opened", "_law_opened", defArgs s_law_opened, defBody s_law_opened, defScope s_law_opened, [], []⟩
def d_law_draw : He.DefD := ⟨("_law_draw", none), "_law_draw", "_law_draw", defArgs s_law_draw, defBody s_law_draw, defScope s_law_draw, [], []⟩
def d_law_one : He.DefD := ⟨("_law_one", none), "_law_one", "_law_one", defArgs s_law_one, defBody s_law_one, defScope s_law_one, [], []⟩
def d_law_whole : He.DefD := ⟨("_law_whole", none), "_law_whole", "_law_whole", defArgs s_law_whole, defBody s_law_whole, defScope s_law_whole, [], []⟩
def d_law_kinds : He.DefD := ⟨("_law_kinds", none), "_law_kinds", "_law_kinds", defArgs s_law_kinds, defBody s_law_kinds, defScope s_law_kinds, [], []⟩
def d_law_vector : He.DefD := ⟨("_law_vector", none), "_law_vector", "_law_vector", defArgs s_law_vector, defBody s_law_vector, defScope s_law_vector, [], []⟩
def d_law_near : He.DefD := ⟨("_law_near", none), "_law_near", "_law_near", defArgs s_law_near, defBody s_law_near, defScope s_law_near, [], []⟩
def d_law_dot : He.DefD := ⟨("_law_dot", none), "_law_dot", "_law_dot", defArgs s_law_dot, defBody s_law_dot, defScope s_law_dot, [], []⟩
def d_law_served : He.DefD := ⟨("_law_served", none), "_law_served", "_law_served", defArgs s_law_served, defBody s_law_served, defScope s_law_served, [], []⟩
def d_law_grid : He.DefD := ⟨("_law_grid", none), "_law_grid", "_law_grid", defArgs s_law_grid, defBody s_law_grid, defScope s_law_grid, [], []⟩
def d_law_box : He.DefD := ⟨("_law_box", none), "_law_box", "_law_box", defArgs s_law_box, defBody s_law_box, defScope s_law_box, [], []⟩
def d_law_links : He.DefD := ⟨("_law_links", none), "_law_links", "_law_links", defArgs s_law_links, defBody s_law_links, defScope s_law_links, [], []⟩
def d_law_is_loop : He.DefD := ⟨("_law_is_loop", none), "_law_is_loop", "_law_is_loop", defArgs s_law_is_loop, defBody s_law_is_loop, defScope s_law_is_loop, [], []⟩
def d_law_is_chain : He.DefD := ⟨("_law_is_chain", none), "_law_is_chain", "_law_is_chain", defArgs s_law_is_chain, defBody s_law_is_chain, defScope s_law_is_chain, [], []⟩
def d_law_told : He.DefD := ⟨("_law_told", none), "_law_told", "_law_told", defArgs s_law_told, defBody s_law_told, defScope s_law_told, [], []⟩
def d_law_right : He.DefD := ⟨("_law_right", none), "_law_right", "_law_right", defArgs s_law_right, defBody s_law_right, defScope s_law_right, [], []⟩
def d_law_served_right : He.DefD := ⟨("_law_served_right", none), "_law_served_right", "_law_served_right", defArgs s_law_served_right, defBody s_law_served_right, defScope s_law_served_right, [], []⟩
def d_law : He.DefD := ⟨("law", none), "law", "law", defArgs s_law, defBody s_law, defScope s_law, [], []⟩
def fn : List He.DefD := [d_Looped_init, d_is_integer, d_are_integers, d_dot, d_difference, d_is_same, d_count_points, d_require_small, d_is_inside, d_is_point, d_points_of, d_reads_of, d_require_plane, d_words_in, d_read_by, d_Ranks_init, d_Ranks_readers, d_Ranks_go, d_Ranks_loop_left, d_Ranks_chain, d_ranked, d_find_ranks, d_is_word, d_is_loop, d_ranks_hold, d_longest_chain, d_is_weights, d_require_weights, d_is_vector, d_beat_of, d_reach_of, d_span_of, d_source_of, d_gain_of, d_plain_from, d_arcs_of, d_Numbers_init, d_Numbers_grow, d_Numbers_settle, d_Numbers_ring_behind, d_starts_or_ring, d_find_starts, d_law_opened, d_law_draw, d_law_one, d_law_whole, d_law_kinds, d_law_vector, d_law_near, d_law_dot, d_law_served, d_law_grid, d_law_box, d_law_links, d_law_is_loop, d_law_is_chain, d_law_told, d_law_right, d_law_served_right, d_law]
def fa : List He.Fa := [.int "MAX_POINTS" 240, .int "MAX_WEIGHT" 60, .free "isinstance", .free "len", .free "all", .free "sum", .free "zip", .free "tuple", .free "range", .free "enumerate", .free "max", .free "min", .free "list", .free "abs", .free "int", .free "str", .free "bool", .free "repr", .free "sorted", .free "set", .glo "is_integer", .glo "are_integers", .glo "dot", .glo "difference", .glo "is_same", .glo "count_points", .glo "require_small", .glo "is_inside", .glo "is_point", .glo "points_of", .glo "reads_of", .glo "require_plane", .glo "words_in", .glo "read_by", .glo "ranked", .glo "find_ranks", .glo "is_word", .glo "is_loop", .glo "ranks_hold", .glo "longest_chain", .glo "is_weights", .glo "require_weights", .glo "is_vector", .glo "beat_of", .glo "reach_of", .glo "span_of", .glo "source_of", .glo "gain_of", .glo "plain_from", .glo "arcs_of", .glo "starts_or_ring", .glo "find_starts", .glo "_law_opened", .glo "_law_draw", .glo "_law_one", .glo "_law_whole", .glo "_law_kinds", .glo "_law_vector", .glo "_law_near", .glo "_law_dot", .glo "_law_served", .glo "_law_grid", .glo "_law_box", .glo "_law_links", .glo "_law_is_loop", .glo "_law_is_chain", .glo "_law_told", .glo "_law_right", .glo "_law_served_right", .glo "law", .glo "Ranks", .cls "Ranks", .mkr "Ranks", .glo "Numbers", .cls "Numbers", .mkr "Numbers", .noat "Ranks" "links", .noat "Ranks" "ranks", .noat "Numbers" "heights", .noat "Numbers" "arcs", .noat "Numbers" "by", .noat "Numbers" "grown", .meth "Ranks" "readers", .meth "Ranks" "go", .meth "Ranks" "loop_left", .meth "Ranks" "chain", .meth "Numbers" "grow", .meth "Numbers" "settle", .meth "Numbers" "ring_behind"]
end K32
/-! Kt1 -/
set_option Elab.async false
set_option linter.all false
set_option maxRecDepth 100000
set_option maxHeartbeats 4000000
/-! Kit 1: data that stand in the heap (TD), what an expression evaluates to (Dn), defs in bundles (DefP). -/
namespace K32
open PySem PySem.Spec PyProof.Rows L2
abbrev Dt := PyData

/-! ### data in the abstract heap -/
mutual
inductive TD (H : Hp) : V → Dt → Prop
  | non : TD H .non .none
  | bl (b : Bool) : TD H (.bl b) (.bool b)
  | int (i : Int) : TD H (.int i) (.int i)
  | str (x : Str) : TD H (.str x) (.str x)
  | lst {a : Addr} {xs : List V} {ds : List Dt} : H a = some (.lst xs) → TDs H xs ds → TD H (.ref a) (.list ds)
  | tup {a : Addr} {xs : List V} {ds : List Dt} : H a = some (.tup xs) → TDs H xs ds → TD H (.ref a) (.tuple ds)
inductive TDs (H : Hp) : List V → List Dt → Prop
  | nil : TDs H [] []
  | cons {v : V} {vs : List V} {d : Dt} {ds : List Dt} : TD H v d → TDs H vs ds → TDs H (v :: vs) (d :: ds)
end
/-- all tuples are as they were -/
def KT (H H' : Hp) : Prop := ∀ a xs, H a = some (.tup xs) → H' a = some (.tup xs)
theorem KT.refl (H : Hp) : KT H H := fun _ _ h => h
theorem KT.trans {H H1 H2 : Hp} (a : KT H H1) (b : KT H1 H2) : KT H H2 := fun c xs h => b c xs (a c xs h)
theorem KT.of {H H' : Hp} (s : Same H H') : KT H H' := fun a xs h => s a _ h
mutual
/-- no list within -/
def flat : Dt → Bool
  | .none => true
  | .bool _ => true
  | .int _ => true
  | .str _ => true
  | .list _ => false
  | .tuple ds => flats ds
  | .dict _ => false
def flats : List Dt → Bool
  | [] => true
  | d :: ds => flat d && flats ds
end
section
variable {H H' : Hp} {v : V} {d : Dt} {vs : List V} {ds : List Dt}
mutual
theorem TD.sm (s : Same H H') : ∀ (d : Dt) (v : V), TD H v d → TD H' v d
  | .none, _, h => by cases h; exact .non
  | .bool _, _, h => by cases h; exact .bl _
  | .int _, _, h => by cases h; exact .int _
  | .str _, _, h => by cases h; exact .str _
  | .list ds, _, h => by
    cases h with
    | lst h1 h2 => exact .lst (s _ _ h1) (TDs.sm s ds _ h2)
  | .tuple ds, _, h => by
    cases h with
    | tup h1 h2 => exact .tup (s _ _ h1) (TDs.sm s ds _ h2)
  | .dict _, _, h => by cases h
theorem TDs.sm (s : Same H H') : ∀ (ds : List Dt) (vs : List V), TDs H vs ds → TDs H' vs ds
  | [], _, h => by cases h; exact .nil
  | d :: ds, _, h => by
    cases h with
    | cons h1 h2 => exact .cons (TD.sm s d _ h1) (TDs.sm s ds _ h2)
end
mutual
theorem TD.ktA (s : KT H H') : ∀ (d : Dt) (v : V), flat d = true → TD H v d → TD H' v d
  | .none, _, _, h => by cases h; exact .non
  | .bool _, _, _, h => by cases h; exact .bl _
  | .int _, _, _, h => by cases h; exact .int _
  | .str _, _, _, h => by cases h; exact .str _
  | .list ds, _, f, h => by simp [flat] at f
  | .tuple ds, _, f, h => by
    cases h with
    | tup h1 h2 => exact .tup (s _ _ h1) (TDs.ktA s ds _ (by simpa [flat] using f) h2)
  | .dict _, _, _, h => by cases h
theorem TDs.ktA (s : KT H H') : ∀ (ds : List Dt) (vs : List V), flats ds = true → TDs H vs ds → TDs H' vs ds
  | [], _, _, h => by cases h; exact .nil
  | d :: ds, _, f, h => by
    have f' : flat d = true ∧ flats ds = true := by simpa [flats] using f
    cases h with
    | cons h1 h2 => exact .cons (TD.ktA s d _ f'.1 h1) (TDs.ktA s ds _ f'.2 h2)
end
theorem TD.s (s : Same H H') (h : TD H v d) : TD H' v d := TD.sm s d v h
theorem TDs.s (s : Same H H') (h : TDs H vs ds) : TDs H' vs ds := TDs.sm s ds vs h
theorem TD.k (s : KT H H') (f : flat d = true) (h : TD H v d) : TD H' v d := TD.ktA s d v f h
theorem TDs.k (s : KT H H') (f : flats ds = true) (h : TDs H vs ds) : TDs H' vs ds := TDs.ktA s ds vs f h
mutual
theorem TD.dpA {K : PySem.W.Frag} : ∀ (d : Dt) (v : V), TD H v d → Dp K H v d
  | .none, _, h => by cases h; exact .non
  | .bool _, _, h => by cases h; exact .bl _
  | .int _, _, h => by cases h; exact .int _
  | .str _, _, h => by cases h; exact .str _
  | .list ds, _, h => by
    cases h with
    | lst h1 h2 => exact .lst (SqL.of h1) (TDs.dpA ds _ h2)
  | .tuple ds, _, h => by
    cases h with
    | tup h1 h2 => exact .tup (SqT.of h1) (TDs.dpA ds _ h2)
  | .dict _, _, h => by cases h
theorem TDs.dpA {K : PySem.W.Frag} : ∀ (ds : List Dt) (vs : List V), TDs H vs ds → DpAll K H vs ds
  | [], _, h => by cases h; exact .nil
  | d :: ds, _, h => by
    cases h with
    | cons h1 h2 => exact .cons (TD.dpA d _ h1) (TDs.dpA ds _ h2)
end
theorem TD.dp {K : PySem.W.Frag} (h : TD H v d) : Dp K H v d := TD.dpA d v h
theorem TDs.dp {K : PySem.W.Frag} (h : TDs H vs ds) : DpAll K H vs ds := TDs.dpA ds vs h
theorem TD.i {i : Int} (h : TD H v (.int i)) : v = .int i := by cases h; rfl
theorem TD.b {b : Bool} (h : TD H v (.bool b)) : v = .bl b := by cases h; rfl
theorem TD.st {x : Str} (h : TD H v (.str x)) : v = .str x := by cases h; rfl
theorem TD.t (h : TD H v (.tuple ds)) : ∃ a xs, v = .ref a ∧ H a = some (.tup xs) ∧ TDs H xs ds := by
  cases h with
  | tup h1 h2 => exact ⟨_, _, rfl, h1, h2⟩
theorem TD.l (h : TD H v (.list ds)) : ∃ a xs, v = .ref a ∧ H a = some (.lst xs) ∧ TDs H xs ds := by
  cases h with
  | lst h1 h2 => exact ⟨_, _, rfl, h1, h2⟩
theorem TDs.len : ∀ {vs : List V} {ds : List Dt}, TDs H vs ds → vs.length = ds.length
  | [], _, h => by cases h; rfl
  | _ :: _, _, h => by
    cases h with
    | cons _ h2 => simp [TDs.len h2]
theorem TDs.at : ∀ {vs : List V} {ds : List Dt} {i : Nat} {v : V}, TDs H vs ds → vs[i]? = some v → ∃ d, ds[i]? = some d ∧ TD H v d
  | [], _, _, _, h, e => by simp at e
  | _ :: _, _, 0, _, h, e => by
    cases h with
    | cons h1 h2 =>
      simp at e
      subst e
      exact ⟨_, rfl, h1⟩
  | _ :: _, _, i + 1, v, h, e => by
    cases h with
    | cons h1 h2 =>
      obtain ⟨d, e1, t⟩ := TDs.at (i := i) (v := v) h2 (by simpa using e)
      exact ⟨d, by simpa using e1, t⟩
theorem TDs.get : ∀ {vs : List V} {ds : List Dt} {i : Nat} {d : Dt}, TDs H vs ds → ds[i]? = some d → ∃ v, vs[i]? = some v ∧ TD H v d
  | [], _, _, _, h, e => by cases h; simp at e
  | _ :: _, _, 0, _, h, e => by
    cases h with
    | cons h1 h2 =>
      simp at e
      subst e
      exact ⟨_, rfl, h1⟩
  | _ :: _, _, i + 1, v, h, e => by
    cases h with
    | cons h1 h2 =>
      obtain ⟨d, e1, t⟩ := TDs.get (i := i) h2 (by simpa using e)
      exact ⟨d, by simpa using e1, t⟩
theorem TDs.app : ∀ {vs ws : List V} {ds es : List Dt}, TDs H vs ds → TDs H ws es → TDs H (vs ++ ws) (ds ++ es)
  | [], _, _, _, h, h' => by cases h; exact h'
  | _ :: _, _, _, _, h, h' => by
    cases h with
    | cons h1 h2 => exact .cons h1 (TDs.app h2 h')
theorem TDs.snoc (h : TDs H vs ds) (t : TD H v d) : TDs H (vs ++ [v]) (ds ++ [d]) := h.app (.cons t .nil)
theorem TDs.drop : ∀ {vs : List V} {ds : List Dt} (n : Nat), TDs H vs ds → TDs H (vs.drop n) (ds.drop n)
  | _, _, 0, h => h
  | [], _, _ + 1, h => by cases h; exact .nil
  | _ :: _, _, n + 1, h => by
    cases h with
    | cons h1 h2 => exact TDs.drop n h2
theorem TDs.take : ∀ {vs : List V} {ds : List Dt} (n : Nat), TDs H vs ds → TDs H (vs.take n) (ds.take n)
  | _, _, 0, h => .nil
  | [], _, _ + 1, h => by cases h; exact .nil
  | _ :: _, _, n + 1, h => by
    cases h with
    | cons h1 h2 => exact .cons h1 (TDs.take n h2)
theorem TDs.rev : ∀ {vs : List V} {ds : List Dt}, TDs H vs ds → TDs H vs.reverse ds.reverse
  | [], _, h => by cases h; exact .nil
  | _ :: _, _, h => by
    cases h with
    | cons h1 h2 =>
      rw [List.reverse_cons, List.reverse_cons]
      exact (TDs.rev h2).snoc h1
theorem TDs.ints : ∀ {vs : List V} {ns : List Int}, TDs H vs (ns.map .int) → vs = ns.map V.int
  | [], [], _ => rfl
  | [], _ :: _, h => by cases h
  | _ :: _, [], h => by cases h
  | v :: vs, n :: ns, h => by
    cases h with
    | cons h1 h2 => rw [h1.i, TDs.ints h2]; rfl
theorem TDs.bools : ∀ {vs : List V} {ns : List Bool}, TDs H vs (ns.map .bool) → vs = ns.map V.bl
  | [], [], _ => rfl
  | [], _ :: _, h => by cases h
  | _ :: _, [], h => by cases h
  | v :: vs, n :: ns, h => by
    cases h with
    | cons h1 h2 => rw [h1.b, TDs.bools h2]; rfl
theorem TDs.ofInts : ∀ (ns : List Int), TDs H (ns.map V.int) (ns.map .int)
  | [] => .nil
  | n :: ns => .cons (.int n) (TDs.ofInts ns)
theorem TDs.one (h : TDs H vs [d]) : ∃ v, vs = [v] ∧ TD H v d := by
  cases h with
  | cons h1 h2 => cases h2; exact ⟨_, rfl, h1⟩
theorem TDs.two {d2 : Dt} (h : TDs H vs [d, d2]) : ∃ v w, vs = [v, w] ∧ TD H v d ∧ TD H w d2 := by
  cases h with
  | cons h1 h2 =>
    obtain ⟨w, rfl, h3⟩ := h2.one
    exact ⟨_, _, rfl, h1, h3⟩
theorem TDs.three {d2 d3 : Dt} (h : TDs H vs [d, d2, d3]) : ∃ v w u, vs = [v, w, u] ∧ TD H v d ∧ TD H w d2 ∧ TD H u d3 := by
  cases h with
  | cons h1 h2 =>
    obtain ⟨w, u, rfl, h3, h4⟩ := h2.two
    exact ⟨_, _, _, rfl, h1, h3, h4⟩
theorem TDs.four {d2 d3 d4 : Dt} (h : TDs H vs [d, d2, d3, d4]) : ∃ v w u y, vs = [v, w, u, y] ∧ TD H v d ∧ TD H w d2 ∧ TD H u d3 ∧ TD H y d4 := by
  cases h with
  | cons h1 h2 =>
    obtain ⟨w, u, y, rfl, h3, h4, h5⟩ := h2.three
    exact ⟨_, _, _, _, rfl, h1, h3, h4, h5⟩
/-- fresh ahead is fresh behind; a new object leaves all as it was -/
theorem Same.new {p : Addr} {o : HO} (h : H p = none) : Same H (upd H p o) := fun a u e => by
  rw [upd_ne (ne_of_none e h)]
  exact e
theorem Same.mut {p : Addr} {o : HO} (e : Same H H') (h : H p = none) : Same H (upd H' p o) := fun a u ha => by
  rw [upd_ne (ne_of_none ha h)]
  exact e a u ha
theorem KT.mut {p : Addr} {o u : HO} (h : H p = some u) (n : ∀ xs, u ≠ .tup xs) : KT H (upd H p o) := fun a xs ha => by
  rw [upd_ne fun e => n xs (by rw [e, h] at ha; exact Option.some.inj ha)]
  exact ha
end

/-! ### what an expression evaluates to -/
def Dn (te : TE) (σ : L2.St) (H : Hp) (d : Dt) : Prop := ∀ H1, Same H H1 → ∀ Q : VK, (∀ v H2, Same H1 H2 → TD H2 v d → Q v H2) → te σ H1 Q
def DnT (tt : TT) (σ : L2.St) (H : Hp) (b : Bool) : Prop := ∀ H1, Same H H1 → ∀ Q : Bool → Hp → Prop, (∀ H2, Same H1 H2 → Q b H2) → tt σ H1 Q
def DnA (ta : TA) (σ : L2.St) (H : Hp) (ds : List Dt) : Prop := ∀ H1, Same H H1 → ∀ Q : List V → Hp → Prop, (∀ vs H2, Same H1 H2 → TDs H2 vs ds → Q vs H2) → ta σ H1 Q
def DnO (to : TO) (σ : L2.St) (H : Hp) (o : Option Int) : Prop := ∀ H1, Same H H1 → ∀ Q : Option Int → Hp → Prop, (∀ H2, Same H1 H2 → Q o H2) → to σ H1 Q
/-- a two-place operation, a call on values -/
def RD (r : R2) (d e z : Dt) : Prop := ∀ x y H, TD H x d → TD H y e → ∀ Q : VK, (∀ v H2, Same H H2 → TD H2 v z → Q v H2) → r x y H Q
def RDc (r : List V → Hp → VK → Prop) (ds : List Dt) (z : Dt) : Prop := ∀ xs H, TDs H xs ds → ∀ Q : VK, (∀ v H2, Same H H2 → TD H2 v z → Q v H2) → r xs H Q
section
variable {K : PySem.W.Frag} {σ : L2.St} {H H' : Hp} {ta tb te tx : TE} {t u : TT} {d e z : Dt} {v : V} {r : R2}
theorem Dn.mono (s : Same H H') (h : Dn te σ H d) : Dn te σ H' d := fun H1 a Q q => h H1 (s.trans a) Q q
theorem DnT.mono {b : Bool} (s : Same H H') (h : DnT t σ H b) : DnT t σ H' b := fun H1 a Q q => h H1 (s.trans a) Q q
theorem Dn.is {d' : Dt} (h : Dn te σ H d) (e : d = d') : Dn te σ H d' := e ▸ h
theorem DnT.is {b b' : Bool} (h : DnT t σ H b) (e : b = b') : DnT t σ H b' := e ▸ h
/-- at the goal -/
theorem Dn.go (h : Dn te σ H d) {Q : VK} (q : ∀ v H2, Same H H2 → TD H2 v d → Q v H2) : te σ H Q := h H (Same.refl H) Q q
theorem DnT.go {b : Bool} (h : DnT t σ H b) {Q : Bool → Hp → Prop} (q : ∀ H2, Same H H2 → Q b H2) : t σ H Q := h H (Same.refl H) Q q
theorem DnA.go {ta : TA} {ds : List Dt} (h : DnA ta σ H ds) {Q : List V → Hp → Prop} (q : ∀ vs H2, Same H H2 → TDs H2 vs ds → Q vs H2) : ta σ H Q := h H (Same.refl H) Q q
theorem dn_var {i : Nat} (h : σ[i]? = some (some v)) (t : TD H v d) : Dn (tVar i) σ H d := fun H1 s Q q => ⟨v, h, q v H1 (Same.refl H1) (t.s s)⟩
theorem dn_int {i : Int} : Dn (tC (.int i)) σ H (.int i) := fun H1 _ Q q => q _ H1 (Same.refl H1) (.int i)
theorem dn_str {x : Str} : Dn (tC (.str x)) σ H (.str x) := fun H1 _ Q q => q _ H1 (Same.refl H1) (.str x)
theorem dn_bl {b : Bool} : Dn (tC (.bl b)) σ H (.bool b) := fun H1 _ Q q => q _ H1 (Same.refl H1) (.bl b)
theorem dn_non : Dn (tC .non) σ H .none := fun H1 _ Q q => q _ H1 (Same.refl H1) .non
theorem dn_op (ha : Dn ta σ H d) (hb : Dn tb σ H e) (hr : RD r d e z) : Dn (tOp r ta tb) σ H z := fun H1 s Q q =>
  ha H1 s _ fun x H2 s2 t2 => hb H2 (s.trans s2) _ fun y H3 s3 t3 => hr x y H3 (t2.s s3) t3 Q fun v H4 s4 t4 => q v H4 ((s2.trans s3).trans s4) t4
theorem rd_I0 {g : Int → Int → V} {i j : Int} (hz : ∀ H, TD H (g i j) z) : RD (rI0 g) (.int i) (.int j) z := fun x y H tx ty Q q => ⟨i, j, tx.i, ty.i, q _ H (Same.refl H) (hz H)⟩
theorem rd_I {C : Int → Int → Prop} {g : Int → Int → V} {i j : Int} (hc : C i j) (hz : ∀ H, TD H (g i j) z) : RD (rI C g) (.int i) (.int j) z := fun x y H tx ty Q q => ⟨i, j, tx.i, ty.i, hc, q _ H (Same.refl H) (hz H)⟩
theorem dn_add {i j : Int} (ha : Dn ta σ H (.int i)) (hb : Dn tb σ H (.int j)) : Dn (tOp (rI0 fun i j => .int (i + j)) ta tb) σ H (.int (i + j)) := dn_op ha hb (rd_I0 fun _ => .int _)
theorem dn_sub {i j : Int} (ha : Dn ta σ H (.int i)) (hb : Dn tb σ H (.int j)) : Dn (tOp (rI0 fun i j => .int (i - j)) ta tb) σ H (.int (i - j)) := dn_op ha hb (rd_I0 fun _ => .int _)
theorem dn_mul {i j : Int} (ha : Dn ta σ H (.int i)) (hb : Dn tb σ H (.int j)) (hc : CMul i j) : Dn (tOp (rI CMul fun i j => .int (i * j)) ta tb) σ H (.int (i * j)) := dn_op ha hb (rd_I hc fun _ => .int _)
theorem dn_lt {i j : Int} (ha : Dn ta σ H (.int i)) (hb : Dn tb σ H (.int j)) : Dn (tOp (rI0 fun i j => .bl (decide (i < j))) ta tb) σ H (.bool (decide (i < j))) := dn_op ha hb (rd_I0 fun _ => .bl _)
theorem dn_le {i j : Int} (ha : Dn ta σ H (.int i)) (hb : Dn tb σ H (.int j)) : Dn (tOp (rI0 fun i j => .bl (decide (i ≤ j))) ta tb) σ H (.bool (decide (i ≤ j))) := dn_op ha hb (rd_I0 fun _ => .bl _)
theorem dn_gt {i j : Int} (ha : Dn ta σ H (.int i)) (hb : Dn tb σ H (.int j)) : Dn (tOp (rI0 fun i j => .bl (decide (j < i))) ta tb) σ H (.bool (decide (j < i))) := dn_op ha hb (rd_I0 fun _ => .bl _)
theorem dn_ge {i j : Int} (ha : Dn ta σ H (.int i)) (hb : Dn tb σ H (.int j)) : Dn (tOp (rI0 fun i j => .bl (decide (j ≤ i))) ta tb) σ H (.bool (decide (j ≤ i))) := dn_op ha hb (rd_I0 fun _ => .bl _)
theorem dn_eqI {i j : Int} (ha : Dn ta σ H (.int i)) (hb : Dn tb σ H (.int j)) : Dn (tOp rEq ta tb) σ H (.bool (decide (i = j))) := dn_op ha hb fun x y H tx ty Q q => by
  rw [tx.i, ty.i]
  refine ⟨rfl, ?_⟩
  have e : decide (V.int i = V.int j) = decide (i = j) := by simp
  rw [e]
  exact q _ H (Same.refl H) (.bl _)
theorem dn_neI {i j : Int} (ha : Dn ta σ H (.int i)) (hb : Dn tb σ H (.int j)) : Dn (tOp rNe ta tb) σ H (.bool (!decide (i = j))) := dn_op ha hb fun x y H tx ty Q q => by
  rw [tx.i, ty.i]
  refine ⟨rfl, ?_⟩
  have e : decide (V.int i = V.int j) = decide (i = j) := by simp
  rw [e]
  exact q _ H (Same.refl H) (.bl _)
theorem dn_eqS {i j : Str} (ha : Dn ta σ H (.str i)) (hb : Dn tb σ H (.str j)) : Dn (tOp rEq ta tb) σ H (.bool (decide (i = j))) := dn_op ha hb fun x y H tx ty Q q => by
  rw [tx.st, ty.st]
  refine ⟨rfl, ?_⟩
  have e : decide (V.str i = V.str j) = decide (i = j) := by simp
  rw [e]
  exact q _ H (Same.refl H) (.bl _)
theorem dn_neS {i j : Str} (ha : Dn ta σ H (.str i)) (hb : Dn tb σ H (.str j)) : Dn (tOp rNe ta tb) σ H (.bool (!decide (i = j))) := dn_op ha hb fun x y H tx ty Q q => by
  rw [tx.st, ty.st]
  refine ⟨rfl, ?_⟩
  have e : decide (V.str i = V.str j) = decide (i = j) := by simp
  rw [e]
  exact q _ H (Same.refl H) (.bl _)
theorem dn_eqD (ha : Dn ta σ H d) (hb : Dn tb σ H e) (sd : SeqAt.shaped d = true) (se : SeqAt.shaped e = true) : Dn (tOp (rEqD K) ta tb) σ H (.bool (PyData.eqv d e)) :=
  dn_op ha hb fun x y H tx ty Q q => ⟨d, e, tx.dp, ty.dp, sd, se, q _ H (Same.refl H) (.bl _)⟩
theorem dn_neD (ha : Dn ta σ H d) (hb : Dn tb σ H e) (sd : SeqAt.shaped d = true) (se : SeqAt.shaped e = true) : Dn (tOp (rNeD K) ta tb) σ H (.bool (!PyData.eqv d e)) :=
  dn_op ha hb fun x y H tx ty Q q => ⟨d, e, tx.dp, ty.dp, sd, se, q _ H (Same.refl H) (.bl _)⟩
theorem dn_neg {i : Int} (ha : Dn ta σ H (.int i)) : Dn (tUn (rU fun i => .int (-i)) ta) σ H (.int (-i)) := fun H1 s Q q =>
  ha H1 s _ fun x H2 s2 t2 => ⟨i, t2.i, q _ H2 s2 (.int _)⟩
theorem TDs.atI {xs : List V} {ds : List Dt} {i : Int} (h : TDs H xs ds) (a : L2.atI ds i = some d) : ∃ v, L2.atI xs i = some v ∧ TD H v d := by
  unfold L2.atI at a ⊢
  rw [← h.len] at a
  cases q : ixN xs.length i with
  | none => rw [q] at a; cases a
  | some j =>
    rw [q] at a
    exact h.get a
theorem dn_ixT {ds : List Dt} {i : Int} (ha : Dn ta σ H (.tuple ds)) (hb : Dn tb σ H (.int i)) (hi : L2.atI ds i = some d) : Dn (tOp (rIxT K) ta tb) σ H d :=
  dn_op ha hb fun x y H tx ty Q q => by
    obtain ⟨a, xs, rfl, h1, h2⟩ := tx.t
    obtain ⟨v, hv, tv⟩ := h2.atI hi
    exact ⟨a, xs, i, v, rfl, ty.i, SqT.of h1, hv, q v H (Same.refl H) tv⟩
theorem dn_ixL {ds : List Dt} {i : Int} (ha : Dn ta σ H (.list ds)) (hb : Dn tb σ H (.int i)) (hi : L2.atI ds i = some d) : Dn (tOp (rIxL K) ta tb) σ H d :=
  dn_op ha hb fun x y H tx ty Q q => by
    obtain ⟨a, xs, rfl, h1, h2⟩ := tx.l
    obtain ⟨v, hv, tv⟩ := h2.atI hi
    exact ⟨a, xs, i, v, rfl, ty.i, SqL.of h1, hv, q v H (Same.refl H) tv⟩
/-! tests -/
theorem dt_test {b : Bool} (h : Dn te σ H (.bool b)) : DnT (tTest te) σ H b := fun H1 s _ q => h H1 s _ fun v H2 s2 t2 => ⟨b, t2.b, q H2 s2⟩
theorem dt_B {b : Bool} (h : Dn te σ H (.bool b)) : DnT (tB te) σ H b := fun H1 s _ q => h H1 s _ fun v H2 s2 t2 => ⟨b, t2.b, q H2 s2⟩
theorem dt_and {a b : Bool} (h1 : DnT t σ H a) (h2 : a = true → DnT u σ H b) : DnT (tAnd t u) σ H (a && b) := fun H1 s Q q => h1 H1 s _ fun H2 s2 => by
  cases a with
  | true =>
    show u σ H2 Q
    exact h2 rfl H2 (s.trans s2) Q fun H3 s3 => q H3 (s2.trans s3)
  | false =>
    show Q false H2
    exact q H2 s2
theorem dt_or {a b : Bool} (h1 : DnT t σ H a) (h2 : a = false → DnT u σ H b) : DnT (tOr t u) σ H (a || b) := fun H1 s Q q => h1 H1 s _ fun H2 s2 => by
  cases a with
  | true =>
    show Q true H2
    exact q H2 s2
  | false =>
    show u σ H2 Q
    exact h2 rfl H2 (s.trans s2) Q fun H3 s3 => q H3 (s2.trans s3)
theorem dt_not {a : Bool} (h1 : DnT t σ H a) : DnT (tNot t) σ H (!a) := fun H1 s _ q => h1 H1 s _ fun H2 s2 => q H2 s2
theorem dn_andV {a b : Bool} (h1 : Dn ta σ H (.bool a)) (h2 : a = true → Dn tb σ H (.bool b)) : Dn (tAndV ta tb) σ H (.bool (a && b)) := fun H1 s Q q => h1 H1 s _ fun v H2 s2 t2 => ⟨a, t2.b, by
  cases a with
  | true =>
    show tb σ H2 Q
    exact h2 rfl H2 (s.trans s2) Q fun v H3 s3 t3 => q v H3 (s2.trans s3) t3
  | false =>
    show Q (.bl false) H2
    exact q _ H2 s2 (.bl _)⟩
theorem dn_orV {a b : Bool} (h1 : Dn ta σ H (.bool a)) (h2 : a = false → Dn tb σ H (.bool b)) : Dn (tOrV ta tb) σ H (.bool (a || b)) := fun H1 s Q q => h1 H1 s _ fun v H2 s2 t2 => ⟨a, t2.b, by
  cases a with
  | true =>
    show Q (.bl true) H2
    exact q _ H2 s2 (.bl _)
  | false =>
    show tb σ H2 Q
    exact h2 rfl H2 (s.trans s2) Q fun v H3 s3 t3 => q v H3 (s2.trans s3) t3⟩
theorem dn_notV {a : Bool} (h1 : Dn ta σ H (.bool a)) : Dn (tNotV ta) σ H (.bool (!a)) := fun H1 s _ q => h1 H1 s _ fun v H2 s2 t2 => ⟨a, t2.b, q _ H2 s2 (.bl _)⟩
theorem dn_if {b : Bool} (h : DnT t σ H b) (h1 : b = true → Dn ta σ H d) (h2 : b = false → Dn tb σ H d) : Dn (tIf t ta tb) σ H d := fun H1 s Q q => h H1 s _ fun H2 s2 => by
  cases b with
  | true =>
    show ta σ H2 Q
    exact h1 rfl H2 (s.trans s2) Q fun v H3 s3 t3 => q v H3 (s2.trans s3) t3
  | false =>
    show tb σ H2 Q
    exact h2 rfl H2 (s.trans s2) Q fun v H3 s3 t3 => q v H3 (s2.trans s3) t3
/-- a chain of two comparisons on ints -/
theorem dn_chain {tc : TE} {r r' : R2} {i j k : Int} {a b : Bool} (ha : Dn ta σ H (.int i)) (hb : Dn tb σ H (.int j)) (hc : Dn tc σ H (.int k)) (hr : RD r (.int i) (.int j) (.bool a)) (hr' : RD r' (.int j) (.int k) (.bool b)) :
    Dn (tChain r r' ta tb tc) σ H (.bool (a && b)) := fun H1 s Q q =>
  ha H1 s _ fun x H2 s2 t2 => hb H2 (s.trans s2) _ fun y H3 s3 t3 => hr x y H3 (t2.s s3) t3 _ fun v H4 s4 t4 => ⟨a, t4.b, by
    cases a with
    | true =>
      show tc σ H4 _
      exact hc H4 (((s.trans s2).trans s3).trans s4) _ fun zz H5 s5 t5 => hr' y zz H5 ((t3.s s4).s s5) t5 Q fun v H6 s6 t6 => q v H6 ((((s2.trans s3).trans s4).trans s5).trans s6) t6
    | false =>
      show Q (.bl false) H4
      exact q _ H4 ((s2.trans s3).trans s4) (.bl _)⟩
theorem rd_le {i j : Int} : RD (rI0 fun i j => .bl (decide (i ≤ j))) (.int i) (.int j) (.bool (decide (i ≤ j))) := rd_I0 fun _ => .bl _
theorem rd_lt {i j : Int} : RD (rI0 fun i j => .bl (decide (i < j))) (.int i) (.int j) (.bool (decide (i < j))) := rd_I0 fun _ => .bl _
/-! displays, arguments -/
theorem da_nil : DnA tNil σ H [] := fun H1 _ _ q => q _ H1 (Same.refl H1) .nil
theorem da_cons {tr : TA} {ds : List Dt} (h : Dn ta σ H d) (hr : DnA tr σ H ds) : DnA (tCons ta tr) σ H (d :: ds) := fun H1 s _ q =>
  h H1 s _ fun v H2 s2 t2 => hr H2 (s.trans s2) _ fun vs H3 s3 t3 => q _ H3 (s2.trans s3) (.cons (t2.s s3) t3)
theorem da_star {tr : TA} {ds es : List Dt} (h : Dn ta σ H (.tuple es)) (hr : DnA tr σ H ds) : DnA (StX.tStar K ta tr) σ H (es ++ ds) := fun H1 s _ q =>
  h H1 s _ fun v H2 s2 t2 => by
    obtain ⟨a, xs, rfl, h1, h2⟩ := t2.t
    exact ⟨a, xs, rfl, .inl (SqT.of h1), hr H2 (s.trans s2) _ fun vs H3 s3 t3 => q _ H3 (s2.trans s3) ((h2.s s3).app t3)⟩
theorem sz {n : Nat} (h : n ≤ 100000) : n ≤ sizeLine := Nat.le_trans h (by decide)
theorem szl {n : Nat} (h : n < 100000) : n < sizeLine := Nat.lt_of_lt_of_le h (by decide)
theorem dn_tup {ta : TA} {ds : List Dt} (h : DnA ta σ H ds) (hl : ds.length ≤ 100000) : Dn (tTup ta) σ H (.tuple ds) := fun H1 s _ q =>
  h H1 s _ fun vs H2 s2 t2 => ⟨by rw [t2.len]; exact sz hl, fun p hp => q _ _ (s2.trans (Same.new hp)) (.tup upd_same (t2.s (Same.new hp)))⟩
theorem dn_lst {ta : TA} {ds : List Dt} (h : DnA ta σ H ds) (hl : ds.length ≤ 100000) : Dn (tLst ta) σ H (.list ds) := fun H1 s _ q =>
  h H1 s _ fun vs H2 s2 t2 => ⟨by rw [t2.len]; exact sz hl, fun p hp => q _ _ (s2.trans (Same.new hp)) (.lst upd_same (t2.s (Same.new hp)))⟩
/-! slices -/
theorem do_none : DnO tNoPart σ H none := fun H1 _ _ q => q H1 (Same.refl H1)
theorem do_some {i : Int} (h : Dn te σ H (.int i)) : DnO (tPart te) σ H (some i) := fun H1 s _ q => h H1 s _ fun v H2 s2 t2 => ⟨i, t2.i, q H2 s2⟩
/-! calls of built-ins -/
theorem dn_cb {r : List V → Hp → VK → Prop} {ta : TA} {ds : List Dt} (h : DnA ta σ H ds) (hr : RDc r ds z) : Dn (tCB r ta) σ H z := fun H1 s Q q =>
  h H1 s _ fun vs H2 s2 t2 => hr vs H2 t2 Q fun v H3 s3 t3 => q v H3 (s2.trans s3) t3
end
end K32
/-! EnT -/
set_option Elab.async false
set_option linter.all false
set_option maxRecDepth 100000
set_option maxHeartbeats 4000000
/-! enumerate over a tuple, in the layer. -/
namespace K32
open PySem PySem.Spec PyProof.Rows
theorem meets_enumB {v : Value} {o : Obj} {H : Heap → Prop} (B : Begins v o H) :
    Meets (Builtin.«enumerate.__new__» ⟨[.type "enumerate", v], []⟩) (fun _ R s => H s.heap ∧
      R (.ok (.ret (.ref (s.heap.push o).objs.size))) { s with heap := (s.heap.push o).push { cls := .type "enumerate", data := .fields #[.none, .bool false, .ref s.heap.objs.size, rawInt 0, .none, .none] } }) :=
  .of_wp fun prog w A R s h => by
    obtain ⟨hp, g, d, tk, os⟩ := s; obtain ⟨h1, h⟩ := h
    have hsub := sub_enumerate
    have q1 : ∀ {A' : Around} {E : Value → Shared → Prop} {Q : Value → Shared → Prop}, Q (.ref hp.objs.size) ⟨hp.push o, g, d, tk, os⟩ → wpAny (model prog w) A' (pyIter v) Q E ⟨hp, g, d, tk, os⟩ :=
      fun q => B.iter prog w _ _ ⟨hp, g, d, tk, os⟩ _ h1 q
    wp_walk using q1
    refine wpAny_stack_any fun st => wpAny_pure ?_
    split
    · rename_i c _ _ _ _ _
      cases (c == Value.type "enumerate")
      · wp_walk using q1
        exact ⟨_, rfl, h⟩
      · wp_walk using q1
        exact ⟨_, rfl, h⟩
    · wp_walk using q1
      exact ⟨_, rfl, h⟩
section
variable {prog : Program} {w : World} {A : Around} {E : Value → Shared → Prop} {s : Shared}
theorem enum_begins1 {v : Value} {o : Obj} {H : Heap → Prop} {Q : Value → Shared → Prop} (B : Begins v o H) (h1 : H s.heap)
    (h : ∀ h', IsEnum h' (s.heap.objs.size + 1) s.heap.objs.size 0 .none → h'.get? s.heap.objs.size = some o → h'.objs.size = s.heap.objs.size + 2 →
      (∀ b o, s.heap.get? b = some o → h'.get? b = some o) → Q (.ref (s.heap.objs.size + 1)) { s with heap := h' }) :
    wpAny (model prog w) A (call (.type "enumerate") [v]) Q E s := by
  refine callType_new F.called_enumerate (by decide) (F.typeCall_enumerate_1 _) (F.newCall_enumerate_1 _) (fun obj => F.args_object_init_2 obj _) F.entry_enumerate_new
    (meets_enumB B) ⟨h1, ?_⟩
  have hz : (s.heap.push o).objs.size = s.heap.objs.size + 1 := Heap.size_push ..
  show _ ∧ _
  rw [hz]
  have he : IsEnum ((s.heap.push o).push { cls := .type "enumerate", data := .fields #[.none, .bool false, .ref s.heap.objs.size, rawInt 0, .none, .none] }) (s.heap.objs.size + 1) s.heap.objs.size 0 .none := by
    have := Heap.get?_push_size (s.heap.push o) (o := { cls := .type "enumerate", data := .fields #[.none, .bool false, .ref s.heap.objs.size, rawInt 0, .none, .none] }) rfl
    rw [hz] at this; exact this
  refine ⟨⟨_, he, rfl⟩, h _ he (Heap.get?_push_of_some _ (Heap.get?_push_size _ B.free)) (by rw [Heap.size_push, hz]) fun b o x => Heap.get?_push_of_some _ (Heap.get?_push_of_some _ x)⟩
end
open L2
/-- the tuple at a, each item in a new pair -/
def IteT (K : PySem.W.Frag) (a : Addr) : It :=
  ⟨fun i H => ∃ (xs : List V) (x : V), SqT K H a xs ∧ xs[i]? = some x, fun i H v H' => ∃ T x, v = .ref T ∧ H T = none ∧ H' = upd H T (.tup [.int (i : Nat), x]) ∧ ∀ xs, SqT K H a xs → xs[i]? = some x, fun i H => ∃ xs : List V, SqT K H a xs ∧ xs.length = i⟩
theorem turn_enumT {P : Program} {w : World} {K : PySem.W.Frag} {elts : List Expr} {kk : Nat} {tpos : Pos} (a e it : Addr) (hai : a ≠ it) (hae : a ≠ e) :
    Turn P w K (.Tuple elts kk tpos) (IteT K a) [e, it] e (fun i h => (∃ old, IsEnum h e it ((i : Nat) : Int) old) ∧ h.IsTupleIter it a i ∧ e ≠ it) where
  mem := by simp
  obj := fun i h st b hb => by
    obtain ⟨⟨old, he⟩, ⟨o, ho, hc, hd⟩, _⟩ := st
    have e' : b = e ∨ b = it := by simpa using hb
    rcases e' with z | z
    · rw [z]; exact ⟨_, he, fun v q => nomatch q⟩
    · rw [z]; exact ⟨o, ho, fun v q => by rw [hd] at q; cases q⟩
  keep := fun i h h' st k => let ⟨⟨old, he⟩, hi, hne⟩ := st; ⟨⟨old, k e (by simp) _ he⟩, hi.at fun o q => k it (by simp) o q, hne⟩
  item := by
    intro X hP hw hK hc i pins s σ H E I hf st hg
    subst hP hw hK
    obtain ⟨⟨old, he⟩, hit, hne⟩ := st
    obtain ⟨xs, x, hq, hx⟩ := hg
    obtain ⟨its, rv, p, hz⟩ := I.tuple hq
    obtain ⟨u, hu, ru⟩ := rv.get hx
    have hel : e < s.heap.objs.size := Heap.lt_size he
    have hil : it < s.heap.objs.size := by obtain ⟨_, q, _⟩ := hit; exact Heap.lt_size q
    have hh : X.A.in1.handled = none := I.ok.hd hc
    refine wpAny_pyNext_enum_itemD (P := fun i v => its.toArray[i]? = some v) (St := fun i h => h.IsTupleIter it a i ∧ h.IsTuple a its.toArray) (Draws.tuple hh it a hai its.toArray) he (i := i) ⟨hit, p⟩ (by simpa using (List.getElem?_eq_some_iff.mp hu).1) hne (by simp [hne, Ne.symm hae]) fun v h' tk hP ho hst' hT hsz hk => ?_
    have ev : v = u := by
      rw [show its.toArray[i]? = some u by simpa using hu] at hP
      exact (Option.some.inj hP).symm
    subst ev
    refine ⟨_, rfl, wpAny_letOwnedTupleGo_enum (s := { s with heap := h', toks := tk + 1 }) ho fun h'' he' sb => ?_⟩
    have hT2 : h''.get? s.heap.objs.size = some { cls := .type "tuple", data := .seq #[.int i tk, v] } := (sb.2 _ (Nat.ne_of_gt hel)).trans hT
    have new : ObjOk X.prog X.w (upd H s.heap.objs.size (.tup [.int (i : Nat), x])) h'' s.heap.objs.size (.tup [.int (i : Nat), x]) :=
      ⟨by show 2 ≤ sizeLine; decide, [.int i tk, v], .cons ⟨_, rfl⟩ (.cons ru .nil), ⟨_, hT2, rfl, _, rfl⟩⟩
    have I1 : Inv X pins σ (upd H s.heap.objs.size (.tup [.int (i : Nat), x])) { s with heap := h'', toks := tk + 1 } :=
      I.turnedNew (ch := [e, it]) (fun b ob hb q => (sb.2 b (fun z => hb (by simp [z]))).trans (hk b ob (fun z => hb (by simp [z])) (fun z => hb (by simp [z])) q)) hf (Nat.le_refl _) new
    refine ⟨.ref s.heap.objs.size, _, I1, rfl, ⟨_, x, rfl, I.hok.fresh (Nat.le_refl _), rfl, fun ys hy => by rw [I.tuple_inj hy hq]; exact hx⟩, ⟨⟨v, ?_⟩, hst'.1.at fun o q => (sb.2 it (Ne.symm hne)).trans q, hne⟩, fun b hb => ?_⟩
    · have e1 : ((i + 1 : Nat) : Int) = (i : Int) + 1 := by omega
      rw [e1]; exact he'
    · have hb' : b < s.heap.objs.size := by
        have e' : b = e ∨ b = it := by simpa using hb
        rcases e' with z | z
        · rw [z]; exact hel
        · rw [z]; exact hil
      rw [upd_ne (Nat.ne_of_lt hb')]
      exact (hf b hb).1
  done := by
    intro X hP hw hK hc i pins s σ H E I hf st hg
    subst hP hw hK
    obtain ⟨⟨old, he⟩, hit, hne⟩ := st
    obtain ⟨xs, hq, hx⟩ := hg
    obtain ⟨its, rv, p, hz⟩ := I.tuple hq
    obtain ⟨f0, f1, f2, f3, f4, f5⟩ := hf it (by simp)
    have hl := rv.length
    have hh : X.A.in1.handled = none := I.ok.hd hc
    have e : its.toArray.size = i := by simp; omega
    have D := Draws.tuple (prog := X.prog) (w := X.w) hh it a hai its.toArray
    rw [e] at D
    exact wpAny_pyNext_enum_endD D he ⟨hit, p⟩ fun h' eb => ⟨rfl, I.turned (t' := s.toks) (fun b o hb q => eb b o hb q) f0 f1 f3 f4 f5⟩
  self := fun A i s Q E st h => let ⟨⟨_, he⟩, _⟩ := st; wpAny_pyIter_enum he h
def iEnumT (K : PySem.W.Frag) (ta : TA) : TI := fun σ H R => ta σ H fun vs H1 => ∃ a xs, vs = [.ref a] ∧ SqT K H1 a xs ∧ R (IteT K a) H1
theorem pi_enumT {X : Cx} {e : Expr} {ta : TA} {p pos tpos : Pos} {elts : List Expr} {kk : Nat} (hg : Gl X "enumerate") (hm : X.mg "enumerate" = none) (ha : PA X [e] ta) (hs : starEach [e] X.env = [(false, eval e X.env)] := by rfl) :
    PI X (.Tuple elts kk tpos) (.Call (.Name "enumerate" p) [e] [] pos) (iEnumT X.K ta) := by
  refine ⟨fun pins s σ H R I h => ?_⟩
  refine Call_ (ld_blt I hg hm boot_enumerate (PyProof.Rows.callWith_type1 (thn (ha.run pos pins s σ H _ I h) fun us s1 ⟨vs, H1, I1, r1, q1⟩ => ?_) hs rfl))
  obtain ⟨a, xs, ex, hq, q⟩ := q1
  subst ex
  cases r1 with
  | cons r rr =>
    cases rr
    cases r
    obtain ⟨its, rv, p', hz⟩ := I1.tuple hq
    obtain ⟨o1, ho1, _⟩ := id p'
    have hal : a < s1.heap.objs.size := Heap.lt_size ho1
    refine enum_begins1 (begins_tuple a its.toArray) p' fun h' he hit hsz hk => wpAny_pyIter_enum he ?_
    have I2 : Inv X pins σ H1 { s1 with heap := h' } := I1.kept (t' := s1.toks) hk
    refine ⟨s1.heap.objs.size + 1, [s1.heap.objs.size + 1, s1.heap.objs.size], _, _, H1, rfl, I2, turn_enumT a (s1.heap.objs.size + 1) s1.heap.objs.size (Nat.ne_of_lt hal) (Nat.ne_of_lt (Nat.lt_succ_of_lt hal)), ⟨⟨.none, he⟩, ⟨_, hit, rfl, rfl⟩, Nat.succ_ne_self _⟩, fun b hb => ?_, q⟩
    have hle : s1.heap.objs.size ≤ b := by
      have e' : b = s1.heap.objs.size + 1 ∨ b = s1.heap.objs.size := by simpa using hb
      rcases e' with z | z
      · rw [z]; exact Nat.le_succ _
      · rw [z]; exact Nat.le_refl _
    exact I1.fpOk hle (I1.hok.fresh hle)
/-- over a tuple -/
theorem walk_enumT {K : PySem.W.Frag} {a : Addr} {xs : List V} : Walk (IteT K a) xs.length (fun H => SqT K H a xs) (YPair (fun i => some (.int (i : Nat))) (fun i => xs[i]?)) := by
  refine ⟨fun i _ hi q => ⟨xs, xs[i], q, by simp [hi]⟩, fun _ q => ⟨xs, q, rfl⟩, fun i H v H' _ q y => ?_⟩
  obtain ⟨T, x, h1, h2, h3, h4⟩ := y
  exact ⟨T, .int (i : Nat), x, h1, h2, h3, rfl, h4 xs q⟩
/-- zip of two tuples -/
theorem walk_zipT {K : PySem.W.Frag} {a b : Addr} {xs ys : List V} {n : Nat} (hn : n = min xs.length ys.length) : Walk (RZ.ItzT K a b) n (fun H => SqT K H a xs ∧ SqT K H b ys) (YPair (fun i => xs[i]?) (fun i => ys[i]?)) := by
  subst hn
  refine ⟨fun i _ hi q => ?_, fun _ q => ⟨xs, ys, q.1, q.2, by omega⟩, fun i H v H' _ q y => ?_⟩
  · have h1 : i < xs.length := by omega
    have h2 : i < ys.length := by omega
    exact ⟨xs, ys, xs[i], ys[i], q.1, q.2, by simp [h1], by simp [h2]⟩
  · obtain ⟨T, x, z, h1, h2, h3, h4, h5⟩ := y
    exact ⟨T, x, z, h1, h2, h3, h4 xs q.1, h5 ys q.2⟩
end K32
/-! Kt2 -/
set_option Elab.async false
set_option linter.all false
set_option maxRecDepth 100000
set_option maxHeartbeats 4000000
/-! Kit 2: what loops and comprehensions walk (Src), comprehensions, built-in calls; the text's facts (Tx), defs in bundles (DefP). -/
namespace K32
open PySem PySem.Spec PyProof.Rows L2
/-! ### built-in calls -/
section
variable {K : PySem.W.Frag} {σ : L2.St} {H H' : Hp} {ta tb te tx : TE} {t u : TT} {d e z : Dt} {v : V} {r : R2} {ds : List Dt}
theorem rc_lenT : RDc (fun xs H Q => ∃ p ys, xs = [.ref p] ∧ (SqL K H p ys ∨ SqT K H p ys) ∧ Q (.int ys.length) H) [.tuple ds] (.int ds.length) := fun xs H h Q q => by
  obtain ⟨v, rfl, tv⟩ := h.one
  obtain ⟨a, ys, rfl, h1, h2⟩ := tv.t
  refine ⟨a, ys, rfl, .inr (SqT.of h1), q _ H (Same.refl H) ?_⟩
  rw [h2.len]
  exact .int _
theorem rc_lenL : RDc (fun xs H Q => ∃ p ys, xs = [.ref p] ∧ (SqL K H p ys ∨ SqT K H p ys) ∧ Q (.int ys.length) H) [.list ds] (.int ds.length) := fun xs H h Q q => by
  obtain ⟨v, rfl, tv⟩ := h.one
  obtain ⟨a, ys, rfl, h1, h2⟩ := tv.l
  refine ⟨a, ys, rfl, .inl (SqL.of h1), q _ H (Same.refl H) ?_⟩
  rw [h2.len]
  exact .int _
theorem rc_tupL : RDc (fun xs H Q => ∃ p ys, xs = [.ref p] ∧ ((SqL K H p ys ∧ ∀ l, H l = none → Q (.ref l) (upd H l (.tup ys))) ∨ (SqT K H p ys ∧ Q (.ref p) H))) [.list ds] (.tuple ds) := fun xs H h Q q => by
  obtain ⟨v, rfl, tv⟩ := h.one
  obtain ⟨a, ys, rfl, h1, h2⟩ := tv.l
  exact ⟨a, ys, rfl, .inl ⟨SqL.of h1, fun l hl => q _ _ (Same.new hl) (.tup upd_same (h2.s (Same.new hl)))⟩⟩
theorem rc_lstT : RDc (fun xs H Q => ∃ p ys, xs = [.ref p] ∧ (SqL K H p ys ∨ SqT K H p ys) ∧ ∀ l, H l = none → Q (.ref l) (upd H l (.lst ys))) [.tuple ds] (.list ds) := fun xs H h Q q => by
  obtain ⟨v, rfl, tv⟩ := h.one
  obtain ⟨a, ys, rfl, h1, h2⟩ := tv.t
  exact ⟨a, ys, rfl, .inr (SqT.of h1), fun l hl => q _ _ (Same.new hl) (.lst upd_same (h2.s (Same.new hl)))⟩
theorem rc_lstL : RDc (fun xs H Q => ∃ p ys, xs = [.ref p] ∧ (SqL K H p ys ∨ SqT K H p ys) ∧ ∀ l, H l = none → Q (.ref l) (upd H l (.lst ys))) [.list ds] (.list ds) := fun xs H h Q q => by
  obtain ⟨v, rfl, tv⟩ := h.one
  obtain ⟨a, ys, rfl, h1, h2⟩ := tv.l
  exact ⟨a, ys, rfl, .inl (SqL.of h1), fun l hl => q _ _ (Same.new hl) (.lst upd_same (h2.s (Same.new hl)))⟩
theorem rc_sum {ns : List Int} : RDc (rSum K) [.list (ns.map .int)] (.int ns.sum) := fun xs H h Q q => by
  obtain ⟨v, rfl, tv⟩ := h.one
  obtain ⟨a, ys, rfl, h1, h2⟩ := tv.l
  have e := h2.ints
  subst e
  exact ⟨a, ns, rfl, SqL.of h1, q _ H (Same.refl H) (.int _)⟩
theorem rc_all {bs : List Bool} : RDc (rAll K) [.list (bs.map .bool)] (.bool (bs.all id)) := fun xs H h Q q => by
  obtain ⟨v, rfl, tv⟩ := h.one
  obtain ⟨a, ys, rfl, h1, h2⟩ := tv.l
  have e := h2.bools
  subst e
  exact ⟨a, bs, rfl, SqL.of h1, q _ H (Same.refl H) (.bl _)⟩
theorem rc_max2 {i j : Int} : RDc (fun xs H Q => ∃ i j, xs = [V.int i, .int j] ∧ Q (.int (if j > i then j else i)) H) [.int i, .int j] (.int (if j > i then j else i)) := fun xs H h Q q => by
  obtain ⟨v, w, rfl, t1, t2⟩ := h.two
  exact ⟨i, j, by rw [t1.i, t2.i], q _ H (Same.refl H) (.int _)⟩
theorem rc_min2 {i j : Int} : RDc (fun xs H Q => ∃ i j, xs = [V.int i, .int j] ∧ Q (.int (if j < i then j else i)) H) [.int i, .int j] (.int (if j < i then j else i)) := fun xs H h Q q => by
  obtain ⟨v, w, rfl, t1, t2⟩ := h.two
  exact ⟨i, j, by rw [t1.i, t2.i], q _ H (Same.refl H) (.int _)⟩
/-- the type's name -/
def tyD : Dt → String
  | .none => "NoneType"
  | .bool _ => "bool"
  | .int _ => "int"
  | .str _ => "str"
  | .list _ => "list"
  | .tuple _ => "tuple"
  | .dict _ => "dict"
theorem TD.ty (h : TD H v d) : TyX K H v (.type (tyD d)) := by
  cases h with
  | non => exact .base .non
  | bl b => exact .base (.bl b)
  | int i => exact .base (.int i)
  | str x => exact .base (.str x)
  | lst h1 h2 => exact .base (.lst h1)
  | tup h1 h2 => exact .base (.tup h1)
theorem dn_isi {n : String} {b : Bool} (h : Dn ta σ H d) (k : kitB (tyD d) n = some b) : Dn (tCB (rIsi K) (tCons ta (tCons (tC (.ty n)) tNil))) σ H (.bool b) := fun H1 s Q q =>
  h H1 s _ fun v H2 s2 t2 => ⟨v, .ty n, _, _, b, rfl, .ty n, t2.ty, kit_ty k, q _ H2 s2 (.bl b)⟩
/-- a call of a def -/
def Pu (n : Nat) (f : List Dt → Dt → Prop) : Sp := fun vs H Q _ => vs.length = n ∧ ∃ ds r, TDs H vs ds ∧ f ds r ∧ ∀ v H', Same H H' → TD H' v r → Q v H'
theorem dn_call {n : Nat} {f : List Dt → Dt → Prop} {ta : TA} (h : DnA ta σ H ds) (hn : ds.length = n) (hf : f ds z) : Dn (tCall (Pu n f) [] E0 ta) σ H z := fun H1 s Q q =>
  h H1 s _ fun vs H2 s2 t2 => by
    rw [List.append_nil]
    exact ⟨t2.len.trans hn, ds, z, t2, hf, fun v H3 s3 t3 => q v H3 (s2.trans s3) t3⟩
/-! slices -/
theorem TDs.cut {xs : List V} (h : TDs H xs ds) (lo hi : Option Int) : TDs H (cutV xs lo hi) ((ds.drop (HT.sIx ds.length 0 lo)).take (HT.sIx ds.length ds.length hi - HT.sIx ds.length 0 lo)) := by
  unfold cutV
  rw [h.len]
  exact (h.drop _).take _
theorem dn_slT {tl th : TO} {lo hi : Option Int} (h : Dn te σ H (.tuple ds)) (h1 : DnO tl σ H lo) (h2 : DnO th σ H hi) :
    Dn (tSl (rSlA K) te tl th) σ H (.tuple ((ds.drop (HT.sIx ds.length 0 lo)).take (HT.sIx ds.length ds.length hi - HT.sIx ds.length 0 lo))) := fun H1 s Q q =>
  h H1 s _ fun v H2 s2 t2 => h1 H2 (s.trans s2) _ fun H3 s3 => h2 H3 ((s.trans s2).trans s3) _ fun H4 s4 => by
    obtain ⟨a, xs, rfl, e1, e2⟩ := (t2.s (s3.trans s4)).t
    refine ⟨a, xs, rfl, SqT.of e1, fun hw => ?_, fun hw p hp => q _ _ (((s2.trans s3).trans s4).trans (Same.new hp)) (.tup upd_same ((e2.cut lo hi).s (Same.new hp)))⟩
    refine q _ _ ((s2.trans s3).trans s4) ?_
    rw [e2.len] at hw
    rw [hw.1, hw.2, List.drop_zero, Nat.sub_zero, List.take_length]
    exact .tup e1 e2
theorem dn_slL {tl th : TO} {lo hi : Option Int} (h : Dn te σ H (.list ds)) (h1 : DnO tl σ H lo) (h2 : DnO th σ H hi) :
    Dn (tSl (rSlL K) te tl th) σ H (.list ((ds.drop (HT.sIx ds.length 0 lo)).take (HT.sIx ds.length ds.length hi - HT.sIx ds.length 0 lo))) := fun H1 s Q q =>
  h H1 s _ fun v H2 s2 t2 => h1 H2 (s.trans s2) _ fun H3 s3 => h2 H3 ((s.trans s2).trans s3) _ fun H4 s4 => by
    obtain ⟨a, xs, rfl, e1, e2⟩ := (t2.s (s3.trans s4)).l
    exact ⟨a, xs, rfl, SqL.of e1, fun p hp => q _ _ (((s2.trans s3).trans s4).trans (Same.new hp)) (.lst upd_same ((e2.cut lo hi).s (Same.new hp)))⟩
theorem dn_revL (h : Dn te σ H (.list ds)) : Dn (tRevL K te) σ H (.list ds.reverse) := fun H1 s Q q =>
  h H1 s _ fun v H2 s2 t2 => by
    obtain ⟨a, xs, rfl, e1, e2⟩ := t2.l
    exact ⟨a, xs, rfl, SqL.of e1, fun p hp => q _ _ (s2.trans (Same.new hp)) (.lst upd_same (e2.rev.s (Same.new hp)))⟩
theorem dn_catT {es : List Dt} (ha : Dn ta σ H (.tuple ds)) (hb : Dn tb σ H (.tuple es)) (hz : ds.length + es.length ≤ 100000) : Dn (tOp (rCatA K) ta tb) σ H (.tuple (ds ++ es)) :=
  dn_op ha hb fun x y H tx ty Q q => by
    obtain ⟨a, xs, rfl, a1, a2⟩ := tx.t
    obtain ⟨b, ys, rfl, b1, b2⟩ := ty.t
    refine ⟨a, b, xs, ys, rfl, rfl, SqT.of a1, SqT.of b1, by rw [a2.len, b2.len]; exact sz hz, fun e => ?_, fun _ e => ?_, fun _ _ p hp => q _ _ (Same.new hp) (.tup upd_same ((a2.app b2).s (Same.new hp)))⟩
    · subst e
      cases a2
      exact q _ H (Same.refl H) (.tup b1 b2)
    · subst e
      cases b2
      refine q _ H (Same.refl H) ?_
      rw [List.append_nil]
      exact .tup a1 a2
theorem dn_catL {es : List Dt} (ha : Dn ta σ H (.list ds)) (hb : Dn tb σ H (.list es)) (hz : ds.length + es.length ≤ 100000) : Dn (tOp rCat ta tb) σ H (.list (ds ++ es)) :=
  dn_op ha hb fun x y H tx ty Q q => by
    obtain ⟨a, xs, rfl, a1, a2⟩ := tx.l
    obtain ⟨b, ys, rfl, b1, b2⟩ := ty.l
    exact ⟨a, b, xs, ys, rfl, rfl, a1, b1, by rw [a2.len, b2.len]; exact sz hz, fun p hp => q _ _ (Same.new hp) (.lst upd_same ((a2.app b2).s (Same.new hp)))⟩
end
/-! ### what is walked -/
def Src (wi : TI) (σ : L2.St) (H : Hp) (ds : List Dt) : Prop := ∀ H1, Same H H1 → ∀ R : It → Hp → Prop, (∀ (J : It) H2 (G : Hp → Prop) (Y : Nat → Hp → V → Hp → Prop), Same H1 H2 → Walk J ds.length G Y → (∀ H3, Same H2 H3 → G H3) →
    (∀ i Ha x Hb, i < ds.length → Same H2 Ha → Y i Ha x Hb → Same Ha Hb ∧ ∃ d, ds[i]? = some d ∧ TD Hb x d) → R J H2) → wi σ H1 R
section
variable {K : PySem.W.Frag} {σ : L2.St} {H H' : Hp} {ta tb te tx : TE} {d e z : Dt} {v : V} {ds es : List Dt}
theorem YAt.td {xs : List V} {Ha Hb : Hp} {i : Nat} {x : V} (h : TDs Ha xs ds) (y : YAt xs i Ha x Hb) : Same Ha Hb ∧ ∃ d, ds[i]? = some d ∧ TD Hb x d := by
  obtain ⟨rfl, e⟩ := y
  exact ⟨Same.refl _, h.at e⟩
theorem src_tup (h : Dn te σ H (.tuple ds)) : Src (iTup K te) σ H ds := fun H1 s R q => h H1 s _ fun v H2 s2 t2 => by
  obtain ⟨a, xs, rfl, h1, h2⟩ := t2.t
  have w := walk_tup (K := K) (a := a) (xs := xs)
  rw [h2.len] at w
  exact ⟨a, rfl, ⟨xs, SqT.of h1⟩, q _ H2 _ _ s2 w (fun H3 s3 => SqT.of (s3 _ _ h1)) fun i Ha x Hb _ sa y => YAt.td (h2.s sa) y⟩
theorem src_lst (h : Dn te σ H (.list ds)) : Src (iList K te) σ H ds := fun H1 s R q => h H1 s _ fun v H2 s2 t2 => by
  obtain ⟨a, xs, rfl, h1, h2⟩ := t2.l
  have w := walk_list (K := K) (a := a) (xs := xs)
  rw [h2.len] at w
  exact ⟨a, rfl, ⟨xs, SqL.of h1⟩, q _ H2 _ _ s2 w (fun H3 s3 => SqL.of (s3 _ _ h1)) fun i Ha x Hb _ sa y => YAt.td (h2.s sa) y⟩
theorem range_at {n i : Nat} {f : Nat → Dt} (h : i < n) : ((List.range n).map f)[i]? = some (f i) := by
  rw [List.getElem?_map, List.getElem?_range h]; rfl
theorem src_rng1 {ta : TA} {n : Int} (h : DnA ta σ H [.int n]) (hn : n < 2 ^ 62) (h0 : -(2 ^ 62) ≤ n) : Src (iRng1 ta) σ H ((List.range n.toNat).map fun i : Nat => .int (i : Int)) := fun H1 s R q => h H1 s _ fun vs H2 s2 t2 => by
  obtain ⟨v, rfl, tv⟩ := t2.one
  have e : n.toNat = ((List.range n.toNat).map fun i : Nat => PyData.int (i : Int)).length := by simp
  have w : Walk (Itr 0 n.toNat) ((List.range n.toNat).map fun i : Nat => PyData.int (i : Int)).length (fun _ => True) (YFn fun i => .int (0 + i)) := by
    rw [← e]
    exact walk_range
  refine ⟨n, by rw [tv.i], h0, hn, q _ H2 _ _ s2 w (fun _ _ => trivial) fun i Ha x Hb hi sa y => ?_⟩
  obtain ⟨rfl, rfl⟩ := y
  rw [← e] at hi
  refine ⟨Same.refl _, _, range_at hi, ?_⟩
  show TD Hb (V.int (0 + (i : Int))) (.int (i : Int))
  rw [Int.zero_add]
  exact .int _
theorem src_rng2 {ta : TA} {lo n : Int} (h : DnA ta σ H [.int lo, .int n]) (hb : -(2 ^ 62) ≤ lo ∧ lo < 2 ^ 62 ∧ -(2 ^ 62) ≤ n ∧ n < 2 ^ 62) : Src (iRng2 ta) σ H ((List.range (n - lo).toNat).map fun i : Nat => .int (lo + (i : Int))) := fun H1 s R q => h H1 s _ fun vs H2 s2 t2 => by
  obtain ⟨v, w, rfl, tv, tw⟩ := t2.two
  have e : (n - lo).toNat = ((List.range (n - lo).toNat).map fun i : Nat => PyData.int (lo + (i : Int))).length := by simp
  have wk : Walk (Itr lo (n - lo).toNat) ((List.range (n - lo).toNat).map fun i : Nat => PyData.int (lo + (i : Int))).length (fun _ => True) (YFn fun i => .int (lo + i)) := by
    rw [← e]
    exact walk_range
  refine ⟨lo, n, by rw [tv.i, tw.i], hb, q _ H2 _ _ s2 wk (fun _ _ => trivial) fun i Ha x Hb hi sa y => ?_⟩
  obtain ⟨rfl, rfl⟩ := y
  rw [← e] at hi
  exact ⟨Same.refl _, _, range_at hi, .int _⟩
theorem pair_td {Ha Hb : Hp} {T : Addr} {x y : V} {dx dy : Dt} (hT : Ha T = none) (e : Hb = upd Ha T (.tup [x, y])) (tx : TD Ha x dx) (ty : TD Ha y dy) : Same Ha Hb ∧ TD Hb (.ref T) (.tuple [dx, dy]) := by
  subst e
  exact ⟨Same.new hT, .tup upd_same (.cons (tx.s (Same.new hT)) (.cons (ty.s (Same.new hT)) .nil))⟩
theorem src_zip {ta : TA} (h : DnA ta σ H [.tuple ds, .tuple es]) : Src (RZ.iZipA K ta) σ H ((ds.zip es).map fun p => .tuple [p.1, p.2]) := fun H1 s R q => h H1 s _ fun vs H2 s2 t2 => by
  obtain ⟨v, w, rfl, tv, tw⟩ := t2.two
  obtain ⟨a, xs, rfl, a1, a2⟩ := tv.t
  obtain ⟨b, ys, rfl, b1, b2⟩ := tw.t
  have wk := walk_zipT (K := K) (a := a) (b := b) (xs := xs) (ys := ys) (n := ((ds.zip es).map fun p => PyData.tuple [p.1, p.2]).length) (by rw [List.length_map, List.length_zip, a2.len, b2.len])
  refine ⟨a, b, xs, ys, rfl, .inr ⟨SqT.of a1, SqT.of b1, q _ H2 _ _ s2 wk (fun H3 s3 => ⟨SqT.of (s3 _ _ a1), SqT.of (s3 _ _ b1)⟩) fun i Ha x Hb hi sa y => ?_⟩⟩
  obtain ⟨T, x, z, rfl, hT, e, e1, e2⟩ := y
  obtain ⟨d1, g1, t1⟩ := (a2.s sa).at e1
  obtain ⟨d2, g2, t2⟩ := (b2.s sa).at e2
  obtain ⟨s4, t4⟩ := pair_td hT e t1 t2
  refine ⟨s4, _, ?_, t4⟩
  have e3 : (ds.zip es)[i]? = some (d1, d2) := List.getElem?_zip_eq_some.mpr ⟨g1, g2⟩
  rw [List.getElem?_map, e3]
  rfl
theorem src_enumT {ta : TA} (h : DnA ta σ H [.tuple ds]) : Src (iEnumT K ta) σ H ((ds.zipIdx).map fun p => .tuple [.int (p.2 : Nat), p.1]) := fun H1 s R q => h H1 s _ fun vs H2 s2 t2 => by
  obtain ⟨v, rfl, tv⟩ := t2.one
  obtain ⟨a, xs, rfl, a1, a2⟩ := tv.t
  have wk := walk_enumT (K := K) (a := a) (xs := xs)
  rw [show xs.length = ((ds.zipIdx).map fun p => PyData.tuple [.int (p.2 : Nat), p.1]).length by rw [List.length_map, List.length_zipIdx, a2.len]] at wk
  refine ⟨a, xs, rfl, SqT.of a1, q _ H2 _ _ s2 wk (fun H3 s3 => SqT.of (s3 _ _ a1)) fun i Ha x Hb hi sa y => ?_⟩
  obtain ⟨T, x, z, rfl, hT, e, e1, e2⟩ := y
  obtain ⟨d2, g2, t2⟩ := (a2.s sa).at e2
  have e1' : V.int (i : Nat) = x := Option.some.inj e1
  subst e1'
  obtain ⟨s4, t4⟩ := pair_td hT e (TD.int (H := Ha) (i : Nat)) t2
  refine ⟨s4, _, ?_, t4⟩
  rw [List.getElem?_map, List.getElem?_zipIdx, g2]
  simp
theorem src_enumL {ta : TA} (h : DnA ta σ H [.list ds]) : Src (iEnum K ta) σ H ((ds.zipIdx).map fun p => .tuple [.int (p.2 : Nat), p.1]) := fun H1 s R q => h H1 s _ fun vs H2 s2 t2 => by
  obtain ⟨v, rfl, tv⟩ := t2.one
  obtain ⟨a, xs, rfl, a1, a2⟩ := tv.l
  have wk := walk_enum (K := K) (a := a) (xs := xs)
  rw [show xs.length = ((ds.zipIdx).map fun p => PyData.tuple [.int (p.2 : Nat), p.1]).length by rw [List.length_map, List.length_zipIdx, a2.len]] at wk
  refine ⟨a, xs, rfl, SqL.of a1, q _ H2 _ _ s2 wk (fun H3 s3 => SqL.of (s3 _ _ a1)) fun i Ha x Hb hi sa y => ?_⟩
  obtain ⟨T, x, z, rfl, hT, e, e1, e2⟩ := y
  obtain ⟨d2, g2, t2⟩ := (a2.s sa).at e2
  have e1' : V.int (i : Nat) = x := Option.some.inj e1
  subst e1'
  obtain ⟨s4, t4⟩ := pair_td hT e (TD.int (H := Ha) (i : Nat)) t2
  refine ⟨s4, _, ?_, t4⟩
  rw [List.getElem?_map, List.getElem?_zipIdx, g2]
  simp
/-! ### targets: what is stored where -/
def Sto (g : TG) (x : V) (σ : L2.St) (H : Hp) (σ2 : L2.St) : Prop := ∀ Q : L2.St → Hp → Prop, Q σ2 H → g x σ H Q
theorem sto_name {i : Nat} {x : V} : Sto (gName i) x σ H (σ.set i (some x)) := fun _ q => q
theorem sto_two {i j : Nat} {x : V} {d1 d2 : Dt} (h : TD H x (.tuple [d1, d2])) : ∃ u w, TD H u d1 ∧ TD H w d2 ∧ Sto (gTup K 2 (gCons (gName i) (gCons (gName j) gNil))) x σ H ((σ.set i (some u)).set j (some w)) := by
  obtain ⟨a, xs, rfl, h1, h2⟩ := h.t
  obtain ⟨u, w, rfl, t1, t2⟩ := h2.two
  exact ⟨u, w, t1, t2, fun Q q => ⟨a, _, rfl, SqT.of h1, rfl, _, _, rfl, _, _, rfl, rfl, q⟩⟩
theorem sto_four {i j k l : Nat} {x : V} {d1 d2 d3 d4 : Dt} (h : TD H x (.tuple [d1, d2, d3, d4])) : ∃ u w y z, TD H u d1 ∧ TD H w d2 ∧ TD H y d3 ∧ TD H z d4 ∧
    Sto (gTup K 4 (gCons (gName i) (gCons (gName j) (gCons (gName k) (gCons (gName l) gNil))))) x σ H ((((σ.set i (some u)).set j (some w)).set k (some y)).set l (some z)) := by
  obtain ⟨a, xs, rfl, h1, h2⟩ := h.t
  obtain ⟨u, w, y, z, rfl, t1, t2, t3, t4⟩ := h2.four
  exact ⟨u, w, y, z, t1, t2, t3, t4, fun Q q => ⟨a, _, rfl, SqT.of h1, rfl, _, _, rfl, _, _, rfl, _, _, rfl, _, _, rfl, rfl, q⟩⟩
/-! ### comprehensions -/
theorem filterMap_succ {α β : Type} {f : Nat → Option β} {n : Nat} : (List.range (n + 1)).filterMap f = (List.range n).filterMap f ++ (match f n with | some y => [y] | none => []) := by
  rw [List.range_succ, List.filterMap_append]
  congr 1
  cases h : f n <;> simp [h]
theorem flats_all : ∀ ds : List Dt, flats ds = ds.all flat
  | [] => rfl
  | d :: ds => by rw [flats, List.all_cons, flats_all ds]
theorem flats_of {ds : List Dt} (h : ∀ d ∈ ds, flat d = true) : flats ds = true := by
  rw [flats_all, List.all_eq_true]
  exact h
/-- one clause: f i is what turn i puts into the list, or nothing -/
theorem dn_lc0 {wi : TI} {g : TG} {tt : TT} {vs : List Nat} (f : Nat → Option Dt) (hs : Src wi σ H ds) (hz : ds.length ≤ 100000) (hfl : ∀ i y, i < ds.length → f i = some y → flat y = true)
    (turn : ∀ (i : Nat) (d : Dt) (x : V) (H1 : Hp), Same H H1 → ds[i]? = some d → TD H1 x d → ∃ σ2, Sto g x (wipe σ vs) H1 σ2 ∧ wipe σ2 vs = wipe σ vs ∧
      DnT tt σ2 H1 (f i).isSome ∧ ∀ y, f i = some y → Dn te σ2 H1 y) : Dn (tLc wi g tt te vs) σ H (.list ((List.range ds.length).filterMap f)) := fun H1 s Q q =>
  hs H1 s _ fun J H2 G Y s2 wk hG hY D hD => by
    have gl : ∀ i, i ≤ ds.length → ((List.range i).filterMap f).length ≤ i := fun i _ => by
      have := List.length_filterMap_le f (List.range i)
      rwa [List.length_range] at this
    refine lc_it wk (fun i H' => Same H2 H' ∧ H2 D = none ∧ ∃ xs, H' D = some (.lst xs) ∧ TDs H' xs ((List.range i).filterMap f)) ⟨Same.new hD, hD, [], upd_same, .nil⟩ (fun i H' _ p => hG H' p.1) ?_ ?_
    · rintro i x Ha Hb hi ⟨p1, p2, xs, p3, p4⟩ y
      obtain ⟨s3, d, e, td⟩ := hY i Ha x Hb hi p1 y
      obtain ⟨σ2, st, ew, ht, he⟩ := turn i d x Hb (s.trans (s2.trans (p1.trans s3))) e td
      refine st _ ⟨ew, ht.go fun H3 s4 => ?_⟩
      cases hf : f i with
      | none =>
        show _ ∧ _
        refine ⟨(p1.trans s3).trans s4, p2, xs, s4 _ _ (s3 _ _ p3), ?_⟩
        rw [filterMap_succ (α := Nat), hf]
        simpa using p4.s (s3.trans s4)
      | some r =>
        show te σ2 H3 _
        refine he r hf H3 s4 _ fun v H4 s5 tv => ⟨xs, s5 _ _ (s4 _ _ (s3 _ _ p3)), szl ?_, ?_⟩
        · have := gl i (Nat.le_of_lt hi)
          rw [p4.len]
          omega
        · have sm : Same H2 H4 := ((p1.trans s3).trans s4).trans s5
          refine ⟨Same.mut sm p2, p2, xs ++ [v], upd_same, ?_⟩
          rw [filterMap_succ (α := Nat), hf]
          have kt : KT H4 (upd H4 D (.lst (xs ++ [v]))) := KT.mut (s5 _ _ (s4 _ _ (s3 _ _ p3))) (fun _ z => nomatch z)
          have fl : flats ((List.range i).filterMap f) = true := flats_of fun d hd => by
            obtain ⟨j, hj, e⟩ := List.mem_filterMap.mp hd
            exact hfl j d (Nat.lt_trans (List.mem_range.mp hj) hi) e
          exact ((p4.s (s3.trans (s4.trans s5))).k kt fl).snoc (tv.k kt (hfl i r hi hf))
    · rintro H' ⟨p1, p2, xs, p3, p4⟩
      exact q _ H' (s2.trans p1) (.lst p3 p4)
/-- over typed items: kept and mapped -/
theorem dn_lcF {α : Type} {wi : TI} {g : TG} {tt : TT} {vs : List Nat} (enc : α → Dt) (xs : List α) (p : α → Bool) (f : α → Dt) (hs : Src wi σ H (xs.map enc)) (hz : xs.length ≤ 100000) (hfl : ∀ a ∈ xs, flat (f a) = true)
    (turn : ∀ a ∈ xs, ∀ (x : V) (H1 : Hp), Same H H1 → TD H1 x (enc a) → ∃ σ2, Sto g x (wipe σ vs) H1 σ2 ∧ wipe σ2 vs = wipe σ vs ∧ DnT tt σ2 H1 (p a) ∧ (p a = true → Dn te σ2 H1 (f a))) :
    Dn (tLc wi g tt te vs) σ H (.list ((xs.filter p).map f)) := by
  have e : ((List.range (xs.map enc).length).filterMap fun i => (xs[i]?).bind fun a => if p a then some (f a) else none) = (xs.filter p).map f := by
    have key : ∀ (l : List α), (List.range l.length).filterMap (fun i => (l[i]?).bind fun a => if p a then some (f a) else none) = (l.filter p).map f := by
      intro l
      induction l with
      | nil => rfl
      | cons a l ih =>
        rw [List.length_cons, List.range_succ_eq_map, List.filterMap_cons, List.filterMap_map]
        have e2 : (fun i => ((a :: l)[i]?).bind fun a => if p a then some (f a) else none) ∘ Nat.succ = fun i => (l[i]?).bind fun a => if p a then some (f a) else none := by
          funext i
          simp
        rw [e2, ih]
        cases hp : p a <;> simp [hp]
    rw [List.length_map]
    exact key xs
  rw [← e]
  refine dn_lc0 _ hs (by rw [List.length_map]; exact hz) (fun i y hi h => ?_) fun i d x H1 s hd td => ?_
  · obtain ⟨a, ha, h2⟩ := Option.bind_eq_some_iff.mp h
    have hm : a ∈ xs := List.mem_of_getElem? ha
    split at h2
    · cases h2; exact hfl a hm
    · cases h2
  · rw [List.getElem?_map] at hd
    obtain ⟨a, ha, rfl⟩ := Option.map_eq_some_iff.mp hd
    obtain ⟨σ2, h1, h2, h3, h4⟩ := turn a (List.mem_of_getElem? ha) x H1 s td
    refine ⟨σ2, h1, h2, h3.is ?_, fun y hy => ?_⟩
    · rw [ha]
      cases hp : p a <;> simp [hp]
    · rw [ha] at hy
      cases hp : p a with
      | true =>
        have e3 : f a = y := by simpa [hp] using hy
        rw [← e3]
        exact h4 hp
      | false => simp [hp] at hy
/-- .. mapped alone -/
theorem dn_lcm {α : Type} {wi : TI} {g : TG} {vs : List Nat} (enc : α → Dt) (xs : List α) (f : α → Dt) (hs : Src wi σ H (xs.map enc)) (hz : xs.length ≤ 100000) (hfl : ∀ a ∈ xs, flat (f a) = true)
    (turn : ∀ a ∈ xs, ∀ (x : V) (H1 : Hp), Same H H1 → TD H1 x (enc a) → ∃ σ2, Sto g x (wipe σ vs) H1 σ2 ∧ wipe σ2 vs = wipe σ vs ∧ Dn te σ2 H1 (f a)) :
    Dn (tLc wi g tYes te vs) σ H (.list (xs.map f)) := by
  have h := dn_lcF (tt := tYes) (te := te) enc xs (fun _ => true) f hs hz hfl fun a ha x H1 s td => by
    obtain ⟨σ2, h1, h2, h3⟩ := turn a ha x H1 s td
    exact ⟨σ2, h1, h2, fun H2 _ Q q => q H2 (Same.refl H2), fun _ => h3⟩
  rwa [show xs.filter (fun _ => true) = xs from List.filter_eq_self.mpr fun _ _ => rfl] at h
end
end K32
/-! Tx -/
set_option Elab.async false
set_option linter.all false
set_option maxRecDepth 100000
set_option maxHeartbeats 4000000
/-! The text's facts by names; defs in bundles. -/
namespace K32
open PySem PySem.Spec PyProof.Rows L2
/-- what the top leaves -/
structure Tx (K : PySem.W.Frag) (mg : Str → Option Value) : Prop where
  says : He.SaysD fa fn K
  ex : ∃ h : Heap, K.In h ∧ h.Ns mainGlobals mg
section
variable {K : PySem.W.Frag} {mg : Str → Option Value}
theorem Tx.glo (T : Tx K mg) (i : Nat) {x : Str} (h : fa[i]? = some (.glo x) := by rfl) : mg x = some (.ref (He.ga K x)) := by
  obtain ⟨hp, X, G⟩ := T.ex
  exact He.glo_ok X G (T.says.fact i h)
theorem Tx.free (T : Tx K mg) (i : Nat) {x : Str} (h : fa[i]? = some (.free x) := by rfl) : mg x = none := by
  obtain ⟨hp, X, G⟩ := T.ex
  exact He.free_ok X G (T.says.fact i h)
theorem Tx.int (T : Tx K mg) (i : Nat) {x : Str} {j : Int} (h : fa[i]? = some (.int x j) := by rfl) : ∃ t, mg x = some (.int j t) := by
  obtain ⟨hp, X, G⟩ := T.ex
  exact He.int_ok X G (T.says.fact i h)
theorem Tx.i_MAX_POINTS (T : Tx K mg) : ∃ t, mg "MAX_POINTS" = some (.int 240 t) := T.int 0
theorem Tx.i_MAX_WEIGHT (T : Tx K mg) : ∃ t, mg "MAX_WEIGHT" = some (.int 60 t) := T.int 1
theorem Tx.f_isinstance (T : Tx K mg) : mg "isinstance" = none := T.free 2
theorem Tx.f_len (T : Tx K mg) : mg "len" = none := T.free 3
theorem Tx.f_all (T : Tx K mg) : mg "all" = none := T.free 4
theorem Tx.f_sum (T : Tx K mg) : mg "sum" = none := T.free 5
theorem Tx.f_zip (T : Tx K mg) : mg "zip" = none := T.free 6
theorem Tx.f_tuple (T : Tx K mg) : mg "tuple" = none := T.free 7
theorem Tx.f_range (T : Tx K mg) : mg "range" = none := T.free 8
theorem Tx.f_enumerate (T : Tx K mg) : mg "enumerate" = none := T.free 9
theorem Tx.f_max (T : Tx K mg) : mg "max" = none := T.free 10
theorem Tx.f_min (T : Tx K mg) : mg "min" = none := T.free 11
theorem Tx.f_list (T : Tx K mg) : mg "list" = none := T.free 12
theorem Tx.f_abs (T : Tx K mg) : mg "abs" = none := T.free 13
theorem Tx.f_int (T : Tx K mg) : mg "int" = none := T.free 14
theorem Tx.f_str (T : Tx K mg) : mg "str" = none := T.free 15
theorem Tx.f_bool (T : Tx K mg) : mg "bool" = none := T.free 16
theorem Tx.f_repr (T : Tx K mg) : mg "repr" = none := T.free 17
theorem Tx.f_sorted (T : Tx K mg) : mg "sorted" = none := T.free 18
theorem Tx.f_set (T : Tx K mg) : mg "set" = none := T.free 19
theorem Tx.g_is_integer (T : Tx K mg) : mg "is_integer" = some (.ref (He.ga K "is_integer")) := T.glo 20
theorem Tx.g_are_integers (T : Tx K mg) : mg "are_integers" = some (.ref (He.ga K "are_integers")) := T.glo 21
theorem Tx.g_dot (T : Tx K mg) : mg "dot" = some (.ref (He.ga K "dot")) := T.glo 22
theorem Tx.g_difference (T : Tx K mg) : mg "difference" = some (.ref (He.ga K "difference")) := T.glo 23
theorem Tx.g_is_same (T : Tx K mg) : mg "is_same" = some (.ref (He.ga K "is_same")) := T.glo 24
theorem Tx.g_count_points (T : Tx K mg) : mg "count_points" = some (.ref (He.ga K "count_points")) := T.glo 25
theorem Tx.g_require_small (T : Tx K mg) : mg "require_small" = some (.ref (He.ga K "require_small")) := T.glo 26
theorem Tx.g_is_inside (T : Tx K mg) : mg "is_inside" = some (.ref (He.ga K "is_inside")) := T.glo 27
theorem Tx.g_is_point (T : Tx K mg) : mg "is_point" = some (.ref (He.ga K "is_point")) := T.glo 28
theorem Tx.g_points_of (T : Tx K mg) : mg "points_of" = some (.ref (He.ga K "points_of")) := T.glo 29
theorem Tx.g_reads_of (T : Tx K mg) : mg "reads_of" = some (.ref (He.ga K "reads_of")) := T.glo 30
theorem Tx.g_require_plane (T : Tx K mg) : mg "require_plane" = some (.ref (He.ga K "require_plane")) := T.glo 31
theorem Tx.g_words_in (T : Tx K mg) : mg "words_in" = some (.ref (He.ga K "words_in")) := T.glo 32
theorem Tx.g_read_by (T : Tx K mg) : mg "read_by" = some (.ref (He.ga K "read_by")) := T.glo 33
theorem Tx.g_ranked (T : Tx K mg) : mg "ranked" = some (.ref (He.ga K "ranked")) := T.glo 34
theorem Tx.g_find_ranks (T : Tx K mg) : mg "find_ranks" = some (.ref (He.ga K "find_ranks")) := T.glo 35
theorem Tx.g_is_word (T : Tx K mg) : mg "is_word" = some (.ref (He.ga K "is_word")) := T.glo 36
theorem Tx.g_is_loop (T : Tx K mg) : mg "is_loop" = some (.ref (He.ga K "is_loop")) := T.glo 37
theorem Tx.g_ranks_hold (T : Tx K mg) : mg "ranks_hold" = some (.ref (He.ga K "ranks_hold")) := T.glo 38
theorem Tx.g_longest_chain (T : Tx K mg) : mg "longest_chain" = some (.ref (He.ga K "longest_chain")) := T.glo 39
theorem Tx.g_is_weights (T : Tx K mg) : mg "is_weights" = some (.ref (He.ga K "is_weights")) := T.glo 40
theorem Tx.g_require_weights (T : Tx K mg) : mg "require_weights" = some (.ref (He.ga K "require_weights")) := T.glo 41
theorem Tx.g_is_vector (T : Tx K mg) : mg "is_vector" = some (.ref (He.ga K "is_vector")) := T.glo 42
theorem Tx.g_beat_of (T : Tx K mg) : mg "beat_of" = some (.ref (He.ga K "beat_of")) := T.glo 43
theorem Tx.g_reach_of (T : Tx K mg) : mg "reach_of" = some (.ref (He.ga K "reach_of")) := T.glo 44
theorem Tx.g_span_of (T : Tx K mg) : mg "span_of" = some (.ref (He.ga K "span_of")) := T.glo 45
theorem Tx.g_source_of (T : Tx K mg) : mg "source_of" = some (.ref (He.ga K "source_of")) := T.glo 46
theorem Tx.g_gain_of (T : Tx K mg) : mg "gain_of" = some (.ref (He.ga K "gain_of")) := T.glo 47
theorem Tx.g_plain_from (T : Tx K mg) : mg "plain_from" = some (.ref (He.ga K "plain_from")) := T.glo 48
theorem Tx.g_arcs_of (T : Tx K mg) : mg "arcs_of" = some (.ref (He.ga K "arcs_of")) := T.glo 49
theorem Tx.g_starts_or_ring (T : Tx K mg) : mg "starts_or_ring" = some (.ref (He.ga K "starts_or_ring")) := T.glo 50
theorem Tx.g_find_starts (T : Tx K mg) : mg "find_starts" = some (.ref (He.ga K "find_starts")) := T.glo 51
theorem Tx.g_law_opened (T : Tx K mg) : mg "_law_opened" = some (.ref (He.ga K "_law_opened")) := T.glo 52
theorem Tx.g_law_draw (T : Tx K mg) : mg "_law_draw" = some (.ref (He.ga K "_law_draw")) := T.glo 53
theorem Tx.g_law_one (T : Tx K mg) : mg "_law_one" = some (.ref (He.ga K "_law_one")) := T.glo 54
theorem Tx.g_law_whole (T : Tx K mg) : mg "_law_whole" = some (.ref (He.ga K "_law_whole")) := T.glo 55
theorem Tx.g_law_kinds (T : Tx K mg) : mg "_law_kinds" = some (.ref (He.ga K "_law_kinds")) := T.glo 56
theorem Tx.g_law_vector (T : Tx K mg) : mg "_law_vector" = some (.ref (He.ga K "_law_vector")) := T.glo 57
theorem Tx.g_law_near (T : Tx K mg) : mg "_law_near" = some (.ref (He.ga K "_law_near")) := T.glo 58
theorem Tx.g_law_dot (T : Tx K mg) : mg "_law_dot" = some (.ref (He.ga K "_law_dot")) := T.glo 59
theorem Tx.g_law_served (T : Tx K mg) : mg "_law_served" = some (.ref (He.ga K "_law_served")) := T.glo 60
theorem Tx.g_law_grid (T : Tx K mg) : mg "_law_grid" = some (.ref (He.ga K "_law_grid")) := T.glo 61
theorem Tx.g_law_box (T : Tx K mg) : mg "_law_box" = some (.ref (He.ga K "_law_box")) := T.glo 62
theorem Tx.g_law_links (T : Tx K mg) : mg "_law_links" = some (.ref (He.ga K "_law_links")) := T.glo 63
theorem Tx.g_law_is_loop (T : Tx K mg) : mg "_law_is_loop" = some (.ref (He.ga K "_law_is_loop")) := T.glo 64
theorem Tx.g_law_is_chain (T : Tx K mg) : mg "_law_is_chain" = some (.ref (He.ga K "_law_is_chain")) := T.glo 65
theorem Tx.g_law_told (T : Tx K mg) : mg "_law_told" = some (.ref (He.ga K "_law_told")) := T.glo 66
theorem Tx.g_law_right (T : Tx K mg) : mg "_law_right" = some (.ref (He.ga K "_law_right")) := T.glo 67
theorem Tx.g_law_served_right (T : Tx K mg) : mg "_law_served_right" = some (.ref (He.ga K "_law_served_right")) := T.glo 68
theorem Tx.g_law (T : Tx K mg) : mg "law" = some (.ref (He.ga K "law")) := T.glo 69
theorem Tx.g_Ranks (T : Tx K mg) : mg "Ranks" = some (.ref (He.ga K "Ranks")) := T.glo 70
theorem Tx.c_Ranks (T : Tx K mg) : Cls K (He.ga K "Ranks") := He.cls_ok (T.says.fact 71)
theorem Tx.k_Ranks (T : Tx K mg) : Mk K (He.ga K "Ranks") (He.fAd K ("Ranks", some "__init__")) := He.mkr_ok (T.says.fact 72)
theorem Tx.g_Numbers (T : Tx K mg) : mg "Numbers" = some (.ref (He.ga K "Numbers")) := T.glo 73
theorem Tx.c_Numbers (T : Tx K mg) : Cls K (He.ga K "Numbers") := He.cls_ok (T.says.fact 74)
theorem Tx.k_Numbers (T : Tx K mg) : Mk K (He.ga K "Numbers") (He.fAd K ("Numbers", some "__init__")) := He.mkr_ok (T.says.fact 75)
theorem Tx.n_Ranks_links (T : Tx K mg) : NoAttr K (He.ga K "Ranks") "links" := He.noat_ok (T.says.fact 76)
theorem Tx.n_Ranks_ranks (T : Tx K mg) : NoAttr K (He.ga K "Ranks") "ranks" := He.noat_ok (T.says.fact 77)
theorem Tx.n_Numbers_heights (T : Tx K mg) : NoAttr K (He.ga K "Numbers") "heights" := He.noat_ok (T.says.fact 78)
theorem Tx.n_Numbers_arcs (T : Tx K mg) : NoAttr K (He.ga K "Numbers") "arcs" := He.noat_ok (T.says.fact 79)
theorem Tx.n_Numbers_by (T : Tx K mg) : NoAttr K (He.ga K "Numbers") "by" := He.noat_ok (T.says.fact 80)
theorem Tx.n_Numbers_grown (T : Tx K mg) : NoAttr K (He.ga K "Numbers") "grown" := He.noat_ok (T.says.fact 81)
theorem Tx.m_Ranks_readers (T : Tx K mg) : Meth K (He.ga K "Ranks") "readers" (He.fAd K ("Ranks", some "readers")) := He.meth_ok (T.says.fact 82)
theorem Tx.m_Ranks_go (T : Tx K mg) : Meth K (He.ga K "Ranks") "go" (He.fAd K ("Ranks", some "go")) := He.meth_ok (T.says.fact 83)
theorem Tx.m_Ranks_loop_left (T : Tx K mg) : Meth K (He.ga K "Ranks") "loop_left" (He.fAd K ("Ranks", some "loop_left")) := He.meth_ok (T.says.fact 84)
theorem Tx.m_Ranks_chain (T : Tx K mg) : Meth K (He.ga K "Ranks") "chain" (He.fAd K ("Ranks", some "chain")) := He.meth_ok (T.says.fact 85)
theorem Tx.m_Numbers_grow (T : Tx K mg) : Meth K (He.ga K "Numbers") "grow" (He.fAd K ("Numbers", some "grow")) := He.meth_ok (T.says.fact 86)
theorem Tx.m_Numbers_settle (T : Tx K mg) : Meth K (He.ga K "Numbers") "settle" (He.fAd K ("Numbers", some "settle")) := He.meth_ok (T.says.fact 87)
theorem Tx.m_Numbers_ring_behind (T : Tx K mg) : Meth K (He.ga K "Numbers") "ring_behind" (He.fAd K ("Numbers", some "ring_behind")) := He.meth_ok (T.says.fact 88)
/-- a def of the text, kept promise and all that a caller asks -/
structure DefP (P : Program) (w : World) (K : PySem.W.Frag) (mg : Str → Option Value) (base : Heap) (CX : CXT) (k : Nat) (at_ : Str × Option Str) (ps : List Str) (sp : Sp) : Prop where
  ok : ∃ fd, FnOk P w K mg base CX k (He.fAd K at_) fd ps sp ∧ PySem.W.keepIn K (.ref (He.fAd K at_)) = true ∧ Binds K fd ps []
theorem DefP.mono {P : Program} {w : World} {base : Heap} {CX : CXT} {j k : Nat} {at_ : Str × Option Str} {ps : List Str} {sp : Sp} (D : DefP P w K mg base CX j at_ ps sp) (h : j ≤ k) : DefP P w K mg base CX k at_ ps sp := by
  obtain ⟨fd, F, kp, b⟩ := D.ok
  exact ⟨fd, F.mono h, kp, b⟩
/-- THE RULE for a def that lets nothing out: by its place i in the list of defs -/
theorem mk_def {P : Program} {w : World} {base : Heap} (T : Tx K mg) (i : Nat) (d : He.DefD) {N ps : List Str} {k : Nat} {sp : Sp} (h : fn[i]? = some d) (hdf : d.dfl = []) (hkw : d.kwd = []) (S : FnScope N ps d.scope) (len : ∀ vs H Q E, sp vs H Q E → vs.length = ps.length)
    (hb : ∀ (kV doc pm : Value) (an : Option Addr) (cdv ct : Value) (us : List Value), us.length = ps.length → bindArgs (PySem.W.fnOf d.name d.qual d.params d.body d.scope .none kV doc pm an cdv ct) ⟨us, []⟩ = pure (ps.zip us))
    (hbody : ∀ (cdv : Value) (A : Around) (outer : List Env) (s : Shared) (H : Hp) (vs : List V) (Q : VK) (E : XK), Room k (A.deeper (envOfC d.qual d.scope s.heap.objs.size (He.fAd K d.at_) cdv)) → sp vs H Q E →
      ∃ t, PSs (cxOf CX0 P w K mg base N d.qual d.scope (He.fAd K d.at_) cdv A outer s H E).nox d.body t ∧ t { nx := fun _ H' => Q .non H', rt := Q } (start N vs) H) : DefP P w K mg base CX0 (k + 1) d.at_ ps sp := by
  obtain ⟨fd, F⟩ := T.says.def_ i h
  have e1 : d.dvs K = [] := by unfold He.DefD.dvs; rw [hdf]; rfl
  have e2 : d.kws K = [] := by unfold He.DefD.kws; rw [hkw]; rfl
  rw [e1, e2] at F
  refine ⟨fd, F.ok S len (fun cdv A outer s H vs Q E hr h => ?_), F.kp, F.bindsN hb⟩
  obtain ⟨t, p, q⟩ := hbody cdv A outer s H vs Q E hr h
  exact ⟨t, p.nox, q⟩
/-- .. for one that may raise -/
theorem mk_defX {P : Program} {w : World} {base : Heap} (T : Tx K mg) (i : Nat) (d : He.DefD) {N ps : List Str} {k : Nat} {sp : Sp} (h : fn[i]? = some d) (hdf : d.dfl = []) (hkw : d.kwd = []) (S : FnScope N ps d.scope) (len : ∀ vs H Q E, sp vs H Q E → vs.length = ps.length)
    (hb : ∀ (kV doc pm : Value) (an : Option Addr) (cdv ct : Value) (us : List Value), us.length = ps.length → bindArgs (PySem.W.fnOf d.name d.qual d.params d.body d.scope .none kV doc pm an cdv ct) ⟨us, []⟩ = pure (ps.zip us)) {CX : CXT}
    (hbody : ∀ (cdv : Value) (A : Around) (outer : List Env) (s : Shared) (H : Hp) (vs : List V) (Q : VK) (E : XK), Room k (A.deeper (envOfC d.qual d.scope s.heap.objs.size (He.fAd K d.at_) cdv)) → sp vs H Q E →
      ∃ t, PSs (cxOf CX P w K mg base N d.qual d.scope (He.fAd K d.at_) cdv A outer s H E) d.body t ∧ t { nx := fun _ H' => Q .non H', rt := Q } (start N vs) H) : DefP P w K mg base CX (k + 1) d.at_ ps sp := by
  obtain ⟨fd, F⟩ := T.says.def_ i h
  have e1 : d.dvs K = [] := by unfold He.DefD.dvs; rw [hdf]; rfl
  have e2 : d.kws K = [] := by unfold He.DefD.kws; rw [hkw]; rfl
  rw [e1, e2] at F
  exact ⟨fd, F.ok S len hbody, F.kp, F.bindsN hb⟩
end
/-- a call of a def by its name -/
theorem pe_cd {X : Cx} {CX : CXT} {k : Nat} {x : Str} {ps : List Str} {sp : Sp} {E : XK} {p pos : Pos} {e : Expr} {es : List Expr} {t : TA} (D : DefP X.prog X.w X.K X.mg X.base CX k (x, none) ps sp) (hr : Room k X.A) (hm : X.mg x = some (.ref (He.ga X.K x))) (hx : Passes CX X E) (ha : PA X (e :: es) t)
    (hg : Gl X x := by rfl) (hdb : (x == ("__debug__" : Str)) = false := by decide) (he : starEach (e :: es) X.env = (false, eval e X.env) :: starEach es X.env := by rfl) (hpl : (backTo pos (starEach es X.env)).any (·.1) = false := by rfl) :
    PE X (.Call (.Name x p) (e :: es) [] pos) (tCall sp [] E t) := by
  obtain ⟨fd, F, kp, b⟩ := D.ok
  exact pe_call F hr hg hm kp b .nil hx ha hdb he hpl
theorem pe_cd0 {X : Cx} {CX : CXT} {k : Nat} {x : Str} {ps : List Str} {sp : Sp} {E : XK} {p pos : Pos} (D : DefP X.prog X.w X.K X.mg X.base CX k (x, none) ps sp) (hr : Room k X.A) (hm : X.mg x = some (.ref (He.ga X.K x))) (hx : Passes CX X E)
    (hg : Gl X x := by rfl) (hdb : (x == ("__debug__" : Str)) = false := by decide) : PE X (.Call (.Name x p) [] [] pos) (tCall sp [] E tNil) := by
  obtain ⟨fd, F, kp, b⟩ := D.ok
  exact pe_call0 F hr hg hm kp b .nil hx hdb
end K32
/-! Kt3 -/
set_option Elab.async false
set_option linter.all false
set_option maxRecDepth 100000
set_option maxHeartbeats 4000000
/-! Kit 3: statements over Dn; sources that lean on tuples alone (SrcK); two-clause comprehensions. -/
namespace K32
open PySem PySem.Spec PyProof.Rows L2
section
variable {K : PySem.W.Frag} {σ : L2.St} {H H' : Hp} {ta tb te tx : TE} {t u : TT} {d e z : Dt} {v : V} {ds es : List Dt} {D : Ends} {tu tw : TS}
theorem s_ret (h : Dn te σ H d) (k : ∀ v H2, Same H H2 → TD H2 v d → D.rt v H2) : tRet te D σ H := h.go k
theorem s_set {i : Nat} (h : Dn te σ H d) (k : ∀ v H2, Same H H2 → TD H2 v d → D.nx (σ.set i (some v)) H2) : tAsg te (gName i) D σ H := h.go k
theorem s_drop (h : Dn te σ H d) (k : ∀ H2, Same H H2 → D.nx σ H2) : tDrop te D σ H := h.go fun _ H2 s _ => k H2 s
theorem s_if {b : Bool} (h : DnT t σ H b) (h1 : b = true → ∀ H2, Same H H2 → tu D σ H2) (h2 : b = false → ∀ H2, Same H H2 → tw D σ H2) : tIfS t tu tw D σ H := h.go fun H2 s => by
  cases b with
  | true => exact h1 rfl H2 s
  | false => exact h2 rfl H2 s
/-- an if that is known not to be taken, and has no else -/
theorem s_ifno (h : DnT t σ H false) (k : ∀ H2, Same H H2 → D.nx σ H2) : tIfS t tu tNext D σ H := h.go fun H2 s => k H2 s
theorem s_ifyes (h : DnT t σ H true) (k : ∀ H2, Same H H2 → tu D σ H2) : tIfS t tu tw D σ H := h.go fun H2 s => k H2 s
/-! ### sources that lean on tuples alone -/
def SrcK (wi : TI) (σ : L2.St) (H : Hp) (ds : List Dt) : Prop := ∀ H1, Same H H1 → ∀ R : It → Hp → Prop, (∀ (J : It) H2 (G : Hp → Prop) (Y : Nat → Hp → V → Hp → Prop), Same H1 H2 → Walk J ds.length G Y → (∀ H3, KT H2 H3 → G H3) →
    (∀ i Ha x Hb, i < ds.length → KT H2 Ha → Y i Ha x Hb → Same Ha Hb ∧ ∃ d, ds[i]? = some d ∧ TD Hb x d) → R J H2) → wi σ H1 R
theorem SrcK.src {wi : TI} (h : SrcK wi σ H ds) : Src wi σ H ds := fun H1 s R q => h H1 s R fun J H2 G Y s2 wk hG hY => q J H2 G Y s2 wk (fun H3 s3 => hG H3 (KT.of s3)) fun i Ha x Hb hi sa y => hY i Ha x Hb hi (KT.of sa) y
theorem srcK_tup (h : Dn te σ H (.tuple ds)) (hf : flats ds = true) : SrcK (iTup K te) σ H ds := fun H1 s R q => h H1 s _ fun v H2 s2 t2 => by
  obtain ⟨a, xs, rfl, h1, h2⟩ := t2.t
  have w := walk_tup (K := K) (a := a) (xs := xs)
  rw [h2.len] at w
  exact ⟨a, rfl, ⟨xs, SqT.of h1⟩, q _ H2 _ _ s2 w (fun H3 s3 => SqT.of (s3 _ _ h1)) fun i Ha x Hb _ sa y => YAt.td (h2.k sa hf) y⟩
theorem srcK_rng1 {ta : TA} {n : Int} (h : DnA ta σ H [.int n]) (hn : n < 2 ^ 62) (h0 : -(2 ^ 62) ≤ n) : SrcK (iRng1 ta) σ H ((List.range n.toNat).map fun i : Nat => .int (i : Int)) := fun H1 s R q => h H1 s _ fun vs H2 s2 t2 => by
  obtain ⟨v, rfl, tv⟩ := t2.one
  have e : n.toNat = ((List.range n.toNat).map fun i : Nat => PyData.int (i : Int)).length := by simp
  have w : Walk (Itr 0 n.toNat) ((List.range n.toNat).map fun i : Nat => PyData.int (i : Int)).length (fun _ => True) (YFn fun i => .int (0 + i)) := by
    rw [← e]
    exact walk_range
  refine ⟨n, by rw [tv.i], h0, hn, q _ H2 _ _ s2 w (fun _ _ => trivial) fun i Ha x Hb hi sa y => ?_⟩
  obtain ⟨rfl, rfl⟩ := y
  rw [← e] at hi
  refine ⟨Same.refl _, _, range_at hi, ?_⟩
  show TD Hb (V.int (0 + (i : Int))) (.int (i : Int))
  rw [Int.zero_add]
  exact .int _
theorem srcK_enumT {ta : TA} (h : DnA ta σ H [.tuple ds]) (hf : flats ds = true) : SrcK (iEnumT K ta) σ H ((ds.zipIdx).map fun p => .tuple [.int (p.2 : Nat), p.1]) := fun H1 s R q => h H1 s _ fun vs H2 s2 t2 => by
  obtain ⟨v, rfl, tv⟩ := t2.one
  obtain ⟨a, xs, rfl, a1, a2⟩ := tv.t
  have wk := walk_enumT (K := K) (a := a) (xs := xs)
  rw [show xs.length = ((ds.zipIdx).map fun p => PyData.tuple [.int (p.2 : Nat), p.1]).length by rw [List.length_map, List.length_zipIdx, a2.len]] at wk
  refine ⟨a, xs, rfl, SqT.of a1, q _ H2 _ _ s2 wk (fun H3 s3 => SqT.of (s3 _ _ a1)) fun i Ha x Hb hi sa y => ?_⟩
  obtain ⟨T, x, z, rfl, hT, e, e1, e2⟩ := y
  obtain ⟨d2, g2, t2⟩ := (a2.k sa hf).at e2
  have e1' : V.int (i : Nat) = x := Option.some.inj e1
  subst e1'
  obtain ⟨s4, t4⟩ := pair_td hT e (TD.int (H := Ha) (i : Nat)) t2
  refine ⟨s4, _, ?_, t4⟩
  rw [List.getElem?_map, List.getElem?_zipIdx, g2]
  simp
/-- two clauses, mapped -/
theorem dn_lc2 {α β : Type} {wi wi1 : TI} {g g1 : TG} {vs vs1 : List Nat} (enc : α → Dt) (xs : List α) (enc1 : α → β → Dt) (ys : α → List β) (f : α → β → Dt) (hs : Src wi σ H (xs.map enc)) (hz : (xs.flatMap fun a => (ys a).map (f a)).length ≤ 90000)
    (hfl : ∀ a ∈ xs, ∀ b ∈ ys a, flat (f a b) = true)
    (turn : ∀ a ∈ xs, ∀ (x : V) (H1 : Hp), Same H H1 → TD H1 x (enc a) → ∃ σ2, Sto g x (wipe σ vs) H1 σ2 ∧ wipe σ2 vs = wipe σ vs ∧ SrcK wi1 σ2 H1 ((ys a).map (enc1 a)) ∧
      ∀ b ∈ ys a, ∀ (y : V) (H2 : Hp), Same H H2 → KT H1 H2 → TD H2 y (enc1 a b) → ∃ σ3, Sto g1 y (wipe σ2 vs1) H2 σ3 ∧ wipe σ3 vs1 = wipe σ2 vs1 ∧ Dn te σ3 H2 (f a b)) :
    Dn (tLc2 wi g tYes wi1 g1 tYes te vs vs1) σ H (.list (xs.flatMap fun a => (ys a).map (f a))) := fun H1 s Q q =>
  hs H1 s _ fun J H2 G Y s2 wk hG hY D hD => by
    let P : List Dt → Hp → Prop := fun l H' => Same H2 H' ∧ ∃ us, H' D = some (.lst us) ∧ TDs H' us l
    have hn : (xs.map enc).length = xs.length := by simp
    rw [hn] at wk
    have flp : ∀ i j a, xs[i]? = some a → flats (((xs.take i).flatMap fun a => (ys a).map (f a)) ++ ((ys a).take j).map (f a)) = true := fun i j a ha => flats_of fun d hd => by
      rcases List.mem_append.mp hd with h | h
      · obtain ⟨a', ha', hb⟩ := List.mem_flatMap.mp h
        obtain ⟨b, hb2, rfl⟩ := List.mem_map.mp hb
        exact hfl a' (List.mem_of_mem_take ha') b hb2
      · obtain ⟨b, hb, rfl⟩ := List.mem_map.mp h
        exact hfl a (List.mem_of_getElem? ha) b (List.mem_of_mem_take hb)
    have szp : ∀ i j a, xs[i]? = some a → j < (ys a).length → (((xs.take i).flatMap fun a => (ys a).map (f a)) ++ ((ys a).take j).map (f a)).length < 100000 := fun i j a ha hj => by
      have e : xs = xs.take i ++ a :: xs.drop (i + 1) := by
        obtain ⟨hi, e1⟩ := List.getElem?_eq_some_iff.mp ha
        rw [← e1, ← List.drop_eq_getElem_cons hi, List.take_append_drop]
      have h1 : (xs.flatMap fun a => (ys a).map (f a)).length = ((xs.take i).flatMap fun a => (ys a).map (f a)).length + ((ys a).length + ((xs.drop (i + 1)).flatMap fun a => (ys a).map (f a)).length) := by
        have e2 : (xs.flatMap fun a => (ys a).map (f a)) = ((xs.take i ++ a :: xs.drop (i + 1)).flatMap fun a => (ys a).map (f a)) := by rw [← e]
        rw [e2, List.flatMap_append, List.flatMap_cons, List.length_append, List.length_append, List.length_map]
      rw [List.length_append, List.length_map, List.length_take]
      omega
    refine ⟨fun i m H' => m = xs.length - i ∧ i ≤ xs.length ∧ P ((xs.take i).flatMap fun a => (ys a).map (f a)) H', ⟨xs.length, by simp, Nat.zero_le _, Same.new hD, [], upd_same, by simp; exact .nil⟩, ?_⟩
    rintro i m H' ⟨rfl, hi, p1, us, p2, p3⟩
    by_cases hlt : i < xs.length
    · have ha : xs[i]? = some xs[i] := List.getElem?_eq_getElem hlt
      generalize xs[i] = a at ha
      have hm := List.mem_of_getElem? ha
      have etk : (xs.take (i + 1)).flatMap (fun a => (ys a).map (f a)) = ((xs.take i).flatMap fun a => (ys a).map (f a)) ++ (ys a).map (f a) := by
        rw [List.take_add_one, ha, List.flatMap_append]
        simp
      refine .inr ⟨wk.goes i H' hlt (hG H' p1), P ((xs.take (i + 1)).flatMap fun a => (ys a).map (f a)), fun H'' p' => ⟨xs.length - (i + 1), by omega, rfl, hlt, p'⟩, fun x H3 hy => ?_⟩
      obtain ⟨s3, d, ed, td⟩ := hY i H' x H3 (by rw [hn]; exact hlt) p1 (wk.yields i H' x H3 hlt (hG H' p1) hy)
      rw [List.getElem?_map, ha] at ed
      cases (show some (enc a) = some d from ed)
      obtain ⟨σ2, st, ew, sk, inner⟩ := turn a hm x H3 (s.trans (s2.trans (p1.trans s3))) td
      refine st _ ⟨ew, ?_⟩
      show wi1 σ2 H3 _
      refine sk H3 (Same.refl H3) _ fun J1 H4 G1 Y1 s4 wk1 hG1 hY1 => ?_
      have hn1 : ((ys a).map (enc1 a)).length = (ys a).length := by simp
      rw [hn1] at wk1
      refine ⟨fun j k H5 => k = (ys a).length - j ∧ j ≤ (ys a).length ∧ P (((xs.take i).flatMap fun a => (ys a).map (f a)) ++ ((ys a).take j).map (f a)) H5 ∧ KT H4 H5, ⟨(ys a).length, by simp, Nat.zero_le _, ⟨p1.trans (s3.trans s4), us, s4 _ _ (s3 _ _ p2), ?_⟩, KT.refl H4⟩, ?_⟩
      · simpa using p3.s (s3.trans s4)
      · rintro j k H5 ⟨rfl, hj, ⟨r1, us5, r2, r3⟩, kt⟩
        by_cases hlt1 : j < (ys a).length
        · have hb : (ys a)[j]? = some (ys a)[j] := List.getElem?_eq_getElem hlt1
          generalize (ys a)[j] = b at hb
          refine .inr ⟨wk1.goes j H5 hlt1 (hG1 H5 kt), fun H6 => P (((xs.take i).flatMap fun a => (ys a).map (f a)) ++ ((ys a).take (j + 1)).map (f a)) H6 ∧ KT H4 H6, fun H6 p' => ⟨(ys a).length - (j + 1), by omega, rfl, hlt1, p'.1, p'.2⟩, fun y H6 hy1 => ?_⟩
          obtain ⟨s6, d1, ed1, td1⟩ := hY1 j H5 y H6 (by rw [hn1]; exact hlt1) kt (wk1.yields j H5 y H6 hlt1 (hG1 H5 kt) hy1)
          rw [List.getElem?_map, hb] at ed1
          cases (show some (enc1 a b) = some d1 from ed1)
          obtain ⟨σ3, st1, ew1, de⟩ := inner b (List.mem_of_getElem? hb) y H6 (s.trans (s2.trans (r1.trans s6))) ((KT.of s4).trans (kt.trans (KT.of s6))) td1
          refine st1 _ ⟨ew1, ?_⟩
          show te σ3 H6 _
          refine de.go fun v H7 s7 tv => ⟨us5, s7 _ _ (s6 _ _ r2), szl (by rw [r3.len]; exact szp i j a ha hlt1), ?_⟩
          have kt7 : KT H7 (upd H7 D (.lst (us5 ++ [v]))) := KT.mut (s7 _ _ (s6 _ _ r2)) (fun _ z => nomatch z)
          refine ⟨⟨Same.mut (r1.trans (s6.trans s7)) hD, us5 ++ [v], upd_same, ?_⟩, kt.trans ((KT.of (s6.trans s7)).trans kt7)⟩
          have e3 : ((ys a).take (j + 1)).map (f a) = ((ys a).take j).map (f a) ++ [f a b] := by
            rw [List.take_add_one, hb]
            simp
          rw [e3, ← List.append_assoc]
          exact ((r3.s (s6.trans s7)).k kt7 (flp i j a ha)).snoc (tv.k kt7 (hfl a hm b (List.mem_of_getElem? hb)))
        · have ej : j = (ys a).length := by omega
          refine .inl ⟨by rw [ej]; exact wk1.stops H5 (hG1 H5 kt), r1, us5, r2, ?_⟩
          rw [etk]
          rw [ej, List.take_length] at r3
          exact r3
    · have e : i = xs.length := by omega
      subst e
      refine .inl ⟨wk.stops H' (hG H' p1), q _ H' (s2.trans p1) (.lst p2 ?_)⟩
      rwa [List.take_length] at p3
end
end K32
/-! Kt4 -/
set_option Elab.async false
set_option linter.all false
set_option maxRecDepth 100000
set_option maxHeartbeats 4000000
/-! Kit 4: the layer's rules with the written part K told by its name (a comprehension's block is another context with the same K). -/
namespace K32
open PySem PySem.Spec PyProof.Rows L2
section
variable {X : Cx} {e e2 o : Expr} {es : List Expr} {pos p p2 tpos : Pos} {te : TE} {t : TA}
theorem kix_tup (K : PySem.W.Frag) (h : X.K = K := by rfl) : IxR X (rIxT K) := by subst h; exact ix_tup
theorem kix_list (K : PySem.W.Frag) (h : X.K = K := by rfl) : IxR X (rIxL K) := by subst h; exact ix_list
theorem kcall_isi (K : PySem.W.Frag) (h : X.K = K := by rfl) : CallR X (.builtin "isinstance") (rIsi K) := by subst h; exact call_isi
theorem kcr_sum (K : PySem.W.Frag) (h : X.K = K := by rfl) (hc : X.calm = true := by rfl) : CallR X (.builtin "sum") (rSum K) := by subst h; exact cr_sum hc
theorem kcr_all (K : PySem.W.Frag) (h : X.K = K := by rfl) (hc : X.calm = true := by rfl) : CallR X (.builtin "all") (rAll K) := by subst h; exact cr_all hc
theorem kcr_max (K : PySem.W.Frag) (h : X.K = K := by rfl) (hc : X.calm = true := by rfl) : CallR X (.builtin "max") (rMax K) := by subst h; exact cr_max hc
theorem kcr_min (K : PySem.W.Frag) (h : X.K = K := by rfl) (hc : X.calm = true := by rfl) : CallR X (.builtin "min") (rMin K) := by subst h; exact cr_min hc
def rLen (K : PySem.W.Frag) : List V → Hp → VK → Prop := fun xs H Q => ∃ p ys, xs = [.ref p] ∧ (SqL K H p ys ∨ SqT K H p ys) ∧ Q (.int ys.length) H
def rTuple (K : PySem.W.Frag) : List V → Hp → VK → Prop := fun xs H Q => ∃ p ys, xs = [.ref p] ∧ ((SqL K H p ys ∧ ∀ l, H l = none → Q (.ref l) (upd H l (.tup ys))) ∨ (SqT K H p ys ∧ Q (.ref p) H))
def rList (K : PySem.W.Frag) : List V → Hp → VK → Prop := fun xs H Q => ∃ p ys, xs = [.ref p] ∧ (SqL K H p ys ∨ SqT K H p ys) ∧ ∀ l, H l = none → Q (.ref l) (upd H l (.lst ys))
theorem kcall_len (K : PySem.W.Frag) (h : X.K = K := by rfl) : CallR X (.builtin "len") (rLen K) := by subst h; exact call_len_seq
theorem kcall_tuple (K : PySem.W.Frag) (h : X.K = K := by rfl) : CallR X (.type "tuple") (rTuple K) := by subst h; exact call_tuple_of
theorem kcall_list (K : PySem.W.Frag) (h : X.K = K := by rfl) : CallR X (.type "list") (rList K) := by subst h; exact call_list_of
theorem ksl_tup (K : PySem.W.Frag) (h : X.K = K := by rfl) : SlR X (rSlA K) := by subst h; exact sl_tupA
theorem ksl_list (K : PySem.W.Frag) (h : X.K = K := by rfl) : SlR X (rSlL K) := by subst h; exact sl_list
theorem kpi_tup (K : PySem.W.Frag) {tg : Expr} (he : PE X e te) (h : X.K = K := by rfl) : PI X tg e (iTup K te) := by subst h; exact pi_tup he
theorem kpi_list (K : PySem.W.Frag) {tg : Expr} (he : PE X e te) (h : X.K = K := by rfl) : PI X tg e (iList K te) := by subst h; exact pi_list he
theorem kpi_zip (K : PySem.W.Frag) {elts : List Expr} {kk : Nat} (hm : X.mg "zip" = none) (ha : PA X [e, e2] t) (h : X.K = K := by rfl) (hg : Gl X "zip" := by rfl)
    (hs : starEach [e, e2] X.env = (false, eval e X.env) :: starEach [e2] X.env := by rfl) (hpl : (backTo pos (starEach [e2] X.env)).any (·.1) = false := by rfl) :
    PI X (.Tuple elts kk tpos) (.Call (.Name "zip" p) [e, e2] [] pos) (RZ.iZipA K t) := by subst h; exact RZ.pi_zipA hg hm ha hs hpl
theorem kpi_enumT (K : PySem.W.Frag) {elts : List Expr} {kk : Nat} (hm : X.mg "enumerate" = none) (ha : PA X [e] t) (h : X.K = K := by rfl) (hg : Gl X "enumerate" := by rfl) (hs : starEach [e] X.env = [(false, eval e X.env)] := by rfl) :
    PI X (.Tuple elts kk tpos) (.Call (.Name "enumerate" p) [e] [] pos) (iEnumT K t) := by subst h; exact pi_enumT hg hm ha hs
theorem kpi_enumL (K : PySem.W.Frag) {elts : List Expr} {kk : Nat} (hm : X.mg "enumerate" = none) (ha : PA X [e] t) (h : X.K = K := by rfl) (hg : Gl X "enumerate" := by rfl) (hs : starEach [e] X.env = [(false, eval e X.env)] := by rfl) :
    PI X (.Tuple elts kk tpos) (.Call (.Name "enumerate" p) [e] [] pos) (iEnum K t) := by subst h; exact pi_enum hg hm ha hs
theorem kpg_tup (K : PySem.W.Frag) {k : Nat} {tt : TGs} (n : Nat) (hp : PGs X es tt) (h : X.K = K := by rfl) (hc : X.calm = true := by rfl)
    (hn : (assignEach es X.env).length = n := by rfl) (hst : (assignEach es X.env).findIdx? (·.1) = none := by rfl) : PG X (.Tuple es k pos) (gTup K n tt) := by subst h; exact pg_tup hc hp hn hst
theorem kop_eqD (K : PySem.W.Frag) (hu : X.A.units + 64 < cLine) (h : X.K = K := by rfl) : OpR X (compareOp .Eq) (rEqD K) := by subst h; exact op_eqD hu
theorem kop_neD (K : PySem.W.Frag) (hu : X.A.units + 64 < cLine) (h : X.K = K := by rfl) : OpR X (compareOp .NotEq) (rNeD K) := by subst h; exact op_neD hu
theorem hu65 {k : Nat} {A : Around} (r : Room k A) : A.units + 65 < cLine := by have := r.un; omega
theorem kop_inD (K : PySem.W.Frag) (hu : X.A.units + 65 < cLine) (h : X.K = K := by rfl) : OpR X (compareOp .In) (rInD K) := by subst h; exact op_inD hu
theorem kop_notInD (K : PySem.W.Frag) (hu : X.A.units + 65 < cLine) (h : X.K = K := by rfl) : OpR X (compareOp .NotIn) (rNotInD K) := by subst h; exact op_notInD hu
theorem kop_catA (K : PySem.W.Frag) (h : X.K = K := by rfl) : OpR X (binaryOp .Add) (rCatA K) := by subst h; exact op_catA
theorem kpe_revL (K : PySem.W.Frag) {k : Nat} {p1 p3 : Pos} (he : PE X e te) (h : X.K = K := by rfl) : PE X (.Subscript e (.Slice none none (some (.UnaryOp .USub (.Constant (.int 1) k p1) p2)) p3) pos) (tRevL K te) := by subst h; exact pe_revL he
theorem kpa_star (K : PySem.W.Frag) (he : PE X e te) (hr : PA X es t) (h : X.K = K := by rfl) (hs : starEach (.Starred e p :: es) X.env = (true, eval e X.env) :: starEach es X.env := by rfl) : PA X (.Starred e p :: es) (StX.tStar K te t) := by subst h; exact StX.pa_star he hr hs
theorem kpe_fld (K : PySem.W.Frag) {f : Str} (he : PE X e te) (h : X.K = K := by rfl) (hb : attributeBase e f X.env (eval e X.env) = eval e X.env := by rfl) : PE X (.Attribute e f pos) (tFld K te f) := by subst h; exact pe_fld he hb
theorem kps_fld (K : PySem.W.Frag) {f : Str} {value : Expr} {ta tv : TE} {pos' : Pos} (ha : PE X o ta) (hv : PE X value tv) (h : X.K = K := by rfl) (hs : swapsWith value (some (.Attribute o f pos')) pos.line X.env = pure false := by rfl) : PS X (.Assign [.Attribute o f pos'] value pos) (sFld K ta tv f) := by subst h; exact ps_fld ha hv hs
end
/-! statements with something behind -/
section
variable {K : PySem.W.Frag} {σ : L2.St} {H H' : Hp} {ta tb te tx : TE} {t u : TT} {d e z : Dt} {v : V} {ds es : List Dt} {D : Ends} {tu tw tz : TS}
theorem q_set {i : Nat} (h : Dn te σ H d) (k : ∀ v H2, Same H H2 → TD H2 v d → tz D (σ.set i (some v)) H2) : tSeq (tAsg te (gName i)) tz D σ H := h.go k
theorem q_drop (h : Dn te σ H d) (k : ∀ H2, Same H H2 → tz D σ H2) : tSeq (tDrop te) tz D σ H := h.go fun _ H2 s _ => k H2 s
theorem q_if0 {b : Bool} (h : DnT t σ H b) (h1 : b = true → ∀ H2, Same H H2 → tu { D with nx := tz D } σ H2) (h2 : b = false → ∀ H2, Same H H2 → tz D σ H2) : tSeq (tIfS t tu tNext) tz D σ H := h.go fun H2 s => by
  cases b with
  | true => exact h1 rfl H2 s
  | false => exact h2 rfl H2 s
theorem q_ifno (h : DnT t σ H false) (k : ∀ H2, Same H H2 → tz D σ H2) : tSeq (tIfS t tu tNext) tz D σ H := h.go fun H2 s => k H2 s
theorem q_ifyes (h : DnT t σ H true) (k : ∀ H2, Same H H2 → tu { D with nx := tz D } σ H2) : tSeq (tIfS t tu tw) tz D σ H := h.go fun H2 s => k H2 s
theorem s_if0 {b : Bool} (h : DnT t σ H b) (h1 : b = true → ∀ H2, Same H H2 → tu D σ H2) (h2 : b = false → ∀ H2, Same H H2 → D.nx σ H2) : tIfS t tu tNext D σ H := h.go fun H2 s => by
  cases b with
  | true => exact h1 rfl H2 s
  | false => exact h2 rfl H2 s
/-- name = [], the new list's address kept -/
theorem q_lst0 {i : Nat} (k : ∀ p, H p = none → tz D (σ.set i (some (.ref p))) (upd H p (.lst []))) : tSeq (tAsg (tLst tNil) (gName i)) tz D σ H := ⟨Nat.zero_le _, fun p hp => k p hp⟩
theorem app_ev {i : Nat} {l : Addr} {xs : List V} {Q : Hp → Prop} (ha : σ[i]? = some (some (.ref l))) (hl : H l = some (.lst xs)) (h : Dn te σ H d) (hz : xs.length < 100000) (k : ∀ v H2, Same H H2 → TD H2 v d → Q (upd H2 l (.lst (xs ++ [v])))) :
    tBM K "list" rAppend (tVar i) (tCons te tNil) σ H (fun _ H1 => Q H1) :=
  ⟨.ref l, ha, .inl ⟨rfl, _, SqL.of hl⟩, h.go fun v H2 s2 t2 => ⟨l, xs, v, rfl, rfl, s2 _ _ hl, szl hz, k v H2 s2 t2⟩⟩
theorem s_app {i : Nat} {l : Addr} {xs : List V} (ha : σ[i]? = some (some (.ref l))) (hl : H l = some (.lst xs)) (h : Dn te σ H d) (hz : xs.length < 100000) (k : ∀ v H2, Same H H2 → TD H2 v d → D.nx σ (upd H2 l (.lst (xs ++ [v])))) :
    tDrop (tBM K "list" rAppend (tVar i) (tCons te tNil)) D σ H := app_ev ha hl h hz k
theorem q_app {i : Nat} {l : Addr} {xs : List V} (ha : σ[i]? = some (some (.ref l))) (hl : H l = some (.lst xs)) (h : Dn te σ H d) (hz : xs.length < 100000) (k : ∀ v H2, Same H H2 → TD H2 v d → tz D σ (upd H2 l (.lst (xs ++ [v])))) :
    tSeq (tDrop (tBM K "list" rAppend (tVar i) (tCons te tNil))) tz D σ H := app_ev (Q := tz D σ) ha hl h hz k
/-- a for over what leans on tuples alone -/
theorem q_forK {α : Type} {wi : TI} {g : TG} (enc : α → Dt) (xs : List α) (hs : SrcK wi σ H (xs.map enc)) (Pv : Nat → L2.St → Hp → Prop) (hst : ∀ i σ' Ha Hb, Same Ha Hb → Pv i σ' Ha → Pv i σ' Hb) (h0 : ∀ H1, Same H H1 → Pv 0 σ H1)
    (turn : ∀ i a x σ' H1, xs[i]? = some a → KT H H1 → TD H1 x (enc a) → Pv i σ' H1 → ∃ σ2, Sto g x σ' H1 σ2 ∧ ∀ N : L2.St → Hp → Prop, (∀ σ3 H3, KT H1 H3 → Pv (i + 1) σ3 H3 → N σ3 H3) → tu { D with nx := N, ct := N, bk := tz D } σ2 H1)
    (hd : ∀ σ' H1, KT H H1 → Pv xs.length σ' H1 → tz D σ' H1) : tSeq (tFor wi g tu) tz D σ H :=
  hs H (Same.refl H) _ fun J H2 G Y s2 wk hG hY => by
    have hn : (xs.map enc).length = xs.length := by simp
    rw [hn] at wk
    refine for_it wk (fun i σ' H' => KT H2 H' ∧ Pv i σ' H') ⟨KT.refl H2, h0 H2 s2⟩ (fun i σ' H' _ p => hG H' p.1) ?_ (fun σ' H' p => hd σ' H' ((KT.of s2).trans p.1) p.2)
    rintro i x σ' Ha Hb hi ⟨p1, p2⟩ y
    obtain ⟨s3, d, e, td⟩ := hY i Ha x Hb (by rw [hn]; exact hi) p1 y
    have ha : xs[i]? = some xs[i] := List.getElem?_eq_getElem hi
    rw [List.getElem?_map, ha] at e
    cases (show some (enc xs[i]) = some d from e)
    obtain ⟨σ2, st, ht⟩ := turn i xs[i] x σ' Hb ha ((KT.of s2).trans (p1.trans (KT.of s3))) td (hst i σ' Ha Hb s3 p2)
    exact st _ (ht _ fun σ3 H3 k p => ⟨(p1.trans (KT.of s3)).trans k, p⟩)
end
/-! the same of what is evaluated -/
section
variable {K : PySem.W.Frag} {ds : List Dt}
theorem dn_inD {σ : L2.St} {H : Hp} {ta tb : TE} {d : Dt} (ha : Dn ta σ H d) (hb : Dn tb σ H (.list ds)) (sd : SeqAt.shaped d = true) (sl : SeqAt.shaped (.list ds) = true) : Dn (tOp (rInD K) ta tb) σ H (.bool (ds.any fun z => PyData.eqv z d)) :=
  dn_op ha hb fun x y H tx ty Q q => ⟨d, ds, tx.dp, ty.dp, sd, sl, q _ H (Same.refl H) (.bl _)⟩
theorem rd_lenT : RDc (rLen K) [.tuple ds] (.int ds.length) := rc_lenT
theorem rd_lenL : RDc (rLen K) [.list ds] (.int ds.length) := rc_lenL
theorem rd_tupL : RDc (rTuple K) [.list ds] (.tuple ds) := rc_tupL
theorem rd_lstT : RDc (rList K) [.tuple ds] (.list ds) := rc_lstT
theorem rd_lstL : RDc (rList K) [.list ds] (.list ds) := rc_lstL
theorem kb_int_int : kitB "int" "int" = some true := by decide +kernel
theorem kb_int_tuple : kitB "int" "tuple" = some false := by decide +kernel
theorem kb_int_str : kitB "int" "str" = some false := by decide +kernel
theorem kb_int_bool : kitB "int" "bool" = some false := by decide +kernel
theorem kb_tuple_int : kitB "tuple" "int" = some false := by decide +kernel
theorem kb_tuple_tuple : kitB "tuple" "tuple" = some true := by decide +kernel
theorem kb_tuple_str : kitB "tuple" "str" = some false := by decide +kernel
theorem kb_tuple_bool : kitB "tuple" "bool" = some false := by decide +kernel
theorem kb_str_int : kitB "str" "int" = some false := by decide +kernel
theorem kb_str_tuple : kitB "str" "tuple" = some false := by decide +kernel
theorem kb_str_str : kitB "str" "str" = some true := by decide +kernel
theorem kb_str_bool : kitB "str" "bool" = some false := by decide +kernel
theorem kb_list_int : kitB "list" "int" = some false := by decide +kernel
theorem kb_list_tuple : kitB "list" "tuple" = some false := by decide +kernel
theorem kb_list_str : kitB "list" "str" = some false := by decide +kernel
theorem kb_list_bool : kitB "list" "bool" = some false := by decide +kernel
theorem kb_bool_int : kitB "bool" "int" = some true := by decide +kernel
theorem kb_bool_tuple : kitB "bool" "tuple" = some false := by decide +kernel
theorem kb_bool_str : kitB "bool" "str" = some false := by decide +kernel
theorem kb_bool_bool : kitB "bool" "bool" = some true := by decide +kernel
theorem dn_isI {σ : L2.St} {H : Hp} {ta : TE} {i : Int} {n : String} {b : Bool} (h : Dn ta σ H (.int i)) (k : kitB "int" n = some b) : Dn (tCB (rIsi K) (tCons ta (tCons (tC (.ty n)) tNil))) σ H (.bool b) := dn_isi h k
theorem dn_isT {σ : L2.St} {H : Hp} {ta : TE} {ds : List Dt} {n : String} {b : Bool} (h : Dn ta σ H (.tuple ds)) (k : kitB "tuple" n = some b) : Dn (tCB (rIsi K) (tCons ta (tCons (tC (.ty n)) tNil))) σ H (.bool b) := dn_isi h k
theorem dn_isS {σ : L2.St} {H : Hp} {ta : TE} {x : Str} {n : String} {b : Bool} (h : Dn ta σ H (.str x)) (k : kitB "str" n = some b) : Dn (tCB (rIsi K) (tCons ta (tCons (tC (.ty n)) tNil))) σ H (.bool b) := dn_isi h k
theorem dn_isL {σ : L2.St} {H : Hp} {ta : TE} {ds : List Dt} {n : String} {b : Bool} (h : Dn ta σ H (.list ds)) (k : kitB "list" n = some b) : Dn (tCB (rIsi K) (tCons ta (tCons (tC (.ty n)) tNil))) σ H (.bool b) := dn_isi h k
theorem dn_isB {σ : L2.St} {H : Hp} {ta : TE} {c : Bool} {n : String} {b : Bool} (h : Dn ta σ H (.bool c)) (k : kitB "bool" n = some b) : Dn (tCB (rIsi K) (tCons ta (tCons (tC (.ty n)) tNil))) σ H (.bool b) := dn_isi h k
end
end K32
/-! M1 -/
set_option Elab.async false
set_option linter.all false
set_option maxRecDepth 100000
set_option maxHeartbeats 4000000
/-! Mathematics 1: the data of the text in plain Lean, how they stand as data of the heap, what the small defs compute. -/
namespace K32
open PySem
abbrev Vec := List Int
/-- a word (plane, point); a read (source, distance) -/
abbrev Wd := Int × Vec
structure Flow where
  dims : Int
  rules : List (Str × List Wd)
def dV (v : Vec) : Dt := .tuple (v.map .int)
def dW (w : Wd) : Dt := .tuple [.int w.1, dV w.2]
def dRule (r : Str × List Wd) : Dt := .tuple (.str r.1 :: r.2.map dW)
def dFlow (f : Flow) : Dt := .tuple [.int f.dims, .tuple (f.rules.map dRule)]
/-- a read in full: plane, operand, source, distance -/
abbrev Rd4 := Int × Int × Int × Vec
def dRd (r : Rd4) : Dt := .tuple [.int r.1, .int r.2.1, .int r.2.2.1, dV r.2.2.2]
def dotp (a b : Vec) : Int := ((a.zip b).map fun p => p.1 * p.2).sum
def diff (a b : Vec) : Vec := (a.zip b).map fun p => p.1 - p.2
def inside (b v : Vec) : Bool := ((v.zip b).map fun p => decide (0 ≤ p.1) && decide (p.1 < p.2)).all id
def isPt (b v : Vec) : Bool := if v.length = b.length then ((v.zip b).map fun p => decide (0 ≤ p.1) && decide (p.1 ≤ p.2 - 1)).all id else false
def allIn (v : Vec) (n lo hi : Int) : Bool := if (v.length : Int) = n then (v.map fun x => decide (lo ≤ x) && decide (x ≤ hi)).all id else false
def vol (b : Vec) : Int := b.foldl (fun x s => x * s) 1
def ptsStep (rows : List Vec) (s : Int) : List Vec := rows.flatMap fun r => (List.range s.toNat).map fun i : Nat => r ++ [(i : Int)]
def pts (b : Vec) : List Vec := b.foldl ptsStep [[]]
def rds (f : Flow) : List Rd4 := f.rules.zipIdx.flatMap fun p => p.1.2.zipIdx.map fun q => ((p.2 : Int), (q.2 : Int), q.1.1, q.1.2)
/-- the words that a word reads -/
def rby (f : Flow) (b : Vec) (w : Wd) : List Wd := (rds f).filterMap fun r => if r.1 = w.1 ∧ inside b (diff w.2 r.2.2.2) = true then some (r.2.2.1, diff w.2 r.2.2.2) else none
def wds (f : Flow) (b : Vec) : List Wd := (List.range f.rules.length).flatMap fun pl : Nat => (pts b).map fun p => ((pl : Int), p)
/-- bounds -/
def small (v : Vec) : Prop := ∀ x ∈ v, -1000 ≤ x ∧ x ≤ 1000
structure BoxOk (b : Vec) : Prop where
  pos : ∀ s ∈ b, 1 ≤ s
  vol : vol b ≤ 240
  len : b.length ≤ 3
structure FlowOk (f : Flow) : Prop where
  n1 : 1 ≤ f.rules.length
  n6 : f.rules.length ≤ 6
  r1 : ∀ r ∈ f.rules, 1 ≤ r.2.length ∧ r.2.length ≤ 3
  src : ∀ r ∈ f.rules, ∀ q ∈ r.2, 0 ≤ q.1 ∧ q.1 < (f.rules.length : Int)
  dst : ∀ r ∈ f.rules, ∀ q ∈ r.2, (q.2.length : Int) = f.dims ∧ small q.2
theorem flat_dV (v : Vec) : flat (dV v) = true := by
  unfold dV
  rw [flat]
  induction v with
  | nil => rfl
  | cons a v ih => simp [flats, flat, ih]
theorem flat_dW (w : Wd) : flat (dW w) = true := by
  unfold dW
  simp [flat, flats, flat_dV]
theorem flats_map {α : Type} {e : α → Dt} (h : ∀ a, flat (e a) = true) : ∀ l : List α, flats (l.map e) = true
  | [] => rfl
  | a :: l => by simp [flats, h a, flats_map h l]
theorem flat_dRule (r : Str × List Wd) : flat (dRule r) = true := by
  unfold dRule
  simp [flat, flats, flats_map flat_dW]
theorem flat_dRd (r : Rd4) : flat (dRd r) = true := by
  unfold dRd
  simp [flat, flats, flat_dV]
theorem flat_dFlow (f : Flow) : flat (dFlow f) = true := by
  unfold dFlow
  simp [flat, flats, flats_map flat_dRule]
/-! equality of such data -/
theorem eqvAll_int : ∀ a b : List Int, PyData.eqvAll (a.map .int) (b.map .int) = decide (a = b)
  | [], [] => rfl
  | [], _ :: _ => by simp [PyData.eqvAll]
  | _ :: _, [] => by simp [PyData.eqvAll]
  | x :: a, y :: b => by
    rw [List.map_cons, List.map_cons, PyData.eqvAll, eqvAll_int a b, PyData.eqv]
    by_cases h : x = y
    · subst h
      simp
    · simp [h]
theorem eqv_dV (a b : Vec) : PyData.eqv (dV a) (dV b) = decide (a = b) := by
  unfold dV
  rw [PyData.eqv]
  exact eqvAll_int a b
theorem eqv_dW (a b : Wd) : PyData.eqv (dW a) (dW b) = decide (a = b) := by
  obtain ⟨i, u⟩ := a
  obtain ⟨j, v⟩ := b
  unfold dW
  rw [PyData.eqv, PyData.eqvAll, PyData.eqvAll, PyData.eqvAll, eqv_dV, PyData.eqv]
  by_cases h : i = j
  · subst h
    by_cases h2 : u = v
    · subst h2; simp
    · simp [h2]
  · simp [h]
theorem eqvAll_map {α : Type} [DecidableEq α] {e : α → Dt} (he : ∀ a b, PyData.eqv (e a) (e b) = decide (a = b)) : ∀ a b : List α, PyData.eqvAll (a.map e) (b.map e) = decide (a = b)
  | [], [] => rfl
  | [], _ :: _ => by simp [PyData.eqvAll]
  | _ :: _, [] => by simp [PyData.eqvAll]
  | x :: a, y :: b => by
    rw [List.map_cons, List.map_cons, PyData.eqvAll, eqvAll_map he a b, he]
    by_cases h : x = y
    · subst h
      simp
    · simp [h]
theorem any_eqv (w : Wd) (ws : List Wd) : ((ws.map dW).any fun z => PyData.eqv z (dW w)) = decide (w ∈ ws) := by
  rw [List.any_map]
  induction ws with
  | nil => simp
  | cons a ws ih =>
    rw [List.any_cons, ih]
    show (PyData.eqv (dW a) (dW w) || _) = _
    rw [eqv_dW]
    by_cases h : a = w
    · subst h; simp
    · have h' : ¬ w = a := fun e => h e.symm
      simp [h, h']
theorem lay_ints : ∀ l : List Int, PyData.canLayAll0 (l.map .int) = true
  | [] => by simp [PyData.canLayAll0]
  | a :: l => by simp [PyData.canLayAll0, PyData.canLay0, lay_ints l]
theorem dep_ints : ∀ l : List Int, PyData.depthAll (l.map .int) = 0
  | [] => by simp [PyData.depthAll]
  | a :: l => by simp [PyData.depthAll, PyData.depth, dep_ints l]
theorem lay_dV (v : Vec) : (dV v).canLay0 = true := by unfold dV; simp [PyData.canLay0, lay_ints]
theorem dep_dV (v : Vec) : (dV v).depth = 1 := by unfold dV; simp [PyData.depth, dep_ints]
theorem lay_dW (w : Wd) : (dW w).canLay0 = true := by unfold dW; simp [PyData.canLay0, PyData.canLayAll0, lay_dV]
theorem dep_dW (w : Wd) : (dW w).depth = 2 := by unfold dW; simp [PyData.depth, PyData.depthAll, dep_dV]
theorem lays_map {α : Type} {e : α → Dt} (h : ∀ a, (e a).canLay0 = true) : ∀ l : List α, PyData.canLayAll0 (l.map e) = true
  | [] => by simp [PyData.canLayAll0]
  | a :: l => by simp [PyData.canLayAll0, h a, lays_map h l]
theorem deps_map {α : Type} {e : α → Dt} {n : Nat} (h : ∀ a, (e a).depth ≤ n) : ∀ l : List α, PyData.depthAll (l.map e) ≤ n
  | [] => by simp [PyData.depthAll]
  | a :: l => by
    have h1 := h a
    have h2 := deps_map h l
    simp only [List.map_cons, PyData.depthAll]
    omega
theorem shaped_of {d : Dt} (h1 : d.canLay0 = true) (h2 : d.depth ≤ 64) : SeqAt.shaped d = true := by
  show (d.canLay0 && decide (d.depth ≤ 64)) = true
  rw [h1, decide_eq_true h2]; rfl
theorem shaped_dV (v : Vec) : SeqAt.shaped (dV v) = true := shaped_of (lay_dV v) (by rw [dep_dV]; decide)
theorem shaped_dW (w : Wd) : SeqAt.shaped (dW w) = true := shaped_of (lay_dW w) (by rw [dep_dW]; decide)
theorem shaped_lW (ws : List Wd) : SeqAt.shaped (.list (ws.map dW)) = true := shaped_of (by simp [PyData.canLay0, lays_map lay_dW]) (by
  have := deps_map (e := dW) (n := 2) (fun a => by rw [dep_dW]; decide) ws
  simp only [PyData.depth]; omega)
theorem shaped_tW (ws : List Wd) : SeqAt.shaped (.tuple (ws.map dW)) = true := shaped_of (by simp [PyData.canLay0, lays_map lay_dW]) (by
  have := deps_map (e := dW) (n := 2) (fun a => by rw [dep_dW]; decide) ws
  simp only [PyData.depth]; omega)
end K32
/-! W1 -/
set_option Elab.async false
set_option linter.all false
set_option maxRecDepth 100000
set_option maxHeartbeats 4000000
namespace K32
open PySem PySem.Spec PyProof.Rows L2
local macro_rules | `(tactic| walk_at "dn") => `(tactic| first
  | with_reducible exact dn_int | with_reducible exact dn_str | with_reducible exact dn_bl | with_reducible exact dn_non | with_reducible exact da_nil | with_reducible exact do_none
  | ((with_reducible refine' dn_var ?h ?k); (case h => rfl); (case k => assumption))
  | ((with_reducible refine' da_cons ?_ ?_) <;> try walk_at "dn")
  | ((with_reducible refine' dn_add ?_ ?_) <;> try walk_at "dn")
  | ((with_reducible refine' dn_sub ?_ ?_) <;> try walk_at "dn")
  | ((with_reducible refine' dn_mul ?_ ?_ ?_) <;> try walk_at "dn")
  | ((with_reducible refine' dn_lt ?_ ?_) <;> try walk_at "dn")
  | ((with_reducible refine' dn_le ?_ ?_) <;> try walk_at "dn")
  | ((with_reducible refine' dn_gt ?_ ?_) <;> try walk_at "dn")
  | ((with_reducible refine' dn_ge ?_ ?_) <;> try walk_at "dn")
  | ((with_reducible refine' dn_neg ?_) <;> try walk_at "dn")
  | ((with_reducible refine' dn_chain ?_ ?_ ?_ rd_le rd_le) <;> try walk_at "dn")
  | ((with_reducible refine' dn_chain ?_ ?_ ?_ rd_le rd_lt) <;> try walk_at "dn")
  | ((with_reducible refine' dn_isI ?h ?k); (case h => walk_at "dn"); (case k => first | with_reducible exact kb_int_int | with_reducible exact kb_int_tuple | with_reducible exact kb_int_str | with_reducible exact kb_int_bool))
  | ((with_reducible refine' dn_isT ?h ?k); (case h => walk_at "dn"); (case k => first | with_reducible exact kb_tuple_int | with_reducible exact kb_tuple_tuple | with_reducible exact kb_tuple_str | with_reducible exact kb_tuple_bool))
  | ((with_reducible refine' dn_isS ?h ?k); (case h => walk_at "dn"); (case k => first | with_reducible exact kb_str_int | with_reducible exact kb_str_tuple | with_reducible exact kb_str_str | with_reducible exact kb_str_bool))
  | ((with_reducible refine' dn_isL ?h ?k); (case h => walk_at "dn"); (case k => first | with_reducible exact kb_list_int | with_reducible exact kb_list_tuple | with_reducible exact kb_list_str | with_reducible exact kb_list_bool))
  | ((with_reducible refine' dn_isB ?h ?k); (case h => walk_at "dn"); (case k => first | with_reducible exact kb_bool_int | with_reducible exact kb_bool_tuple | with_reducible exact kb_bool_str | with_reducible exact kb_bool_bool))
  | ((with_reducible refine' dn_ixT ?h ?t ?k); (case h => walk_at "dn"); (case t => walk_at "dn"); try (case k => rfl))
  | ((with_reducible refine' dn_ixL ?h ?t ?k); (case h => walk_at "dn"); (case t => walk_at "dn"); try (case k => rfl))
  | ((with_reducible refine' dn_cb ?h ?k); (case h => walk_at "dn"); try (case k => first | exact rd_lenT | exact rd_lenL | exact rd_tupL | exact rd_lstT | exact rd_lstL | exact rc_all | exact rc_sum | exact rc_max2 | exact rc_min2))
  | ((with_reducible refine' dn_call ?h ?t ?k); (case h => walk_at "dn"); (case t => rfl))
  | ((with_reducible refine' dt_test ?_) <;> try walk_at "dn")
  | ((with_reducible refine' dt_B ?_) <;> try walk_at "dn")
  | ((with_reducible refine' dn_eqI ?h ?k); (case h => walk_at "dn"); (case k => walk_at "dn"))
  | ((with_reducible refine' dn_neI ?h ?k); (case h => walk_at "dn"); (case k => walk_at "dn"))
  | ((with_reducible refine' dn_eqS ?h ?k); (case h => walk_at "dn"); (case k => walk_at "dn"))
  | ((with_reducible refine' dn_neS ?h ?k); (case h => walk_at "dn"); (case k => walk_at "dn"))
  | ((with_reducible refine' dt_or ?_ (fun _ => ?_)) <;> try walk_at "dn")
  | ((with_reducible refine' dt_and ?_ (fun _ => ?_)) <;> try walk_at "dn")
  | ((with_reducible refine' dn_orV ?_ (fun _ => ?_)) <;> try walk_at "dn")
  | ((with_reducible refine' dn_andV ?_ (fun _ => ?_)) <;> try walk_at "dn")
  | ((with_reducible refine' dt_not ?_) <;> try walk_at "dn")
  | ((with_reducible refine' dn_notV ?_) <;> try walk_at "dn")
  | ((with_reducible refine' da_star ?_ ?_) <;> try walk_at "dn")
  | ((with_reducible refine' dn_tup ?_ ?_) <;> try walk_at "dn")
  | ((with_reducible refine' dn_lst ?_ ?_) <;> try walk_at "dn")
  | ((with_reducible refine' do_some ?_) <;> try walk_at "dn"))
variable {P : Program} {w : World} {K : PySem.W.Frag} {mg : Str → Option Value} {base : Heap}
abbrev N_is_integer : List Str := ["value", "low", "high"]
abbrev P_is_integer : List Str := ["value", "low", "high"]
theorem sc_is_integer : FnScope N_is_integer P_is_integer (defScope s_is_integer) := ⟨rfl, rfl, rfl, by decide +kernel, rfl, by decide +kernel, by decide +kernel⟩
def fIsInteger (ds : List Dt) (r : Dt) : Prop := ∃ v lo hi : Int, ds = [.int v, .int lo, .int hi] ∧ r = .bool (decide (lo ≤ v) && decide (v ≤ hi))
theorem D_is_integer (T : Tx K mg) : DefP P w K mg base CX0 1 ("is_integer", none) P_is_integer (Pu 3 fIsInteger) := by
  refine mk_def T 1 d_is_integer rfl rfl rfl sc_is_integer (fun vs H Q E h => h.1) (fun _ _ _ _ _ _ us hl => match us, hl with | [_, _, _], _ => rfl) (fun cdv A outer s H vs Q E hr h => ?_)
  obtain ⟨_, ds, r, hd, ⟨v, lo, hi, rfl, rfl⟩, q⟩ := h
  obtain ⟨x, y, z, rfl, t1, t2, t3⟩ := hd.three
  refine ⟨_, (pss_one (ps_ret (pe_and (pe_callB (kcall_isi K) (by rfl) T.f_isinstance (by decide +kernel) (pa_cons (pv 0) (pa_cons (pe_bltn (v := .ty "int") rfl T.f_int (by decide +kernel) rfl) pa_nil))) (pe_and (pe_not (pe_callB (kcall_isi K) (by rfl) T.f_isinstance (by decide +kernel) (pa_cons (pv 0) (pa_cons (pe_bltn (v := .ty "bool") rfl T.f_bool (by decide +kernel) rfl) pa_nil)))) (pe_one (pe_chain op_le op_le (pv 1) (pv 0) (pv 2))))))), ?_⟩
  refine s_ret (d := .bool (true && (!false && (decide (lo ≤ v) && decide (v ≤ hi))))) (dn_andV ?_ fun _ => dn_andV ?_ fun _ => ?_) fun v H2 s t => q v H2 s (by simpa using t)
  all_goals walk_at "dn"
abbrev N_dot : List Str := ["one", "other", "left", "right"]
abbrev P_dot : List Str := ["one", "other"]
theorem sc_dot : FnScope N_dot P_dot (defScope s_dot) := ⟨rfl, rfl, rfl, by decide +kernel, rfl, by decide +kernel, by decide +kernel⟩
def fDot (ds : List Dt) (r : Dt) : Prop := ∃ a b : Vec, ds = [dV a, dV b] ∧ small a ∧ a.length ≤ 1000 ∧ r = .int (dotp a b)
theorem D_dot (T : Tx K mg) : DefP P w K mg base CX0 1 ("dot", none) P_dot (Pu 2 fDot) := by
  refine mk_def T 3 d_dot rfl rfl rfl sc_dot (fun vs H Q E h => h.1) (fun _ _ _ _ _ _ us hl => match us, hl with | [_, _], _ => rfl) (fun cdv A outer s H vs Q E hr h => ?_)
  obtain ⟨_, ds, r, hd, ⟨a, b, rfl, hs, hl, rfl⟩, q⟩ := h
  obtain ⟨x, y, rfl, t1, t2⟩ := hd.two
  refine ⟨_, (pss_one (ps_ret (pe_callB (kcr_sum K) (by rfl) T.f_sum (by decide +kernel) (pa_cons (pe_lc (own := [("left", 2), ("right", 3)]) rfl sc_dot.nd (kpi_zip K T.f_zip (pa_cons (pv 0) (pa_cons (pv 1) pa_nil))) (blkOk_by (N := N_dot) (sc := defScope s_dot) (by decide +kernel)) (fun _ _ _ _ _ => (kpg_tup K 2 (pgs_cons (pg_name (i := 2) sc_dot.nd rfl (by first | exact Or.inl rfl | exact Or.inr rfl)) (pgs_cons (pg_name (i := 3) sc_dot.nd rfl (by first | exact Or.inl rfl | exact Or.inr rfl)) pgs_nil)))) (fun _ _ _ _ _ => pts_nil) (fun _ _ _ _ _ => (pe_op op_mul (pv 2) (pv 3)))) pa_nil)))), ?_⟩
  refine s_ret (dn_cb (da_cons (dn_lcm (α := Int × Int) (fun p => .tuple [.int p.1, .int p.2]) (a.zip b) (fun p => .int (p.1 * p.2)) ?_ ?_ (fun _ _ => rfl) ?_) da_nil) (z := .int (dotp a b)) ?_) q
  · have h : ((a.zip b).map fun p => PyData.tuple [.int p.1, .int p.2]) = ((a.map PyData.int).zip (b.map PyData.int)).map fun p => .tuple [p.1, p.2] := by
      rw [List.zip_map, List.map_map]; rfl
    rw [h]
    exact src_zip (by walk_at "dn")
  · rw [List.length_zip]; omega
  · rintro p hp x H1 s td
    obtain ⟨u, v, tu, tv, st⟩ := sto_two (K := K) (σ := wipe _ _) (i := 2) (j := 3) td
    refine ⟨_, st, rfl, dn_mul (by walk_at "dn") (by walk_at "dn") (.inl ?_)⟩
    have := hs _ (List.of_mem_zip hp).1
    omega
  · have e : (a.zip b).map (fun p => PyData.int (p.1 * p.2)) = ((a.zip b).map fun p => p.1 * p.2).map .int := by rw [List.map_map]; rfl
    rw [e]
    exact rc_sum
end K32
/-! W2 -/
set_option Elab.async false
set_option linter.all false
set_option maxRecDepth 100000
set_option maxHeartbeats 4000000
namespace K32
open PySem PySem.Spec PyProof.Rows L2
local macro_rules | `(tactic| walk_at "dn") => `(tactic| first
  | with_reducible exact dn_int | with_reducible exact dn_str | with_reducible exact dn_bl | with_reducible exact dn_non | with_reducible exact da_nil | with_reducible exact do_none
  | ((with_reducible refine' dn_var ?h ?k); (case h => rfl); (case k => assumption))
  | ((with_reducible refine' da_cons ?_ ?_) <;> try walk_at "dn")
  | ((with_reducible refine' dn_add ?_ ?_) <;> try walk_at "dn")
  | ((with_reducible refine' dn_sub ?_ ?_) <;> try walk_at "dn")
  | ((with_reducible refine' dn_mul ?_ ?_ ?_) <;> try walk_at "dn")
  | ((with_reducible refine' dn_lt ?_ ?_) <;> try walk_at "dn")
  | ((with_reducible refine' dn_le ?_ ?_) <;> try walk_at "dn")
  | ((with_reducible refine' dn_gt ?_ ?_) <;> try walk_at "dn")
  | ((with_reducible refine' dn_ge ?_ ?_) <;> try walk_at "dn")
  | ((with_reducible refine' dn_neg ?_) <;> try walk_at "dn")
  | ((with_reducible refine' dn_chain ?_ ?_ ?_ rd_le rd_le) <;> try walk_at "dn")
  | ((with_reducible refine' dn_chain ?_ ?_ ?_ rd_le rd_lt) <;> try walk_at "dn")
  | ((with_reducible refine' dn_isI ?h ?k); (case h => walk_at "dn"); (case k => first | with_reducible exact kb_int_int | with_reducible exact kb_int_tuple | with_reducible exact kb_int_str | with_reducible exact kb_int_bool))
  | ((with_reducible refine' dn_isT ?h ?k); (case h => walk_at "dn"); (case k => first | with_reducible exact kb_tuple_int | with_reducible exact kb_tuple_tuple | with_reducible exact kb_tuple_str | with_reducible exact kb_tuple_bool))
  | ((with_reducible refine' dn_isS ?h ?k); (case h => walk_at "dn"); (case k => first | with_reducible exact kb_str_int | with_reducible exact kb_str_tuple | with_reducible exact kb_str_str | with_reducible exact kb_str_bool))
  | ((with_reducible refine' dn_isL ?h ?k); (case h => walk_at "dn"); (case k => first | with_reducible exact kb_list_int | with_reducible exact kb_list_tuple | with_reducible exact kb_list_str | with_reducible exact kb_list_bool))
  | ((with_reducible refine' dn_isB ?h ?k); (case h => walk_at "dn"); (case k => first | with_reducible exact kb_bool_int | with_reducible exact kb_bool_tuple | with_reducible exact kb_bool_str | with_reducible exact kb_bool_bool))
  | ((with_reducible refine' dn_ixT ?h ?t ?k); (case h => walk_at "dn"); (case t => walk_at "dn"); try (case k => rfl))
  | ((with_reducible refine' dn_ixL ?h ?t ?k); (case h => walk_at "dn"); (case t => walk_at "dn"); try (case k => rfl))
  | ((with_reducible refine' dn_cb ?h ?k); (case h => walk_at "dn"); try (case k => first | exact rd_lenT | exact rd_lenL | exact rd_tupL | exact rd_lstT | exact rd_lstL | exact rc_all | exact rc_sum | exact rc_max2 | exact rc_min2))
  | ((with_reducible refine' dn_call ?h ?t ?k); (case h => walk_at "dn"); (case t => rfl))
  | ((with_reducible refine' dt_test ?_) <;> try walk_at "dn")
  | ((with_reducible refine' dt_B ?_) <;> try walk_at "dn")
  | ((with_reducible refine' dn_eqI ?h ?k); (case h => walk_at "dn"); (case k => walk_at "dn"))
  | ((with_reducible refine' dn_neI ?h ?k); (case h => walk_at "dn"); (case k => walk_at "dn"))
  | ((with_reducible refine' dn_eqS ?h ?k); (case h => walk_at "dn"); (case k => walk_at "dn"))
  | ((with_reducible refine' dn_neS ?h ?k); (case h => walk_at "dn"); (case k => walk_at "dn"))
  | ((with_reducible refine' dt_or ?_ (fun _ => ?_)) <;> try walk_at "dn")
  | ((with_reducible refine' dt_and ?_ (fun _ => ?_)) <;> try walk_at "dn")
  | ((with_reducible refine' dn_orV ?_ (fun _ => ?_)) <;> try walk_at "dn")
  | ((with_reducible refine' dn_andV ?_ (fun _ => ?_)) <;> try walk_at "dn")
  | ((with_reducible refine' dt_not ?_) <;> try walk_at "dn")
  | ((with_reducible refine' dn_notV ?_) <;> try walk_at "dn")
  | ((with_reducible refine' da_star ?_ ?_) <;> try walk_at "dn")
  | ((with_reducible refine' dn_tup ?_ ?_) <;> try walk_at "dn")
  | ((with_reducible refine' dn_lst ?_ ?_) <;> try walk_at "dn")
  | ((with_reducible refine' do_some ?_) <;> try walk_at "dn"))
variable {P : Program} {w : World} {K : PySem.W.Frag} {mg : Str → Option Value} {base : Heap}
theorem s_seq {t u : TS} {D : Ends} {σ : L2.St} {H : Hp} (h : t { D with nx := u D } σ H) : tSeq t u D σ H := h
theorem zip_dV (a b : Vec) : ((a.zip b).map fun p => PyData.tuple [.int p.1, .int p.2]) = ((a.map PyData.int).zip (b.map PyData.int)).map fun p => .tuple [p.1, p.2] := by
  rw [List.zip_map, List.map_map]; rfl
abbrev N_are_integers : List Str := ["value", "many", "low", "high", "item"]
abbrev P_are_integers : List Str := ["value", "many", "low", "high"]
theorem sc_are_integers : FnScope N_are_integers P_are_integers (defScope s_are_integers) := ⟨rfl, rfl, rfl, by decide +kernel, rfl, by decide +kernel, by decide +kernel⟩
def fAre (ds : List Dt) (r : Dt) : Prop := ∃ (v : Vec) (n lo hi : Int), ds = [dV v, .int n, .int lo, .int hi] ∧ v.length ≤ 1000 ∧ r = .bool (allIn v n lo hi)
theorem D_are_integers (T : Tx K mg) : DefP P w K mg base CX0 2 ("are_integers", none) P_are_integers (Pu 4 fAre) := by
  refine mk_def T 2 d_are_integers rfl rfl rfl sc_are_integers (fun vs H Q E h => h.1) (fun _ _ _ _ _ _ us hl => match us, hl with | [_, _, _, _], _ => rfl) (fun cdv A outer s H vs Q E hr h => ?_)
  obtain ⟨_, ds, r, hd, ⟨v, n, lo, hi, rfl, hl, rfl⟩, q⟩ := h
  obtain ⟨x, y, z, u, rfl, t1, t2, t3, t4⟩ := hd.four
  refine ⟨_, (pss_cons (ps_if (PW.pt (pw_or (pt_not (pt_val (pe_callB (kcall_isi K) (by rfl) T.f_isinstance (by decide +kernel) (pa_cons (pv 0) (pa_cons (pe_bltn (v := .ty "tuple") rfl T.f_tuple (by decide +kernel) rfl) pa_nil))))) (pw_or1 (pt_cmpR op_ne (pe_callB (kcall_len K) (by rfl) T.f_len boot_len (pa_cons (pv 0) pa_nil)) (pv 1) (nomark _))))) (pss_one (ps_ret pe_bl)) pss_nil) (pss_one (ps_ret (pe_callB (kcr_all K) (by rfl) T.f_all (by decide +kernel) (pa_cons (pe_lc (own := [("item", 4)]) rfl sc_are_integers.nd (kpi_tup K (pv 0)) (blkOk_by (N := N_are_integers) (sc := defScope s_are_integers) (by decide +kernel)) (fun _ _ _ _ _ => (pg_name (i := 4) sc_are_integers.nd rfl (by first | exact Or.inl rfl | exact Or.inr rfl))) (fun _ _ _ _ _ => pts_nil) (fun _ _ _ _ _ => (pe_cd (D_is_integer T) (hr.mono (by decide)) T.g_is_integer pass0 (pa_cons (pv 4) (pa_cons (pv 2) (pa_cons (pv 3) pa_nil)))))) pa_nil))))), ?_⟩
  refine' q_if0 ?h ?_ ?_
  case h => walk_at "dn"
  · intro hb H2 s2
    refine s_ret dn_bl fun v3 H3 s3 t3 => q v3 H3 (s2.trans s3) ?_
    have e : allIn v n lo hi = false := by
      unfold allIn
      rw [if_neg]
      intro e
      simp [e] at hb
    rw [e]; exact t3
  · intro hb H2 s2
    have e : (v.length : Int) = n := by simpa using hb
    have t1 := t1.s s2
    have t3 := t3.s s2
    have t4 := t4.s s2
    refine s_ret (dn_cb (da_cons (dn_lcm (α := Int) .int v (fun x => .bool (decide (lo ≤ x) && decide (x ≤ hi))) (src_tup (by walk_at "dn")) (by omega) (fun _ _ => rfl) ?_) da_nil) (z := .bool (allIn v n lo hi)) ?_) fun v3 H3 s3 t3 => q v3 H3 (s2.trans s3) t3
    · intro a ha x H1 s1 td
      have t3 := t3.s s1
      have t4 := t4.s s1
      exact ⟨_, sto_name, rfl, dn_call (by walk_at "dn") rfl ⟨_, _, _, rfl, rfl⟩⟩
    · unfold allIn
      rw [if_pos e]
      have e2 : v.map (fun x => PyData.bool (decide (lo ≤ x) && decide (x ≤ hi))) = (v.map fun x => decide (lo ≤ x) && decide (x ≤ hi)).map .bool := by rw [List.map_map]; rfl
      rw [e2]
      exact rc_all
abbrev N_difference : List Str := ["one", "other", "left", "right"]
abbrev P_difference : List Str := ["one", "other"]
theorem sc_difference : FnScope N_difference P_difference (defScope s_difference) := ⟨rfl, rfl, rfl, by decide +kernel, rfl, by decide +kernel, by decide +kernel⟩
def fDiff (ds : List Dt) (r : Dt) : Prop := ∃ a b : Vec, ds = [dV a, dV b] ∧ a.length ≤ 1000 ∧ r = dV (diff a b)
theorem D_difference (T : Tx K mg) : DefP P w K mg base CX0 1 ("difference", none) P_difference (Pu 2 fDiff) := by
  refine mk_def T 4 d_difference rfl rfl rfl sc_difference (fun vs H Q E h => h.1) (fun _ _ _ _ _ _ us hl => match us, hl with | [_, _], _ => rfl) (fun cdv A outer s H vs Q E hr h => ?_)
  obtain ⟨_, ds, r, hd, ⟨a, b, rfl, hl, rfl⟩, q⟩ := h
  obtain ⟨x, y, rfl, t1, t2⟩ := hd.two
  refine ⟨_, (pss_one (ps_ret (pe_callTy (kcall_tuple K) (by rfl) T.f_tuple (by decide +kernel) (pa_cons (pe_lc (own := [("left", 2), ("right", 3)]) rfl sc_difference.nd (kpi_zip K T.f_zip (pa_cons (pv 0) (pa_cons (pv 1) pa_nil))) (blkOk_by (N := N_difference) (sc := defScope s_difference) (by decide +kernel)) (fun _ _ _ _ _ => (kpg_tup K 2 (pgs_cons (pg_name (i := 2) sc_difference.nd rfl (by first | exact Or.inl rfl | exact Or.inr rfl)) (pgs_cons (pg_name (i := 3) sc_difference.nd rfl (by first | exact Or.inl rfl | exact Or.inr rfl)) pgs_nil)))) (fun _ _ _ _ _ => pts_nil) (fun _ _ _ _ _ => (pe_op op_sub (pv 2) (pv 3)))) pa_nil)))), ?_⟩
  refine s_ret (dn_cb (da_cons (dn_lcm (α := Int × Int) (fun p => .tuple [.int p.1, .int p.2]) (a.zip b) (fun p => .int (p.1 - p.2)) ?_ ?_ (fun _ _ => rfl) ?_) da_nil) (z := dV (diff a b)) ?_) q
  · rw [zip_dV]
    exact src_zip (by walk_at "dn")
  · rw [List.length_zip]; omega
  · rintro p hp x H1 s td
    obtain ⟨u, v, tu, tv, st⟩ := sto_two (K := K) (σ := wipe _ _) (i := 2) (j := 3) td
    exact ⟨_, st, rfl, by walk_at "dn"⟩
  · have e : (a.zip b).map (fun p => PyData.int (p.1 - p.2)) = (diff a b).map .int := by unfold diff; rw [List.map_map]; rfl
    rw [e]
    exact rd_tupL
abbrev N_is_inside : List Str := ["box", "vector", "item", "size"]
abbrev P_is_inside : List Str := ["box", "vector"]
theorem sc_is_inside : FnScope N_is_inside P_is_inside (defScope s_is_inside) := ⟨rfl, rfl, rfl, by decide +kernel, rfl, by decide +kernel, by decide +kernel⟩
def fInside (ds : List Dt) (r : Dt) : Prop := ∃ b v : Vec, ds = [dV b, dV v] ∧ v.length ≤ 1000 ∧ r = .bool (inside b v)
theorem D_is_inside (T : Tx K mg) : DefP P w K mg base CX0 1 ("is_inside", none) P_is_inside (Pu 2 fInside) := by
  refine mk_def T 8 d_is_inside rfl rfl rfl sc_is_inside (fun vs H Q E h => h.1) (fun _ _ _ _ _ _ us hl => match us, hl with | [_, _], _ => rfl) (fun cdv A outer s H vs Q E hr h => ?_)
  obtain ⟨_, ds, r, hd, ⟨b, v, rfl, hl, rfl⟩, q⟩ := h
  obtain ⟨x, y, rfl, t1, t2⟩ := hd.two
  refine ⟨_, (pss_one (ps_ret (pe_callB (kcr_all K) (by rfl) T.f_all (by decide +kernel) (pa_cons (pe_lc (own := [("item", 2), ("size", 3)]) rfl sc_is_inside.nd (kpi_zip K T.f_zip (pa_cons (pv 1) (pa_cons (pv 0) pa_nil))) (blkOk_by (N := N_is_inside) (sc := defScope s_is_inside) (by decide +kernel)) (fun _ _ _ _ _ => (kpg_tup K 2 (pgs_cons (pg_name (i := 2) sc_is_inside.nd rfl (by first | exact Or.inl rfl | exact Or.inr rfl)) (pgs_cons (pg_name (i := 3) sc_is_inside.nd rfl (by first | exact Or.inl rfl | exact Or.inr rfl)) pgs_nil)))) (fun _ _ _ _ _ => pts_nil) (fun _ _ _ _ _ => (pe_chain op_le op_lt pe_int (pv 2) (pv 3)))) pa_nil)))), ?_⟩
  refine s_ret (dn_cb (da_cons (dn_lcm (α := Int × Int) (fun p => .tuple [.int p.1, .int p.2]) (v.zip b) (fun p => .bool (decide (0 ≤ p.1) && decide (p.1 < p.2))) ?_ ?_ (fun _ _ => rfl) ?_) da_nil) (z := .bool (inside b v)) ?_) q
  · rw [zip_dV]
    exact src_zip (by walk_at "dn")
  · rw [List.length_zip]; omega
  · rintro p hp x H1 s td
    obtain ⟨u, v, tu, tv, st⟩ := sto_two (K := K) (σ := wipe _ _) (i := 2) (j := 3) td
    exact ⟨_, st, rfl, by walk_at "dn"⟩
  · have e : (v.zip b).map (fun p => PyData.bool (decide (0 ≤ p.1) && decide (p.1 < p.2))) = ((v.zip b).map fun p => decide (0 ≤ p.1) && decide (p.1 < p.2)).map .bool := by rw [List.map_map]; rfl
    rw [e]
    exact rc_all
abbrev N_is_point : List Str := ["box", "value", "item", "size"]
abbrev P_is_point : List Str := ["box", "value"]
theorem sc_is_point : FnScope N_is_point P_is_point (defScope s_is_point) := ⟨rfl, rfl, rfl, by decide +kernel, rfl, by decide +kernel, by decide +kernel⟩
def fIsPoint (ds : List Dt) (r : Dt) : Prop := ∃ b v : Vec, ds = [dV b, dV v] ∧ v.length ≤ 1000 ∧ r = .bool (isPt b v)
theorem D_is_point (T : Tx K mg) : DefP P w K mg base CX0 2 ("is_point", none) P_is_point (Pu 2 fIsPoint) := by
  refine mk_def T 9 d_is_point rfl rfl rfl sc_is_point (fun vs H Q E h => h.1) (fun _ _ _ _ _ _ us hl => match us, hl with | [_, _], _ => rfl) (fun cdv A outer s H vs Q E hr h => ?_)
  obtain ⟨_, ds, r, hd, ⟨b, v, rfl, hl, rfl⟩, q⟩ := h
  obtain ⟨x, y, rfl, t1, t2⟩ := hd.two
  refine ⟨_, (pss_cons (ps_if (PW.pt (pw_or (pt_not (pt_val (pe_callB (kcall_isi K) (by rfl) T.f_isinstance (by decide +kernel) (pa_cons (pv 1) (pa_cons (pe_bltn (v := .ty "tuple") rfl T.f_tuple (by decide +kernel) rfl) pa_nil))))) (pw_or1 (pt_cmpR op_ne (pe_callB (kcall_len K) (by rfl) T.f_len boot_len (pa_cons (pv 1) pa_nil)) (pe_callB (kcall_len K) (by rfl) T.f_len boot_len (pa_cons (pv 0) pa_nil)) (nomark _))))) (pss_one (ps_ret pe_bl)) pss_nil) (pss_one (ps_ret (pe_callB (kcr_all K) (by rfl) T.f_all (by decide +kernel) (pa_cons (pe_lc (own := [("item", 2), ("size", 3)]) rfl sc_is_point.nd (kpi_zip K T.f_zip (pa_cons (pv 1) (pa_cons (pv 0) pa_nil))) (blkOk_by (N := N_is_point) (sc := defScope s_is_point) (by decide +kernel)) (fun _ _ _ _ _ => (kpg_tup K 2 (pgs_cons (pg_name (i := 2) sc_is_point.nd rfl (by first | exact Or.inl rfl | exact Or.inr rfl)) (pgs_cons (pg_name (i := 3) sc_is_point.nd rfl (by first | exact Or.inl rfl | exact Or.inr rfl)) pgs_nil)))) (fun _ _ _ _ _ => pts_nil) (fun _ _ _ _ _ => (pe_cd (D_is_integer T) (hr.mono (by decide)) T.g_is_integer pass0 (pa_cons (pv 2) (pa_cons pe_int (pa_cons (pe_op op_sub (pv 3) pe_int) pa_nil)))))) pa_nil))))), ?_⟩
  refine' q_if0 ?h ?_ ?_
  case h => walk_at "dn"
  · intro hb H2 s2
    refine s_ret dn_bl fun v3 H3 s3 t3 => q v3 H3 (s2.trans s3) ?_
    have e : isPt b v = false := by
      unfold isPt
      rw [if_neg]
      intro e
      simp [e] at hb
    rw [e]; exact t3
  · intro hb H2 s2
    have e : v.length = b.length := by
      have h2 : (v.length : Int) = (b.length : Int) := by simpa using hb
      omega
    have t1 := t1.s s2
    have t2 := t2.s s2
    refine s_ret (dn_cb (da_cons (dn_lcm (α := Int × Int) (fun p => .tuple [.int p.1, .int p.2]) (v.zip b) (fun p => .bool (decide (0 ≤ p.1) && decide (p.1 ≤ p.2 - 1))) ?_ ?_ (fun _ _ => rfl) ?_) da_nil) (z := .bool (isPt b v)) ?_) fun v3 H3 s3 t3 => q v3 H3 (s2.trans s3) t3
    · rw [zip_dV]
      exact src_zip (by walk_at "dn")
    · rw [List.length_zip]; omega
    · rintro p hp x H1 s td
      obtain ⟨u, v, tu, tv, st⟩ := sto_two (K := K) (σ := wipe _ _) (i := 2) (j := 3) td
      exact ⟨_, st, rfl, dn_call (by walk_at "dn") rfl ⟨_, _, _, rfl, rfl⟩⟩
    · unfold isPt
      rw [if_pos e]
      have e2 : (v.zip b).map (fun p => PyData.bool (decide (0 ≤ p.1) && decide (p.1 ≤ p.2 - 1))) = ((v.zip b).map fun p => decide (0 ≤ p.1) && decide (p.1 ≤ p.2 - 1)).map .bool := by rw [List.map_map]; rfl
      rw [e2]
      exact rc_all
end K32
/-! W3 -/
set_option Elab.async false
set_option linter.all false
set_option maxRecDepth 100000
set_option maxHeartbeats 1000000
namespace K32
open PySem PySem.Spec PyProof.Rows L2
local macro_rules | `(tactic| walk_at "dn") => `(tactic| first
  | with_reducible exact dn_int | with_reducible exact dn_str | with_reducible exact dn_bl | with_reducible exact dn_non | with_reducible exact da_nil | with_reducible exact do_none
  | ((with_reducible refine' dn_var ?h ?k); (case h => rfl); (case k => assumption))
  | ((with_reducible refine' da_cons ?_ ?_) <;> try walk_at "dn")
  | ((with_reducible refine' dn_add ?_ ?_) <;> try walk_at "dn")
  | ((with_reducible refine' dn_sub ?_ ?_) <;> try walk_at "dn")
  | ((with_reducible refine' dn_mul ?_ ?_ ?_) <;> try walk_at "dn")
  | ((with_reducible refine' dn_lt ?_ ?_) <;> try walk_at "dn")
  | ((with_reducible refine' dn_le ?_ ?_) <;> try walk_at "dn")
  | ((with_reducible refine' dn_gt ?_ ?_) <;> try walk_at "dn")
  | ((with_reducible refine' dn_ge ?_ ?_) <;> try walk_at "dn")
  | ((with_reducible refine' dn_neg ?_) <;> try walk_at "dn")
  | ((with_reducible refine' dn_chain ?_ ?_ ?_ rd_le rd_le) <;> try walk_at "dn")
  | ((with_reducible refine' dn_chain ?_ ?_ ?_ rd_le rd_lt) <;> try walk_at "dn")
  | ((with_reducible refine' dn_isI ?h ?k); (case h => walk_at "dn"); (case k => first | with_reducible exact kb_int_int | with_reducible exact kb_int_tuple | with_reducible exact kb_int_str | with_reducible exact kb_int_bool))
  | ((with_reducible refine' dn_isT ?h ?k); (case h => walk_at "dn"); (case k => first | with_reducible exact kb_tuple_int | with_reducible exact kb_tuple_tuple | with_reducible exact kb_tuple_str | with_reducible exact kb_tuple_bool))
  | ((with_reducible refine' dn_isS ?h ?k); (case h => walk_at "dn"); (case k => first | with_reducible exact kb_str_int | with_reducible exact kb_str_tuple | with_reducible exact kb_str_str | with_reducible exact kb_str_bool))
  | ((with_reducible refine' dn_isL ?h ?k); (case h => walk_at "dn"); (case k => first | with_reducible exact kb_list_int | with_reducible exact kb_list_tuple | with_reducible exact kb_list_str | with_reducible exact kb_list_bool))
  | ((with_reducible refine' dn_isB ?h ?k); (case h => walk_at "dn"); (case k => first | with_reducible exact kb_bool_int | with_reducible exact kb_bool_tuple | with_reducible exact kb_bool_str | with_reducible exact kb_bool_bool))
  | ((with_reducible refine' dn_ixT ?h ?t ?k); (case h => walk_at "dn"); (case t => walk_at "dn"); try (case k => rfl))
  | ((with_reducible refine' dn_ixL ?h ?t ?k); (case h => walk_at "dn"); (case t => walk_at "dn"); try (case k => rfl))
  | ((with_reducible refine' dn_cb ?h ?k); (case h => walk_at "dn"); try (case k => first | exact rd_lenT | exact rd_lenL | exact rd_tupL | exact rd_lstT | exact rd_lstL | exact rc_all | exact rc_sum | exact rc_max2 | exact rc_min2))
  | ((with_reducible refine' dn_call ?h ?t ?k); (case h => walk_at "dn"); (case t => rfl))
  | ((with_reducible refine' dt_test ?_) <;> try walk_at "dn")
  | ((with_reducible refine' dt_B ?_) <;> try walk_at "dn")
  | ((with_reducible refine' dn_eqI ?h ?k); (case h => walk_at "dn"); (case k => walk_at "dn"))
  | ((with_reducible refine' dn_neI ?h ?k); (case h => walk_at "dn"); (case k => walk_at "dn"))
  | ((with_reducible refine' dn_eqS ?h ?k); (case h => walk_at "dn"); (case k => walk_at "dn"))
  | ((with_reducible refine' dn_neS ?h ?k); (case h => walk_at "dn"); (case k => walk_at "dn"))
  | ((with_reducible refine' dt_or ?_ (fun _ => ?_)) <;> try walk_at "dn")
  | ((with_reducible refine' dt_and ?_ (fun _ => ?_)) <;> try walk_at "dn")
  | ((with_reducible refine' dn_orV ?_ (fun _ => ?_)) <;> try walk_at "dn")
  | ((with_reducible refine' dn_andV ?_ (fun _ => ?_)) <;> try walk_at "dn")
  | ((with_reducible refine' dt_not ?_) <;> try walk_at "dn")
  | ((with_reducible refine' dn_notV ?_) <;> try walk_at "dn")
  | ((with_reducible refine' da_star ?_ ?_) <;> try walk_at "dn")
  | ((with_reducible refine' dn_tup ?_ ?_) <;> try walk_at "dn")
  | ((with_reducible refine' dn_lst ?_ ?_) <;> try walk_at "dn")
  | ((with_reducible refine' do_some ?_) <;> try walk_at "dn"))
variable {P : Program} {w : World} {K : PySem.W.Frag} {mg : Str → Option Value} {base : Heap}
theorem vol_snoc (b : Vec) (s : Int) : vol (b ++ [s]) = vol b * s := by unfold vol; rw [List.foldl_append]; rfl
theorem vol_pos : ∀ (b : Vec), (∀ s ∈ b, 1 ≤ s) → ∀ x : Int, 1 ≤ x → x ≤ b.foldl (fun x s => x * s) x
  | [], _, x, _ => Int.le_refl _
  | s :: b, h, x, hx => by
    have hs := h s (List.mem_cons_self ..)
    have h1 : x ≤ x * s := by
      have := Int.mul_le_mul_of_nonneg_left hs (show 0 ≤ x by omega)
      omega
    exact Int.le_trans h1 (vol_pos b (fun t ht => h t (List.mem_cons_of_mem _ ht)) (x * s) (by omega))
theorem vol_take {b : Vec} (h : ∀ s ∈ b, 1 ≤ s) (i : Nat) : 1 ≤ vol (b.take i) ∧ vol (b.take i) ≤ vol b := by
  have h1 : 1 ≤ vol (b.take i) := vol_pos (b.take i) (fun s hs => h s (List.mem_of_mem_take hs)) 1 (Int.le_refl _)
  refine ⟨h1, ?_⟩
  have e : vol b = (b.drop i).foldl (fun x s => x * s) (vol (b.take i)) := by
    unfold vol
    rw [← List.foldl_append, List.take_append_drop]
  rw [e]
  exact vol_pos _ (fun s hs => h s (List.mem_of_mem_drop hs)) _ h1
theorem take_snoc {α : Type} {xs : List α} {i : Nat} {a : α} (h : xs[i]? = some a) : xs.take (i + 1) = xs.take i ++ [a] := by
  rw [List.take_add_one, h]; rfl
abbrev N_count_points : List Str := ["box", "found", "size"]
abbrev P_count_points : List Str := ["box"]
theorem sc_count_points : FnScope N_count_points P_count_points (defScope s_count_points) := ⟨rfl, rfl, rfl, by decide +kernel, rfl, by decide +kernel, by decide +kernel⟩
def fCount (ds : List Dt) (r : Dt) : Prop := ∃ b : Vec, ds = [dV b] ∧ BoxOk b ∧ r = .int (vol b)
theorem D_count_points (T : Tx K mg) : DefP P w K mg base CX0 1 ("count_points", none) P_count_points (Pu 1 fCount) := by
  refine mk_def T 6 d_count_points rfl rfl rfl sc_count_points (fun vs H Q E h => h.1) (fun _ _ _ _ _ _ us hl => match us, hl with | [_], _ => rfl) (fun cdv A outer s H vs Q E hr h => ?_)
  obtain ⟨_, ds, r, hd, ⟨b, rfl, hb, rfl⟩, q⟩ := h
  obtain ⟨x, rfl, t1⟩ := hd.one
  refine ⟨_, (pss_cons (ps_set (i := 1) sc_count_points.nd rfl (by first | exact Or.inl rfl | exact Or.inr rfl) pe_int) (pss_cons (ps_for PassesOwn.never rfl (kpi_tup K (pv 0)) (pg_name (i := 2) sc_count_points.nd rfl (by first | exact Or.inl rfl | exact Or.inr rfl)) (pss_one (ps_set (i := 1) sc_count_points.nd rfl (by first | exact Or.inl rfl | exact Or.inr rfl) (pe_op op_mul (pv 1) (pv 2))))) (pss_one (ps_ret (pv 1))))), ?_⟩
  refine q_set dn_int fun v H2 s2 t2 => ?_
  have t1 := t1.s s2
  refine q_forK (α := Int) .int b (srcK_tup (by walk_at "dn") (flat_dV b)) (fun i σ H' => ∃ v o, σ = [some x, some v, o] ∧ Same H H' ∧ TD H' v (.int (vol (b.take i)))) ?_ ?_ ?_ ?_
  · rintro i σ Ha Hb sab ⟨v, o, rfl, s3, t3⟩
    exact ⟨v, o, rfl, s3.trans sab, t3.s sab⟩
  · intro H1 s1
    exact ⟨v, none, rfl, s2.trans s1, t2.s s1⟩
  · rintro i a y σ H1 ha kt ty ⟨v, o, rfl, s3, t3⟩
    refine ⟨_, sto_name, fun N hN => ?_⟩
    refine s_set (dn_mul (i := vol (b.take i)) (j := a) (by walk_at "dn") (by walk_at "dn") (.inl ?_)) fun v4 H4 s4 t4 => hN _ _ (KT.of s4) ⟨v4, _, rfl, s3.trans s4, ?_⟩
    · have := vol_take hb.pos i
      have := hb.vol
      omega
    · rw [take_snoc ha, vol_snoc]
      exact t4
  · rintro σ H1 kt ⟨v, o, rfl, s3, t3⟩
    rw [List.take_length] at t3
    exact s_ret (by walk_at "dn") fun v4 H4 s4 t4 => q v4 H4 (s3.trans s4) t4
abbrev N_require_small : List Str := ["box"]
abbrev P_require_small : List Str := ["box"]
theorem sc_require_small : FnScope N_require_small P_require_small (defScope s_require_small) := ⟨rfl, rfl, rfl, by decide +kernel, rfl, by decide +kernel, by decide +kernel⟩
def fReqSmall (ds : List Dt) (r : Dt) : Prop := ∃ b : Vec, ds = [dV b] ∧ BoxOk b ∧ r = .none
theorem D_require_small (T : Tx K mg) : DefP P w K mg base CX0 2 ("require_small", none) P_require_small (Pu 1 fReqSmall) := by
  refine mk_def T 7 d_require_small rfl rfl rfl sc_require_small (fun vs H Q E h => h.1) (fun _ _ _ _ _ _ us hl => match us, hl with | [_], _ => rfl) (fun cdv A outer s H vs Q E hr h => ?_)
  obtain ⟨_, ds, r, hd, ⟨b, rfl, hb, rfl⟩, q⟩ := h
  obtain ⟨x, rfl, t1⟩ := hd.one
  obtain ⟨tk, mMAX_POINTS⟩ := T.i_MAX_POINTS
  refine ⟨_, (pss_one (ps_if (pt_cmpR op_gt (pe_cd (D_count_points T) (hr.mono (by decide)) T.g_count_points pass0 (pa_cons (pv 0) pa_nil)) (pe_glob (v := .int 240) rfl mMAX_POINTS ⟨_, rfl⟩) (nomark _)) (pss_one ps_never) pss_nil)), ?_⟩
  refine s_if0 (b := false) (dt_test (Dn.is (dn_gt (dn_call (by walk_at "dn") (by rfl) ⟨b, rfl, hb, rfl⟩) dn_int) ?_)) (fun h => nomatch h) fun _ H2 s2 => q _ H2 s2 .non
  have := hb.vol
  have e : decide ((240 : Int) < vol b) = false := decide_eq_false (by omega)
  rw [e]
abbrev N_require_plane : List Str := ["flow", "plane"]
abbrev P_require_plane : List Str := ["flow", "plane"]
theorem sc_require_plane : FnScope N_require_plane P_require_plane (defScope s_require_plane) := ⟨rfl, rfl, rfl, by decide +kernel, rfl, by decide +kernel, by decide +kernel⟩
def fReqPlane (ds : List Dt) (r : Dt) : Prop := ∃ (f : Flow) (p : Int), ds = [dFlow f, .int p] ∧ 0 ≤ p ∧ p < (f.rules.length : Int) ∧ r = .none
theorem D_require_plane (T : Tx K mg) : DefP P w K mg base CX0 2 ("require_plane", none) P_require_plane (Pu 2 fReqPlane) := by
  refine mk_def T 12 d_require_plane rfl rfl rfl sc_require_plane (fun vs H Q E h => h.1) (fun _ _ _ _ _ _ us hl => match us, hl with | [_, _], _ => rfl) (fun cdv A outer s H vs Q E hr h => ?_)
  obtain ⟨_, ds, r, hd, ⟨f, p, rfl, h0, h1, rfl⟩, q⟩ := h
  obtain ⟨x, y, rfl, t1, t2⟩ := hd.two
  refine ⟨_, (pss_one (ps_if (pt_not (pt_val (pe_cd (D_is_integer T) (hr.mono (by decide)) T.g_is_integer pass0 (pa_cons (pv 1) (pa_cons pe_int (pa_cons (pe_op op_sub (pe_callB (kcall_len K) (by rfl) T.f_len boot_len (pa_cons (pe_ix (kix_tup K) (pv 0) pe_int (fun _ _ => rfl)) pa_nil)) pe_int) pa_nil)))))) (pss_one ps_never) pss_nil)), ?_⟩
  refine s_if0 (b := false) (DnT.is (dt_not (dt_B (dn_call (by walk_at "dn") (by rfl) ⟨_, _, _, rfl, rfl⟩))) ?_) (fun h => nomatch h) fun _ H2 s2 => q _ H2 s2 .non
  rw [List.length_map]
  have e1 : decide (0 ≤ p) = true := decide_eq_true h0
  have e2 : decide (p ≤ (f.rules.length : Int) - 1) = true := decide_eq_true (by omega)
  rw [e1, e2]; rfl
theorem pts_snoc (b : Vec) (s : Int) : pts (b ++ [s]) = ptsStep (pts b) s := by unfold pts; rw [List.foldl_append]; rfl
theorem ptsStep_len (rows : List Vec) (s : Int) : (ptsStep rows s).length = rows.length * s.toNat := by
  unfold ptsStep
  induction rows with
  | nil => simp
  | cons r rows ih => rw [List.flatMap_cons, List.length_append, ih, List.length_map, List.length_range, List.length_cons, Nat.add_mul, Nat.one_mul, Nat.add_comm]
theorem pts_len {b : Vec} (h : ∀ s ∈ b, 1 ≤ s) (i : Nat) : ((pts (b.take i)).length : Int) = vol (b.take i) := by
  induction i with
  | zero => rfl
  | succ i ih =>
    cases e : b[i]? with
    | none =>
      have e2 : b.take (i + 1) = b.take i := by rw [List.take_add_one, e]; simp
      rw [e2]; exact ih
    | some s =>
      rw [take_snoc e, pts_snoc, vol_snoc, ptsStep_len, Int.natCast_mul, ih]
      have := h s (List.mem_of_getElem? e)
      rw [Int.toNat_of_nonneg (by omega)]
theorem pts_le {b : Vec} (h : BoxOk b) (i : Nat) : (pts (b.take i)).length ≤ 240 := by
  have h1 := pts_len h.pos i
  have h2 := (vol_take h.pos i).2
  have h3 := h.vol
  omega
theorem ptsStep_mem {rows : List Vec} {s : Int} {r : Vec} : r ∈ ptsStep rows s ↔ ∃ a ∈ rows, ∃ j : Nat, j < s.toNat ∧ r = a ++ [(j : Int)] := by
  unfold ptsStep
  simp only [List.mem_flatMap, List.mem_map, List.mem_range]
  constructor
  · rintro ⟨a, ha, j, hj, rfl⟩
    exact ⟨a, ha, j, hj, rfl⟩
  · rintro ⟨a, ha, j, hj, rfl⟩
    exact ⟨a, ha, j, hj, rfl⟩
theorem foldl_len : ∀ (b : Vec) (n : Nat) (rows : List Vec), (∀ r ∈ rows, r.length = n) → ∀ r ∈ b.foldl ptsStep rows, r.length = n + b.length
  | [], n, rows, h, r, hr => h r hr
  | s :: b, n, rows, h, r, hr => by
    have := foldl_len b (n + 1) (ptsStep rows s) (fun r hr => by
      obtain ⟨a, ha, j, hj, rfl⟩ := ptsStep_mem.mp hr
      rw [List.length_append, h a ha]; rfl) r hr
    rw [this, List.length_cons]; omega
theorem pts_mem_len {b : Vec} {r : Vec} (h : r ∈ pts b) : r.length = b.length := by
  have := foldl_len b 0 [[]] (fun r hr => by rw [List.mem_singleton.mp hr]; rfl) r h
  omega
abbrev N_points_of : List Str := ["box", "rows", "size", "row", "item"]
abbrev P_points_of : List Str := ["box"]
theorem sc_points_of : FnScope N_points_of P_points_of (defScope s_points_of) := ⟨rfl, rfl, rfl, by decide +kernel, rfl, by decide +kernel, by decide +kernel⟩
def fPointsOf (ds : List Dt) (r : Dt) : Prop := ∃ b : Vec, ds = [dV b] ∧ BoxOk b ∧ r = .tuple ((pts b).map dV)
theorem D_points_of (T : Tx K mg) : DefP P w K mg base CX0 3 ("points_of", none) P_points_of (Pu 1 fPointsOf) := by
  refine mk_def T 10 d_points_of rfl rfl rfl sc_points_of (fun vs H Q E h => h.1) (fun _ _ _ _ _ _ us hl => match us, hl with | [_], _ => rfl) (fun cdv A outer s H vs Q E hr h => ?_)
  obtain ⟨_, ds, r, hd, ⟨b, rfl, hb, rfl⟩, q⟩ := h
  obtain ⟨x, rfl, t1⟩ := hd.one
  refine ⟨_, (pss_cons (ps_expr (pe_cd (D_require_small T) (hr.mono (by decide)) T.g_require_small pass0 (pa_cons (pv 0) pa_nil))) (pss_cons (ps_set (i := 1) sc_points_of.nd rfl (by first | exact Or.inl rfl | exact Or.inr rfl) (pe_lst (pa_cons (pe_tup pa_nil) pa_nil))) (pss_cons (ps_for PassesOwn.never rfl (kpi_tup K (pv 0)) (pg_name (i := 2) sc_points_of.nd rfl (by first | exact Or.inl rfl | exact Or.inr rfl)) (pss_one (ps_setLc2 (i := 1) (own := [("row", 3), ("item", 4)]) (vs1 := [4]) rfl sc_points_of.nd rfl rfl (sw_true rfl rfl rfl (by decide +kernel)) (kpi_list K (pv 1)) (blkOk_by (N := N_points_of) (sc := defScope s_points_of) (by decide +kernel)) (by decide) (fun _ _ _ _ _ => (pg_name (i := 3) sc_points_of.nd rfl (by first | exact Or.inl rfl | exact Or.inr rfl))) (fun _ _ _ _ _ => pts_nil) (fun _ _ _ _ _ => (pi_range1 rfl T.f_range (pa_cons (pv 2) pa_nil))) (fun _ _ _ _ _ => (pg_name (i := 4) sc_points_of.nd rfl (by first | exact Or.inl rfl | exact Or.inr rfl))) (fun _ _ _ _ _ => pts_nil) (fun _ _ _ _ _ => (pe_tup (kpa_star K (pv 3) (pa_cons (pv 4) pa_nil))))))) (pss_one (ps_ret (pe_callTy (kcall_tuple K) (by rfl) T.f_tuple (by decide +kernel) (pa_cons (pv 1) pa_nil))))))), ?_⟩
  refine q_drop (dn_call (by walk_at "dn") (by rfl) ⟨b, rfl, hb, rfl⟩) fun H2 s2 => ?_
  have t1 := t1.s s2
  refine q_set (d := .list [.tuple []]) (dn_lst (da_cons (dn_tup da_nil (by decide)) da_nil) (by decide)) fun v H3 s3 t3 => ?_
  have t1 := t1.s s3
  refine q_forK (α := Int) .int b (srcK_tup (by walk_at "dn") (flat_dV b)) (fun i σ H' => ∃ v o, σ = [some x, some v, o, none, none] ∧ Same H H' ∧ TD H' v (.list ((pts (b.take i)).map dV))) ?_ ?_ ?_ ?_
  · rintro i σ Ha Hb sab ⟨v, o, rfl, s3, t3⟩
    exact ⟨v, o, rfl, s3.trans sab, t3.s sab⟩
  · intro H1 s1
    exact ⟨v, none, rfl, (s2.trans s3).trans s1, t3.s s1⟩
  · rintro i a y σ H1 ha kt ty ⟨v, o, rfl, s4, t4⟩
    have ha1 := hb.pos a (List.mem_of_getElem? ha)
    have hle := pts_le hb (i + 1)
    rw [take_snoc ha, pts_snoc] at hle
    have hle2 : a ≤ 240 := by
      have h1 := (vol_take hb.pos (i + 1)).2
      rw [take_snoc ha, vol_snoc] at h1
      have h2 := (vol_take hb.pos i).1
      have h3 := hb.vol
      have h4 : a ≤ vol (b.take i) * a := by
        have := Int.mul_le_mul_of_nonneg_right h2 (show 0 ≤ a by omega)
        omega
      omega
    refine ⟨_, sto_name, fun N hN => ?_⟩
    have e : (pts (b.take (i + 1))).map dV = (pts (b.take i)).flatMap fun r => (List.range a.toNat).map fun j : Nat => dV (r ++ [(j : Int)]) := by
      rw [take_snoc ha, pts_snoc]
      unfold ptsStep
      rw [List.map_flatMap]
      simp only [List.map_map]
      rfl
    refine s_set (d := .list ((pts (b.take (i + 1))).map dV)) ?_ fun v5 H5 s5 t5 => hN _ _ (KT.of s5) ⟨v5, _, rfl, s4.trans s5, t5⟩
    rw [e]
    refine dn_lc2 dV (pts (b.take i)) (fun _ j => .int ((j : Nat) : Int)) (fun _ => List.range a.toNat) (fun r j => dV (r ++ [(j : Int)])) (src_lst (by walk_at "dn")) ?_ (fun r _ j _ => flat_dV _) ?_
    · rw [← e, List.length_map, take_snoc ha, pts_snoc]
      omega
    · intro r hr z H6 s6 t6
      have ty := ty.s s6
      refine ⟨_, sto_name, rfl, srcK_rng1 (by walk_at "dn") (by omega) (by omega), ?_⟩
      intro j hj u H7 s7 kt7 t7
      have t8 : TD H7 z (dV r) := t6.k kt7 (flat_dV r)
      refine ⟨_, sto_name, rfl, ?_⟩
      have e2 : dV (r ++ [(j : Int)]) = .tuple (r.map .int ++ [.int (j : Int)]) := by unfold dV; rw [List.map_append]; rfl
      rw [e2]
      refine dn_tup (da_star (by walk_at "dn") (by walk_at "dn")) ?_
      have h1 := pts_mem_len hr
      have h2 := hb.len
      rw [List.length_append, List.length_map, h1, List.length_take]
      show min i b.length + 1 ≤ 100000
      omega
  · rintro σ H1 kt ⟨v, o, rfl, s3, t3⟩
    rw [List.take_length] at t3
    exact s_ret (dn_cb (by walk_at "dn") rd_tupL) fun v4 H4 s4 t4 => q v4 H4 (s3.trans s4) t4
end K32
/-! W4 -/
set_option Elab.async false
set_option linter.all false
set_option maxRecDepth 100000
set_option maxHeartbeats 400000
namespace K32
open PySem PySem.Spec PyProof.Rows L2
local macro_rules | `(tactic| walk_at "dn") => `(tactic| first
  | with_reducible exact dn_int | with_reducible exact dn_str | with_reducible exact dn_bl | with_reducible exact dn_non | with_reducible exact da_nil | with_reducible exact do_none
  | ((with_reducible refine' dn_var ?h ?k); (case h => rfl); (case k => assumption))
  | ((with_reducible refine' da_cons ?_ ?_) <;> try walk_at "dn")
  | ((with_reducible refine' dn_add ?_ ?_) <;> try walk_at "dn")
  | ((with_reducible refine' dn_sub ?_ ?_) <;> try walk_at "dn")
  | ((with_reducible refine' dn_mul ?_ ?_ ?_) <;> try walk_at "dn")
  | ((with_reducible refine' dn_lt ?_ ?_) <;> try walk_at "dn")
  | ((with_reducible refine' dn_le ?_ ?_) <;> try walk_at "dn")
  | ((with_reducible refine' dn_gt ?_ ?_) <;> try walk_at "dn")
  | ((with_reducible refine' dn_ge ?_ ?_) <;> try walk_at "dn")
  | ((with_reducible refine' dn_neg ?_) <;> try walk_at "dn")
  | ((with_reducible refine' dn_chain ?_ ?_ ?_ rd_le rd_le) <;> try walk_at "dn")
  | ((with_reducible refine' dn_chain ?_ ?_ ?_ rd_le rd_lt) <;> try walk_at "dn")
  | ((with_reducible refine' dn_isI ?h ?k); (case h => walk_at "dn"); (case k => first | with_reducible exact kb_int_int | with_reducible exact kb_int_tuple | with_reducible exact kb_int_str | with_reducible exact kb_int_bool))
  | ((with_reducible refine' dn_isT ?h ?k); (case h => walk_at "dn"); (case k => first | with_reducible exact kb_tuple_int | with_reducible exact kb_tuple_tuple | with_reducible exact kb_tuple_str | with_reducible exact kb_tuple_bool))
  | ((with_reducible refine' dn_isS ?h ?k); (case h => walk_at "dn"); (case k => first | with_reducible exact kb_str_int | with_reducible exact kb_str_tuple | with_reducible exact kb_str_str | with_reducible exact kb_str_bool))
  | ((with_reducible refine' dn_isL ?h ?k); (case h => walk_at "dn"); (case k => first | with_reducible exact kb_list_int | with_reducible exact kb_list_tuple | with_reducible exact kb_list_str | with_reducible exact kb_list_bool))
  | ((with_reducible refine' dn_isB ?h ?k); (case h => walk_at "dn"); (case k => first | with_reducible exact kb_bool_int | with_reducible exact kb_bool_tuple | with_reducible exact kb_bool_str | with_reducible exact kb_bool_bool))
  | ((with_reducible refine' dn_ixT ?h ?t ?k); (case h => walk_at "dn"); (case t => walk_at "dn"); try (case k => rfl))
  | ((with_reducible refine' dn_ixL ?h ?t ?k); (case h => walk_at "dn"); (case t => walk_at "dn"); try (case k => rfl))
  | ((with_reducible refine' dn_cb ?h ?k); (case h => walk_at "dn"); try (case k => first | exact rd_lenT | exact rd_lenL | exact rd_tupL | exact rd_lstT | exact rd_lstL | exact rc_all | exact rc_sum | exact rc_max2 | exact rc_min2))
  | ((with_reducible refine' dn_call ?h ?t ?k); (case h => walk_at "dn"); (case t => rfl))
  | ((with_reducible refine' dt_test ?_) <;> try walk_at "dn")
  | ((with_reducible refine' dt_B ?_) <;> try walk_at "dn")
  | ((with_reducible refine' dn_eqI ?h ?k); (case h => walk_at "dn"); (case k => walk_at "dn"))
  | ((with_reducible refine' dn_neI ?h ?k); (case h => walk_at "dn"); (case k => walk_at "dn"))
  | ((with_reducible refine' dn_eqS ?h ?k); (case h => walk_at "dn"); (case k => walk_at "dn"))
  | ((with_reducible refine' dn_neS ?h ?k); (case h => walk_at "dn"); (case k => walk_at "dn"))
  | ((with_reducible refine' dt_or ?_ (fun _ => ?_)) <;> try walk_at "dn")
  | ((with_reducible refine' dt_and ?_ (fun _ => ?_)) <;> try walk_at "dn")
  | ((with_reducible refine' dn_orV ?_ (fun _ => ?_)) <;> try walk_at "dn")
  | ((with_reducible refine' dn_andV ?_ (fun _ => ?_)) <;> try walk_at "dn")
  | ((with_reducible refine' dt_not ?_) <;> try walk_at "dn")
  | ((with_reducible refine' dn_notV ?_) <;> try walk_at "dn")
  | ((with_reducible refine' da_star ?_ ?_) <;> try walk_at "dn")
  | ((with_reducible refine' dn_tup ?_ ?_) <;> try walk_at "dn")
  | ((with_reducible refine' dn_lst ?_ ?_) <;> try walk_at "dn")
  | ((with_reducible refine' do_some ?_) <;> try walk_at "dn"))
variable {P : Program} {w : World} {K : PySem.W.Frag} {mg : Str → Option Value} {base : Heap}
abbrev N_reads_of : List Str := ["flow", "rows", "plane", "rule", "operand", "read"]
abbrev P_reads_of : List Str := ["flow"]
theorem sc_reads_of : FnScope N_reads_of P_reads_of (defScope s_reads_of) := ⟨rfl, rfl, rfl, by decide +kernel, rfl, by decide +kernel, by decide +kernel⟩
def fReadsOf (ds : List Dt) (r : Dt) : Prop := ∃ f : Flow, ds = [dFlow f] ∧ FlowOk f ∧ r = .tuple ((rds f).map dRd)
theorem sIx_one {n : Nat} (h : 1 ≤ n) : HT.sIx n 0 (some 1) = 1 := by
  have := HT.sIx_nat n 0 1
  rw [show ((1 : Nat) : Int) = 1 from rfl] at this
  rw [this]; omega
theorem rds_len {f : Flow} (h : FlowOk f) : (rds f).length ≤ 18 := by
  unfold rds
  have key : ∀ (l : List ((Str × List Wd) × Nat)), (∀ p ∈ l, p.1.2.length ≤ 3) → (l.flatMap fun p => p.1.2.zipIdx.map fun q => ((p.2 : Int), (q.2 : Int), q.1.1, q.1.2)).length ≤ 3 * l.length := by
    intro l
    induction l with
    | nil => intro _; simp
    | cons a l ih =>
      intro hl
      have h1 := hl a (List.mem_cons_self ..)
      have h2 := ih fun p hp => hl p (List.mem_cons_of_mem _ hp)
      rw [List.flatMap_cons, List.length_append, List.length_map, List.length_zipIdx, List.length_cons]
      omega
  have h1 := key f.rules.zipIdx (fun p hp => (h.r1 p.1 (List.fst_mem_of_mem_zipIdx hp)).2)
  rw [List.length_zipIdx] at h1
  have := h.n6
  omega
theorem D_reads_of (T : Tx K mg) : DefP P w K mg base CX0 1 ("reads_of", none) P_reads_of (Pu 1 fReadsOf) := by
  refine mk_def T 11 d_reads_of rfl rfl rfl sc_reads_of (fun vs H Q E h => h.1) (fun _ _ _ _ _ _ us hl => match us, hl with | [_], _ => rfl) (fun cdv A outer s H vs Q E hr h => ?_)
  obtain ⟨_, ds, r, hd, ⟨f, rfl, hf, rfl⟩, q⟩ := h
  obtain ⟨x, rfl, t1⟩ := hd.one
  refine ⟨_, (pss_cons (ps_setLc2 (i := 1) (own := [("plane", 2), ("rule", 3), ("operand", 4), ("read", 5)]) (vs1 := [4, 5]) rfl sc_reads_of.nd rfl rfl (sw_true rfl rfl rfl (by decide +kernel)) (kpi_enumT K T.f_enumerate (pa_cons (pe_ix (kix_tup K) (pv 0) pe_int (fun _ _ => rfl)) pa_nil)) (blkOk_by (N := N_reads_of) (sc := defScope s_reads_of) (by decide +kernel)) (by decide) (fun _ _ _ _ _ => (kpg_tup K 2 (pgs_cons (pg_name (i := 2) sc_reads_of.nd rfl (by first | exact Or.inl rfl | exact Or.inr rfl)) (pgs_cons (pg_name (i := 3) sc_reads_of.nd rfl (by first | exact Or.inl rfl | exact Or.inr rfl)) pgs_nil)))) (fun _ _ _ _ _ => pts_nil) (fun _ _ _ _ _ => (kpi_enumT K T.f_enumerate (pa_cons (pe_slice (ksl_tup K) (pv 3) (po_some pe_int) po_none) pa_nil))) (fun _ _ _ _ _ => (kpg_tup K 2 (pgs_cons (pg_name (i := 4) sc_reads_of.nd rfl (by first | exact Or.inl rfl | exact Or.inr rfl)) (pgs_cons (pg_name (i := 5) sc_reads_of.nd rfl (by first | exact Or.inl rfl | exact Or.inr rfl)) pgs_nil)))) (fun _ _ _ _ _ => pts_nil) (fun _ _ _ _ _ => (pe_tup (pa_cons (pv 2) (pa_cons (pv 4) (kpa_star K (pv 5) pa_nil)))))) (pss_one (ps_ret (pe_callTy (kcall_tuple K) (by rfl) T.f_tuple (by decide +kernel) (pa_cons (pv 1) pa_nil))))), ?_⟩
  refine q_set (d := .list ((rds f).map dRd)) ?_ fun v H2 s2 t2 => s_ret (dn_cb (by walk_at "dn") rd_tupL) fun v3 H3 s3 t3 => q v3 H3 (s2.trans s3) t3
  have e : (rds f).map dRd = f.rules.zipIdx.flatMap fun p => p.1.2.zipIdx.map fun q => dRd ((p.2 : Int), (q.2 : Int), q.1.1, q.1.2) := by
    unfold rds
    rw [List.map_flatMap]
    simp only [List.map_map]
    rfl
  have hl := rds_len hf
  rw [e]
  have hs : ((f.rules.map dRule).zipIdx.map fun p => PyData.tuple [.int (p.2 : Nat), p.1]) = f.rules.zipIdx.map fun p => PyData.tuple [.int (p.2 : Nat), dRule p.1] := by
    rw [List.zipIdx_map, List.map_map]; rfl
  refine dn_lc2 (fun p : (Str × List Wd) × Nat => PyData.tuple [.int (p.2 : Nat), dRule p.1]) f.rules.zipIdx (fun _ q => PyData.tuple [.int (q.2 : Nat), dW q.1]) (fun p => p.1.2.zipIdx) (fun p q => dRd ((p.2 : Int), (q.2 : Int), q.1.1, q.1.2)) ?_ ?_ (fun _ _ _ _ => flat_dRd _) ?_
  · rw [← hs]
    exact src_enumT (by walk_at "dn")
  · rw [← e, List.length_map]; omega
  · rintro ⟨⟨kd, rs⟩, i⟩ hp z H1 s1 tz
    obtain ⟨u, v, tu, tv, st⟩ := sto_two (K := K) (σ := wipe _ _) (i := 2) (j := 3) tz
    refine ⟨_, st, rfl, ?_, ?_⟩
    · have e2 : (rs.zipIdx.map fun q => PyData.tuple [.int (q.2 : Nat), dW q.1]) = (rs.map dW).zipIdx.map fun p => PyData.tuple [.int (p.2 : Nat), p.1] := by
        rw [List.zipIdx_map, List.map_map]; rfl
      rw [e2]
      have e3 : (((PyData.str kd :: rs.map dW).drop (HT.sIx (PyData.str kd :: rs.map dW).length 0 (some 1))).take (HT.sIx (PyData.str kd :: rs.map dW).length (PyData.str kd :: rs.map dW).length none - HT.sIx (PyData.str kd :: rs.map dW).length 0 (some 1))) = rs.map dW := by
        rw [sIx_one (by simp), HT.sIx_none]
        show List.take ((rs.map dW).length + 1 - 1) (rs.map dW) = _
        rw [Nat.add_sub_cancel, List.take_length]
      have h3 : Dn (tSl (rSlA K) (tVar 3) (tPart (tC (.int 1))) tNoPart) ((((wipe (L2.start N_reads_of [x]) [2, 3, 4, 5]).set 2 (some u)).set 3 (some v))) H1 (.tuple (rs.map dW)) := by
        have := dn_slT (K := K) (te := tVar 3) (σ := (((wipe (L2.start N_reads_of [x]) [2, 3, 4, 5]).set 2 (some u)).set 3 (some v))) (H := H1) (ds := PyData.str kd :: rs.map dW) (dn_var rfl tv) (do_some dn_int) do_none (lo := some 1) (hi := none)
        rw [e3] at this
        exact this
      exact srcK_enumT (da_cons h3 da_nil) (flats_map flat_dW _)
    · rintro ⟨⟨src, dst⟩, j⟩ hq y H2 s2 kt ty
      have tu := tu.k kt rfl
      obtain ⟨u2, v2, tu2, tv2, st2⟩ := sto_two (K := K) (σ := wipe _ _) (i := 4) (j := 5) ty
      refine ⟨_, st2, rfl, ?_⟩
      have h5 := dn_tup (σ := ((((wipe (L2.start N_reads_of [x]) [2, 3, 4, 5]).set 2 (some u)).set 3 (some v)).set 4 (some u2)).set 5 (some v2)) (H := H2) (da_cons (dn_var (i := 2) rfl tu) (da_cons (dn_var (i := 4) rfl tu2) (da_star (K := K) (dn_var (i := 5) rfl tv2) da_nil))) (by simp)
      exact h5
abbrev N_words_in : List Str := ["flow", "box", "points", "plane", "point"]
abbrev P_words_in : List Str := ["flow", "box"]
theorem sc_words_in : FnScope N_words_in P_words_in (defScope s_words_in) := ⟨rfl, rfl, rfl, by decide +kernel, rfl, by decide +kernel, by decide +kernel⟩
def fWordsIn (ds : List Dt) (r : Dt) : Prop := ∃ (f : Flow) (b : Vec), ds = [dFlow f, dV b] ∧ FlowOk f ∧ BoxOk b ∧ r = .list ((wds f b).map dW)
theorem pts_le0 {b : Vec} (h : BoxOk b) : (pts b).length ≤ 240 := by
  have := pts_le h b.length
  rwa [List.take_length] at this
theorem wds_len (f : Flow) (b : Vec) : (wds f b).length = f.rules.length * (pts b).length := by
  unfold wds
  induction f.rules.length with
  | zero => simp
  | succ n ih => rw [List.range_succ, List.flatMap_append, List.length_append, ih, Nat.add_mul]; simp
theorem wds_le {f : Flow} {b : Vec} (hf : FlowOk f) (hb : BoxOk b) : (wds f b).length ≤ 1440 := by
  rw [wds_len]
  exact Nat.mul_le_mul hf.n6 (pts_le0 hb)
theorem D_words_in (T : Tx K mg) : DefP P w K mg base CX0 4 ("words_in", none) P_words_in (Pu 2 fWordsIn) := by
  refine mk_def T 13 d_words_in rfl rfl rfl sc_words_in (fun vs H Q E h => h.1) (fun _ _ _ _ _ _ us hl => match us, hl with | [_, _], _ => rfl) (fun cdv A outer s H vs Q E hr h => ?_)
  obtain ⟨_, ds, r, hd, ⟨f, b, rfl, hf, hb, rfl⟩, q⟩ := h
  obtain ⟨x, y, rfl, t1, t2⟩ := hd.two
  refine ⟨_, (pss_cons (ps_set (i := 2) sc_words_in.nd rfl (by first | exact Or.inl rfl | exact Or.inr rfl) (pe_cd (D_points_of T) (hr.mono (by decide)) T.g_points_of pass0 (pa_cons (pv 1) pa_nil))) (pss_one (ps_ret (pe_lc2 (own := [("plane", 3), ("point", 4)]) (vs1 := [4]) rfl sc_words_in.nd (pi_range1 rfl T.f_range (pa_cons (pe_callB (kcall_len K) (by rfl) T.f_len boot_len (pa_cons (pe_ix (kix_tup K) (pv 0) pe_int (fun _ _ => rfl)) pa_nil)) pa_nil)) (blkOk_by (N := N_words_in) (sc := defScope s_words_in) (by decide +kernel)) (by decide) (fun _ _ _ _ _ => (pg_name (i := 3) sc_words_in.nd rfl (by first | exact Or.inl rfl | exact Or.inr rfl))) (fun _ _ _ _ _ => pts_nil) (fun _ _ _ _ _ => (kpi_tup K (pv 2))) (fun _ _ _ _ _ => (pg_name (i := 4) sc_words_in.nd rfl (by first | exact Or.inl rfl | exact Or.inr rfl))) (fun _ _ _ _ _ => pts_nil) (fun _ _ _ _ _ => (pe_tup (pa_cons (pv 3) (pa_cons (pv 4) pa_nil)))))))), ?_⟩
  refine q_set (dn_call (by walk_at "dn") (by rfl) ⟨b, rfl, hb, rfl⟩) fun v H2 s2 t3 => ?_
  have t1 := t1.s s2
  have e : (wds f b).map dW = (List.range f.rules.length).flatMap fun pl : Nat => (pts b).map fun p => dW ((pl : Int), p) := by
    unfold wds
    rw [List.map_flatMap]
    simp only [List.map_map]
    rfl
  refine s_ret (d := .list ((wds f b).map dW)) ?_ fun v3 H3 s3 t3 => q v3 H3 (s2.trans s3) t3
  have hl := wds_le hf hb
  have h6 := hf.n6
  rw [e]
  refine dn_lc2 (fun pl : Nat => PyData.int (pl : Int)) (List.range f.rules.length) (fun _ p => dV p) (fun _ => pts b) (fun pl p => dW ((pl : Int), p)) ?_ ?_ (fun _ _ _ _ => flat_dW _) ?_
  · have h3 := src_rng1 (σ := (L2.start N_words_in [x, y]).set 2 (some v)) (H := H2) (ta := tCons (tCB (rLen K) (tCons (tOp (rIxT K) (tVar 0) (tC (.int 1))) tNil)) tNil) (n := ((f.rules.map dRule).length : Int)) (by walk_at "dn") (by rw [List.length_map]; omega) (by omega)
    rw [List.length_map, Int.toNat_natCast] at h3
    exact h3
  · rw [← e, List.length_map]; omega
  · intro pl hp z H3 s3 tz
    have t3 := t3.s s3
    refine ⟨_, sto_name, rfl, srcK_tup (by walk_at "dn") (flats_map flat_dV _), ?_⟩
    intro p hp y H4 s4 kt ty
    have tz := tz.k kt rfl
    exact ⟨_, sto_name, rfl, dn_tup (by walk_at "dn") (by simp)⟩
end K32
/-! W5 -/
set_option Elab.async false
set_option linter.all false
set_option maxRecDepth 100000
set_option maxHeartbeats 400000
namespace K32
open PySem PySem.Spec PyProof.Rows L2
local macro_rules | `(tactic| walk_at "dn") => `(tactic| first
  | with_reducible exact dn_int | with_reducible exact dn_str | with_reducible exact dn_bl | with_reducible exact dn_non | with_reducible exact da_nil | with_reducible exact do_none
  | ((with_reducible refine' dn_var ?h ?k); (case h => rfl); (case k => assumption))
  | ((with_reducible refine' da_cons ?_ ?_) <;> try walk_at "dn")
  | ((with_reducible refine' dn_add ?_ ?_) <;> try walk_at "dn")
  | ((with_reducible refine' dn_sub ?_ ?_) <;> try walk_at "dn")
  | ((with_reducible refine' dn_mul ?_ ?_ ?_) <;> try walk_at "dn")
  | ((with_reducible refine' dn_lt ?_ ?_) <;> try walk_at "dn")
  | ((with_reducible refine' dn_le ?_ ?_) <;> try walk_at "dn")
  | ((with_reducible refine' dn_gt ?_ ?_) <;> try walk_at "dn")
  | ((with_reducible refine' dn_ge ?_ ?_) <;> try walk_at "dn")
  | ((with_reducible refine' dn_neg ?_) <;> try walk_at "dn")
  | ((with_reducible refine' dn_chain ?_ ?_ ?_ rd_le rd_le) <;> try walk_at "dn")
  | ((with_reducible refine' dn_chain ?_ ?_ ?_ rd_le rd_lt) <;> try walk_at "dn")
  | ((with_reducible refine' dn_isI ?h ?k); (case h => walk_at "dn"); (case k => first | with_reducible exact kb_int_int | with_reducible exact kb_int_tuple | with_reducible exact kb_int_str | with_reducible exact kb_int_bool))
  | ((with_reducible refine' dn_isT ?h ?k); (case h => walk_at "dn"); (case k => first | with_reducible exact kb_tuple_int | with_reducible exact kb_tuple_tuple | with_reducible exact kb_tuple_str | with_reducible exact kb_tuple_bool))
  | ((with_reducible refine' dn_isS ?h ?k); (case h => walk_at "dn"); (case k => first | with_reducible exact kb_str_int | with_reducible exact kb_str_tuple | with_reducible exact kb_str_str | with_reducible exact kb_str_bool))
  | ((with_reducible refine' dn_isL ?h ?k); (case h => walk_at "dn"); (case k => first | with_reducible exact kb_list_int | with_reducible exact kb_list_tuple | with_reducible exact kb_list_str | with_reducible exact kb_list_bool))
  | ((with_reducible refine' dn_isB ?h ?k); (case h => walk_at "dn"); (case k => first | with_reducible exact kb_bool_int | with_reducible exact kb_bool_tuple | with_reducible exact kb_bool_str | with_reducible exact kb_bool_bool))
  | ((with_reducible refine' dn_ixT ?h ?t ?k); (case h => walk_at "dn"); (case t => walk_at "dn"); try (case k => rfl))
  | ((with_reducible refine' dn_ixL ?h ?t ?k); (case h => walk_at "dn"); (case t => walk_at "dn"); try (case k => rfl))
  | ((with_reducible refine' dn_cb ?h ?k); (case h => walk_at "dn"); try (case k => first | exact rd_lenT | exact rd_lenL | exact rd_tupL | exact rd_lstT | exact rd_lstL | exact rc_all | exact rc_sum | exact rc_max2 | exact rc_min2))
  | ((with_reducible refine' dn_call ?h ?t ?k); (case h => walk_at "dn"); (case t => rfl))
  | ((with_reducible refine' dt_test ?_) <;> try walk_at "dn")
  | ((with_reducible refine' dt_B ?_) <;> try walk_at "dn")
  | ((with_reducible refine' dn_eqI ?h ?k); (case h => walk_at "dn"); (case k => walk_at "dn"))
  | ((with_reducible refine' dn_neI ?h ?k); (case h => walk_at "dn"); (case k => walk_at "dn"))
  | ((with_reducible refine' dn_eqS ?h ?k); (case h => walk_at "dn"); (case k => walk_at "dn"))
  | ((with_reducible refine' dn_neS ?h ?k); (case h => walk_at "dn"); (case k => walk_at "dn"))
  | ((with_reducible refine' dt_or ?_ (fun _ => ?_)) <;> try walk_at "dn")
  | ((with_reducible refine' dt_and ?_ (fun _ => ?_)) <;> try walk_at "dn")
  | ((with_reducible refine' dn_orV ?_ (fun _ => ?_)) <;> try walk_at "dn")
  | ((with_reducible refine' dn_andV ?_ (fun _ => ?_)) <;> try walk_at "dn")
  | ((with_reducible refine' dt_not ?_) <;> try walk_at "dn")
  | ((with_reducible refine' dn_notV ?_) <;> try walk_at "dn")
  | ((with_reducible refine' da_star ?_ ?_) <;> try walk_at "dn")
  | ((with_reducible refine' dn_tup ?_ ?_) <;> try walk_at "dn")
  | ((with_reducible refine' dn_lst ?_ ?_) <;> try walk_at "dn")
  | ((with_reducible refine' do_some ?_) <;> try walk_at "dn"))
variable {P : Program} {w : World} {K : PySem.W.Frag} {mg : Str → Option Value} {base : Heap}
def rbyL (f : Flow) (b : Vec) (w : Wd) (l : List Rd4) : List Wd := l.filterMap fun r => if r.1 = w.1 ∧ inside b (diff w.2 r.2.2.2) = true then some (r.2.2.1, diff w.2 r.2.2.2) else none
abbrev N_read_by : List Str := ["flow", "box", "word", "found", "plane", "operand", "source", "distance", "there"]
abbrev P_read_by : List Str := ["flow", "box", "word"]
theorem sc_read_by : FnScope N_read_by P_read_by (defScope s_read_by) := ⟨rfl, rfl, rfl, by decide +kernel, rfl, by decide +kernel, by decide +kernel⟩
def fReadBy (ds : List Dt) (r : Dt) : Prop := ∃ (f : Flow) (b : Vec) (w : Wd), ds = [dFlow f, dV b, dW w] ∧ FlowOk f ∧ w.2.length ≤ 1000 ∧ r = .list ((rby f b w).map dW)
theorem D_read_by (T : Tx K mg) : DefP P w K mg base CX0 2 ("read_by", none) P_read_by (Pu 3 fReadBy) := by
  refine mk_def T 14 d_read_by rfl rfl rfl sc_read_by (fun vs H Q E h => h.1) (fun _ _ _ _ _ _ us hl => match us, hl with | [_, _, _], _ => rfl) (fun cdv A outer s H vs Q E hr h => ?_)
  obtain ⟨_, ds, r, hd, ⟨f, b, w0, rfl, hf, hw, rfl⟩, q⟩ := h
  obtain ⟨x, y, z, rfl, t1, t2, t3⟩ := hd.three
  refine ⟨_, (pss_cons (ps_set (i := 3) sc_read_by.nd rfl (by first | exact Or.inl rfl | exact Or.inr rfl) (pe_lst pa_nil)) (pss_cons (ps_for PassesOwn.never rfl (kpi_tup K (pe_cd (D_reads_of T) (hr.mono (by decide)) T.g_reads_of pass0 (pa_cons (pv 0) pa_nil))) (kpg_tup K 4 (pgs_cons (pg_name (i := 4) sc_read_by.nd rfl (by first | exact Or.inl rfl | exact Or.inr rfl)) (pgs_cons (pg_name (i := 5) sc_read_by.nd rfl (by first | exact Or.inl rfl | exact Or.inr rfl)) (pgs_cons (pg_name (i := 6) sc_read_by.nd rfl (by first | exact Or.inl rfl | exact Or.inr rfl)) (pgs_cons (pg_name (i := 7) sc_read_by.nd rfl (by first | exact Or.inl rfl | exact Or.inr rfl)) pgs_nil))))) (pss_cons (ps_set (i := 8) sc_read_by.nd rfl (by first | exact Or.inl rfl | exact Or.inr rfl) (pe_cd (D_difference T) (hr.mono (by decide)) T.g_difference pass0 (pa_cons (pe_ix (kix_tup K) (pv 2) pe_int (fun _ _ => rfl)) (pa_cons (pv 7) pa_nil)))) (pss_one (ps_if (PW.pt (pw_and (pt_cmpR op_eq (pv 4) (pe_ix (kix_tup K) (pv 2) pe_int (fun _ _ => rfl)) (nomark _)) (pw_and1 (pt_val (pe_cd (D_is_inside T) (hr.mono (by decide)) T.g_is_inside pass0 (pa_cons (pv 1) (pa_cons (pv 8) pa_nil))))))) (pss_one (ps_expr (pe_bm PySem.F.plainAttrs_list PySem.F.slot_list_append PySem.F.type_list_append mt_append (pv 3) (pa_cons (pe_tup (pa_cons (pv 6) (pa_cons (pv 8) pa_nil))) pa_nil)))) pss_nil)))) (pss_one (ps_ret (pv 3))))), ?_⟩
  refine q_lst0 fun p hp => ?_
  have s0 : Same H (upd H p (.lst [])) := Same.new hp
  have hl := rds_len hf
  have u1 := t1.s s0
  refine q_forK dRd (rds f) (srcK_tup (dn_call (by walk_at "dn") (by rfl) ⟨f, rfl, hf, rfl⟩) (flats_map flat_dRd _)) (fun i σ' H' => ∃ o4 o5 o6 o7 o8 us, σ' = [some x, some y, some z, some (.ref p), o4, o5, o6, o7, o8] ∧ Same H H' ∧ H' p = some (.lst us) ∧ TDs H' us ((rbyL f b w0 ((rds f).take i)).map dW)) ?_ ?_ ?_ ?_
  · rintro i σ Ha Hb sab ⟨o4, o5, o6, o7, o8, us, rfl, a1, a2, a3⟩
    exact ⟨o4, o5, o6, o7, o8, us, rfl, a1.trans sab, sab _ _ a2, a3.s sab⟩
  · intro H1 s1
    exact ⟨none, none, none, none, none, [], rfl, s0.trans s1, s1 _ _ upd_same, .nil⟩
  · rintro i ⟨pl, op, src, dst⟩ v σ H1 ha kt tv ⟨o4, o5, o6, o7, o8, us, rfl, a1, a2, a3⟩
    obtain ⟨v4, v5, v6, v7, t4, t5, t6, t7, st⟩ := sto_four (K := K) (σ := [some x, some y, some z, some (.ref p), o4, o5, o6, o7, o8]) (i := 4) (j := 5) (k := 6) (l := 7) tv
    refine ⟨_, st, fun N hN => ?_⟩
    have t1 := t1.s a1
    have t2 := t2.s a1
    have t3 := t3.s a1
    have hsz : us.length < 100000 := by
      have h1 := List.length_filterMap_le (fun r : Rd4 => if r.1 = w0.1 ∧ inside b (diff w0.2 r.2.2.2) = true then some (r.2.2.1, diff w0.2 r.2.2.2) else none) ((rds f).take i)
      have h2 := a3.len
      rw [List.length_map] at h2
      unfold rbyL at h2
      rw [List.length_take] at h1
      omega
    refine q_set (dn_call (z := dV (diff w0.2 dst)) (by walk_at "dn") (by rfl) ⟨w0.2, dst, rfl, hw, rfl⟩) fun v8 H2 s2 t8 => ?_
    have t2 := t2.s s2
    have t3 := t3.s s2
    have t4 := t4.s s2
    have t6 := t6.s s2
    have hdl : (diff w0.2 dst).length ≤ 1000 := by
      unfold diff
      rw [List.length_map, List.length_zip]; omega
    refine s_if0 (b := decide (pl = w0.1) && inside b (diff w0.2 dst)) (dt_and (dt_test (by walk_at "dn")) fun _ => dt_B (dn_call (by walk_at "dn") (by rfl) ⟨b, diff w0.2 dst, rfl, hdl, rfl⟩)) ?_ ?_
    · intro hb H3 s3
      have t6 := t6.s s3
      have t8 := t8.s s3
      have hb2 : pl = w0.1 ∧ inside b (diff w0.2 dst) = true := by simpa using hb
      have e : rbyL f b w0 ((rds f).take (i + 1)) = rbyL f b w0 ((rds f).take i) ++ [(src, diff w0.2 dst)] := by
        unfold rbyL
        rw [take_snoc ha, List.filterMap_append]
        simp [hb2]
      refine s_app (d := dW (src, diff w0.2 dst)) rfl (s3 _ _ (s2 _ _ a2)) (dn_tup (by walk_at "dn") (by simp)) hsz fun v9 H4 s4 t9 => ?_
      have hk : KT H4 (upd H4 p (.lst (us ++ [v9]))) := KT.mut (s4 _ _ (s3 _ _ (s2 _ _ a2))) (fun _ z => nomatch z)
      have ss : Same H1 H4 := (s2.trans s3).trans s4
      refine hN _ _ ((KT.of ss).trans hk) ⟨_, _, _, _, _, us ++ [v9], rfl, Same.mut (a1.trans ss) hp, upd_same, ?_⟩
      rw [e, List.map_append]
      exact ((a3.s ss).k hk (flats_map flat_dW _)).snoc (t9.k hk (flat_dW _))
    · intro hb H3 s3
      have hb2 : ¬ (pl = w0.1 ∧ inside b (diff w0.2 dst) = true) := by
        intro h
        rw [h.1, h.2] at hb
        simp at hb
      have e : rbyL f b w0 ((rds f).take (i + 1)) = rbyL f b w0 ((rds f).take i) := by
        unfold rbyL
        rw [take_snoc ha, List.filterMap_append]
        simp [hb2]
      have ss : Same H1 H3 := s2.trans s3
      refine hN _ _ (KT.of ss) ⟨_, _, _, _, _, us, rfl, a1.trans ss, ss _ _ a2, ?_⟩
      rw [e]
      exact a3.s ss
  · rintro σ H1 kt ⟨o4, o5, o6, o7, o8, us, rfl, a1, a2, a3⟩
    rw [List.take_length] at a3
    exact s_ret (d := .list ((rby f b w0).map dW)) (dn_var rfl (.lst a2 a3)) fun v4 H4 s4 t4 => q v4 H4 (a1.trans s4) t4
abbrev N_is_word : List Str := ["flow", "box", "value"]
abbrev P_is_word : List Str := ["flow", "box", "value"]
theorem sc_is_word : FnScope N_is_word P_is_word (defScope s_is_word) := ⟨rfl, rfl, rfl, by decide +kernel, rfl, by decide +kernel, by decide +kernel⟩
def wordB (f : Flow) (b : Vec) (w : Wd) : Bool := decide (0 ≤ w.1) && decide (w.1 ≤ (f.rules.length : Int) - 1) && isPt b w.2
def fIsWord (ds : List Dt) (r : Dt) : Prop := ∃ (f : Flow) (b : Vec) (w : Wd), ds = [dFlow f, dV b, dW w] ∧ w.2.length ≤ 1000 ∧ r = .bool (wordB f b w)
theorem D_is_word (T : Tx K mg) : DefP P w K mg base CX0 3 ("is_word", none) P_is_word (Pu 3 fIsWord) := by
  refine mk_def T 22 d_is_word rfl rfl rfl sc_is_word (fun vs H Q E h => h.1) (fun _ _ _ _ _ _ us hl => match us, hl with | [_, _, _], _ => rfl) (fun cdv A outer s H vs Q E hr h => ?_)
  obtain ⟨_, ds, r, hd, ⟨f, b, w0, rfl, hw, rfl⟩, q⟩ := h
  obtain ⟨x, y, z, rfl, t1, t2, t3⟩ := hd.three
  refine ⟨_, (pss_cons (ps_if (PW.pt (pw_or (pt_not (pt_val (pe_callB (kcall_isi K) (by rfl) T.f_isinstance (by decide +kernel) (pa_cons (pv 2) (pa_cons (pe_bltn (v := .ty "tuple") rfl T.f_tuple (by decide +kernel) rfl) pa_nil))))) (pw_or1 (pt_cmpR op_ne (pe_callB (kcall_len K) (by rfl) T.f_len boot_len (pa_cons (pv 2) pa_nil)) pe_int (nomark _))))) (pss_one (ps_ret pe_bl)) pss_nil) (pss_one (ps_ret (pe_and (pe_cd (D_is_integer T) (hr.mono (by decide)) T.g_is_integer pass0 (pa_cons (pe_ix (kix_tup K) (pv 2) pe_int (fun _ _ => rfl)) (pa_cons pe_int (pa_cons (pe_op op_sub (pe_callB (kcall_len K) (by rfl) T.f_len boot_len (pa_cons (pe_ix (kix_tup K) (pv 0) pe_int (fun _ _ => rfl)) pa_nil)) pe_int) pa_nil)))) (pe_one (pe_cd (D_is_point T) (hr.mono (by decide)) T.g_is_point pass0 (pa_cons (pv 1) (pa_cons (pe_ix (kix_tup K) (pv 2) pe_int (fun _ _ => rfl)) pa_nil)))))))), ?_⟩
  refine q_ifno (DnT.is (b := !true || !decide ((2 : Int) = 2)) (by walk_at "dn") (by decide)) fun H2 s2 => ?_
  have t1 := t1.s s2
  have t2 := t2.s s2
  have t3 := t3.s s2
  refine s_ret (dn_andV (dn_call (by walk_at "dn") (by rfl) ⟨w0.1, 0, (f.rules.length : Int) - 1, by rw [List.length_map], rfl⟩) fun _ => dn_call (by walk_at "dn") (by rfl) ⟨b, w0.2, rfl, hw, rfl⟩) fun v H3 s3 t3 => q v H3 (s2.trans s3) t3
end K32
/-! M2 -/
set_option Elab.async false
set_option linter.all false
set_option maxRecDepth 100000
set_option maxHeartbeats 1000000
/-! Mathematics 2: ranks of words by what they read; the marking of ranks; what ranks are told of. -/
namespace K32
open PySem
abbrev Lk := Wd → List Wd
structure Part (ks : List Wd) (lk : Lk) (rks : List Wd) (rv : Wd → Int) : Prop where
  sub : ∀ w ∈ rks, w ∈ ks
  nd : rks.Nodup
  up : ∀ w ∈ rks, ∀ u ∈ lk w, u ∈ rks ∧ rv u + 1 ≤ rv w
  at_ : ∀ w ∈ rks, (lk w = [] ∧ rv w = 0) ∨ ∃ u ∈ lk w, rv w = rv u + 1
  pos : ∀ w ∈ rks, 0 ≤ rv w
structure Good (ks : List Wd) (lk : Lk) (rks : List Wd) (rv : Wd → Int) : Prop extends Part ks lk rks rv where
  left : ∀ w ∈ ks, w ∉ rks → ∃ u ∈ lk w, u ∉ rks
def occ (w x : Wd) (l : List Wd) : List Wd := (l.filter fun u => decide (u = x)).map fun _ => w
def rdr (ks : List Wd) (lk : Lk) (x : Wd) : List Wd := ks.flatMap fun w => occ w x (lk w)
def lacking (lk : Lk) (rks : List Wd) (w : Wd) : Nat := ((lk w).filter fun u => decide (u ∉ rks)).length
structure GoI (ks : List Wd) (lk : Lk) (rks : List Wd) (rv lv : Wd → Int) (ws rest : List Wd) : Prop where
  p : Part ks lk rks rv
  nd : ws.Nodup
  sub : ∀ w ∈ ws, w ∈ ks ∧ w ∉ rks ∧ lv w = 0
  cnt : ∀ w ∈ ks, lv w = ((lacking lk rks w + rest.count w : Nat) : Int)
  wt : ∀ w ∈ ks, w ∉ rks → lv w = 0 → w ∈ ws
  rst : ∀ w ∈ rest, w ∈ ks ∧ w ∉ rks
section
variable {ks : List Wd} {lk : Lk} {rks ws rest : List Wd} {rv lv : Wd → Int}
theorem count_occ (w x y : Wd) (l : List Wd) : (occ w x l).count y = if y = w then l.count x else 0 := by
  unfold occ
  induction l with
  | nil => simp
  | cons a l ih =>
    by_cases h : a = x
    · subst h
      rw [List.filter_cons_of_pos (by simp), List.map_cons, List.count_cons, ih, List.count_cons]
      by_cases e : y = w
      · subst e; simp
      · have e' : ¬ w = y := fun z => e z.symm
        simp [e, e']
    · rw [List.filter_cons_of_neg (by simpa using h), ih, List.count_cons]
      simp [h]
theorem count_rdr_aux (x y : Wd) : ∀ l : List Wd, l.Nodup → (l.flatMap fun w => occ w x (lk w)).count y = if y ∈ l then (lk y).count x else 0
  | [], _ => by simp
  | a :: l, h => by
    obtain ⟨h1, h2⟩ := List.nodup_cons.mp h
    rw [List.flatMap_cons, List.count_append, count_rdr_aux x y l h2, count_occ]
    by_cases e : y = a
    · subst e; simp [h1]
    · simp [e]
theorem count_rdr (hn : ks.Nodup) {x y : Wd} (hy : y ∈ ks) : (rdr ks lk x).count y = (lk y).count x := by
  unfold rdr
  rw [count_rdr_aux x y ks hn, if_pos hy]
theorem mem_rdr {x y : Wd} : y ∈ rdr ks lk x ↔ y ∈ ks ∧ x ∈ lk y := by
  unfold rdr occ
  rw [List.mem_flatMap]
  constructor
  · rintro ⟨w, hw, h⟩
    obtain ⟨u, hu, rfl⟩ := List.mem_map.mp h
    obtain ⟨h1, h2⟩ := List.mem_filter.mp hu
    have : u = x := by simpa using h2
    exact ⟨hw, this ▸ h1⟩
  · rintro ⟨hy, hx⟩
    exact ⟨y, hy, List.mem_map.mpr ⟨x, List.mem_filter.mpr ⟨hx, by simp⟩, rfl⟩⟩
theorem go_init (hl : ∀ w ∈ ks, lv w = ((lk w).length : Int)) (hn : ks.Nodup) : GoI ks lk [] rv lv (ks.filter fun w => decide (lv w = 0)) [] where
  p := ⟨fun _ h => (nomatch h), List.nodup_nil, fun _ h => (nomatch h), fun _ h => (nomatch h), fun _ h => (nomatch h)⟩
  nd := hn.filter _
  sub := fun w h => by
    obtain ⟨h1, h2⟩ := List.mem_filter.mp h
    exact ⟨h1, List.not_mem_nil, by simpa using h2⟩
  cnt := fun w h => by
    rw [hl w h]
    unfold lacking
    have : (lk w).filter (fun u => decide (u ∉ ([] : List Wd))) = lk w := List.filter_eq_self.mpr fun _ _ => by simp
    rw [this]; simp
  wt := fun w h _ e => List.mem_filter.mpr ⟨h, by simpa using e⟩
  rst := fun _ h => nomatch h
theorem go_links (g : GoI ks lk rks rv lv ws rest) {x : Wd} (hx : x ∈ ws) : ∀ u ∈ lk x, u ∈ rks := fun u hu => by
  obtain ⟨h1, h2, h3⟩ := g.sub x hx
  have hc := g.cnt x h1
  rw [h3] at hc
  have h0 : lacking lk rks x = 0 := by omega
  unfold lacking at h0
  have h4 := List.length_eq_zero_iff.mp h0
  rw [List.filter_eq_nil_iff] at h4
  simpa using h4 u hu
theorem lacking_snoc {x w : Wd} (hx : x ∉ rks) : lacking lk rks w = lacking lk (rks ++ [x]) w + (lk w).count x := by
  unfold lacking
  induction lk w with
  | nil => simp
  | cons a l ih =>
    by_cases h : a ∈ rks
    · have ne : ¬ a = x := fun e => hx (e ▸ h)
      rw [List.filter_cons_of_neg (by simpa using h), List.filter_cons_of_neg (by simp [h]), List.count_cons, ih]
      simp [ne]
    · by_cases e : a = x
      · subst e
        rw [List.filter_cons_of_pos (by simpa using h), List.filter_cons_of_neg (by simp), List.count_cons, List.length_cons, ih]
        simp; omega
      · rw [List.filter_cons_of_pos (by simpa using h), List.filter_cons_of_pos (by simp [h, e]), List.count_cons, List.length_cons, List.length_cons, ih]
        simp [e]; omega
theorem go_pop (hn : ks.Nodup) {x : Wd} {v : Int} (g : GoI ks lk rks rv lv (ws ++ [x]) []) (h1 : ∀ u ∈ lk x, rv u + 1 ≤ v) (h2 : (lk x = [] ∧ v = 0) ∨ ∃ u ∈ lk x, v = rv u + 1) :
    GoI ks lk (rks ++ [x]) (fun w => if w = x then v else rv w) lv ws (rdr ks lk x) := by
  have hxs : x ∈ ws ++ [x] := List.mem_append_right _ (List.mem_singleton.mpr rfl)
  obtain ⟨hxk, hxr, hx0⟩ := g.sub x hxs
  have hlk := go_links g hxs
  have hxx : x ∉ lk x := fun h => hxr (hlk x h)
  have hnd := List.nodup_append.mp g.nd
  have hxw : x ∉ ws := fun h => hnd.2.2 x h x (List.mem_singleton.mpr rfl) rfl
  have ne : ∀ w ∈ rks, ¬ w = x := fun w hw e => hxr (e ▸ hw)
  refine ⟨⟨?_, ?_, ?_, ?_, ?_⟩, hnd.1, ?_, ?_, ?_, ?_⟩
  · intro w hw
    rcases List.mem_append.mp hw with h | h
    · exact g.p.sub w h
    · rw [List.mem_singleton.mp h]; exact hxk
  · refine List.nodup_append.mpr ⟨g.p.nd, by simp, fun a ha b hb e => ?_⟩
    rw [List.mem_singleton.mp hb] at e
    exact hxr (e ▸ ha)
  · intro w hw u hu
    rcases List.mem_append.mp hw with h | h
    · obtain ⟨a, b⟩ := g.p.up w h u hu
      refine ⟨List.mem_append_left _ a, ?_⟩
      rw [if_neg (ne w h), if_neg (ne u a)]; exact b
    · have e := List.mem_singleton.mp h
      subst e
      refine ⟨List.mem_append_left _ (hlk u hu), ?_⟩
      rw [if_neg (ne u (hlk u hu)), if_pos rfl]; exact h1 u hu
  · intro w hw
    rcases List.mem_append.mp hw with h | h
    · simp only [if_neg (ne w h)]
      rcases g.p.at_ w h with a | ⟨u, hu, a⟩
      · exact .inl a
      · refine .inr ⟨u, hu, ?_⟩
        rw [if_neg (ne u (g.p.up w h u hu).1)]; exact a
    · have e := List.mem_singleton.mp h
      subst e
      simp only [if_pos]
      rcases h2 with a | ⟨u, hu, a⟩
      · exact .inl a
      · refine .inr ⟨u, hu, ?_⟩
        rw [if_neg (ne u (hlk u hu))]; exact a
  · intro w hw
    rcases List.mem_append.mp hw with h | h
    · simp only [if_neg (ne w h)]; exact g.p.pos w h
    · have e := List.mem_singleton.mp h
      subst e
      simp only [if_pos]
      rcases h2 with a | ⟨u, hu, a⟩
      · omega
      · have := g.p.pos u (hlk u hu)
        omega
  · intro w hw
    obtain ⟨a, b, c⟩ := g.sub w (List.mem_append_left _ hw)
    refine ⟨a, fun h => ?_, c⟩
    rcases List.mem_append.mp h with h | h
    · exact b h
    · exact hxw (List.mem_singleton.mp h ▸ hw)
  · intro w hw
    rw [g.cnt w hw, count_rdr hn hw, lacking_snoc hxr]
    simp
  · intro w hw hr h0
    have hr' : w ∉ rks := fun h => hr (List.mem_append_left _ h)
    rcases List.mem_append.mp (g.wt w hw hr' h0) with h | h
    · exact h
    · exact absurd (List.mem_append_right _ h) hr
  · intro w hw
    obtain ⟨a, b⟩ := mem_rdr.mp hw
    refine ⟨a, fun h => ?_⟩
    rcases List.mem_append.mp h with h | h
    · exact hxr (g.p.up w h x b).1
    · rw [List.mem_singleton.mp h] at b
      exact hxx b
theorem go_dec {o : Wd} (g : GoI ks lk rks rv lv ws (o :: rest)) : 1 ≤ lv o ∧ o ∈ ks ∧ GoI ks lk rks rv (fun w => if w = o then lv o - 1 else lv w) (if lv o - 1 = 0 then ws ++ [o] else ws) rest := by
  obtain ⟨hok, hor⟩ := g.rst o (List.mem_cons_self ..)
  have hc := g.cnt o hok
  rw [List.count_cons_self] at hc
  have h1 : 1 ≤ lv o := by omega
  have how : o ∉ ws := fun h => by
    have := (g.sub o h).2.2
    omega
  refine ⟨h1, hok, g.p, ?_, ?_, ?_, ?_, fun w h => g.rst w (List.mem_cons_of_mem _ h)⟩
  · split
    · refine List.nodup_append.mpr ⟨g.nd, by simp, fun a ha b hb e => ?_⟩
      rw [List.mem_singleton.mp hb] at e
      exact how (e ▸ ha)
    · exact g.nd
  · intro w hw
    by_cases e : w = o
    · subst e
      rw [if_pos rfl]
      refine ⟨hok, hor, ?_⟩
      split at hw
      · assumption
      · exact absurd hw how
    · rw [if_neg e]
      refine g.sub w ?_
      split at hw
      · rcases List.mem_append.mp hw with h | h
        · exact h
        · exact absurd (List.mem_singleton.mp h) e
      · exact hw
  · intro w hw
    have := g.cnt w hw
    by_cases e : w = o
    · subst e
      rw [if_pos rfl]
      omega
    · rw [if_neg e, this, List.count_cons]
      have : ¬ o = w := fun z => e z.symm
      simp [this]
  · intro w hw hr h0
    by_cases e : w = o
    · subst e
      rw [if_pos rfl] at h0
      rw [if_pos h0]
      exact List.mem_append_right _ (List.mem_singleton.mpr rfl)
    · rw [if_neg e] at h0
      have := g.wt w hw hr h0
      split
      · exact List.mem_append_left _ this
      · exact this
theorem go_end (g : GoI ks lk rks rv lv [] []) (hc : ∀ w ∈ ks, ∀ u ∈ lk w, u ∈ ks) : Good ks lk rks rv := by
  refine ⟨g.p, fun w hw hr => ?_⟩
  have h0 : ¬ lv w = 0 := fun e => nomatch g.wt w hw hr e
  have hcn := g.cnt w hw
  have h1 : 0 < lacking lk rks w := by
    simp at hcn
    omega
  unfold lacking at h1
  obtain ⟨u, hu⟩ := List.exists_mem_of_length_pos h1
  obtain ⟨a, b⟩ := List.mem_filter.mp hu
  exact ⟨u, a, by simpa using b⟩
/-! ### uniqueness -/
theorem good_le {rks' : List Wd} {rv' : Wd → Int} (g : Good ks lk rks rv) (g' : Good ks lk rks' rv') (hc : ∀ w ∈ ks, ∀ u ∈ lk w, u ∈ ks) : ∀ (n : Nat) (w : Wd), w ∈ rks → rv w ≤ n → w ∈ rks' ∧ rv' w = rv w := by
  intro n
  induction n with
  | zero =>
    intro w hw h0
    have hp := g.pos w hw
    have hl : lk w = [] := by
      rcases g.at_ w hw with a | ⟨u, hu, a⟩
      · exact a.1
      · have := g.pos u (g.up w hw u hu).1
        omega
    have hm : w ∈ rks' := by
      by_cases h : w ∈ rks'
      · exact h
      · obtain ⟨u, hu, _⟩ := g'.left w (g.sub w hw) h
        rw [hl] at hu; exact nomatch hu
    refine ⟨hm, ?_⟩
    rcases g'.at_ w hm with a | ⟨u, hu, a⟩
    · omega
    · rw [hl] at hu; exact nomatch hu
  | succ n ih =>
    intro w hw hle
    have hu : ∀ u ∈ lk w, u ∈ rks' ∧ rv' u = rv u := fun u hu => by
      obtain ⟨a, b⟩ := g.up w hw u hu
      exact ih u a (by omega)
    have hm : w ∈ rks' := by
      by_cases h : w ∈ rks'
      · exact h
      · obtain ⟨u, hu1, hu2⟩ := g'.left w (g.sub w hw) h
        exact absurd (hu u hu1).1 hu2
    refine ⟨hm, ?_⟩
    rcases g.at_ w hw with ⟨a1, a2⟩ | ⟨u, hu1, a⟩
    · rcases g'.at_ w hm with b | ⟨u, hu1, b⟩
      · omega
      · rw [a1] at hu1; exact nomatch hu1
    · rcases g'.at_ w hm with b | ⟨u', hu1', b⟩
      · rw [b.1] at hu1; exact nomatch hu1
      · have h1 := (g'.up w hm u hu1).2
        have h2 := (g.up w hw u' hu1').2
        have h3 := (hu u hu1).2
        have h4 := (hu u' hu1').2
        omega
theorem good_uniq {rks' : List Wd} {rv' : Wd → Int} (g : Good ks lk rks rv) (g' : Good ks lk rks' rv') (hc : ∀ w ∈ ks, ∀ u ∈ lk w, u ∈ ks) : (∀ w, w ∈ rks ↔ w ∈ rks') ∧ ∀ w ∈ rks, rv' w = rv w := by
  refine ⟨fun w => ⟨fun h => (good_le g g' hc (rv w).toNat w h (by omega)).1, fun h => (good_le g' g hc (rv' w).toNat w h (by omega)).1⟩, fun w h => (good_le g g' hc (rv w).toNat w h (by omega)).2⟩
end
end K32
/-! M3 -/
set_option Elab.async false
set_option linter.all false
set_option maxRecDepth 100000
set_option maxHeartbeats 1000000
/-! Mathematics 3: the points of a box, the words of a flow: who is in, each once; what is read is a word. -/
namespace K32
open PySem
theorem inside_cons (s : Int) (b : Vec) (i : Int) (q : Vec) : inside (s :: b) (i :: q) = ((decide (0 ≤ i) && decide (i < s)) && inside b q) := rfl
theorem inside_nil (b : Vec) : inside b [] = true := rfl
theorem mem_ptsF : ∀ (b : Vec) (rows : List Vec) (p : Vec), p ∈ b.foldl ptsStep rows ↔ ∃ r ∈ rows, ∃ q : Vec, q.length = b.length ∧ inside b q = true ∧ p = r ++ q
  | [], rows, p => by
    constructor
    · intro h
      exact ⟨p, h, [], rfl, rfl, by simp⟩
    · rintro ⟨r, h, q, hq, _, rfl⟩
      have : q = [] := List.length_eq_zero_iff.mp hq
      subst this
      simpa using h
  | s :: b, rows, p => by
    rw [List.foldl_cons, mem_ptsF b]
    constructor
    · rintro ⟨r, hr, q, h1, h2, rfl⟩
      unfold ptsStep at hr
      obtain ⟨r0, hr0, h3⟩ := List.mem_flatMap.mp hr
      obtain ⟨i, hi, rfl⟩ := List.mem_map.mp h3
      refine ⟨r0, hr0, (i : Int) :: q, by simp [h1], ?_, by simp⟩
      rw [inside_cons, h2]
      have := List.mem_range.mp hi
      simp; omega
    · rintro ⟨r, hr, q, h1, h2, rfl⟩
      cases q with
      | nil => simp at h1
      | cons i q =>
        rw [inside_cons] at h2
        simp at h2
        refine ⟨r ++ [i], ?_, q, by simpa using h1, h2.2, by simp⟩
        unfold ptsStep
        refine List.mem_flatMap.mpr ⟨r, hr, List.mem_map.mpr ⟨i.toNat, List.mem_range.mpr (by omega), ?_⟩⟩
        rw [Int.toNat_of_nonneg h2.1.1]
theorem mem_pts {b p : Vec} : p ∈ pts b ↔ p.length = b.length ∧ inside b p = true := by
  unfold pts
  rw [mem_ptsF]
  constructor
  · rintro ⟨r, hr, q, h1, h2, rfl⟩
    rw [List.mem_singleton.mp hr]
    exact ⟨h1, h2⟩
  · rintro ⟨h1, h2⟩
    exact ⟨[], by simp, p, h1, h2, rfl⟩
theorem nodup_flatMap' {α β : Type} {f : α → List β} : ∀ {l : List α}, l.Nodup → (∀ a ∈ l, (f a).Nodup) → (∀ a ∈ l, ∀ a' ∈ l, ∀ x ∈ f a, x ∈ f a' → a = a') → (l.flatMap f).Nodup
  | [], _, _, _ => by simp
  | a :: l, hn, h1, h2 => by
    obtain ⟨ha, hn⟩ := List.nodup_cons.mp hn
    rw [List.flatMap_cons]
    refine List.nodup_append.mpr ⟨h1 a (List.mem_cons_self ..), nodup_flatMap' hn (fun b hb => h1 b (List.mem_cons_of_mem _ hb)) fun b hb b' hb' => h2 b (List.mem_cons_of_mem _ hb) b' (List.mem_cons_of_mem _ hb'), fun x hx y hy e => ?_⟩
    subst e
    obtain ⟨b, hb, hxb⟩ := List.mem_flatMap.mp hy
    have := h2 a (List.mem_cons_self ..) b (List.mem_cons_of_mem _ hb) x hx hxb
    exact ha (this ▸ hb)
theorem nodup_map' {α β : Type} {f : α → β} {l : List α} (hn : l.Nodup) (h : ∀ a ∈ l, ∀ b ∈ l, f a = f b → a = b) : (l.map f).Nodup := by
  induction l with
  | nil => simp
  | cons a l ih =>
    obtain ⟨ha, hn⟩ := List.nodup_cons.mp hn
    rw [List.map_cons]
    refine List.nodup_cons.mpr ⟨fun hm => ?_, ih hn fun x hx y hy => h x (List.mem_cons_of_mem _ hx) y (List.mem_cons_of_mem _ hy)⟩
    obtain ⟨b, hb, e⟩ := List.mem_map.mp hm
    have := h a (List.mem_cons_self ..) b (List.mem_cons_of_mem _ hb) e.symm
    exact ha (this ▸ hb)
theorem snoc_inj {r r' : Vec} {i j : Int} (h : r ++ [i] = r' ++ [j]) : r = r' ∧ i = j := by
  have h2 := List.append_inj' h rfl
  refine ⟨h2.1, ?_⟩
  have := h2.2
  injection this
theorem ptsStep_nodup {rows : List Vec} (s : Int) (h : rows.Nodup) : (ptsStep rows s).Nodup := by
  unfold ptsStep
  refine nodup_flatMap' h (fun r _ => nodup_map' List.nodup_range fun i _ j _ e => ?_) fun r _ r' _ x hx hx' => ?_
  · have := (snoc_inj e).2
    omega
  · obtain ⟨i, _, rfl⟩ := List.mem_map.mp hx
    obtain ⟨j, _, e⟩ := List.mem_map.mp hx'
    exact (snoc_inj e).1.symm
theorem ptsF_nodup : ∀ (b : Vec) (rows : List Vec), rows.Nodup → (b.foldl ptsStep rows).Nodup
  | [], _, h => h
  | s :: b, rows, h => ptsF_nodup b _ (ptsStep_nodup s h)
theorem pts_nodup (b : Vec) : (pts b).Nodup := ptsF_nodup b _ (by simp)
theorem mem_wds {f : Flow} {b : Vec} {w : Wd} : w ∈ wds f b ↔ (0 ≤ w.1 ∧ w.1 < (f.rules.length : Int)) ∧ w.2 ∈ pts b := by
  obtain ⟨pl, p⟩ := w
  unfold wds
  rw [List.mem_flatMap]
  constructor
  · rintro ⟨i, hi, h⟩
    obtain ⟨q, hq, e⟩ := List.mem_map.mp h
    cases e
    have := List.mem_range.mp hi
    exact ⟨⟨by omega, by omega⟩, hq⟩
  · rintro ⟨⟨h1, h2⟩, h3⟩
    simp only at h1 h2 h3
    refine ⟨pl.toNat, List.mem_range.mpr (by omega), List.mem_map.mpr ⟨p, h3, ?_⟩⟩
    rw [Int.toNat_of_nonneg h1]
theorem wds_nodup (f : Flow) (b : Vec) : (wds f b).Nodup := by
  unfold wds
  refine nodup_flatMap' List.nodup_range (fun i _ => nodup_map' (pts_nodup b) fun p _ q _ e => (Prod.mk.inj e).2) fun i _ j _ x hx hx' => ?_
  obtain ⟨p, _, rfl⟩ := List.mem_map.mp hx
  obtain ⟨q, _, e⟩ := List.mem_map.mp hx'
  have := (Prod.mk.inj e).1
  omega
theorem mem_rds {f : Flow} {r : Rd4} : r ∈ rds f ↔ ∃ (i j : Nat) (rule : Str × List Wd), f.rules[i]? = some rule ∧ rule.2[j]? = some r.2.2 ∧ r.1 = (i : Int) ∧ r.2.1 = (j : Int) := by
  obtain ⟨a, b, c, d⟩ := r
  unfold rds
  rw [List.mem_flatMap]
  constructor
  · rintro ⟨⟨rule, i⟩, hp, h⟩
    obtain ⟨⟨q, j⟩, hq, e⟩ := List.mem_map.mp h
    cases e
    exact ⟨i, j, rule, List.mem_zipIdx_iff_getElem?.mp hp, List.mem_zipIdx_iff_getElem?.mp hq, rfl, rfl⟩
  · rintro ⟨i, j, rule, h1, h2, rfl, rfl⟩
    exact ⟨(rule, i), List.mem_zipIdx_iff_getElem?.mpr h1, List.mem_map.mpr ⟨((c, d), j), List.mem_zipIdx_iff_getElem?.mpr h2, rfl⟩⟩
/-- what a word reads -/
theorem mem_rby {f : Flow} {b : Vec} {w u : Wd} : u ∈ rby f b w ↔ ∃ (i j : Nat) (rule : Str × List Wd) (q : Wd), f.rules[i]? = some rule ∧ rule.2[j]? = some q ∧ (i : Int) = w.1 ∧ inside b (diff w.2 q.2) = true ∧ u = (q.1, diff w.2 q.2) := by
  unfold rby
  rw [List.mem_filterMap]
  constructor
  · rintro ⟨r, hr, h⟩
    obtain ⟨i, j, rule, h1, h2, h3, h4⟩ := mem_rds.mp hr
    split at h
    · rename_i hc
      cases h
      exact ⟨i, j, rule, r.2.2, h1, h2, h3 ▸ hc.1, hc.2, rfl⟩
    · cases h
  · rintro ⟨i, j, rule, q, h1, h2, h3, h4, rfl⟩
    refine ⟨((i : Int), (j : Int), q.1, q.2), mem_rds.mpr ⟨i, j, rule, h1, h2, rfl, rfl⟩, ?_⟩
    rw [if_pos ⟨h3, h4⟩]
theorem diff_len {a c : Vec} (h : a.length = c.length) : (diff a c).length = a.length := by
  unfold diff
  rw [List.length_map, List.length_zip]; omega
/-- what is read is a word -/
theorem rby_closed {f : Flow} {b : Vec} (hf : FlowOk f) (hd : f.dims = (b.length : Int)) : ∀ w ∈ wds f b, ∀ u ∈ rby f b w, u ∈ wds f b := by
  intro w hw u hu
  obtain ⟨i, j, rule, q, h1, h2, h3, h4, rfl⟩ := mem_rby.mp hu
  have hr := List.mem_of_getElem? h1
  have hq := List.mem_of_getElem? h2
  refine mem_wds.mpr ⟨hf.src rule hr q hq, mem_pts.mpr ⟨?_, h4⟩⟩
  have hl := (hf.dst rule hr q hq).1
  have hp := (mem_pts.mp (mem_wds.mp hw).2).1
  show (diff w.2 q.2).length = b.length
  rw [diff_len (by omega), hp]
theorem rby_len {f : Flow} {b : Vec} (hf : FlowOk f) (w : Wd) : (rby f b w).length ≤ (rds f).length := List.length_filterMap_le ..
end K32
/-! Nd -/
set_option Elab.async false
set_option linter.all false
set_option maxRecDepth 100000
set_option maxHeartbeats 2000000
/-! Dicts whose keys are words (plane, point), in the layer: as an object of its own (ndO), its keys' tuples told beside it (ND). -/
namespace K32
open PySem PySem.Spec PyProof.Rows L2
/-! ### a word as a key -/
def nkV (v : Vec) : NestedKey := .tup (v.map .num)
def nk (w : Wd) : NestedKey := .tup [.num w.1, nkV w.2]
theorem num_inj : ∀ {a b : List Int}, a.map NestedKey.num = b.map NestedKey.num → a = b
  | [], [], _ => rfl
  | [], _ :: _, e => by simp at e
  | _ :: _, [], e => by simp at e
  | x :: xs, y :: ys, e => by
    rw [List.map_cons, List.map_cons] at e
    injection e with e1 e2
    injection e1 with e1
    rw [e1, num_inj e2]
theorem nk_inj {a b : Wd} (e : nk a = nk b) : a = b := by
  obtain ⟨i, u⟩ := a
  obtain ⟨j, v⟩ := b
  unfold nk nkV at e
  injection e with e
  injection e with e1 e2
  injection e1 with e1
  injection e2 with e2
  injection e2 with e2
  have e1' : i = j := e1
  have e2' : u = v := num_inj e2
  rw [e1', e2']
theorem dep_nums : ∀ l : List Int, NestedKey.depthAll (l.map .num) = 0
  | [] => by simp [NestedKey.depthAll]
  | a :: l => by simp [NestedKey.depthAll, NestedKey.depth, dep_nums l]
theorem nk_depth (w : Wd) : (nk w).depth ≤ 8 := by
  unfold nk nkV
  simp [NestedKey.depth, NestedKey.depthAll, dep_nums]
section
variable {X : Cx} {pins : List (Addr × Obj)} {σ : L2.St} {H H' : Hp} {s : Shared} {v y : V} {u : Value}
theorem nested_nums {h : Heap} : ∀ {l : List Int} {us : List Value}, Vals (l.map V.int) us → NestedAll h (l.map .num) us
  | [], _, r => by cases r; exact .nil
  | a :: l, _, r => by
    cases r with
    | cons r t =>
      obtain ⟨t1, rfl⟩ := r
      exact .cons (.int a t1) (nested_nums t)
theorem nested_vec (I : Inv X pins σ H s) {x : Vec} (t : TD H v (dV x)) (r : RelV v u) : NestedIs s.heap (nkV x) u := by
  obtain ⟨a, xs, rfl, h1, h2⟩ := TD.t t
  have e := h2.ints
  subst e
  cases r
  obtain ⟨_, its, rv, o, g1, g2, n, g3⟩ := (show ObjOk X.prog X.w H s.heap a (.tup (x.map V.int)) from I.hok a _ h1)
  exact .tup g1 g2 g3 (by simpa using nested_nums rv)
theorem nested_wd (I : Inv X pins σ H s) {x : Wd} (t : TD H v (dW x)) (r : RelV v u) : NestedIs s.heap (nk x) u := by
  obtain ⟨a, xs, rfl, h1, h2⟩ := TD.t t
  obtain ⟨v1, v2, rfl, t1, t2⟩ := h2.two
  have e1 := t1.i
  subst e1
  cases r
  obtain ⟨_, its, rv, o, g1, g2, n, g3⟩ := (show ObjOk X.prog X.w H s.heap a (.tup [.int x.1, v2]) from I.hok a _ h1)
  cases rv with
  | cons r1 rv =>
    cases rv with
    | cons r2 rv =>
      cases rv
      obtain ⟨tk, rfl⟩ := r1
      exact .tup g1 g2 g3 (by simpa using NestedAll.cons (.int x.1 tk) (.cons (nested_vec I t2 r2) .nil))
end
/-! ### the table -/
abbrev Kvs := List (Wd × Addr × V)
def valW (kvs : Kvs) (w : Wd) : Option V := (kvs.find? fun e => decide (e.1 = w)).map (·.2.2)
def putW (kvs : Kvs) (w : Wd) (p : Addr) (v : V) : Kvs := if (valW kvs w).isSome then kvs.map (fun e => if e.1 = w then (e.1, e.2.1, v) else e) else kvs ++ [(w, p, v)]
theorem valW_nil {w : Wd} : valW [] w = none := rfl
theorem valW_pos {e : Wd × Addr × V} {r : Kvs} {w : Wd} (h : e.1 = w) : valW (e :: r) w = some e.2.2 := by simp [valW, List.find?_cons, h]
theorem valW_neg {e : Wd × Addr × V} {r : Kvs} {w : Wd} (h : ¬ e.1 = w) : valW (e :: r) w = valW r w := by simp [valW, List.find?_cons, h]
theorem valW_map (k j : Wd) (y : V) : ∀ kvs : Kvs, valW (kvs.map fun e => if e.1 = k then (e.1, e.2.1, y) else e) j = (valW kvs j).map fun x => if j = k then y else x
  | [] => rfl
  | p :: r => by
    have ih := valW_map k j y r
    rw [List.map_cons]
    by_cases h : p.1 = k
    · rw [if_pos h]
      by_cases e : p.1 = j
      · rw [valW_pos (e := (p.1, p.2.1, y)) e, valW_pos e, Option.map_some, if_pos (e.symm.trans h)]
      · rw [valW_neg (e := (p.1, p.2.1, y)) e, valW_neg e, ih]
    · rw [if_neg h]
      by_cases e : p.1 = j
      · rw [valW_pos (e := p) e, valW_pos e, Option.map_some, if_neg (fun z => h (e.trans z))]
      · rw [valW_neg (e := p) e, valW_neg e, ih]
theorem valW_app (a b : Kvs) (w : Wd) : valW (a ++ b) w = (valW a w).or (valW b w) := by
  induction a with
  | nil => simp [valW]
  | cons p r ih =>
    rw [List.cons_append]
    by_cases e : p.1 = w
    · rw [valW_pos e, valW_pos e]; rfl
    · rw [valW_neg e, valW_neg e, ih]
theorem valW_put (kvs : Kvs) (k j : Wd) (p : Addr) (y : V) : valW (putW kvs k p y) j = if j = k then some y else valW kvs j := by
  unfold putW
  by_cases a : (valW kvs k).isSome = true
  · rw [if_pos a, valW_map]
    by_cases e : j = k
    · subst e
      rw [if_pos rfl]
      obtain ⟨x, hx⟩ := Option.isSome_iff_exists.mp a
      rw [hx]
      simp
    · rw [if_neg e]
      cases valW kvs j <;> simp [e]
  · rw [if_neg a, valW_app]
    have hn : valW kvs k = none := by simpa using a
    by_cases e : j = k
    · subst e
      rw [hn, if_pos rfl, valW_pos rfl]; rfl
    · rw [if_neg e, valW_neg (fun z => e z.symm)]
      cases valW kvs j <;> rfl
theorem putW_len (kvs : Kvs) (w : Wd) (p : Addr) (v : V) : (putW kvs w p v).length ≤ kvs.length + 1 := by
  unfold putW
  split
  · rw [List.length_map]; omega
  · rw [List.length_append]; simp
theorem putW_keys (kvs : Kvs) (w : Wd) (p : Addr) (v : V) : (putW kvs w p v).map (·.1) = if (valW kvs w).isSome then kvs.map (·.1) else kvs.map (·.1) ++ [w] := by
  unfold putW
  split
  · rw [List.map_map]
    refine List.map_congr_left fun e _ => ?_
    show (if e.1 = w then (e.1, e.2.1, v) else e).1 = e.1
    split <;> rfl
  · rw [List.map_append]; rfl
theorem valW_mem {kvs : Kvs} {w : Wd} : (valW kvs w).isSome = true ↔ w ∈ kvs.map (·.1) := by
  induction kvs with
  | nil => simp [valW]
  | cons p r ih =>
    by_cases e : p.1 = w
    · rw [valW_pos e]; simp [e]
    · rw [valW_neg e, ih, List.map_cons, List.mem_cons]
      constructor
      · exact .inr
      · rintro (h | h)
        · exact absurd h.symm e
        · exact h
theorem valW_new {kvs : Kvs} {w : Wd} (h : ¬ w ∈ kvs.map (·.1)) : valW kvs w = none := by
  have := mt valW_mem.mp h
  simpa using this
theorem putW_new {kvs : Kvs} {w : Wd} (p : Addr) (v : V) (h : ¬ w ∈ kvs.map (·.1)) : putW kvs w p v = kvs ++ [(w, p, v)] := by
  unfold putW
  rw [valW_new h]
  simp
/-! ### .. and the machine's -/
abbrev NP : Kvs → List (NestedKey × Addr × Value) → Prop := Paired fun p q => nk p.1 = q.1 ∧ p.2.1 = q.2.1 ∧ RelV p.2.2 q.2.2
theorem NP.val {kvs : Kvs} {xs : List (NestedKey × Addr × Value)} (r : NP kvs xs) (w : Wd) : RelO (valW kvs w) ((atKey xs (nk w)).map (·.2)) := by
  induction r with
  | nil => exact True.intro
  | @cons p q ps qs h t ih =>
    obtain ⟨h1, _, h2⟩ := h
    by_cases e : p.1 = w
    · have e' : q.1 = nk w := by rw [← h1, e]
      have b : atKey (q :: qs) (nk w) = some q.2 := by simp [atKey, List.find?_cons, e']
      rw [valW_pos e, b]; exact h2
    · have e' : ¬ q.1 = nk w := fun z => e (nk_inj (h1.trans z))
      have b : atKey (q :: qs) (nk w) = atKey qs (nk w) := by simp [atKey, List.find?_cons, e']
      rw [valW_neg e, b]; exact ih
theorem NP.repl {kvs : Kvs} {xs : List (NestedKey × Addr × Value)} (r : NP kvs xs) (w : Wd) {y : V} {u : Value} (ry : RelV y u) :
    NP (kvs.map fun e => if e.1 = w then (e.1, e.2.1, y) else e) (xs.map (putAt (nk w) u)) := by
  induction r with
  | nil => exact .nil
  | @cons p q ps qs h t ih =>
    rw [List.map_cons, List.map_cons]
    refine .cons ?_ ih
    obtain ⟨h1, h2, h3⟩ := h
    unfold putAt
    by_cases e : p.1 = w
    · rw [if_pos e, if_pos (show q.1 = nk w by rw [← h1, e])]; exact ⟨h1, h2, ry⟩
    · rw [if_neg e, if_neg (fun z => e (nk_inj (h1.trans z)))]; exact ⟨h1, h2, h3⟩
theorem NP.put {kvs : Kvs} {xs : List (NestedKey × Addr × Value)} (r : NP kvs xs) (w : Wd) (b : Addr) {y : V} {u : Value} (ry : RelV y u) : NP (putW kvs w b y) (storedH xs (nk w) b u) := by
  have e : (valW kvs w).isSome = (atKey xs (nk w)).isSome := by rw [(r.val w).isSome_eq, Option.isSome_map]
  unfold putW storedH
  rw [e]
  by_cases q : (atKey xs (nk w)).isSome = true
  · rw [if_pos q, if_pos q]; exact r.repl w ry
  · rw [if_neg q, if_neg q]; exact Paired.snoc r ⟨rfl, rfl, ry⟩
def ndP (P : Program) (w : World) (a : Addr) (kvs : Kvs) (h : Heap) : Prop := ∃ xs : List (NestedKey × Addr × Value), NP kvs xs ∧ kvs.length ≤ sizeLine ∧ (a == sysModules) = false ∧
  ∃ o es ep, h.get? a = some o ∧ o.ExactDict ∧ o.data = .dict es ep ∧ es.toList = xs.map (entryOfKey (nestedKind P w)) ∧ (xs.map (·.1)).Nodup
def ndO (P : Program) (w : World) (a : Addr) (kvs : Kvs) : HO := .ext (ndP P w a kvs)
theorem ndO_ok {P : Program} {w : World} {H : Hp} {h : Heap} {a : Addr} {kvs : Kvs} (x : ndP P w a kvs h) : ObjOk P w H h a (ndO P w a kvs) := by
  refine ⟨x, ?_, fun h1 h2 z k => ?_⟩
  · obtain ⟨_, _, _, _, o, _, _, e, _⟩ := x
    exact ⟨o, e⟩
  · obtain ⟨xs, r, l, m, o, es, ep, e, c⟩ := z
    exact ⟨xs, r, l, m, o, es, ep, k o e, c⟩
/-- what is read: the table stands (locked or not), its keys' tuples stand -/
structure NDr (P : Program) (w : World) (H : Hp) (a : Addr) (kvs : Kvs) : Prop where
  obj : Rd H a (ndO P w a kvs)
  keys : ∀ e ∈ kvs, TD H (.ref e.2.1) (dW e.1)
structure ND (P : Program) (w : World) (H : Hp) (a : Addr) (kvs : Kvs) : Prop where
  obj : H a = some (ndO P w a kvs)
  keys : ∀ e ∈ kvs, TD H (.ref e.2.1) (dW e.1)
theorem ND.r {P : Program} {w : World} {H : Hp} {a : Addr} {kvs : Kvs} (h : ND P w H a kvs) : NDr P w H a kvs := ⟨.inl h.obj, h.keys⟩
theorem ND.s {P : Program} {w : World} {H H' : Hp} {a : Addr} {kvs : Kvs} (h : ND P w H a kvs) (s : Same H H') : ND P w H' a kvs := ⟨s _ _ h.obj, fun e he => (h.keys e he).s s⟩
/-- kept while its own object and all tuples are -/
theorem ND.k {P : Program} {w : World} {H H' : Hp} {a : Addr} {kvs : Kvs} (h : ND P w H a kvs) (s : KT H H') (e : H' a = H a) : ND P w H' a kvs := ⟨e.trans h.obj, fun x hx => (h.keys x hx).k s (flat_dW _)⟩
theorem NDr.s {P : Program} {w : World} {H H' : Hp} {a : Addr} {kvs : Kvs} (h : NDr P w H a kvs) (s : Same H H') : NDr P w H' a kvs := ⟨h.obj.elim (fun e => .inl (s _ _ e)) fun ⟨o, e⟩ => .inr ⟨o, s _ _ e⟩, fun e he => (h.keys e he).s s⟩
theorem NDr.k {P : Program} {w : World} {H H' : Hp} {a : Addr} {kvs : Kvs} (h : NDr P w H a kvs) (s : KT H H') (e : H' a = H a) : NDr P w H' a kvs := ⟨by unfold Rd; rw [e]; exact h.obj, fun x hx => (h.keys x hx).k s (flat_dW _)⟩
theorem ndO_notup {P : Program} {w : World} {a : Addr} {kvs : Kvs} (xs : List V) : ndO P w a kvs ≠ .tup xs := fun z => nomatch (show HO.ext _ = HO.tup xs from z)
theorem ND.put {P : Program} {w : World} {H : Hp} {a : Addr} {kvs : Kvs} (h : ND P w H a kvs) {k : Wd} {p : Addr} (v : V) (hk : TD H (.ref p) (dW k)) : ND P w (upd H a (ndO P w a (putW kvs k p v))) a (putW kvs k p v) := by
  refine ⟨upd_same, fun e he => ?_⟩
  refine TD.k (KT.mut h.obj ndO_notup) (flat_dW _) ?_
  unfold putW at he
  split at he
  · obtain ⟨e', he', rfl⟩ := List.mem_map.mp he
    have := h.keys e' he'
    split
    · exact this
    · exact this
  · rcases List.mem_append.mp he with he | he
    · exact h.keys e he
    · rw [List.mem_singleton.mp he]; exact hk
section
variable {X : Cx} {pins : List (Addr × Obj)} {σ : L2.St} {H H' : Hp} {s : Shared} {a : Addr} {kvs : Kvs} {v y : V} {u r : Value} {A : Around} {E : Value → Shared → Prop}
theorem np_mem {kvs : Kvs} {xs : List (NestedKey × Addr × Value)} (r : NP kvs xs) : ∀ x ∈ xs, ∃ e ∈ kvs, nk e.1 = x.1 ∧ e.2.1 = x.2.1 := by
  induction r with
  | nil => intro x hx; exact nomatch hx
  | @cons p q ps qs h t ih =>
    intro x hx
    rcases List.mem_cons.mp hx with rfl | hx
    · exact ⟨p, List.mem_cons_self .., h.1, h.2.1⟩
    · obtain ⟨e, he, z⟩ := ih x hx
      exact ⟨e, List.mem_cons_of_mem _ he, z⟩
theorem nd_heap (I : Inv X pins σ H s) (g : NDr X.prog X.w H a kvs) : ∃ xs, NP kvs xs ∧ s.heap.DictOfH (nestedKind X.prog X.w) a xs ∧ kvs.length ≤ sizeLine ∧ (a == sysModules) = false := by
  obtain ⟨⟨xs, r, l, m, o, es, ep, e1, e2, e3, e4, e5⟩, _⟩ := (show ObjOk X.prog X.w H s.heap a (ndO X.prog X.w a kvs) from g.obj.ok I.hok)
  refine ⟨xs, r, ⟨o, es, ep, e1, e2, e3, e4, fun x hx => ?_, e5⟩, l, m⟩
  obtain ⟨e, he, z1, z2⟩ := np_mem r x hx
  rw [← z1, ← z2]
  exact ⟨nested_wd I (g.keys e he) rfl, nk_depth _⟩
theorem nd_key (I : Inv X pins σ H s) {w : Wd} (t : TD H y (dW w)) (ry : RelV y u) : ∃ b, y = .ref b ∧ u = .ref b ∧ (nestedKind X.prog X.w).is s.heap (nk w) b := by
  obtain ⟨b, xs, rfl, _, _⟩ := TD.t t
  cases ry
  exact ⟨b, rfl, rfl, nested_wd I t rfl, nk_depth _⟩
theorem nd_room (hu : A.units + 9 < cLine) : (nestedKind X.prog X.w).room A.in1 := by
  show A.units + 1 + 8 < cLine
  omega
theorem nd_getItem {w : Wd} {Q : Value → Shared → Prop} (hu : A.units + 9 < cLine) (I : Inv X pins σ H s) (g : NDr X.prog X.w H a kvs) (t : TD H y (dW w)) (ry : RelV y u) (hv : valW kvs w = some v) (h : ∀ w' s', Inv X pins σ H s' → RelV v w' → Q w' s') :
    wpAny (model X.prog X.w) A (getItem (.ref a) u) Q E s := by
  obtain ⟨xs, r, dd, _, _⟩ := nd_heap I g
  obtain ⟨b, rfl, rfl, hk⟩ := nd_key I t ry
  obtain ⟨w', hw, rw'⟩ := RelO.some_of (v := v) (o := (atKey xs (nk w)).map (·.2)) (by rw [← hv]; exact r.val w)
  obtain ⟨p, hp, hp2⟩ := Option.map_eq_some_iff.mp hw
  refine wpAny_getItem_heap (nd_room hu) hk dd hp ?_
  rw [hp2]
  exact h w' _ (I.tok _) rw'
theorem nd_in {w : Wd} {Q : Value → Shared → Prop} (hu : A.units + 9 < cLine) (I : Inv X pins σ H s) (g : NDr X.prog X.w H a kvs) (t : TD H y (dW w)) (ry : RelV y u) (h : ∀ s', Inv X pins σ H s' → Q (.bool (valW kvs w).isSome) s') :
    wpAny (model X.prog X.w) A (compareOp .In u (.ref a)) Q E s := by
  obtain ⟨xs, r, dd, _, hd⟩ := nd_heap I g
  obtain ⟨b, rfl, rfl, hk⟩ := nd_key I t ry
  refine wpAny_in_heap (nd_room hu) hk hd dd ?_
  have q := (r.val w).isSome_eq
  rw [Option.isSome_map] at q
  rw [← q]
  exact h _ (I.tok _)
theorem nd_notIn {w : Wd} {Q : Value → Shared → Prop} (hu : A.units + 9 < cLine) (I : Inv X pins σ H s) (g : NDr X.prog X.w H a kvs) (t : TD H y (dW w)) (ry : RelV y u) (h : ∀ s', Inv X pins σ H s' → Q (.bool (!(valW kvs w).isSome)) s') :
    wpAny (model X.prog X.w) A (compareOp .NotIn u (.ref a)) Q E s := by
  obtain ⟨xs, r, dd, _, hd⟩ := nd_heap I g
  obtain ⟨b, rfl, rfl, hk⟩ := nd_key I t ry
  refine wpAny_notIn_heap (nd_room hu) hk hd dd ?_
  have q := (r.val w).isSome_eq
  rw [Option.isSome_map] at q
  rw [← q]
  exact h _ (I.tok _)
theorem nd_written {w : Wd} {b : Addr} {xs : List (NestedKey × Addr × Value)} {h' : Heap} {t' : Nat} (I : Inv X pins σ H s) (e : H a = some (ndO X.prog X.w a kvs)) (rl : NP kvs xs) (hm : (a == sysModules) = false) (rv : RelV v r) (hl : kvs.length < sizeLine)
    (dd : h'.DictOfH (nestedKind X.prog X.w) a (storedH xs (nk w) b r)) (hs : Heap.SameBut a s.heap h') : Inv X pins σ (upd H a (ndO X.prog X.w a (putW kvs w b v))) { s with heap := h', toks := t' } := by
  obtain ⟨o, es, ep, h1, h2, h3, h4, _, h5⟩ := dd
  refine I.write (x := a) (e := a) (by rw [e]; exact True.intro) (.inl rfl) (fun c q hc z => (hs.2 c hc).trans z) ⟨o, h1⟩ (ndO_ok ⟨_, rl.put w b rv, ?_, hm, o, es, ep, h1, h2, h3, h4, h5⟩)
  have := putW_len kvs w b v
  omega
theorem nd_setItem {w : Wd} {Q : Unit → Shared → Prop} (hu : A.units + 9 < cLine) (I : Inv X pins σ H s) (g : ND X.prog X.w H a kvs) (t : TD H y (dW w)) (ry : RelV y u) (rv : RelV v r) (hl : kvs.length < sizeLine)
    (h : ∀ b s', y = .ref b → Inv X pins σ (upd H a (ndO X.prog X.w a (putW kvs w b v))) s' → Q () s') : wpAny (model X.prog X.w) A (setItem (.ref a) u r) Q E s := by
  obtain ⟨xs, rl, dd, hz, hd⟩ := nd_heap I g.r
  obtain ⟨b, rfl, rfl, hk⟩ := nd_key I t ry
  have hz' : xs.length ≤ sizeLine := by rw [← Paired.length rl]; exact hz
  exact wpAny_setItem_heap (hsz := hz') (nd_room hu) hk dd fun h' dd' hs => h b _ rfl (nd_written I g.obj rl hd rv hl dd' hs)
theorem nd_dictSet {w : Wd} {Q : Unit → Shared → Prop} (hu : A.units + 9 < cLine) (I : Inv X pins σ H s) (g : ND X.prog X.w H a kvs) (t : TD H y (dW w)) (ry : RelV y u) (rv : RelV v r) (hl : kvs.length < sizeLine)
    (h : ∀ b s', y = .ref b → Inv X pins σ (upd H a (ndO X.prog X.w a (putW kvs w b v))) s' → Q () s') : wpAny (model X.prog X.w) A (dictSet a u r) Q E s := by
  obtain ⟨xs, rl, dd, hz, hd⟩ := nd_heap I g.r
  obtain ⟨b, rfl, rfl, hk⟩ := nd_key I t ry
  have hz' : xs.length ≤ sizeLine := by rw [← Paired.length rl]; exact hz
  exact wpAny_dictSet_heap (hsz := hz') (show A.units + 8 < cLine by omega) hk dd fun h' dd' hs => h b _ rfl (nd_written I g.obj rl hd rv hl dd' hs)
theorem nd_type (I : Inv X pins σ H s) (g : NDr X.prog X.w H a kvs) : s.TypeIs (.ref a) "dict" := by
  obtain ⟨xs, _, dd, _, _⟩ := nd_heap I g
  exact dd.typeIs
end
theorem nd_empty {P : Program} {w : World} {H : Hp} (h : Heap) (hb : sysModules < h.objs.size) : ObjOk P w H (h.push { cls := .type "dict", data := .dict #[] }) h.objs.size (ndO P w h.objs.size []) :=
  ndO_ok ⟨[], .nil, Nat.zero_le _, beq_eq_false_iff_ne.mpr (Ne.symm (Nat.ne_of_lt hb)), _, #[], 0, Heap.get?_push_size _ rfl, ⟨rfl, rfl, rfl⟩, rfl, rfl, List.nodup_nil⟩
/-! ### readings and rules -/
def tNdNew (P : Program) (w : World) : TE := fun _ H Q => ∀ p, H p = none → Q (.ref p) (upd H p (ndO P w p []))
def tNdGet (P : Program) (w : World) (td ty : TE) : TE := fun σ H Q => td σ H fun x H1 => ty σ H1 fun y H2 => ∃ a kvs k v, x = .ref a ∧ NDr P w H2 a kvs ∧ TD H2 y (dW k) ∧ valW kvs k = some v ∧ Q v H2
def tNdIn (P : Program) (w : World) (ty td : TE) : TE := fun σ H Q => ty σ H fun y H1 => td σ H1 fun x H2 => ∃ a kvs k, x = .ref a ∧ NDr P w H2 a kvs ∧ TD H2 y (dW k) ∧ Q (.bl (valW kvs k).isSome) H2
def tNdNotIn (P : Program) (w : World) (ty td : TE) : TE := fun σ H Q => ty σ H fun y H1 => td σ H1 fun x H2 => ∃ a kvs k, x = .ref a ∧ NDr P w H2 a kvs ∧ TD H2 y (dW k) ∧ Q (.bl (!(valW kvs k).isSome)) H2
def NdSet (P : Program) (w : World) (H : Hp) (x y v : V) (Q : Hp → Prop) : Prop := ∃ a kvs k, x = .ref a ∧ ND P w H a kvs ∧ TD H y (dW k) ∧ kvs.length < sizeLine ∧ ∀ b, y = .ref b → Q (upd H a (ndO P w a (putW kvs k b v)))
def sNdPut (P : Program) (w : World) (td ty tv : TE) : TS := fun D σ H => tv σ H fun v H1 => td σ H1 fun x H2 => ty σ H2 fun y H3 => NdSet P w H3 x y v fun H4 => D.nx σ H4
def sNdAug (P : Program) (w : World) (td ty tv : TE) (rd : V → V → Hp → VK → Prop) : TS := fun D σ H => td σ H fun x H1 => ty σ H1 fun y H2 => ∃ a kvs k v, x = .ref a ∧ NDr P w H2 a kvs ∧ TD H2 y (dW k) ∧ valW kvs k = some v ∧
  tv σ H2 fun y2 H3 => rd v y2 H3 fun z H4 => NdSet P w H4 x y z fun H5 => D.nx σ H5
section
variable {X : Cx} {o i e value : Expr} {pos pos' tpos : Pos} {td ty tv : TE}
theorem pe_ndnew (P : Program) (w : World) (hP : X.prog = P := by rfl) (hw : X.w = w := by rfl) : PE X (.Dict [] [] pos) (tNdNew P w) := by
  subst hP hw
  exact ⟨fun pins s σ H Q I h => wpAny_Dict_empty ⟨.ref s.heap.objs.size, _, I.laid (a := s.heap.objs.size) (o := ndO X.prog X.w s.heap.objs.size []) (t' := s.toks) (fun _ _ q => Heap.get?_push_of_some _ q) (Nat.le_refl _) (nd_empty s.heap I.big), rfl, h _ (I.hok.fresh (Nat.le_refl _))⟩⟩
theorem pe_ndget (P : Program) (w : World) (hu : X.A.units + 9 < cLine) (ho : PE X o td) (hi : PE X i ty) (hs : NoSl i := by exact fun _ _ => rfl) (hP : X.prog = P := by rfl) (hw : X.w = w := by rfl) : PE X (.Subscript o i pos) (tNdGet P w td ty) := by
  subst hP hw
  refine ⟨fun pins s σ H Q I h => ?_⟩
  refine subD_of PySem.F.slot_dict_getitem.lookup hs (thn (ho.run pins s σ H _ I h) fun u s1 ⟨x, H1, I1, rx, q1⟩ => thn (hi.run pins s1 σ H1 _ I1 q1) fun iv s2 ⟨y, H2, I2, ry, a, kvs, k, v, ex, g, t, hv, q2⟩ => ?_)
  subst ex
  obtain rfl : u = Value.ref a := rx
  exact ⟨nd_type I2 g, nd_getItem hu I2 g t ry hv fun w' s3 I3 rw' => ⟨v, H2, I3, rw', q2⟩⟩
theorem pc_ndin (P : Program) (w : World) (hu : X.A.units + 9 < cLine) (hi : PE X i ty) (ho : PE X o td) (hP : X.prog = P := by rfl) (hw : X.w = w := by rfl) : PC X .In i o (tNdIn P w ty td) := by
  subst hP hw
  refine ⟨fun pins s σ H Q I h => ?_⟩
  refine thn (hi.run pins s σ H _ I h) fun iv s1 ⟨y, H1, I1, ry, q1⟩ => thn (ho.run pins s1 σ H1 _ I1 q1) fun u s2 ⟨x, H2, I2, rx, a, kvs, k, ex, g, t, q2⟩ => ?_
  subst ex
  obtain rfl : u = Value.ref a := rx
  exact nd_in hu I2 g t ry fun s3 I3 => ⟨.bl _, H2, I3, rfl, q2⟩
theorem pc_ndnotin (P : Program) (w : World) (hu : X.A.units + 9 < cLine) (hi : PE X i ty) (ho : PE X o td) (hP : X.prog = P := by rfl) (hw : X.w = w := by rfl) : PC X .NotIn i o (tNdNotIn P w ty td) := by
  subst hP hw
  refine ⟨fun pins s σ H Q I h => ?_⟩
  refine thn (hi.run pins s σ H _ I h) fun iv s1 ⟨y, H1, I1, ry, q1⟩ => thn (ho.run pins s1 σ H1 _ I1 q1) fun u s2 ⟨x, H2, I2, rx, a, kvs, k, ex, g, t, q2⟩ => ?_
  subst ex
  obtain rfl : u = Value.ref a := rx
  exact nd_notIn hu I2 g t ry fun s3 I3 => ⟨.bl _, H2, I3, rfl, q2⟩
theorem ps_ndput (P : Program) (w : World) (hu : X.A.units + 9 < cLine) (ho : PE X o td) (hi : PE X i ty) (hv : PE X value tv) (hs : swapsWith value (some (.Subscript o i pos')) pos.line X.env = pure false := by rfl) (hP : X.prog = P := by rfl) (hw : X.w = w := by rfl) :
    PS X (.Assign [.Subscript o i pos'] value pos) (sNdPut P w td ty tv) := by
  subst hP hw
  refine ⟨fun pins s σ H D I h => ?_⟩
  refine wpAny_Assign_Subscript (thn (hv.run pins s σ H _ I h) fun r s1 ⟨v, H1, I1, rv, q1⟩ => thn (ho.run pins s1 σ H1 _ I1 q1) fun u s2 ⟨x, H2, I2, rx, q2⟩ => thn (hi.run pins s2 σ H2 _ I2 q2) fun iv s3 ⟨y, H3, I3, ry, a, kvs, k, ex, g, t, hl, q3⟩ => ?_) hs
  subst ex
  obtain rfl : u = Value.ref a := rx
  exact nd_setItem hu I3 g t ry rv hl fun b s4 eb I4 => ⟨σ, _, I4, q3 b eb⟩
theorem ps_ndaug (P : Program) (w : World) {op : Operator} {rd : V → V → Hp → VK → Prop} (hu : X.A.units + 9 < cLine) (ho : PE X o td) (hi : PE X i ty) (hv : PE X value tv) (hop : InOp X op rd)
    (ha : ∀ ov iv new, augStore i ov iv new = (do holding [new, ov, iv] (setItem ov iv new); release [new, ov, iv] []; pure .next) := by exact fun _ _ _ => rfl) (hP : X.prog = P := by rfl) (hw : X.w = w := by rfl) :
    PS X (.AugAssign (.Subscript o i tpos) op value pos) (sNdAug P w td ty tv rd) := by
  subst hP hw
  refine ⟨fun pins s σ H D I h => ?_⟩
  refine wpAny_AugAssign_SubscriptAny (thn (ho.run pins s σ H _ I h) fun u s1 ⟨x, H1, I1, rx, q1⟩ => thn (hi.run pins s1 σ H1 _ I1 q1) fun iv s2 ⟨y, H2, I2, ry, a, kvs, k, v, ex, g, t, hv', q2⟩ => ?_) ha
  subst ex
  obtain rfl : u = Value.ref a := rx
  refine nd_getItem hu I2 g t ry hv' fun w' s3 I3 rw' => thn (hv.run pins s3 σ H2 _ I3 q2) fun w2 s4 ⟨y2, H3, I4, ry2, q3⟩ => thn (hop pins s4 σ H3 v y2 w' w2 _ I4 rw' ry2 q3) fun w3 s5 ⟨z, H4, I5, rz, a2, kvs2, k2, ex2, g5, t5, hl, q4⟩ => ?_
  cases ex2
  exact nd_setItem hu I5 g5 t5 ry rz hl fun b s6 eb I6 => ⟨σ, _, I6, q4 b eb⟩
end
end K32
/-! Nd2 -/
set_option Elab.async false
set_option linter.all false
set_option maxRecDepth 100000
set_option maxHeartbeats 2000000
/-! Dicts keyed by words: walked (while locked), made by a comprehension, their values in a list. -/
namespace K32
open PySem PySem.Spec PyProof.Rows L2
section
variable {X : Cx} {pins : List (Addr × Obj)} {σ : L2.St} {H : Hp} {s : Shared} {d : Addr} {o : Obj} {kvs : Kvs}
theorem nd_entries {kvs : Kvs} {xs : List (NestedKey × Addr × Value)} {es : Array DictEntry} {knd : HeapKind X.prog X.w NestedKey} (pr : NP kvs xs) (he : es.toList = xs.map (entryOfKey knd)) : es.size = kvs.length ∧
    ∀ (i : Nat) (e : Wd × Addr × V), kvs[i]? = some e → ∃ en : DictEntry, es[i]? = some en ∧ en.key = .ref e.2.1 ∧ RelV e.2.2 en.val := by
  have l1 : es.size = xs.length := size_of_entries he
  have l2 : kvs.length = xs.length := Paired.length pr
  refine ⟨by omega, fun i e q => ?_⟩
  obtain ⟨b, hb, e1, e2, e3⟩ := paired_get pr q
  have q := entry_at he i
  rw [hb] at q
  refine ⟨_, q, ?_, e3⟩
  rw [e2]; rfl
theorem frzN (I : Inv X pins σ H s) (h : H d = some (.frz o (ndO X.prog X.w d kvs))) :
    (d == sysModules) = false ∧ s.heap.get? d = some o ∧ o.ExactDict ∧ ∃ (es : Array DictEntry) (ep : Nat), o.data = .dict es ep ∧ es.size = kvs.length ∧
      ∀ (i : Nat) (e : Wd × Addr × V), kvs[i]? = some e → ∃ en : DictEntry, es[i]? = some en ∧ en.key = .ref e.2.1 ∧ RelV e.2.2 en.val := by
  obtain ⟨hd, ⟨xs, pr, l, m, o', es, ep, ho, hx, hdt, he, _⟩, _⟩ := (show _ ∧ ObjOk X.prog X.w H s.heap d (ndO X.prog X.w d kvs) from I.hok d _ h)
  rw [hd] at ho
  cases ho
  obtain ⟨h1, h2⟩ := nd_entries pr he
  exact ⟨m, hd, hx, es, ep, hdt, h1, h2⟩
theorem nd_raw (I : Inv X pins σ H s) (g : NDr X.prog X.w H d kvs) : (d == sysModules) = false ∧ kvs.length ≤ sizeLine ∧ ∃ (es : Array DictEntry) (ep : Nat), s.heap.DictRaw d es ep ∧ es.size = kvs.length ∧
      ∀ (i : Nat) (e : Wd × Addr × V), kvs[i]? = some e → ∃ en : DictEntry, es[i]? = some en ∧ en.key = .ref e.2.1 ∧ RelV e.2.2 en.val := by
  obtain ⟨⟨xs, pr, l, m, o', es, ep, ho, hx, hdt, he, _⟩, _⟩ := (show ObjOk X.prog X.w H s.heap d (ndO X.prog X.w d kvs) from g.obj.ok I.hok)
  obtain ⟨h1, h2⟩ := nd_entries pr he
  exact ⟨m, l, es, ep, ⟨o', ho, hx, hdt⟩, h1, h2⟩
end
/-! ### walked by keys -/
def Itn (P : Program) (w : World) (d : Addr) (o : Obj) (kvs : Kvs) : It :=
  ⟨fun i H => H d = some (.frz o (ndO P w d kvs)) ∧ i < kvs.length, fun i H x H' => H' = H ∧ ∃ e, kvs[i]? = some e ∧ x = .ref e.2.1, fun i H => H d = some (.frz o (ndO P w d kvs)) ∧ kvs.length ≤ i⟩
theorem turn_keysN {P : Program} {w : World} {K : PySem.W.Frag} {tg : Expr} {d : Addr} {o : Obj} {es : Array DictEntry} {ep : Nat} {kvs : Kvs} (it : Addr) (hod : o.data = .dict es ep) : Turn P w K tg (Itn P w d o kvs) [it] it (fun i h => h.IsKeyIter it d i kvs.length ep) where
  mem := by simp
  obj := fun i h st b hb => by
    have e : b = it := by simpa using hb
    subst e
    obtain ⟨oi, e, c, dd⟩ := st
    exact ⟨oi, e, fun v z => by rw [dd] at z; cases z⟩
  keep := fun i h h' st k => st.at fun oi e => k it (by simp) oi e
  item := by
    intro X hP hw hK hc i pins s σ H E I hf st hg
    subst hP hw hK
    obtain ⟨hd, hi⟩ := hg
    obtain ⟨f0, f1, f2, f3, f4, f5⟩ := hf it (by simp)
    obtain ⟨hs, hgd, hx, es', ep', hdt, hsz, ent⟩ := frzN I hd
    obtain ⟨rfl, rfl⟩ := dict_ep hod hdt
    obtain ⟨e, hkv⟩ : ∃ p, kvs[i]? = some p := ⟨kvs[i], List.getElem?_eq_getElem hi⟩
    obtain ⟨en, hen, hkey, hq⟩ := ent i e hkv
    refine next_key_item st hgd hdt hsz hen fun h' st' sb => ?_
    have I1 : Inv X pins σ H { s with heap := h' } := I.turned (t' := s.toks) (fun b ob hb e => (sb.2 b hb).trans e) f0 f1 f3 f4 f5
    obtain ⟨oi, e1, c, dd⟩ := id st'
    exact ⟨en.key, rfl, go_of (s := { s with heap := h' }) e1 c dd (by decide) ⟨.ref e.2.1, H, I1, hkey, ⟨rfl, e, hkv, rfl⟩, st', fun b hb => (hf b hb).1⟩⟩
  done := by
    intro X hP hw hK hc i pins s σ H E I hf st hg
    subst hP hw hK
    obtain ⟨hd, hi⟩ := hg
    obtain ⟨f0, f1, f2, f3, f4, f5⟩ := hf it (by simp)
    obtain ⟨hs, hgd, hx, es', ep', hdt, hsz, ent⟩ := frzN I hd
    obtain ⟨rfl, rfl⟩ := dict_ep hod hdt
    exact next_key_end (I.ok.hd hc) st hgd hdt hsz hi fun h' eb => ⟨rfl, I.turned (t' := s.toks) (fun b ob hb e => eb b ob hb e) f0 f1 f3 f4 f5⟩
  self := fun A i s Q E st h => by
    refine wpAny_pyIter_slot st.typeIs F.slot_dict_keyiterator_iter (wpAny_call_entry F.slot_dict_keyiterator_iter st.typeIs F.entry_dict_keyiterator_iter ?_ (F.args_dict_keyiterator_iter_1 _))
    show wpAny _ _ (ret (.ref it)) _ _ s
    exact wpAny_pure ⟨_, rfl, "dict_keyiterator", _, st.typeIs, F.slot_dict_keyiterator_next.lookup, h⟩
def iNdKeys (P : Program) (w : World) (td : TE) : TI := fun σ H R => td σ H fun x H1 => ∃ d o kvs, x = .ref d ∧ H1 d = some (.frz o (ndO P w d kvs)) ∧ R (Itn P w d o kvs) H1
theorem pi_ndkeys {X : Cx} {tg e : Expr} {td : TE} (P : Program) (w : World) (he : PE X e td) (hP : X.prog = P := by rfl) (hw : X.w = w := by rfl) : PI X tg e (iNdKeys P w td) := by
  subst hP hw
  refine ⟨fun pins s σ H R I h => ?_⟩
  refine thn (he.run pins s σ H _ I h) fun u s1 ⟨x, H1, I1, rx, d, o, kvs, ex, hd, q⟩ => ?_
  subst ex
  obtain rfl : u = Value.ref d := rx
  obtain ⟨hs, hgd, hx, es, ep, hdt, hsz, ent⟩ := frzN I1 hd
  refine iter_keys hs hgd hx hdt (pi_one (tk := s1.toks) I1 _ (turn_keysN _ hdt) ⟨_, Heap.get?_push_size _ rfl, rfl, ?_⟩ q)
  rw [hsz] <;> rfl
theorem walk_keysN {P : Program} {w : World} {d : Addr} {o : Obj} {kvs : Kvs} : Walk (Itn P w d o kvs) kvs.length (fun H => H d = some (.frz o (ndO P w d kvs))) (fun i H x H' => H' = H ∧ ∃ e, kvs[i]? = some e ∧ x = .ref e.2.1) :=
  ⟨fun _ _ hi q => ⟨q, hi⟩, fun _ q => ⟨q, Nat.le_refl _⟩, fun _ _ _ _ _ _ y => y⟩
/-! ### list(d.values()) -/
def vwO (p d : Addr) : HO := .ext fun h => h.IsValuesView p d
theorem vwO_ok {P : Program} {w : World} {H : Hp} {h : Heap} {p d : Addr} (x : h.IsValuesView p d) : ObjOk P w H h p (vwO p d) :=
  ⟨x, (let ⟨o, e, _⟩ := x; ⟨o, e⟩), fun h1 h2 z k => (let ⟨o, e, r⟩ := z; ⟨o, k o e, r⟩)⟩
def tVals (P : Program) (w : World) (td : TE) : TE := fun σ H Q => td σ H fun x H1 => ∃ d kvs, x = .ref d ∧ NDr P w H1 d kvs ∧ ∀ p, H1 p = none → Q (.ref p) (upd H1 p (vwO p d))
theorem pe_ndvals {X : Cx} {e : Expr} {td : TE} {apos cpos : Pos} (P : Program) (w : World) (he : PE X e td) (hP : X.prog = P := by rfl) (hw : X.w = w := by rfl) (hbase : attributeBase e "values" X.env (eval e X.env) = eval e X.env := by rfl) (hline : (apos.endLine == cpos.line) = true := by rfl) :
    PE X (.Call (.Attribute e "values" apos) [] [] cpos) (tVals P w td) := by
  subst hP hw
  refine ⟨fun pins s σ H Q I h => ?_⟩
  refine wpAny_Call_method (T := "dict") (id := "dict.values") hbase rfl hline F.plainAttrs_dict F.slot_dict_values F.type_dict_values (thn (he.run pins s σ H _ I h) fun u s1 ⟨x, H1, I1, rx, d, kvs, ex, g, q⟩ => ?_)
  subst ex
  obtain rfl : u = Value.ref d := rx
  obtain ⟨hs, hz, es, ep, dr, hsz, ent⟩ := nd_raw I1 g
  refine ⟨dr.typeIs, fun a ea => by cases ea; obtain ⟨o, ho, hc, _⟩ := id dr; exact ⟨o, ho, hc.2.1⟩, ?_⟩
  have I2 : Inv X pins σ (upd H1 s1.heap.objs.size (vwO s1.heap.objs.size d)) { s1 with heap := s1.heap.push { cls := .type "dict_values", data := .fields #[.ref d] } } := I1.laid (t' := s1.toks) (fun b ob q => Heap.get?_push_of_some _ q) (Nat.le_refl _) (vwO_ok ⟨_, Heap.get?_push_size _ rfl, rfl, rfl⟩)
  show wpAny _ _ (callWith cpos (.builtin "dict.values") [.ref d] [] []) _ X.xe s1
  exact method_meetsIn F.slot_dict_values F.entry_dict_values rfl (PySem.evalArgs_none ⟨rfl, dr.typeIs, F.args_dict_values_1 _, _, meets_dict_values_raw d hs, ⟨es, ep, dr⟩, ⟨.ref s1.heap.objs.size, _, I2, rfl, q _ (I1.hok.fresh (Nat.le_refl _))⟩⟩)
def rListV (P : Program) (w : World) : List V → Hp → VK → Prop := fun xs H Q => ∃ p d kvs, xs = [.ref p] ∧ H p = some (vwO p d) ∧ NDr P w H d kvs ∧ ∀ l, H l = none → Q (.ref l) (upd H l (.lst (kvs.map (·.2.2))))
theorem vals_items {kvs : Kvs} {acc : Array Value} {es : Array DictEntry} (hsz : es.size = kvs.length) (ent : ∀ (i : Nat) (e : Wd × Addr × V), kvs[i]? = some e → ∃ en : DictEntry, es[i]? = some en ∧ en.key = .ref e.2.1 ∧ RelV e.2.2 en.val)
    (h : ItemsOf (fun i v => ∃ hi : i < es.size, v = es[i].val) acc es.size) : Vals (kvs.map (·.2.2)) acc.toList := by
  obtain ⟨h1, h2⟩ := h
  have key : ∀ (l : List V) (m : List Value), l.length = m.length → (∀ (i : Nat) (v : V) (u : Value), l[i]? = some v → m[i]? = some u → RelV v u) → Vals l m := by
    intro l
    induction l with
    | nil => intro m hm _; cases m with
      | nil => exact .nil
      | cons => simp at hm
    | cons a l ih => intro m hm hr; cases m with
      | nil => simp at hm
      | cons b m => exact .cons (hr 0 a b rfl rfl) (ih m (by simpa using hm) fun i v u e1 e2 => hr (i + 1) v u (by simpa using e1) (by simpa using e2))
  refine key _ _ (by rw [List.length_map, Array.length_toList (xs := acc)]; omega) fun i v u e1 e2 => ?_
  rw [List.getElem?_map] at e1
  obtain ⟨e, he, rfl⟩ := Option.map_eq_some_iff.mp e1
  obtain ⟨en, q1, _, q2⟩ := ent i e he
  rw [Array.getElem?_toList] at e2
  obtain ⟨hi, rfl⟩ := h2 i u e2
  rw [Array.getElem?_eq_getElem hi] at q1
  cases q1
  exact q2
theorem call_list_vals {X : Cx} (P : Program) (w : World) (hc : X.calm = true := by rfl) (hP : X.prog = P := by rfl) (hw : X.w = w := by rfl) : CallR X (.type "list") (rListV P w) := by
  subst hP hw
  intro pins s σ H xs us Q I r h
  obtain ⟨p, d, kvs, rfl, hp, g, q⟩ := h
  obtain ⟨u, rfl, rx⟩ := vals1 r
  cases rx
  obtain ⟨hv, _⟩ := (show ObjOk X.prog X.w H s.heap p (vwO p d) from I.hok p _ hp)
  obtain ⟨hs, hz, es, ep, dr, hsz, ent⟩ := nd_raw I g
  refine PySem.W.kdl_call (PySem.KdlSrc.rawValues (r := p) (d := d) (es := es) (ep := ep)) (I.ok.hd hc) ⟨hv, dr⟩ (by rw [hsz]; exact hz) fun h' tk acc' c' hk hS hacc => ?_
  refine ⟨.ref s.heap.objs.size, _, I.laid (t' := tk) hk (Nat.le_refl _) (show ObjOk X.prog X.w _ h' _ (.lst (kvs.map (·.2.2))) from ⟨by rw [List.length_map]; exact hz, acc'.toList, c', vals_items hsz ent hacc, by rw [Array.toArray_toList]; exact hS⟩), rfl, q _ (I.hok.fresh (Nat.le_refl _))⟩
end K32
/-! Nd3 -/
set_option Elab.async false
set_option linter.all false
set_option maxRecDepth 100000
set_option maxHeartbeats 2000000
/-! Dict comprehensions whose keys are words (the layer's own for keys that are ints and texts, turned). -/
namespace K32
open PySem PySem.Spec PyProof.Rows L2
section
variable {X : Cx}
/-- {k: v for target in iter if ..}, keys ints or texts: D the new dict -/
def tDcN (P : Program) (w : World) (wi : TI) (g : TG) (tt : TT) (tk tv : TE) (vs : List Nat) : TE := fun σ H Q => wi σ H fun J H1 => ∀ D, H1 D = none → ∃ W : Nat → Nat → Hp → Prop, (∃ m, W 0 m (upd H1 D (ndO P w D []))) ∧ ∀ i m H, W i m H →
  (J.stop i H ∧ Q (.ref D) H) ∨ (J.go i H ∧ ∃ Nx : Hp → Prop, (∀ H', Nx H' → ∃ m', m' < m ∧ W (i + 1) m' H') ∧ ∀ x H', J.yld i H x H' → g x (wipe σ vs) H' fun σ2 H2 => wipe σ2 vs = wipe σ vs ∧ tt σ2 H2 fun b H3 =>
    if b = true then tk σ2 H3 fun y H4 => tv σ2 H4 fun z H5 => NdSet P w H5 (.ref D) y z Nx else Nx H3)
theorem dcN_core {P : Program} {w : World} (hP : X.prog = P) (hw : X.w = w) (hu : X.A.units + 9 < cLine) {pins : List (Addr × Obj)} {s : Shared} {σ : L2.St} {H : Hp} {Q : VK} {kx vx tg iter : Expr} {ifs : List Expr} {scope : Scope} {own : List (Str × Nat)} {pos pos' : Pos} {wi : TI} {g : TG} {tt : TT} {tk tv : TE} {use : Option (Value → Sem Unit)} {Qf : Value → Shared → Prop}
    (hc : X.calm = true) (hN : X.N.Nodup) (I : Inv X pins σ H s) (hi : PI X tg iter wi) (ok : BlkOk X.N X.env.scope scope own)
    (hg : ∀ (s : Shared) (H : Hp) (C : Addr) (cl : List (Str × Addr)) (fp : List Addr), PG (X.blk s H scope (compEnvC scope cl C X.env) fp) tg g) (ht : ∀ (s : Shared) (H : Hp) (C : Addr) (cl : List (Str × Addr)) (fp : List Addr), PTs (X.blk s H scope (compEnvC scope cl C X.env) fp) ifs tt)
    (hk : ∀ (s : Shared) (H : Hp) (C : Addr) (cl : List (Str × Addr)) (fp : List Addr), PE (X.blk s H scope (compEnvC scope cl C X.env) fp) kx tk)
    (he : ∀ (s : Shared) (H : Hp) (C : Addr) (cl : List (Str × Addr)) (fp : List Addr), PE (X.blk s H scope (compEnvC scope cl C X.env) fp) vx tv) (hs : ∀ x, foldedSetIterable iter X.env x = pure x)
    (h : tDcN P w wi g tt tk tv (own.map (·.2)) σ H Q)
    (hRR : ∀ D C s' m H', Inv X pins σ H' s' → Q (.ref D) H' → s'.heap.Ns C m → FpOk X pins H' C → compPost (model X.prog X.w) X.A X.xe use Qf (.ref D) C (.ok .next) s') :
    wpAny (model X.prog X.w) X.A (comprehension (.DictComp kx vx [⟨tg, iter, ifs, 0⟩] scope pos) scope X.env pos' newDict false (eval iter X.env) use) Qf X.xe s := by
  have hfree : ∀ y ∈ scope.names, y.2 = .free → ∃ c, X.env.cells.lookup y.1 = some c := fun y hy e => by
    rcases ok.free y hy e with k | k
    · exact I.ok.has _ (.inl k)
    · exact I.ok.has _ (.inr k)
  subst hP hw
  refine wpAny_comprehension_free (use := use) rfl hs (closure_ok hfree) ok.kind (fun y hy e => by rw [ok.uniq y hy, e])
    (thn (hi.run pins s σ H _ I h) fun xv s1 hx => thn hx fun itv s2 h2 => ?_)
  obtain ⟨it, fp, tn, J, H2, e, I2, T, st2, f2, q⟩ := h2
  subst e
  refine wpAny_newObj_type (newEnv_comp ?_)
  generalize hD : s2.heap.objs.size = D
  have hDn : H2 D = none := I2.hok.fresh (Nat.le_of_eq hD)
  obtain ⟨W, ⟨m0, w0⟩, turn⟩ := q D hDn
  -- the new list
  generalize hs3 : ({ s2 with heap := s2.heap.push { cls := .type "dict", data := .dict #[] } } : Shared) = s3
  have I3 : Inv X pins σ (upd H2 D (ndO X.prog X.w D [])) s3 := by
    rw [← hs3]
    refine I2.laid (t' := s2.toks) (fun b o e => Heap.get?_push_of_some _ e) (Nat.le_of_eq hD) ?_
    rw [← hD]
    exact nd_empty s2.heap I2.big
  have h3 : s3.heap = s2.heap.push { cls := .type "dict", data := .dict #[] } := by rw [← hs3]
  have sz : ∀ b ∈ fp, b < s2.heap.objs.size := fun b hb => by
    obtain ⟨o, e, _⟩ := T.obj _ _ st2 b hb
    exact Heap.lt_size e
  have f3 : ∀ b ∈ fp, FpOk X pins (upd H2 D (ndO X.prog X.w D [])) b ∧ b < s3.heap.objs.size := fun b hb => by
    have hlt := sz b hb
    refine ⟨⟨?_, (f2 b hb).2⟩, by rw [h3, Heap.size_push]; exact Nat.lt_succ_of_lt hlt⟩
    rw [upd_ne (by rw [← hD]; exact Nat.ne_of_lt hlt)]
    exact (f2 b hb).1
  have st3 : tn 0 s3.heap := T.keep _ _ _ st2 fun b _ o e => by rw [h3]; exact Heap.get?_push_of_some _ e
  have I4 := block_start I3 ok hN f3
  have pg := hg s3 (upd H2 D (ndO X.prog X.w D [])) s3.heap.objs.size (cellsFrom (s3.heap.objs.size + 1) scope.names (cloFrom X.env.cells scope.names [])) fp
  have pt := ht s3 (upd H2 D (ndO X.prog X.w D [])) s3.heap.objs.size (cellsFrom (s3.heap.objs.size + 1) scope.names (cloFrom X.env.cells scope.names [])) fp
  have pk := hk s3 (upd H2 D (ndO X.prog X.w D [])) s3.heap.objs.size (cellsFrom (s3.heap.objs.size + 1) scope.names (cloFrom X.env.cells scope.names [])) fp
  have pe := he s3 (upd H2 D (ndO X.prog X.w D [])) s3.heap.objs.size (cellsFrom (s3.heap.objs.size + 1) scope.names (cloFrom X.env.cells scope.names [])) fp
  show codeAny _ _ (.compStart (.DictComp kx vx [⟨tg, iter, ifs, 0⟩] scope pos) 0 (.ref it) (.ref D) (compEnvC scope (cellsFrom (s3.heap.objs.size + 1) scope.names (cloFrom X.env.cells scope.names [])) s3.heap.objs.size X.env)) (compPost (model X.prog X.w) X.A X.xe use Qf (.ref D) s3.heap.objs.size) { s3 with heap := pushCells (s3.heap.push { cls := .type "dict", data := .dict #[] }) scope.names }
  have nfp : ∀ b ∈ fp, (upd H2 D (ndO X.prog X.w D [])) b = none := fun b hb => (f3 b hb).1.1
  generalize hce : compEnvC scope (cellsFrom (s3.heap.objs.size + 1) scope.names (cloFrom X.env.cells scope.names [])) s3.heap.objs.size X.env = ce at I4 pg pt pk pe ⊢
  have cL : ce.locals = s3.heap.objs.size := by subst hce; rfl
  generalize hH3 : upd H2 D (ndO X.prog X.w D []) = H3 at I3 I4 pg pt pk pe w0 nfp f3
  generalize hs4 : ({ s3 with heap := pushCells (s3.heap.push { cls := .type "dict", data := .dict #[] }) scope.names } : Shared) = s4 at I4 ⊢
  have st4 : tn 0 s4.heap := T.keep _ _ _ st3 fun b _ o e => by rw [← hs4]; exact pushCells_keeps _ _ _ _ (Heap.get?_push_of_some _ e)
  have stat : ∀ {σ' : L2.St} {H' : Hp} {s' : Shared}, Inv (X.blk s3 H3 scope ce fp) [] σ' H' s' → (∀ b ∈ fp, H' b = none) → ∀ b ∈ fp, FpOk (X.blk s3 H3 scope ce fp) [] H' b := fun {σ' H' s'} I' hn b hb =>
    ⟨hn b hb, (I'.ok.exf b hb).1, I'.ok.exfs b hb, .inl hb, fun x c e => (I'.ok.exf b hb).2 x c e, fun p hp => absurd (show p ∈ ([] : List (Addr × Obj)) ++ [] from hp) (by simp)⟩
  have loop : codeAny (model X.prog X.w) X.A (.compLoop (.DictComp kx vx [⟨tg, iter, ifs, 0⟩] scope pos) 0 (.ref it) (.ref D) ce) (compPost (model X.prog X.w) X.A X.xe use Qf (.ref D) s3.heap.objs.size) s4 := by
    refine compLoop_anyD (fun n s' => ∃ i H', Inv (X.blk s3 H3 scope ce fp) [] (wipe σ (own.map (·.2))) H' s' ∧ tn i s'.heap ∧ (∀ b ∈ fp, H' b = none) ∧ W i n H') ?_ m0 ⟨0, H3, I4, st4, nfp, w0⟩
    rintro n s5 ⟨i, H5, I5, st5, n5, w5⟩
    rcases turn i n H5 w5 with ⟨stop, qq⟩ | ⟨go, Nx, hNx, step⟩
    · have td := T.done (X.blk s3 H3 scope ce fp) rfl rfl rfl hc i [] s5 _ H5 (fun _ _ => False) I5 (stat I5 n5) st5 stop
      refine thnF td fun r s6 ⟨hr, I6⟩ => ?_
      subst hr
      -- back in the def's context
      have I7 : Inv X pins σ H5 s6 := I3.call' (ch := fp) I6.os I6.base I6.hok I6.bare fun b hb => ⟨(f3 b hb).1.2.2.2.1, (f3 b hb).1.2.1, (f3 b hb).1.2.2.2.2.1, (f3 b hb).1.2.2.2.2.2⟩
      have nC : H5 s3.heap.objs.size = none := by
        have z : H5 ce.locals = none := I6.free
        rw [cL] at z
        exact z
      obtain ⟨m, hn, _⟩ := I6.loc
      have hn : s6.heap.Ns ce.locals m := hn
      rw [cL] at hn
      exact hRR D s3.heap.objs.size s6 m H5 I7 qq hn (I3.fpOk (Nat.le_refl _) nC)
    · have ti := T.item (X.blk s3 H3 scope ce fp) rfl rfl rfl hc i [] s5 _ H5 (fun _ _ => False) I5 (stat I5 n5) st5 go
      refine thnF ti fun r s6 ⟨u, hr, h6⟩ => ?_
      subst hr
      refine thnF h6 fun _ s7 ⟨x, H7, I7, r7, y7, st7, n7⟩ => ?_
      have I7' := I7.pinned (stat I7 n7) (T.obj _ _ st7)
      refine thnF (pg.run _ s7 _ H7 x u _ I7' r7 (step x H7 y7)) fun _ s8 ⟨σ8, H8, I8, hw8, q8⟩ => ?_
      refine thnF (pt.run _ s8 σ8 H8 _ I8 q8) fun b s9 ⟨H9, I9, q9⟩ => ?_
      -- the turn's end
      have fin : ∀ {s' : Shared} {H' : Hp}, Inv (X.blk s3 H3 scope ce fp) ([] ++ pinsAt fp s7.heap) σ8 H' s' → Nx H' → ∃ m, m < n ∧ ∃ i H', Inv (X.blk s3 H3 scope ce fp) [] (wipe σ (own.map (·.2))) H' s' ∧ tn i s'.heap ∧ (∀ b ∈ fp, H' b = none) ∧ W i m H' := fun {s' H'} I' nx => by
        obtain ⟨m', hm, w'⟩ := hNx H' nx
        have pin' : ∀ b ∈ fp, ∀ o, s7.heap.get? b = some o → s'.heap.get? b = some o ∧ H' b = none := fun b hb o e =>
          let z := I'.pin (b, o) (List.mem_append_right _ (List.mem_append_right _ (mem_pinsAt hb e)))
          ⟨z.1, z.2.1⟩
        have hl : (wipe σ (own.map (·.2))).length = σ8.length := by rw [← hw8, wipe_length]
        refine ⟨m', hm, i + 1, H', (I'.unpinned (pins := [])).weak hl (fun j v e => ?_), T.keep _ _ _ st7 fun b hb o e => (pin' b hb o e).1, fun b hb => ?_, w'⟩
        · rw [← hw8] at e
          exact (wipe_some e).1
        · obtain ⟨o, e, _⟩ := T.obj _ _ st7 b hb
          exact (pin' b hb o e).2
      cases b with
      | false =>
        simp only [Bool.false_eq_true, if_false] at q9 ⊢
        exact fin I9 q9
      | true =>
        simp only [if_true] at q9 ⊢
        refine thnF (pk.run _ s9 σ8 H9 _ I9 q9) fun z s10 ⟨yk, H10, I10, r10, q10⟩ => ?_
        refine thnF (pe.run _ s10 σ8 H10 _ I10 q10) fun z2 s11 ⟨yv, H11, I11, r11, D2, kvs, k, eD, hD11, tk11, hz11, nx⟩ => ?_
        cases eD
        exact nd_dictSet (X := X.blk s3 H3 scope ce fp) hu I11 hD11 tk11 r10 r11 hz11 fun b s12 eb I12 => fin I12 (nx b eb)
  exact codeAny_compStart_dict loop (T.self X.A 0 _ _ _ st4 loop)
/-- as a value -/
theorem pe_dcN (P : Program) (w : World) (hu : X.A.units + 9 < cLine) {kx vx tg iter : Expr} {ifs : List Expr} {scope : Scope} {own : List (Str × Nat)} {pos : Pos} {wi : TI} {g : TG} {tt : TT} {tk tv : TE} (hc : X.calm = true) (hN : X.N.Nodup) (hi : PI X tg iter wi) (ok : BlkOk X.N X.env.scope scope own)
    (hg : ∀ (s : Shared) (H : Hp) (C : Addr) (cl : List (Str × Addr)) (fp : List Addr), PG (X.blk s H scope (compEnvC scope cl C X.env) fp) tg g) (ht : ∀ (s : Shared) (H : Hp) (C : Addr) (cl : List (Str × Addr)) (fp : List Addr), PTs (X.blk s H scope (compEnvC scope cl C X.env) fp) ifs tt)
    (hk : ∀ (s : Shared) (H : Hp) (C : Addr) (cl : List (Str × Addr)) (fp : List Addr), PE (X.blk s H scope (compEnvC scope cl C X.env) fp) kx tk)
    (he : ∀ (s : Shared) (H : Hp) (C : Addr) (cl : List (Str × Addr)) (fp : List Addr), PE (X.blk s H scope (compEnvC scope cl C X.env) fp) vx tv) (hs : ∀ x, foldedSetIterable iter X.env x = pure x := by intro _; rfl) (hP : X.prog = P := by rfl) (hw : X.w = w := by rfl) :
    PE X (.DictComp kx vx [⟨tg, iter, ifs, 0⟩] scope pos) (tDcN P w wi g tt tk tv (own.map (·.2))) := by
  refine ⟨fun pins s σ H Q I h => ?_⟩
  rw [arm_eval_DictComp]
  refine dcN_core hP hw hu hc hN I hi ok hg ht hk he hs h fun D C s' m H' I' q hn f => ⟨m, hn, fun h'' sb => ?_⟩
  obtain ⟨f0, f1, f2, f3, f4, f5⟩ := f
  exact ⟨.ref D, H', I'.turned (t' := s'.toks) (fun b o hb e => (sb.2 b hb).trans e) f0 f1 f3 f4 f5, rfl, q⟩
end
end K32
/-! Nd4 -/
set_option Elab.async false
set_option linter.all false
set_option maxRecDepth 100000
set_option maxHeartbeats 2000000
/-! Dicts keyed by words, at the level of data: NDf (keys in order, each value's data), what is read, the lock, loops, comprehensions. -/
namespace K32
open PySem PySem.Spec PyProof.Rows L2
/-! ### lists and tuples kept -/
def isD : HO → Bool
  | .lst _ => true
  | .tup _ => true
  | _ => false
def KD (H H' : Hp) : Prop := ∀ a u, isD u = true → H a = some u → H' a = some u
theorem KD.refl (H : Hp) : KD H H := fun _ _ _ h => h
theorem KD.trans {H H1 H2 : Hp} (a : KD H H1) (b : KD H1 H2) : KD H H2 := fun c u i h => b c u i (a c u i h)
theorem KD.of {H H' : Hp} (s : Same H H') : KD H H' := fun a u _ h => s a u h
theorem KD.kt {H H' : Hp} (s : KD H H') : KT H H' := fun a xs h => s a _ rfl h
theorem KD.mut {H H' : Hp} {p : Addr} {o u : HO} (k : KD H H') (h : H p = some u) (n : isD u = false) : KD H (upd H' p o) := fun a u' i ha => by
  rw [upd_ne fun e => by rw [e, h] at ha; cases ha; rw [n] at i; cases i]
  exact k a u' i ha
theorem KD.new {H H' : Hp} {p : Addr} {o : HO} (k : KD H H') (h : H p = none) : KD H (upd H' p o) := fun a u' i ha => by
  rw [upd_ne (ne_of_none ha h)]
  exact k a u' i ha
section
variable {H H' : Hp}
mutual
theorem TD.kdA (s : KD H H') : ∀ (d : Dt) (v : V), TD H v d → TD H' v d
  | .none, _, h => by cases h; exact .non
  | .bool _, _, h => by cases h; exact .bl _
  | .int _, _, h => by cases h; exact .int _
  | .str _, _, h => by cases h; exact .str _
  | .list ds, _, h => by
    cases h with
    | lst h1 h2 => exact .lst (s _ _ rfl h1) (TDs.kdA s ds _ h2)
  | .tuple ds, _, h => by
    cases h with
    | tup h1 h2 => exact .tup (s _ _ rfl h1) (TDs.kdA s ds _ h2)
  | .dict _, _, h => by cases h
theorem TDs.kdA (s : KD H H') : ∀ (ds : List Dt) (vs : List V), TDs H vs ds → TDs H' vs ds
  | [], _, h => by cases h; exact .nil
  | d :: ds, _, h => by
    cases h with
    | cons h1 h2 => exact .cons (TD.kdA s d _ h1) (TDs.kdA s ds _ h2)
end
theorem TD.kd {v : V} {d : Dt} (s : KD H H') (h : TD H v d) : TD H' v d := TD.kdA s d v h
theorem TDs.kd {vs : List V} {ds : List Dt} (s : KD H H') (h : TDs H vs ds) : TDs H' vs ds := TDs.kdA s ds vs h
end
/-- all but what is named is kept -/
def KX (S : List Addr) (H H' : Hp) : Prop := ∀ a u, a ∉ S → H a = some u → H' a = some u
theorem KX.of {S : List Addr} {H H' : Hp} (s : Same H H') : KX S H H' := fun a u _ h => s a u h
theorem KX.trans {S : List Addr} {H H1 H2 : Hp} (a : KX S H H1) (b : KX S H1 H2) : KX S H H2 := fun c u i h => b c u i (a c u i h)
theorem KX.step {S : List Addr} {H H1 H2 : Hp} (a : KX S H H1) (b : Same H1 H2) : KX S H H2 := a.trans (KX.of b)
theorem KX.mut {S : List Addr} {H H' : Hp} {p : Addr} {o : HO} (k : KX S H H') (h : p ∈ S) : KX S H (upd H' p o) := fun a u i ha => by
  rw [upd_ne fun e : a = p => i (by rw [e]; exact h)]
  exact k a u i ha
theorem KX.new {S : List Addr} {H H' : Hp} {p : Addr} {o : HO} (k : KX S H H') (h : H p = none) : KX S H (upd H' p o) := fun a u i ha => by
  rw [upd_ne (ne_of_none ha h)]
  exact k a u i ha
theorem KX.kd {S : List Addr} {H H' : Hp} (k : KX S H H') (h : ∀ a ∈ S, ∀ u, H a = some u → isD u = false) : KD H H' := fun a u i ha => k a u (fun m => by rw [h a m u ha] at i; cases i) ha
/-! ### an expression that gives v and leaves all as it was -/
def Dv (te : TE) (σ : L2.St) (H : Hp) (v : V) : Prop := ∀ H1, Same H H1 → ∀ Q : VK, Q v H1 → te σ H1 Q
section
variable {P : Program} {w : World} {K : PySem.W.Frag} {σ : L2.St} {H H' : Hp} {ta tb te tx td ty tk tv : TE} {t u : TT} {d e z : Dt} {v : V} {ds es : List Dt} {D : Ends} {tu tw tz : TS} {a : Addr}
theorem dv_var {i : Nat} (h : σ[i]? = some (some v)) : Dv (tVar i) σ H v := fun H1 _ Q q => ⟨v, h, q⟩
theorem dv_fld {C dx : Addr} {fs : List (Str × V)} {f : Str} (h : Dv ta σ H (.ref a)) (ha : H a = some (.ins C dx fs)) (c : Cls K C) (n : NoAttr K C f) (l : fs.lookup f = some v) : Dv (tFld K ta f) σ H v := fun H1 s Q q =>
  h H1 s _ ⟨a, C, dx, fs, v, rfl, s _ _ ha, c, n, l, q⟩
theorem dn_of_dv (h : Dv te σ H v) (t : TD H v d) : Dn te σ H d := fun H1 s Q q => h H1 s Q (q v H1 (Same.refl H1) (t.s s))
theorem dn_fld {C dx : Addr} {fs : List (Str × V)} {f : Str} (h : Dv ta σ H (.ref a)) (ha : H a = some (.ins C dx fs)) (c : Cls K C) (n : NoAttr K C f) (l : fs.lookup f = some v) (t : TD H v d) : Dn (tFld K ta f) σ H d := dn_of_dv (dv_fld h ha c n l) t
/-! ### the dict at the level of data -/
structure NDf (P : Program) (w : World) (H : Hp) (a : Addr) (ks : List Wd) (g : Wd → Dt) : Prop where
  ex : ∃ kvs, ND P w H a kvs ∧ kvs.map (·.1) = ks ∧ ∀ e ∈ kvs, TD H e.2.2 (g e.1)
structure NDfr (P : Program) (w : World) (H : Hp) (a : Addr) (ks : List Wd) (g : Wd → Dt) : Prop where
  ex : ∃ kvs, NDr P w H a kvs ∧ kvs.map (·.1) = ks ∧ ∀ e ∈ kvs, TD H e.2.2 (g e.1)
variable {ks : List Wd} {g : Wd → Dt}
theorem NDf.r (h : NDf P w H a ks g) : NDfr P w H a ks g := let ⟨kvs, x, e, t⟩ := h.ex; ⟨kvs, x.r, e, t⟩
theorem NDf.s (h : NDf P w H a ks g) (s : Same H H') : NDf P w H' a ks g := let ⟨kvs, x, e, t⟩ := h.ex; ⟨kvs, x.s s, e, fun y hy => (t y hy).s s⟩
theorem NDfr.s (h : NDfr P w H a ks g) (s : Same H H') : NDfr P w H' a ks g := let ⟨kvs, x, e, t⟩ := h.ex; ⟨kvs, x.s s, e, fun y hy => (t y hy).s s⟩
theorem NDf.kd (h : NDf P w H a ks g) (s : KD H H') (ea : H' a = H a) : NDf P w H' a ks g := let ⟨kvs, x, e, t⟩ := h.ex; ⟨kvs, x.k s.kt ea, e, fun y hy => (t y hy).kd s⟩
theorem NDfr.kd (h : NDfr P w H a ks g) (s : KD H H') (ea : H' a = H a) : NDfr P w H' a ks g := let ⟨kvs, x, e, t⟩ := h.ex; ⟨kvs, x.k s.kt ea, e, fun y hy => (t y hy).kd s⟩
theorem NDf.kt (h : NDf P w H a ks g) (hf : ∀ k, flat (g k) = true) (s : KT H H') (ea : H' a = H a) : NDf P w H' a ks g := let ⟨kvs, x, e, t⟩ := h.ex; ⟨kvs, x.k s ea, e, fun y hy => (t y hy).k s (hf _)⟩
theorem NDf.cong {g' : Wd → Dt} (h : NDf P w H a ks g) (e : ∀ k ∈ ks, g k = g' k) : NDf P w H a ks g' := let ⟨kvs, x, e1, t⟩ := h.ex; ⟨kvs, x, e1, fun y hy => e y.1 (by rw [← e1]; exact List.mem_map_of_mem (f := (·.1)) hy) ▸ t y hy⟩
theorem ndO_isD {kvs : Kvs} : isD (ndO P w a kvs) = false := rfl
theorem NDf.isd (h : NDf P w H a ks g) : ∀ u, H a = some u → isD u = false := fun u e => by
  obtain ⟨kvs, x, _⟩ := h.ex
  rw [x.obj] at e
  cases e; rfl
theorem valW_at {kvs : Kvs} {k : Wd} (h : valW kvs k = some v) : ∃ e ∈ kvs, e.1 = k ∧ e.2.2 = v := by
  unfold valW at h
  obtain ⟨e, he, rfl⟩ := Option.map_eq_some_iff.mp h
  exact ⟨e, List.mem_of_find?_eq_some he, by simpa using List.find?_some he, rfl⟩
theorem NDfr.get (h : NDfr P w H a ks g) {k : Wd} (hk : k ∈ ks) : ∃ kvs v, NDr P w H a kvs ∧ valW kvs k = some v ∧ TD H v (g k) := by
  obtain ⟨kvs, x, e, t⟩ := h.ex
  have hs : (valW kvs k).isSome = true := valW_mem.mpr (by rw [e]; exact hk)
  obtain ⟨v, hv⟩ := Option.isSome_iff_exists.mp hs
  obtain ⟨y, hy, rfl, rfl⟩ := valW_at hv
  exact ⟨kvs, y.2.2, x, hv, t y hy⟩
theorem NDfr.has (h : NDfr P w H a ks g) (k : Wd) : ∃ kvs, NDr P w H a kvs ∧ (valW kvs k).isSome = decide (k ∈ ks) := by
  obtain ⟨kvs, x, e, t⟩ := h.ex
  refine ⟨kvs, x, ?_⟩
  have h1 := valW_mem (kvs := kvs) (w := k)
  rw [e] at h1
  by_cases hk : k ∈ ks
  · rw [h1.mpr hk]; simp [hk]
  · have : ¬ (valW kvs k).isSome = true := fun z => hk (h1.mp z)
    simp [hk, Bool.eq_false_iff.mpr this]
theorem dv_ndget {k : Wd} {kvs : Kvs} (h : Dv td σ H (.ref a)) (n : NDr P w H a kvs) (hy : Dn ty σ H (dW k)) (hv : valW kvs k = some v) (nx : ∀ H1, Same H H1 → ∀ Q : VK, (∀ v H2, H1 = H2 → TD H2 v (dW k) → Q v H2) → ty σ H1 Q) : Dv (tNdGet P w td ty) σ H v := fun H1 s Q q =>
  h H1 s _ (nx H1 s _ fun y H2 e t2 => by subst e; exact ⟨a, kvs, k, v, rfl, n.s s, t2, hv, q⟩)
theorem dn_ndget {k : Wd} (h : Dv td σ H (.ref a)) (n : NDfr P w H a ks g) (hy : Dn ty σ H (dW k)) (hk : k ∈ ks) : Dn (tNdGet P w td ty) σ H (g k) := fun H1 s Q q =>
  h H1 s _ (hy H1 s _ fun y H2 s2 t2 => by
    obtain ⟨kvs, v, n1, hv, tv⟩ := (n.s (s.trans s2)).get hk
    exact ⟨a, kvs, k, v, rfl, n1, t2, hv, q v H2 s2 tv⟩)
theorem dn_ndin {k : Wd} (h : Dv td σ H (.ref a)) (n : NDfr P w H a ks g) (hy : Dn ty σ H (dW k)) : Dn (tNdIn P w ty td) σ H (.bool (decide (k ∈ ks))) := fun H1 s Q q =>
  hy H1 s _ fun y H2 s2 t2 => h H2 (s.trans s2) _ (by
    obtain ⟨kvs, n1, e⟩ := (n.s (s.trans s2)).has k
    refine ⟨a, kvs, k, rfl, n1, t2, ?_⟩
    rw [e]
    exact q _ H2 s2 (.bl _))
theorem dn_ndnotin {k : Wd} (h : Dv td σ H (.ref a)) (n : NDfr P w H a ks g) (hy : Dn ty σ H (dW k)) : Dn (tNdNotIn P w ty td) σ H (.bool (!decide (k ∈ ks))) := fun H1 s Q q =>
  hy H1 s _ fun y H2 s2 t2 => h H2 (s.trans s2) _ (by
    obtain ⟨kvs, n1, e⟩ := (n.s (s.trans s2)).has k
    refine ⟨a, kvs, k, rfl, n1, t2, ?_⟩
    rw [e]
    exact q _ H2 s2 (.bl _))
/-- d[k] = v -/
theorem NDf.put {k : Wd} {p : Addr} (h : NDf P w H a ks g) (hk : TD H (.ref p) (dW k)) (t : TD H v d) : ∃ kvs, ND P w H a kvs ∧ kvs.map (·.1) = ks ∧
    NDf P w (upd H a (ndO P w a (putW kvs k p v))) a (if k ∈ ks then ks else ks ++ [k]) (fun j => if j = k then d else g j) := by
  obtain ⟨kvs, x, e, tt⟩ := h.ex
  refine ⟨kvs, x, e, putW kvs k p v, x.put v hk, ?_, fun y hy => ?_⟩
  · rw [putW_keys, e]
    have h1 := valW_mem (kvs := kvs) (w := k)
    rw [e] at h1
    by_cases hk : k ∈ ks
    · rw [if_pos (h1.mpr hk), if_pos hk]
    · rw [if_neg (fun z => hk (h1.mp z)), if_neg hk]
  · have kd : KD H (upd H a (ndO P w a (putW kvs k p v))) := KD.mut (KD.refl H) x.obj ndO_isD
    refine TD.kd kd ?_
    unfold putW at hy
    split at hy
    · obtain ⟨y', hy', rfl⟩ := List.mem_map.mp hy
      by_cases ek : y'.1 = k
      · simp only [if_pos ek]; exact t
      · simp only [if_neg ek]; exact tt y' hy'
    · rename_i hn
      rcases List.mem_append.mp hy with hy | hy
      · have ek : ¬ y.1 = k := fun z => hn (valW_mem.mpr (by rw [← z]; exact List.mem_map_of_mem (f := (·.1)) hy))
        rw [if_neg ek]
        exact tt y hy
      · rw [List.mem_singleton.mp hy]
        simp only [if_pos]; exact t
theorem ndset {k : Wd} {y : V} {Q : Hp → Prop} (h : NDf P w H a ks g) (hk : TD H y (dW k)) (t : TD H v d) (hl : ks.length < 100000)
    (q : ∀ H', (∃ o, H' = upd H a o) → NDf P w H' a (if k ∈ ks then ks else ks ++ [k]) (fun j => if j = k then d else g j) → Q H') : NdSet P w H (.ref a) y v Q := by
  obtain ⟨p, xs, rfl, _, _⟩ := TD.t hk
  obtain ⟨kvs, x, e, n⟩ := h.put hk t
  refine ⟨a, kvs, k, rfl, x, hk, ?_, fun b eb => ?_⟩
  · have : kvs.length = ks.length := by rw [← e, List.length_map]
    rw [this]; exact szl hl
  · cases eb
    exact q _ ⟨_, rfl⟩ n
theorem s_ndput {k : Wd} (hv : Dn tv σ H d) (h : Dv td σ H (.ref a)) (hy : Dn ty σ H (dW k)) (n : ∀ H1, Same H H1 → NDf P w H1 a ks g) (hl : ks.length < 100000)
    (q : ∀ H1 H', Same H H1 → (∃ o, H' = upd H1 a o) → NDf P w H' a (if k ∈ ks then ks else ks ++ [k]) (fun j => if j = k then d else g j) → D.nx σ H') : sNdPut P w td ty tv D σ H :=
  hv.go fun v H1 s1 t1 => h H1 s1 _ (hy H1 s1 _ fun y H2 s2 t2 => ndset (n H2 (s1.trans s2)) t2 (t1.s s2) hl fun H' e n' => q H2 H' (s1.trans s2) e n')
theorem s_ndaug_sub {k : Wd} {i j : Int} (hv : Dn tv σ H (.int j)) (h : Dv td σ H (.ref a)) (hy : Dn ty σ H (dW k)) (n : NDf P w H a ks g) (hk : k ∈ ks) (hg : g k = .int i) (hl : ks.length < 100000)
    (q : ∀ H1 H', Same H H1 → (∃ o, H' = upd H1 a o) → NDf P w H' a ks (fun x => if x = k then .int (i - j) else g x) → D.nx σ H') : sNdAug P w td ty tv rSub D σ H :=
  h H (Same.refl H) _ (hy.go fun y H1 s1 t1 => by
    obtain ⟨kvs, v, n1, e1, tv1⟩ := (n.s s1).r.get hk
    rw [hg] at tv1
    refine ⟨a, kvs, k, v, rfl, n1, t1, e1, hv H1 s1 _ fun y2 H2 s2 t2 => ⟨i, j, tv1.i, t2.i, ndset (n.s (s1.trans s2)) (t1.s s2) (.int (i - j)) hl fun H' e n' => ?_⟩⟩
    rw [if_pos hk] at n'
    exact q H2 H' (s1.trans s2) e n')
/-! ### the lock -/
theorem lock_kd {kvs : Kvs} {od : Obj} (h : H a = some (ndO P w a kvs)) : KD H (upd H a (.frz od (ndO P w a kvs))) := KD.mut (KD.refl H) h rfl
theorem lock_back {kvs : Kvs} {od : Obj} (h : H a = some (ndO P w a kvs)) (s : Same (upd H a (.frz od (ndO P w a kvs))) H') : H' a = some (.frz od (ndO P w a kvs)) ∧ Same H (upd H' a (ndO P w a kvs)) := by
  refine ⟨s _ _ upd_same, fun b u hb => ?_⟩
  by_cases e : b = a
  · subst e
    rw [upd_same, ← hb, h]
  · rw [upd_ne e]
    exact s b u (by rw [upd_ne e]; exact hb)
theorem lock_same {kvs : Kvs} {od : Obj} (s : Same H H') : Same (upd H a (.frz od (ndO P w a kvs))) (upd H' a (.frz od (ndO P w a kvs))) := fun b u hb => by
  by_cases e : b = a
  · subst e
    rw [upd_same] at hb ⊢
    exact hb
  · rw [upd_ne e] at hb ⊢
    exact s b u hb
theorem dn_lock {kvs : Kvs} (h : H a = some (ndO P w a kvs)) (ht : ∀ od, Dn te σ (upd H a (.frz od (ndO P w a kvs))) d) : Dn (tLockE te) σ H d := fun H1 s Q q =>
  ⟨a, _, s _ _ h, True.intro, fun od => ht od _ (lock_same s) _ fun v H2 s2 t2 => by
    obtain ⟨e1, s3⟩ := lock_back (s _ _ h) s2
    exact ⟨e1, q v _ s3 (t2.kd (KD.mut (KD.refl H2) e1 rfl))⟩⟩
/-- x = .. with the lock -/
theorem q_lockset {kvs : Kvs} {i : Nat} (h : H a = some (ndO P w a kvs)) (ht : ∀ od, Dn te σ (upd H a (.frz od (ndO P w a kvs))) d) (k : ∀ v H2, Same H H2 → TD H2 v d → tz D (σ.set i (some v)) H2) : tSeq (tLock (tAsg te (gName i))) tz D σ H :=
  ⟨a, _, h, True.intro, fun od => (ht od).go fun v H2 s2 t2 => by
    obtain ⟨e1, s3⟩ := lock_back h s2
    exact ⟨e1, k v _ s3 (t2.kd (KD.mut (KD.refl H2) e1 rfl))⟩⟩
theorem lock_r {kvs : Kvs} {od : Obj} (n : ND P w H a kvs) : NDr P w (upd H a (.frz od (ndO P w a kvs))) a kvs := ⟨.inr ⟨od, upd_same⟩, fun e he => (n.keys e he).kd (lock_kd n.obj)⟩
theorem lock_ne {b : Addr} {o : HO} (h : H b = some o) (hne : b ≠ a) {x : HO} : (upd H a x) b = some o := by rw [upd_ne hne]; exact h
/-- the keys while the dict is locked -/
theorem src_ndkeys {kvs : Kvs} {od : Obj} (h : Dv td σ H (.ref a)) (ho : H a = some (.frz od (ndO P w a kvs))) (hk : ∀ e ∈ kvs, TD H (.ref e.2.1) (dW e.1)) : Src (iNdKeys P w td) σ H (kvs.map fun e => dW e.1) := fun H1 s R q =>
  h H1 s _ ⟨a, od, kvs, rfl, s _ _ ho, by
    have wk := walk_keysN (P := P) (w := w) (d := a) (o := od) (kvs := kvs)
    rw [show kvs.length = (kvs.map fun e => dW e.1).length by simp] at wk
    refine q _ H1 _ _ (Same.refl H1) wk (fun H3 s3 => s3 _ _ (s _ _ ho)) fun i Ha x Hb hi sa y => ?_
    obtain ⟨rfl, e, he, rfl⟩ := y
    refine ⟨Same.refl _, dW e.1, by rw [List.getElem?_map, he]; rfl, ((hk e (List.mem_of_getElem? he)).s s).s sa⟩⟩
/-! ### loops -/
/-- for x in the list at p, which the loop leaves -/
theorem s_forL {p : Addr} {xs : List V} {g : TG} (hv : Dv te σ H (.ref p)) (hp : H p = some (.lst xs)) (Pv : Nat → L2.St → Hp → Prop) (hk : ∀ i σ' H', Pv i σ' H' → H' p = some (.lst xs)) (h0 : Pv 0 σ H)
    (turn : ∀ i x σ' H', xs[i]? = some x → Pv i σ' H' → ∃ σ2, Sto g x σ' H' σ2 ∧ tu { D with nx := Pv (i + 1), ct := Pv (i + 1), bk := D.nx } σ2 H') (hd : ∀ σ' H', Pv xs.length σ' H' → D.nx σ' H') : tFor (iList K te) g tu D σ H :=
  hv H (Same.refl H) _ ⟨p, rfl, ⟨xs, SqL.of hp⟩, for_it walk_list Pv h0 (fun i σ' H' _ q => SqL.of (hk i σ' H' q)) (fun i x σ' Ha Hb hi q y => by
    obtain ⟨rfl, e⟩ := y
    obtain ⟨σ2, st, ht⟩ := turn i x σ' Hb e q
    exact st _ ht) hd⟩
/-- for x in the locked dict -/
theorem s_forN {kvs : Kvs} {g : TG} (n : ND P w H a kvs) (hv : ∀ od, Dv td σ (upd H a (.frz od (ndO P w a kvs))) (.ref a)) (Pv : Obj → Nat → L2.St → Hp → Prop) (hk : ∀ od i σ' H', Pv od i σ' H' → H' a = some (.frz od (ndO P w a kvs)))
    (h0 : ∀ od, Pv od 0 σ (upd H a (.frz od (ndO P w a kvs))))
    (turn : ∀ od i e σ' H', kvs[i]? = some e → Pv od i σ' H' → ∃ σ2, Sto g (.ref e.2.1) σ' H' σ2 ∧ ∀ Db Dr Dc, tu { D with nx := Pv od (i + 1), rt := Dr, ct := Dc, bk := Db } σ2 H') (hd : ∀ od σ' H', Pv od kvs.length σ' H' → D.nx σ' (upd H' a (ndO P w a kvs))) : tLock (tFor (iNdKeys P w td) g tu) D σ H :=
  ⟨a, _, n.obj, True.intro, fun od => hv od _ (Same.refl _) _ ⟨a, od, kvs, rfl, upd_same, for_it walk_keysN (Pv od) (h0 od) (fun i σ' H' _ q => hk od i σ' H' q) (fun i x σ' Ha Hb hi q y => by
    obtain ⟨rfl, e, he, rfl⟩ := y
    obtain ⟨σ2, st, ht⟩ := turn od i e σ' Hb he q
    exact st _ (ht _ _ _)) fun σ' H' q => ⟨hk od _ σ' H' q, hd od σ' H' q⟩⟩⟩
theorem s_while (Pv : Nat → L2.St → Hp → Prop) {m0 : Nat} (h0 : Pv m0 σ H)
    (turn : ∀ m σ' H', Pv m σ' H' → ∃ b, DnT t σ' H' b ∧ (b = true → ∀ H1, Same H' H1 → ∀ N : L2.St → Hp → Prop, (∀ m' σ2 H2, m' < m → Pv m' σ2 H2 → N σ2 H2) → tu { D with nx := N, ct := N, bk := D.nx } σ' H1) ∧ (b = false → ∀ H1, Same H' H1 → D.nx σ' H1)) : tWhile t tu D σ H :=
  ⟨Pv, ⟨m0, h0⟩, fun m σ' H' p => by
    obtain ⟨b, hb, h1, h2⟩ := turn m σ' H' p
    refine hb.go fun H1 s1 => ?_
    cases b with
    | true =>
      refine ⟨fun σ2 H2 => ∃ m', m' < m ∧ Pv m' σ2 H2, fun σ2 H2 q => q, h1 rfl H1 s1 _ fun m' σ2 H2 hm q => ⟨m', hm, q⟩⟩
    | false => exact h2 rfl H1 s1⟩
/-! ### comprehensions -/
theorem dcN_it {J : It} {n : Nat} {G : Hp → Prop} {Y : Nat → Hp → V → Hp → Prop} (wk : Walk J n G Y) {g : TG} {tt : TT} {vs : List Nat} {H1 : Hp} {Dd : Addr} {Qd : Hp → Prop} (Pv : Nat → Hp → Prop) (h0 : Pv 0 (upd H1 Dd (ndO P w Dd []))) (hG : ∀ i H, i ≤ n → Pv i H → G H)
    (hs : ∀ i x H H', i < n → Pv i H → Y i H x H' → g x (wipe σ vs) H' fun σ2 H2 => wipe σ2 vs = wipe σ vs ∧ tt σ2 H2 fun b H3 =>
      if b = true then tk σ2 H3 fun y H4 => tv σ2 H4 fun z H5 => NdSet P w H5 (.ref Dd) y z (Pv (i + 1)) else Pv (i + 1) H3) (hd : ∀ H, Pv n H → Qd H) :
    ∃ W : Nat → Nat → Hp → Prop, (∃ m, W 0 m (upd H1 Dd (ndO P w Dd []))) ∧ ∀ i m H, W i m H →
      (J.stop i H ∧ Qd H) ∨ (J.go i H ∧ ∃ Nx : Hp → Prop, (∀ H', Nx H' → ∃ m', m' < m ∧ W (i + 1) m' H') ∧ ∀ x H', J.yld i H x H' → g x (wipe σ vs) H' fun σ2 H2 => wipe σ2 vs = wipe σ vs ∧ tt σ2 H2 fun b H3 =>
        if b = true then tk σ2 H3 fun y H4 => tv σ2 H4 fun z H5 => NdSet P w H5 (.ref Dd) y z Nx else Nx H3) := by
  refine ⟨fun i m H => m = n - i ∧ i ≤ n ∧ Pv i H, ⟨n, by simp, Nat.zero_le _, h0⟩, ?_⟩
  rintro i m H ⟨rfl, hi, p⟩
  have q := hG i H hi p
  by_cases hlt : i < n
  · exact .inr ⟨wk.goes i H hlt q, Pv (i + 1), fun H' p' => ⟨n - (i + 1), by omega, rfl, hlt, p'⟩, fun x H' y => hs i x H H' hlt p (wk.yields i H x H' hlt q y)⟩
  · have e : i = n := by omega
    subst e
    exact .inl ⟨wk.stops H q, hd H p⟩
/-- gives a new dict -/
def Dd (P : Program) (w : World) (te : TE) (σ : L2.St) (H : Hp) (ks : List Wd) (g : Wd → Dt) : Prop := ∀ H1, Same H H1 → ∀ Q : VK, (∀ a H2, Same H1 H2 → H1 a = none → NDf P w H2 a ks g → Q (.ref a) H2) → te σ H1 Q
theorem ND.nil (a : Addr) : ND P w (upd H a (ndO P w a [])) a [] := ⟨upd_same, fun _ h => nomatch h⟩
theorem NDf.nil (a : Addr) : NDf P w (upd H a (ndO P w a [])) a [] g := ⟨[], ND.nil a, rfl, fun _ h => nomatch h⟩
theorem dd_new : Dd P w (tNdNew P w) σ H [] g := fun H1 s Q q p hp => q p _ (Same.new hp) hp (NDf.nil p)
theorem dd_dc {wi : TI} {g : TG} {vs : List Nat} (ws : List Wd) (gv : Wd → Dt) (hn : ws.Nodup) (hz : ws.length ≤ 90000) (hs : Src wi σ H (ws.map dW))
    (turn : ∀ k ∈ ws, ∀ (x : V) (H1 : Hp), Same H H1 → TD H1 x (dW k) → ∃ σ2, Sto g x (wipe σ vs) H1 σ2 ∧ wipe σ2 vs = wipe σ vs ∧ Dn tk σ2 H1 (dW k) ∧ Dn tv σ2 H1 (gv k)) :
    Dd P w (tDcN P w wi g tYes tk tv vs) σ H ws gv := fun H1 s Q q =>
  hs H1 s _ fun J H2 G Y s2 wk hG hY D hD => by
    have hl : (ws.map dW).length = ws.length := by simp
    rw [hl] at wk
    refine dcN_it wk (fun i H' => Same H2 H' ∧ NDf P w H' D (ws.take i) gv) ⟨Same.new hD, NDf.nil D⟩ (fun i H' _ p => hG H' p.1) ?_ ?_
    · rintro i x Ha Hb hi ⟨p1, p2⟩ y
      obtain ⟨s3, d, e, td⟩ := hY i Ha x Hb (by rw [hl]; exact hi) p1 y
      have hk : ws[i]? = some ws[i] := List.getElem?_eq_getElem hi
      rw [List.getElem?_map, hk] at e
      cases (show some (dW ws[i]) = some d from e)
      generalize ws[i] = k at hk td
      obtain ⟨σ2, st, ew, h1, h2⟩ := turn k (List.mem_of_getElem? hk) x Hb (s.trans (s2.trans (p1.trans s3))) td
      refine st _ ⟨ew, ?_⟩
      show tk σ2 Hb _
      refine h1.go fun y H3 s4 t3 => h2 H3 s4 _ fun z H4 s5 t4 => ndset ((p2.s (s3.trans s4)).s s5) (t3.s s5) t4 (by rw [List.length_take]; omega) fun H' e n' => ?_
      obtain ⟨o, rfl⟩ := e
      refine ⟨Same.mut (p1.trans (s3.trans (s4.trans s5))) hD, ?_⟩
      have hni : ¬ k ∈ ws.take i := fun hm => by
        obtain ⟨j, hj⟩ := List.getElem?_of_mem hm
        rw [List.getElem?_take] at hj
        split at hj
        · rename_i hlt
          obtain ⟨hj1, hj2⟩ := List.getElem?_eq_some_iff.mp hj
          obtain ⟨hk1, hk2⟩ := List.getElem?_eq_some_iff.mp hk
          exact List.pairwise_iff_getElem.mp hn j i hj1 hk1 hlt (hj2.trans hk2.symm)
        · cases hj
      rw [if_neg hni] at n'
      have e1 : ws.take (i + 1) = ws.take i ++ [k] := by rw [List.take_add_one, hk]; rfl
      rw [e1]
      refine n'.cong fun j hj => ?_
      by_cases ej : j = k
      · rw [if_pos ej, ej]
      · rw [if_neg ej]
    · rintro H' ⟨p1, p2⟩
      rw [List.take_length] at p2
      refine q D H' (s2.trans p1) ?_ p2
      have hz : ∀ u, H1 D ≠ some u := fun u e => by rw [s2 _ _ e] at hD; cases hD
      cases h : H1 D with
      | none => rfl
      | some u => exact absurd h (hz u)
theorem dd_lock {kvs : Kvs} {ks : List Wd} {g : Wd → Dt} (h : H a = some (ndO P w a kvs)) (ht : ∀ od, Dd P w te σ (upd H a (.frz od (ndO P w a kvs))) ks g) : Dd P w (tLockE te) σ H ks g := fun H1 s Q q =>
  ⟨a, _, s _ _ h, True.intro, fun od => ht od _ (lock_same s) _ fun v H2 s2 hn n => by
    obtain ⟨e1, s3⟩ := lock_back (s _ _ h) s2
    have hne : v ≠ a := fun e => by rw [e, upd_same] at hn; cases hn
    rw [upd_ne hne] at hn
    refine ⟨e1, q v _ s3 hn (n.kd (KD.mut (KD.refl H2) e1 rfl) (by rw [upd_ne hne]))⟩⟩
end
/-! ### counting, places -/
section
variable {X : Cx} {K : PySem.W.Frag}
def rCountD (K : PySem.W.Frag) : V → List V → Hp → VK → Prop := fun x xs H Q => ∃ (a : Addr) (y : V) (d : Dt) (ds : List Dt), x = V.ref a ∧ xs = [y] ∧ Dp K H (V.ref a) (.list ds) ∧ Dp K H y d ∧
  SeqAt.shaped (.list ds) = true ∧ SeqAt.shaped d = true ∧ PyData.plainAll ds = true ∧ d.plain = true ∧ Q (.int ((ds.countP fun z => PyData.eqv z d : Nat) : Int)) H
theorem mt_countD (K : PySem.W.Frag) (hu : X.A.units + 65 < cLine) (hK : X.K = K := by rfl) : MtR X "list.count" (rCountD K) := by
  subst hK
  intro pins s σ H x xs v us Q I rx rxs h
  obtain ⟨a, y, d, ds, rfl, rfl, hl, hy, sl, sd, pl, pd, q⟩ := h
  cases rx
  cases rxs with
  | cons ry rt =>
    rename_i uy ut
    cases rt
    obtain ⟨bs, r1⟩ := Dp.reads I d y uy hy ry
    have hroom : X.A.units + 1 + min (PyData.depthAll ds) d.depth < cLine := room_in_shaped sd hu
    cases hl with
    | lst hs ha =>
      obtain ⟨its, rv, hil, hlen⟩ := I.list hs
      obtain ⟨as, h4⟩ := Dp.readsAll I ds _ its ha rv
      exact PySem.SeqAt.count_list_data hil.isList (show ReadsAll s.heap its.toArray.toList ds as from h4) r1 pl pd hroom ⟨.int _, H, I.tok _, ⟨_, rfl⟩, q⟩
theorem kmt_indexD (K : PySem.W.Frag) (hu : X.A.units + 65 < cLine) (hK : X.K = K := by rfl) : MtR X "list.index" (rIndexD K) := by subst hK; exact mt_indexD hu
end
end K32
/-! Nd5 -/
set_option Elab.async false
set_option linter.all false
set_option maxRecDepth 100000
set_option maxHeartbeats 2000000
/-! More rules: a dict comprehension into a name, max(.., default=d), min of pairs. -/
namespace K32
open PySem PySem.Spec PyProof.Rows L2
theorem hu9 {k : Nat} {A : Around} (r : Room k A) : A.units + 9 < cLine := by have := r.un; omega
section
variable {X : Cx}
theorem sw_trueD {kx vx : Expr} {gs : List Comprehension} {scope : Scope} {pos py : Pos} {y : Str} {l : Nat} {env : Env} (hk : env.scope.kind = .function) (hy : env.scope.names.lookup y = some .local) (hl : (py.line == pos.line) = true)
    (ha : (scope.names.any fun (n, k) => n == y && (k == .local || k == .cell)) = false) : swapsWith (.DictComp kx vx gs scope pos) (some (.Name y py)) l env = pure true := by
  have ky : env.kindOf y = some .local := hy
  have hb : env.blockKind = .function := by unfold Env.blockKind; rw [hk]; rfl
  unfold swapsWith
  simp only [hb, ky, ha, Expr.pos, hl]
  rfl
theorem ps_setDcN (P : Program) (w : World) (hu : X.A.units + 9 < cLine) {i : Nat} {y : Str} {py : Pos} {kx vx tg iter : Expr} {ifs : List Expr} {scope : Scope} {own : List (Str × Nat)} {pos spos : Pos} {wi : TI} {g : TG} {tt : TT} {tk tv : TE} (hc : X.calm = true) (hN : X.N.Nodup) (hy : X.N[i]? = some y) (hyl : X.env.scope.names.lookup y = some .local)
    (hsw : swapsWith (.DictComp kx vx [⟨tg, iter, ifs, 0⟩] scope pos) (some (.Name y py)) spos.line X.env = pure true) (hi : PI X tg iter wi) (ok : BlkOk X.N X.env.scope scope own)
    (hg : ∀ (s : Shared) (H : Hp) (C : Addr) (cl : List (Str × Addr)) (fp : List Addr), PG (X.blk s H scope (compEnvC scope cl C X.env) fp) tg g) (ht : ∀ (s : Shared) (H : Hp) (C : Addr) (cl : List (Str × Addr)) (fp : List Addr), PTs (X.blk s H scope (compEnvC scope cl C X.env) fp) ifs tt)
    (hk : ∀ (s : Shared) (H : Hp) (C : Addr) (cl : List (Str × Addr)) (fp : List Addr), PE (X.blk s H scope (compEnvC scope cl C X.env) fp) kx tk)
    (he : ∀ (s : Shared) (H : Hp) (C : Addr) (cl : List (Str × Addr)) (fp : List Addr), PE (X.blk s H scope (compEnvC scope cl C X.env) fp) vx tv) (hs : ∀ x, foldedSetIterable iter X.env x = pure x := by intro _; rfl) (hP : X.prog = P := by rfl) (hw : X.w = w := by rfl) :
    PS X (.Assign [.Name y py] (.DictComp kx vx [⟨tg, iter, ifs, 0⟩] scope pos) spos) (tAsg (tDcN P w wi g tt tk tv (own.map (·.2))) (gName i)) := by
  refine ⟨fun pins s σ H D I h => ?_⟩
  rw [exec_Assign_Name_used _ _ _ _ hsw]
  refine wpAny_bind (wpAny_standAt (wpAny_bind ?_))
  show wpAny _ X.A (do let _ ← comprehension (.DictComp kx vx [⟨tg, iter, ifs, 0⟩] scope pos) scope X.env (firstIterPos [⟨tg, iter, ifs, 0⟩] pos) newDict false (eval iter X.env) (some (assign (.Name y py) X.env))) _ _ s
  have h : tDcN P w wi g tt tk tv (own.map (·.2)) σ H (fun x H1 => gName i x σ H1 D.nx) := h
  refine wpAny_bind (thn (dcN_core (Qf := fun _ s' => SP X pins D .next s') hP hw hu hc hN I hi ok hg ht hk he hs h fun L C s' m H' I' q hn f => ?_) fun _ s' hq => wpAny_pure (wpAny_pure hq))
  show wpAny _ _ (assign (.Name y py) X.env (.ref L)) _ _ _
  refine wpAny_assign_Name (store_ok2 (v := V.ref L) I' hN hy (.inl hyl) rfl (fun s2 I2 ⟨a, sb, ha⟩ => ?_) (.inr hyl))
  obtain ⟨f0, f1, f2, f3, f4, f5⟩ := f
  have haC : C ≠ a := by
    rcases ha with z | z
    · rw [z]; exact f1
    · exact fun e => f4 y a z e.symm
  refine ⟨m, hn.sameBut sb haC, fun h3 sb3 => ?_⟩
  exact ⟨_, H', I2.turned (t' := s2.toks) (fun b o hb e => (sb3.2 b hb).trans e) f0 f1 f3 f4 f5, q⟩
/-! ### max(l, default=d) -/
def rMaxDef (K : PySem.W.Frag) : List V → List V → Hp → VK → Prop := fun vs zs H Q => ∃ (a : Addr) (ns : List Int) (d : V), vs = [V.ref a] ∧ zs = [d] ∧ SqL K H a (ns.map V.int) ∧ (ns = [] → Q d H) ∧ ∀ m, m ∈ ns → (∀ y, y ∈ ns → y ≤ m) → Q (.int m) H
theorem maxOf_int (x : Int) (xs : List Int) : PySem.W.maxOf x xs ∈ x :: xs ∧ ∀ y ∈ x :: xs, y ≤ PySem.W.maxOf x xs := by
  unfold PySem.W.maxOf
  induction xs generalizing x with
  | nil => simp
  | cons a xs ih =>
    rw [List.foldl_cons]
    by_cases h : x < a
    · have e : PySem.W.DatumOrd.lt x a = true := decide_eq_true h
      rw [if_pos e]
      obtain ⟨h1, h2⟩ := ih a
      refine ⟨List.mem_cons_of_mem _ h1, fun y hy => ?_⟩
      rcases List.mem_cons.mp hy with rfl | hy
      · have := h2 a (List.mem_cons_self ..)
        omega
      · exact h2 y hy
    · have e : ¬ PySem.W.DatumOrd.lt x a = true := fun z => h (of_decide_eq_true z)
      rw [if_neg e]
      obtain ⟨h1, h2⟩ := ih x
      refine ⟨?_, fun y hy => ?_⟩
      · rcases List.mem_cons.mp h1 with e1 | e1
        · rw [e1]; exact List.mem_cons_self ..
        · exact List.mem_cons_of_mem _ (List.mem_cons_of_mem _ e1)
      · rcases List.mem_cons.mp hy with rfl | hy
        · exact h2 y (List.mem_cons_self ..)
        · rcases List.mem_cons.mp hy with rfl | hy
          · have := h2 x (List.mem_cons_self ..)
            omega
          · exact h2 y (List.mem_cons_of_mem _ hy)
theorem kcr_maxDef (K : PySem.W.Frag) (hu : X.A.units + 9 < cLine) (hc : X.calm = true := by rfl) (hK : X.K = K := by rfl) : CallRK X (.builtin "max") [Str.ofString "default"] (rMaxDef K) := by
  subst hK
  intro pins s σ H vs zs us ws Q I r rz h
  obtain ⟨a, ns, d, rfl, rfl, hs, q0, q⟩ := h
  obtain ⟨its, rv, hl, _⟩ := I.list hs
  rw [Vals.ref1 r]
  obtain ⟨u, rfl, ru⟩ := rz.one
  show wpAny _ _ (call (.builtin "max") [.ref a] [(Str.ofString "default", u)]) _ _ _
  refine PySem.W.max_list_datum_default (α := Int) (xs := ns) (I.ok.hd hc) hl.isList (PySem.W.HoldAll.of_ints rv.ints) (show X.A.units + 1 + 0 < cLine by omega) (fun e h' tk hk => ?_) fun y ys i v h' tk e hi hv hk => ?_
  · exact ⟨d, H, I.kept hk, ru, q0 e⟩
  · subst e
    obtain ⟨h1, h2⟩ := maxOf_int y ys
    obtain ⟨as, hr⟩ := hv
    have hv2 : ∃ t, v = .int (PySem.W.maxOf y ys) t := by
      cases hr with
      | int _ t => exact ⟨t, rfl⟩
    exact ⟨.int _, H, I.kept hk, hv2, q _ h1 h2⟩
/-! ### min of a list of pairs -/
def rMinP (K : PySem.W.Frag) : List V → Hp → VK → Prop := fun vs H Q => ∃ (a : Addr) (xs : List V) (ps : List (Int × Int)), vs = [V.ref a] ∧ SqL K H a xs ∧ TDs H xs (ps.map fun p => .tuple [.int p.1, .int p.2]) ∧ ps ≠ [] ∧ ∀ (i : Nat) v, xs[i]? = some v → Q v H
theorem kcr_minP (K : PySem.W.Frag) (hu : X.A.units + 9 < cLine) (hc : X.calm = true := by rfl) (hK : X.K = K := by rfl) : CallR X (.builtin "min") (rMinP K) := by
  subst hK
  intro pins s σ H vs us Q I r h
  obtain ⟨a, xs, ps, rfl, hs, hd, hne, q⟩ := h
  obtain ⟨its, rv, hl, _⟩ := I.list hs
  rw [Vals.ref1 r]
  obtain ⟨as, h4⟩ := Dp.readsAll I _ _ its (TDs.dp (K := X.K) hd) rv
  cases ps with
  | nil => exact absurd rfl hne
  | cons p ps =>
    refine PySem.W.min_list_datum (α := Int × Int) (x := p) (xs := ps) (I.ok.hd hc) hl.isList ⟨as, h4⟩ (show X.A.units + 1 + 1 < cLine by omega) fun i v h' tk hi hv hk => ?_
    have hi' : its[i]? = some v := by simpa using hi
    obtain ⟨hx1, hx2⟩ := List.getElem?_eq_some_iff.mp hi'
    have hlen := rv.length
    have hlt : i < xs.length := by omega
    obtain ⟨u, hu1, hu2⟩ := rv.get (List.getElem?_eq_getElem hlt)
    rw [hi'] at hu1
    cases hu1
    exact ⟨_, H, I.kept hk, hu2, q i _ (List.getElem?_eq_getElem hlt)⟩
end
end K32
/-! Nd6 -/
set_option Elab.async false
set_option linter.all false
set_option maxRecDepth 100000
set_option maxHeartbeats 1000000
/-! Methods, making, fields; lists by pop, count, index; the greatest. -/
namespace K32
open PySem PySem.Spec PyProof.Rows L2
section
variable {X : Cx} {CX : CXT} {k : Nat} {x c m : Str} {ps : List Str} {sp : Sp} {E : XK} {p pos apos : Pos} {o e : Expr} {es : List Expr} {t : TA} {te : TE}
/-- o.m() of an instance of the class c -/
theorem pe_md0 {pl : Sem Bool} {ta : TE} (D : DefP X.prog X.w X.K X.mg X.base CX k (c, some m) ps sp) (cl : Cls X.K (He.ga X.K c)) (hm : Meth X.K (He.ga X.K c) m (He.fAd X.K (c, some m))) (hr : Room k X.A) (hx : Passes CX X E) (he : PE X o ta)
    (ht : eval (.Call (.Attribute o m apos) [] [] pos) X.env = (do
      let ov ← eval o X.env
      standAt apos.atName
      let (f, first) ← holding [ov] (getMethod ov m pl)
      callWith pos f first (backTo pos (starEach [] X.env)) (backToKw pos (keywordEach [] X.env))) := by rfl) :
    PE X (.Call (.Attribute o m apos) [] [] pos) (tMeth (He.ga X.K c) m sp [] E ta tNil) := by
  obtain ⟨fd, F, kp, b⟩ := D.ok
  exact pe_meth0 he cl hm F hr b .nil hx ht
/-- the class c made -/
theorem pe_mk (D : DefP X.prog X.w X.K X.mg X.base CX k (c, some "__init__") ps sp) (M : Mk X.K (He.ga X.K c) (He.fAd X.K (c, some "__init__"))) (hr : Room (k + 1) X.A) (hm : X.mg c = some (.ref (He.ga X.K c))) (hx : Passes CX X E) (ha : PA X (e :: es) t)
    (hg : Gl X c := by rfl) (hdb : (c == ("__debug__" : Str)) = false := by decide) (he : starEach (e :: es) X.env = (false, eval e X.env) :: starEach es X.env := by rfl) (hpl : (backTo pos (starEach es X.env)).any (·.1) = false := by rfl) :
    PE X (.Call (.Name c p) (e :: es) [] pos) (tMake (He.ga X.K c) sp [] E t) := by
  obtain ⟨fd, F, kp, b⟩ := D.ok
  exact pe_make M F hr hg hm b .nil hx ha hdb he hpl
end
section
variable {P : Program} {w : World} {K : PySem.W.Frag} {σ : L2.St} {H H' : Hp} {ta tb te tx td ty tk tv : TE} {t u : TT} {d e z : Dt} {v : V} {ds es : List Dt} {D : Ends} {tu tw tz : TS} {a : Addr} {C dx : Addr} {fs : List (Str × V)} {f : Str} {ks : List Wd} {g : Wd → Dt}
/-- self.f = .. -/
theorem s_fld (h : Dn te σ H d) (hv : Dv ta σ H (.ref a)) (ha : H a = some (.ins C dx fs)) (c : Cls K C) (n : NoAttr K C f) (hl : fs.length < 1000)
    (k : ∀ v H1, Same H H1 → TD (upd H1 a (.ins C dx (putF f v fs))) v d → D.nx σ (upd H1 a (.ins C dx (putF f v fs)))) : sFld K ta te f D σ H :=
  h.go fun v H1 s1 t1 => hv H1 s1 _ ⟨a, C, dx, fs, rfl, s1 _ _ ha, c, n, hl, k v H1 s1 (t1.kd (KD.mut (KD.refl H1) (s1 _ _ ha) rfl))⟩
theorem s_fldD (h : Dd P w te σ H ks g) (hv : Dv ta σ H (.ref a)) (ha : H a = some (.ins C dx fs)) (c : Cls K C) (n : NoAttr K C f) (hl : fs.length < 1000)
    (k : ∀ l H1, Same H H1 → H l = none → l ≠ a → NDf P w (upd H1 a (.ins C dx (putF f (.ref l) fs))) l ks g → D.nx σ (upd H1 a (.ins C dx (putF f (.ref l) fs)))) : sFld K ta te f D σ H :=
  h H (Same.refl H) _ fun l H1 s1 hn n1 => hv H1 s1 _ ⟨a, C, dx, fs, rfl, s1 _ _ ha, c, n, hl, by
    have hne : l ≠ a := fun e => by rw [e, ha] at hn; cases hn
    exact k l H1 s1 hn hne (n1.kd (KD.mut (KD.refl H1) (s1 _ _ ha) rfl) (by rw [upd_ne hne]))⟩
theorem q_seq (h : tu { D with nx := tz D } σ H) : tSeq tu tz D σ H := h
/-- x = l.pop(), the list at l -/
theorem q_pop {i : Nat} {l : Addr} {xs : List V} (hv : Dv te σ H (.ref l)) (hl : H l = some (.lst (xs ++ [v]))) (k : tz D (σ.set i (some v)) (upd H l (.lst xs))) : tSeq (tAsg (tBM0 K "list" rPop te) (gName i)) tz D σ H :=
  hv H (Same.refl H) _ ⟨.inl ⟨rfl, _, SqL.of hl⟩, l, xs ++ [v], v, rfl, rfl, hl, by simp, by rw [List.dropLast_concat]; exact k⟩
/-- l.append(x) with l told by an expression -/
theorem s_appE {l : Addr} {xs : List V} (hv : Dv te σ H (.ref l)) (hl : H l = some (.lst xs)) (h : Dn tx σ H d) (hz : xs.length < 100000) (k : ∀ v H2, Same H H2 → TD H2 v d → D.nx σ (upd H2 l (.lst (xs ++ [v])))) :
    tDrop (tBM K "list" rAppend te (tCons tx tNil)) D σ H :=
  hv H (Same.refl H) _ ⟨.inl ⟨rfl, _, SqL.of hl⟩, h.go fun v H2 s2 t2 => ⟨l, xs, v, rfl, rfl, s2 _ _ hl, szl hz, k v H2 s2 t2⟩⟩
theorem tyL (h : TD H v (.list ds)) : tyV K "list" v H := by
  obtain ⟨a, xs, rfl, h1, h2⟩ := h.l
  exact .inl ⟨rfl, _, SqL.of h1⟩
theorem dn_count (h : Dn te σ H (.list ds)) (h2 : Dn tx σ H d) (sl : SeqAt.shaped (.list ds) = true) (sd : SeqAt.shaped d = true) (pl : PyData.plainAll ds = true) (pd : d.plain = true) :
    Dn (tBM K "list" (rCountD K) te (tCons tx tNil)) σ H (.int ((ds.countP fun z => PyData.eqv z d : Nat) : Int)) := fun H1 s Q q =>
  h H1 s _ fun v H2 s2 t2 => ⟨tyL t2, h2 H2 (s.trans s2) _ fun y H3 s3 t3 => by
    obtain ⟨a, xs, rfl, e1, e2⟩ := (t2.s s3).l
    exact ⟨a, y, d, ds, rfl, rfl, (TD.lst e1 e2).dp, t3.dp, sl, sd, pl, pd, q _ H3 (s2.trans s3) (.int _)⟩⟩
theorem dn_index {j : Nat} (h : Dn te σ H (.list ds)) (h2 : Dn tx σ H d) (sl : SeqAt.shaped (.list ds) = true) (sd : SeqAt.shaped d = true) {z : Dt} (hj : ds[j]? = some z) (hz : PyData.eqv z d = true) (hb : ∀ (m : Nat) (z' : PyData), m < j → ds[m]? = some z' → PyData.eqv z' d = false) :
    Dn (tBM K "list" (rIndexD K) te (tCons tx tNil)) σ H (.int (j : Nat)) := fun H1 s Q q =>
  h H1 s _ fun v H2 s2 t2 => ⟨tyL t2, h2 H2 (s.trans s2) _ fun y H3 s3 t3 => by
    obtain ⟨a, xs, rfl, e1, e2⟩ := (t2.s s3).l
    exact ⟨a, y, d, ds, j, z, rfl, rfl, (TD.lst e1 e2).dp, t3.dp, sl, sd, hj, hz, hb, q _ H3 (s2.trans s3) (.int _)⟩⟩
/-- max(list(d.values())) -/
theorem dn_maxvals {r : Wd → Int} {m : Int} (h : Dv td σ H (.ref a)) (n : NDfr P w H a ks (fun x => .int (r x))) (hne : ks ≠ []) (hm : ∃ k ∈ ks, r k = m) (hx : ∀ k ∈ ks, r k ≤ m) :
    Dn (tCB (rMax K) (tCons (tCB (rListV P w) (tCons (tVals P w td) tNil)) tNil)) σ H (.int m) := fun H1 s Q q =>
  h H1 s _ (by
    obtain ⟨kvs, n1, e, tt⟩ := (n.s s).ex
    refine ⟨a, kvs, rfl, n1, fun p hp => ⟨p, a, kvs, rfl, upd_same, n1.s (Same.new hp), fun l hl => ⟨l, kvs.map fun e => r e.1, rfl, SqL.of ?_, ?_, fun m' hm' hx' => ?_⟩⟩⟩
    · have e1 : kvs.map (fun x => x.2.2) = (kvs.map fun e => r e.1).map V.int := by
        rw [List.map_map]
        exact List.map_congr_left fun y hy => (tt y hy).i
      rw [upd_same, e1]
    · rw [List.length_map]
      cases kvs with
      | nil => exact absurd e.symm hne
      | cons => simp
    · have em : m' = m := by
        obtain ⟨y, hy, e2⟩ := List.mem_map.mp hm'
        have h1 : y.1 ∈ ks := by rw [← e]; exact List.mem_map_of_mem (f := (·.1)) hy
        have h2 := hx _ h1
        obtain ⟨k, hk, e3⟩ := hm
        rw [← e] at hk
        obtain ⟨y', hy', e4⟩ := List.mem_map.mp hk
        have h3 := hx' (r y'.1) (List.mem_map.mpr ⟨y', hy', rfl⟩)
        rw [e4] at h3
        omega
      subst em
      exact q _ _ ((Same.new hp).trans (Same.new hl)) (.int _))
/-- max(l, default=d) on ints -/
theorem dn_maxdef {ns : List Int} {m j : Int} (h : Dn te σ H (.list (ns.map .int))) (h2 : Dn tx σ H (.int j)) (h0 : ns = [] → m = j) (h1 : ∀ m', m' ∈ ns → (∀ y ∈ ns, y ≤ m') → m' = m) :
    Dn (tCKw (rMaxDef K) (tCons te tNil) (tCons tx tNil)) σ H (.int m) := fun H1 s Q q =>
  h H1 s _ fun v H2 s2 t2 => h2 H2 (s.trans s2) _ fun y H3 s3 t3 => by
    obtain ⟨a, xs, rfl, e1, e2⟩ := (t2.s s3).l
    have e3 := e2.ints
    subst e3
    refine ⟨a, ns, y, rfl, rfl, SqL.of e1, fun e => ?_, fun m' hm hx => ?_⟩
    · rw [t3.i, ← h0 e]
      exact q _ H3 (s2.trans s3) (.int _)
    · rw [h1 m' hm hx]
      exact q _ H3 (s2.trans s3) (.int _)
end
end K32
/-! R1 -/
set_option Elab.async false
set_option linter.all false
set_option maxRecDepth 100000
set_option maxHeartbeats 400000
namespace K32
open PySem PySem.Spec PyProof.Rows L2
local macro_rules | `(tactic| walk_at "dn") => `(tactic| first
  | with_reducible exact dn_int | with_reducible exact dn_str | with_reducible exact dn_bl | with_reducible exact dn_non | with_reducible exact da_nil | with_reducible exact do_none
  | ((with_reducible refine' dn_var ?h ?k); (case h => rfl); (case k => assumption))
  | ((with_reducible refine' da_cons ?_ ?_) <;> try walk_at "dn")
  | ((with_reducible refine' dn_add ?_ ?_) <;> try walk_at "dn")
  | ((with_reducible refine' dn_sub ?_ ?_) <;> try walk_at "dn")
  | ((with_reducible refine' dn_mul ?_ ?_ ?_) <;> try walk_at "dn")
  | ((with_reducible refine' dn_lt ?_ ?_) <;> try walk_at "dn")
  | ((with_reducible refine' dn_le ?_ ?_) <;> try walk_at "dn")
  | ((with_reducible refine' dn_gt ?_ ?_) <;> try walk_at "dn")
  | ((with_reducible refine' dn_ge ?_ ?_) <;> try walk_at "dn")
  | ((with_reducible refine' dn_neg ?_) <;> try walk_at "dn")
  | ((with_reducible refine' dn_chain ?_ ?_ ?_ rd_le rd_le) <;> try walk_at "dn")
  | ((with_reducible refine' dn_chain ?_ ?_ ?_ rd_le rd_lt) <;> try walk_at "dn")
  | ((with_reducible refine' dn_isI ?h ?k); (case h => walk_at "dn"); (case k => first | with_reducible exact kb_int_int | with_reducible exact kb_int_tuple | with_reducible exact kb_int_str | with_reducible exact kb_int_bool))
  | ((with_reducible refine' dn_isT ?h ?k); (case h => walk_at "dn"); (case k => first | with_reducible exact kb_tuple_int | with_reducible exact kb_tuple_tuple | with_reducible exact kb_tuple_str | with_reducible exact kb_tuple_bool))
  | ((with_reducible refine' dn_isS ?h ?k); (case h => walk_at "dn"); (case k => first | with_reducible exact kb_str_int | with_reducible exact kb_str_tuple | with_reducible exact kb_str_str | with_reducible exact kb_str_bool))
  | ((with_reducible refine' dn_isL ?h ?k); (case h => walk_at "dn"); (case k => first | with_reducible exact kb_list_int | with_reducible exact kb_list_tuple | with_reducible exact kb_list_str | with_reducible exact kb_list_bool))
  | ((with_reducible refine' dn_isB ?h ?k); (case h => walk_at "dn"); (case k => first | with_reducible exact kb_bool_int | with_reducible exact kb_bool_tuple | with_reducible exact kb_bool_str | with_reducible exact kb_bool_bool))
  | ((with_reducible refine' dn_ixT ?h ?t ?k); (case h => walk_at "dn"); (case t => walk_at "dn"); try (case k => rfl))
  | ((with_reducible refine' dn_ixL ?h ?t ?k); (case h => walk_at "dn"); (case t => walk_at "dn"); try (case k => rfl))
  | ((with_reducible refine' dn_cb ?h ?k); (case h => walk_at "dn"); try (case k => first | exact rd_lenT | exact rd_lenL | exact rd_tupL | exact rd_lstT | exact rd_lstL | exact rc_all | exact rc_sum | exact rc_max2 | exact rc_min2))
  | ((with_reducible refine' dn_call ?h ?t ?k); (case h => walk_at "dn"); (case t => rfl))
  | ((with_reducible refine' dt_test ?_) <;> try walk_at "dn")
  | ((with_reducible refine' dt_B ?_) <;> try walk_at "dn")
  | ((with_reducible refine' dn_eqI ?h ?k); (case h => walk_at "dn"); (case k => walk_at "dn"))
  | ((with_reducible refine' dn_neI ?h ?k); (case h => walk_at "dn"); (case k => walk_at "dn"))
  | ((with_reducible refine' dn_eqS ?h ?k); (case h => walk_at "dn"); (case k => walk_at "dn"))
  | ((with_reducible refine' dn_neS ?h ?k); (case h => walk_at "dn"); (case k => walk_at "dn"))
  | ((with_reducible refine' dt_or ?_ (fun _ => ?_)) <;> try walk_at "dn")
  | ((with_reducible refine' dt_and ?_ (fun _ => ?_)) <;> try walk_at "dn")
  | ((with_reducible refine' dn_orV ?_ (fun _ => ?_)) <;> try walk_at "dn")
  | ((with_reducible refine' dn_andV ?_ (fun _ => ?_)) <;> try walk_at "dn")
  | ((with_reducible refine' dt_not ?_) <;> try walk_at "dn")
  | ((with_reducible refine' dn_notV ?_) <;> try walk_at "dn")
  | ((with_reducible refine' da_star ?_ ?_) <;> try walk_at "dn")
  | ((with_reducible refine' dn_tup ?_ ?_) <;> try walk_at "dn")
  | ((with_reducible refine' dn_lst ?_ ?_) <;> try walk_at "dn")
  | ((with_reducible refine' do_some ?_) <;> try walk_at "dn"))
variable {P : Program} {w : World} {K : PySem.W.Frag} {mg : Str → Option Value} {base : Heap}
abbrev N_Ranks_init : List Str := ["self", "flow", "box", "word"]
abbrev P_Ranks_init : List Str := ["self", "flow", "box"]
theorem sc_Ranks_init : FnScope N_Ranks_init P_Ranks_init (defScope s_Ranks_init) := ⟨rfl, rfl, rfl, by decide +kernel, rfl, by decide +kernel, by decide +kernel⟩
def spRkInit (P : Program) (w : World) (K : PySem.W.Frag) : Sp := fun vs H Q _ => vs.length = 3 ∧ ∃ (a dx : Addr) (vf vb : V) (f : Flow) (b : Vec), vs = [.ref a, vf, vb] ∧ H a = some (.ins (He.ga K "Ranks") dx []) ∧ TD H vf (dFlow f) ∧ TD H vb (dV b) ∧ FlowOk f ∧ BoxOk b ∧
  ∀ (l r : Addr) (H' : Hp), KX [a] H H' → H' a = some (.ins (He.ga K "Ranks") dx [("links", .ref l), ("ranks", .ref r)]) → H l = none → H r = none → l ≠ r → NDf P w H' l (wds f b) (fun x => .list ((rby f b x).map dW)) → (∀ g, NDf P w H' r [] g) → Q .non H'
theorem D_Ranks_init (T : Tx K mg) : DefP P w K mg base CX0 5 ("Ranks", some "__init__") P_Ranks_init (spRkInit P w K) := by
  refine mk_def T 15 d_Ranks_init rfl rfl rfl sc_Ranks_init (fun vs H Q E h => h.1) (fun _ _ _ _ _ _ us hl => match us, hl with | [_, _, _], _ => rfl) (fun cdv A outer s H vs Q E hr h => ?_)
  obtain ⟨_, a, dx, vf, vb, f, b, rfl, ha, t1, t2, hf, hb, q⟩ := h
  refine ⟨_, (pss_cons (kps_fld K (pv 0) (pe_dcN P w (hu9 hr) (own := [("word", 3)]) rfl sc_Ranks_init.nd  (kpi_list K (pe_cd (D_words_in T) (hr.mono (by decide)) T.g_words_in pass0 (pa_cons (pv 1) (pa_cons (pv 2) pa_nil)))) (blkOk_by (N := N_Ranks_init) (sc := defScope s_Ranks_init) (by decide +kernel)) (fun _ _ _ _ _ => (pg_name (i := 3) sc_Ranks_init.nd rfl (by first | exact Or.inl rfl | exact Or.inr rfl))) (fun _ _ _ _ _ => pts_nil) (fun _ _ _ _ _ => (pv 3)) (fun _ _ _ _ _ => (pe_cd (D_read_by T) (hr.mono (by decide)) T.g_read_by pass0 (pa_cons (pv 1) (pa_cons (pv 2) (pa_cons (pv 3) pa_nil))))))) (pss_one (kps_fld K (pv 0) (pe_ndnew P w)))), ?_⟩
  refine q_seq (s_fldD (P := P) (w := w) (ks := wds f b) (g := fun x => .list ((rby f b x).map dW)) ?_ (dv_var rfl) ha T.c_Ranks T.n_Ranks_links (by decide) fun l H1 s1 hl hne n1 => ?_)
  · refine dd_dc (wds f b) _ (wds_nodup f b) (by have := wds_le hf hb; omega) (src_lst (dn_call (by walk_at "dn") (by rfl) ⟨f, b, rfl, hf, hb, rfl⟩)) fun x hx y H1 s1 tx => ?_
    have t1 := t1.s s1
    have t2 := t2.s s1
    refine ⟨_, sto_name, rfl, by walk_at "dn", dn_call (by walk_at "dn") (by rfl) ⟨f, b, x, rfl, hf, ?_, rfl⟩⟩
    have h1 := (mem_pts.mp (mem_wds.mp hx).2).1
    have := hb.len
    omega
  · refine s_fldD (P := P) (w := w) (ks := []) (g := fun x => .list ((rby f b x).map dW)) dd_new (dv_var rfl) upd_same T.c_Ranks T.n_Ranks_ranks (by simp [putF]) fun r H2 s2 hr hne2 n2 => ?_
    have k1 : KX [a] H (upd H1 a (.ins (He.ga K "Ranks") dx (putF "links" (.ref l) []))) := (KX.of s1).mut (List.mem_singleton.mpr rfl)
    have hlr : l ≠ r := fun e => by
      obtain ⟨kvs, n3, _⟩ := n1.ex
      subst e
      exact absurd (hr.symm.trans n3.obj) (by simp)
    have hrn : H r = none := by
      cases h : H r with
      | none => rfl
      | some u =>
        have h5 := k1 r u (by simpa using hne2) h
        exact absurd (hr.symm.trans h5) (by simp)
    refine q l r _ ((k1.trans (KX.of s2)).mut (List.mem_singleton.mpr rfl)) (by rw [upd_same]; rfl) hl hrn hlr ?_ ?_
    · exact (n1.s s2).kd (KD.mut (KD.refl H2) (s2 _ _ upd_same) rfl) (by rw [upd_ne hne])
    · intro g
      exact n2.cong fun _ h => nomatch h
end K32
/-! Nd7 -/
set_option Elab.async false
set_option linter.all false
set_option maxRecDepth 100000
set_option maxHeartbeats 1000000
/-! A dict of new lists. -/
namespace K32
open PySem PySem.Spec PyProof.Rows L2
section
variable {P : Program} {w : World} {K : PySem.W.Frag} {σ : L2.St} {H H' : Hp} {tk : TE}
def DdL (P : Program) (w : World) (te : TE) (σ : L2.St) (H : Hp) (ws : List Wd) : Prop := ∀ H1, Same H H1 → ∀ Q : VK, (∀ (d : Addr) (H2 : Hp) (kvs : Kvs) (la : Wd → Addr), Same H1 H2 → H1 d = none → ND P w H2 d kvs → kvs.map (·.1) = ws → (∀ e ∈ kvs, e.2.2 = .ref (la e.1)) →
  (∀ x ∈ ws, H1 (la x) = none ∧ H2 (la x) = some (.lst []) ∧ la x ≠ d) → (∀ x ∈ ws, ∀ y ∈ ws, la x = la y → x = y) → Q (.ref d) H2) → te σ H1 Q
theorem Same.none {a : Addr} (s : Same H H') (h : H' a = none) : H a = none := by
  cases e : H a with
  | none => rfl
  | some u => rw [s a u e] at h; cases h
theorem ddL_dc {wi : TI} {g : TG} {vs : List Nat} (ws : List Wd) (hn : ws.Nodup) (hz : ws.length ≤ 90000) (hs : Src wi σ H (ws.map dW))
    (turn : ∀ k ∈ ws, ∀ (x : V) (H1 : Hp), Same H H1 → TD H1 x (dW k) → ∃ σ2, Sto g x (wipe σ vs) H1 σ2 ∧ wipe σ2 vs = wipe σ vs ∧ Dn tk σ2 H1 (dW k)) :
    DdL P w (tDcN P w wi g tYes tk (tLst tNil) vs) σ H ws := fun H1 s Q q =>
  hs H1 s _ fun J H2 G Y s2 wk hG hY D hD => by
    have hl : (ws.map dW).length = ws.length := by simp
    rw [hl] at wk
    refine dcN_it wk (fun i H' => Same H2 H' ∧ ∃ (kvs : Kvs) (la : Wd → Addr), ND P w H' D kvs ∧ kvs.map (·.1) = ws.take i ∧ (∀ e ∈ kvs, e.2.2 = .ref (la e.1)) ∧ (∀ x ∈ ws.take i, H1 (la x) = none ∧ H' (la x) = some (.lst []) ∧ la x ≠ D) ∧ ∀ x ∈ ws.take i, ∀ y ∈ ws.take i, la x = la y → x = y)
      ⟨Same.new hD, [], fun _ => 0, ND.nil D, rfl, fun _ h => (nomatch h), fun _ h => (nomatch h), fun _ h => (nomatch h)⟩ (fun i H' _ p => hG H' p.1) ?_ ?_
    · rintro i x Ha Hb hi ⟨p1, kvs, la, p2, p3, p4, p5, p6⟩ y
      obtain ⟨s3, d, e, td⟩ := hY i Ha x Hb (by rw [hl]; exact hi) p1 y
      have hk : ws[i]? = some ws[i] := List.getElem?_eq_getElem hi
      rw [List.getElem?_map, hk] at e
      cases (show some (dW ws[i]) = some d from e)
      generalize ws[i] = k at hk td
      obtain ⟨σ2, st, ew, h1⟩ := turn k (List.mem_of_getElem? hk) x Hb (s.trans (s2.trans (p1.trans s3))) td
      refine st _ ⟨ew, ?_⟩
      show tk σ2 Hb _
      have hni : ¬ k ∈ ws.take i := fun hm => by
        obtain ⟨j, hj⟩ := List.getElem?_of_mem hm
        rw [List.getElem?_take] at hj
        split at hj
        · rename_i hlt
          obtain ⟨hj1, hj2⟩ := List.getElem?_eq_some_iff.mp hj
          obtain ⟨hk1, hk2⟩ := List.getElem?_eq_some_iff.mp hk
          exact List.pairwise_iff_getElem.mp hn j i hj1 hk1 hlt (hj2.trans hk2.symm)
        · cases hj
      refine h1.go fun y H3 s4 t3 => ⟨Nat.zero_le _, fun p hp => ?_⟩
      have p2' := (p2.s (s3.trans s4)).s (Same.new (o := HO.lst []) hp)
      obtain ⟨b, xs, rfl, _, _⟩ := TD.t t3
      have hkl : kvs.length = min i ws.length := by
        have := congrArg List.length p3
        rwa [List.length_map, List.length_take] at this
      have hpD : p ≠ D := fun e => by
        have := s4 _ _ (s3 _ _ p2.obj)
        rw [← e, hp] at this; cases this
      refine ⟨D, kvs, k, rfl, p2', t3.s (Same.new hp), szl (by omega), fun b' eb => ?_⟩
      cases eb
      have hkv : ¬ k ∈ kvs.map (·.1) := by rw [p3]; exact hni
      have e1 : ws.take (i + 1) = ws.take i ++ [k] := by rw [List.take_add_one, hk]; rfl
      have sm : Same H2 (upd H3 p (.lst [])) := (p1.trans (s3.trans s4)).trans (Same.new hp)
      refine ⟨Same.mut sm hD, putW kvs k b (.ref p), fun y => if y = k then p else la y, p2'.put _ (t3.s (Same.new hp)), ?_, ?_, ?_, ?_⟩
      · rw [putW_new _ _ hkv, List.map_append, p3, e1]; rfl
      · rw [putW_new _ _ hkv]
        intro e he
        rcases List.mem_append.mp he with he | he
        · have ne : ¬ e.1 = k := fun z => hkv (by rw [← z]; exact List.mem_map_of_mem (f := (·.1)) he)
          show e.2.2 = V.ref (if e.1 = k then p else la e.1)
          rw [if_neg ne]; exact p4 e he
        · rw [List.mem_singleton.mp he]
          show V.ref p = V.ref (if k = k then p else la k)
          rw [if_pos rfl]
      · rw [e1]
        intro x hx
        rcases List.mem_append.mp hx with hx | hx
        · have ne : ¬ x = k := fun z => hni (z ▸ hx)
          obtain ⟨a1, a2, a3⟩ := p5 x hx
          simp only [if_neg ne]
          refine ⟨a1, ?_, a3⟩
          rw [upd_ne a3]
          exact Same.new hp _ _ (s4 _ _ (s3 _ _ a2))
        · have e := List.mem_singleton.mp hx
          subst e
          simp only [if_pos]
          refine ⟨Same.none (s2.trans (p1.trans (s3.trans s4))) hp, ?_, hpD⟩
          rw [upd_ne hpD, upd_same]
      · rw [e1]
        have old : ∀ x ∈ ws.take i, la x ≠ p := fun x hx e => by
          have := s4 _ _ (s3 _ _ (p5 x hx).2.1)
          rw [e, hp] at this; cases this
        intro x hx y hy e
        rcases List.mem_append.mp hx with hx1 | hx1 <;> rcases List.mem_append.mp hy with hy1 | hy1
        · have nx : ¬ x = k := fun z => hni (z ▸ hx1)
          have ny : ¬ y = k := fun z => hni (z ▸ hy1)
          simp only [if_neg nx, if_neg ny] at e
          exact p6 x hx1 y hy1 e
        · have nx : ¬ x = k := fun z => hni (z ▸ hx1)
          have ey := List.mem_singleton.mp hy1
          subst ey
          simp only [if_neg nx, if_pos] at e
          exact absurd e (old x hx1)
        · have ny : ¬ y = k := fun z => hni (z ▸ hy1)
          have ex := List.mem_singleton.mp hx1
          subst ex
          simp only [if_neg ny, if_pos] at e
          exact absurd e.symm (old y hy1)
        · rw [List.mem_singleton.mp hx1, List.mem_singleton.mp hy1]
    · rintro H' ⟨p1, kvs, la, p2, p3, p4, p5, p6⟩
      rw [List.take_length] at p3 p5 p6
      exact q D H' kvs la (s2.trans p1) (Same.none s2 hD) p2 p3 p4 p5 p6
end
end K32
/-! R2 -/
set_option Elab.async false
set_option linter.all false
set_option maxRecDepth 100000
set_option maxHeartbeats 400000
namespace K32
open PySem PySem.Spec PyProof.Rows L2
local macro_rules | `(tactic| walk_at "dn") => `(tactic| first
  | with_reducible exact dn_int | with_reducible exact dn_str | with_reducible exact dn_bl | with_reducible exact dn_non | with_reducible exact da_nil | with_reducible exact do_none
  | ((with_reducible refine' dn_var ?h ?k); (case h => rfl); (case k => assumption))
  | ((with_reducible refine' da_cons ?_ ?_) <;> try walk_at "dn")
  | ((with_reducible refine' dn_add ?_ ?_) <;> try walk_at "dn")
  | ((with_reducible refine' dn_sub ?_ ?_) <;> try walk_at "dn")
  | ((with_reducible refine' dn_mul ?_ ?_ ?_) <;> try walk_at "dn")
  | ((with_reducible refine' dn_lt ?_ ?_) <;> try walk_at "dn")
  | ((with_reducible refine' dn_le ?_ ?_) <;> try walk_at "dn")
  | ((with_reducible refine' dn_gt ?_ ?_) <;> try walk_at "dn")
  | ((with_reducible refine' dn_ge ?_ ?_) <;> try walk_at "dn")
  | ((with_reducible refine' dn_neg ?_) <;> try walk_at "dn")
  | ((with_reducible refine' dn_chain ?_ ?_ ?_ rd_le rd_le) <;> try walk_at "dn")
  | ((with_reducible refine' dn_chain ?_ ?_ ?_ rd_le rd_lt) <;> try walk_at "dn")
  | ((with_reducible refine' dn_isI ?h ?k); (case h => walk_at "dn"); (case k => first | with_reducible exact kb_int_int | with_reducible exact kb_int_tuple | with_reducible exact kb_int_str | with_reducible exact kb_int_bool))
  | ((with_reducible refine' dn_isT ?h ?k); (case h => walk_at "dn"); (case k => first | with_reducible exact kb_tuple_int | with_reducible exact kb_tuple_tuple | with_reducible exact kb_tuple_str | with_reducible exact kb_tuple_bool))
  | ((with_reducible refine' dn_isS ?h ?k); (case h => walk_at "dn"); (case k => first | with_reducible exact kb_str_int | with_reducible exact kb_str_tuple | with_reducible exact kb_str_str | with_reducible exact kb_str_bool))
  | ((with_reducible refine' dn_isL ?h ?k); (case h => walk_at "dn"); (case k => first | with_reducible exact kb_list_int | with_reducible exact kb_list_tuple | with_reducible exact kb_list_str | with_reducible exact kb_list_bool))
  | ((with_reducible refine' dn_isB ?h ?k); (case h => walk_at "dn"); (case k => first | with_reducible exact kb_bool_int | with_reducible exact kb_bool_tuple | with_reducible exact kb_bool_str | with_reducible exact kb_bool_bool))
  | ((with_reducible refine' dn_ixT ?h ?t ?k); (case h => walk_at "dn"); (case t => walk_at "dn"); try (case k => rfl))
  | ((with_reducible refine' dn_ixL ?h ?t ?k); (case h => walk_at "dn"); (case t => walk_at "dn"); try (case k => rfl))
  | ((with_reducible refine' dn_cb ?h ?k); (case h => walk_at "dn"); try (case k => first | exact rd_lenT | exact rd_lenL | exact rd_tupL | exact rd_lstT | exact rd_lstL | exact rc_all | exact rc_sum | exact rc_max2 | exact rc_min2))
  | ((with_reducible refine' dn_call ?h ?t ?k); (case h => walk_at "dn"); (case t => rfl))
  | ((with_reducible refine' dt_test ?_) <;> try walk_at "dn")
  | ((with_reducible refine' dt_B ?_) <;> try walk_at "dn")
  | ((with_reducible refine' dn_eqI ?h ?k); (case h => walk_at "dn"); (case k => walk_at "dn"))
  | ((with_reducible refine' dn_neI ?h ?k); (case h => walk_at "dn"); (case k => walk_at "dn"))
  | ((with_reducible refine' dn_eqS ?h ?k); (case h => walk_at "dn"); (case k => walk_at "dn"))
  | ((with_reducible refine' dn_neS ?h ?k); (case h => walk_at "dn"); (case k => walk_at "dn"))
  | ((with_reducible refine' dt_or ?_ (fun _ => ?_)) <;> try walk_at "dn")
  | ((with_reducible refine' dt_and ?_ (fun _ => ?_)) <;> try walk_at "dn")
  | ((with_reducible refine' dn_orV ?_ (fun _ => ?_)) <;> try walk_at "dn")
  | ((with_reducible refine' dn_andV ?_ (fun _ => ?_)) <;> try walk_at "dn")
  | ((with_reducible refine' dt_not ?_) <;> try walk_at "dn")
  | ((with_reducible refine' dn_notV ?_) <;> try walk_at "dn")
  | ((with_reducible refine' da_star ?_ ?_) <;> try walk_at "dn")
  | ((with_reducible refine' dn_tup ?_ ?_) <;> try walk_at "dn")
  | ((with_reducible refine' dn_lst ?_ ?_) <;> try walk_at "dn")
  | ((with_reducible refine' do_some ?_) <;> try walk_at "dn"))
variable {P : Program} {w : World} {K : PySem.W.Frag} {mg : Str → Option Value} {base : Heap}
def rkO (K : PySem.W.Frag) (dx l r : Addr) : HO := .ins (He.ga K "Ranks") dx [("links", .ref l), ("ranks", .ref r)]
def gLk (lk : Lk) : Wd → Dt := fun x => .list ((lk x).map dW)
def spReaders (P : Program) (w : World) (K : PySem.W.Frag) : Sp := fun vs H Q _ => vs.length = 1 ∧ ∃ (a dx l r : Addr) (ks : List Wd) (lk : Lk), vs = [.ref a] ∧ H a = some (rkO K dx l r) ∧ NDf P w H l ks (gLk lk) ∧ ks.Nodup ∧ (∀ w ∈ ks, ∀ u ∈ lk w, u ∈ ks) ∧ ks.length ≤ 1440 ∧ (∀ x ∈ ks, (lk x).length ≤ 18) ∧
  ∀ (d : Addr) (H' : Hp), Same H H' → H d = none → NDf P w H' d ks (gLk (rdr ks lk)) → Q (.ref d) H'
theorem occ_len (x y : Wd) (l : List Wd) : (occ x y l).length ≤ l.length := by
  unfold occ
  rw [List.length_map]
  exact List.length_filter_le ..
theorem rdr_len {ks : List Wd} {lk : Lk} (y : Wd) (h : ∀ x ∈ ks, (lk x).length ≤ 18) : (ks.flatMap fun x => occ x y (lk x)).length ≤ 18 * ks.length := by
  induction ks with
  | nil => simp
  | cons a l ih =>
    have h1 := ih fun x hx => h x (List.mem_cons_of_mem _ hx)
    have h2 := occ_len a y (lk a)
    have h3 := h a (List.mem_cons_self ..)
    rw [List.flatMap_cons, List.length_append, List.length_cons]
    omega
theorem occ_snoc (x y u : Wd) (l : List Wd) : occ x y (l ++ [u]) = occ x y l ++ if u = y then [x] else [] := by
  unfold occ
  rw [List.filter_append, List.map_append]
  congr 1
  by_cases h : u = y <;> simp [h]
abbrev N_Ranks_readers : List Str := ["self", "found", "word", "other"]
abbrev P_Ranks_readers : List Str := ["self"]
theorem sc_Ranks_readers : FnScope N_Ranks_readers P_Ranks_readers (defScope s_Ranks_readers) := ⟨rfl, rfl, rfl, by decide +kernel, rfl, by decide +kernel, by decide +kernel⟩
theorem D_Ranks_readers (T : Tx K mg) : DefP P w K mg base CX0 1 ("Ranks", some "readers") P_Ranks_readers (spReaders P w K) := by
  refine mk_def T 16 d_Ranks_readers rfl rfl rfl sc_Ranks_readers (fun vs H Q E h => h.1) (fun _ _ _ _ _ _ us hl => match us, hl with | [_], _ => rfl) (fun cdv A outer s H vs Q E hr h => ?_)
  obtain ⟨_, a, dx, l, r, ks, lk, rfl, ha, nl, hnd, hcl, hks, h18, q⟩ := h
  obtain ⟨kvs, n1, nk1, nt1⟩ := nl.ex
  have nkl : kvs.length = ks.length := by rw [← nk1, List.length_map]
  have hal : a ≠ l := fun e => by rw [e, n1.obj] at ha; cases ha
  refine ⟨_, (pss_cons (ps_lock (ps_setDcN P w (hu9 hr) (i := 1) (own := [("word", 2)]) rfl sc_Ranks_readers.nd rfl rfl (sw_trueD rfl rfl rfl (by decide +kernel)) (pi_ndkeys P w (kpe_fld K (pv 0))) (blkOk_by (N := N_Ranks_readers) (sc := defScope s_Ranks_readers) (by decide +kernel)) (fun _ _ _ _ _ => (pg_name (i := 2) sc_Ranks_readers.nd rfl (by first | exact Or.inl rfl | exact Or.inr rfl))) (fun _ _ _ _ _ => pts_nil) (fun _ _ _ _ _ => (pv 2)) (fun _ _ _ _ _ => (pe_lst pa_nil)))) (pss_cons (ps_lock (ps_for PassesOwn.never rfl (pi_ndkeys P w (kpe_fld K (pv 0))) (pg_name (i := 2) sc_Ranks_readers.nd rfl (by first | exact Or.inl rfl | exact Or.inr rfl)) (pss_one (ps_for PassesOwn.never rfl (kpi_list K (pe_ndget P w (hu9 hr) (kpe_fld K (pv 0)) (pv 2))) (pg_name (i := 3) sc_Ranks_readers.nd rfl (by first | exact Or.inl rfl | exact Or.inr rfl)) (pss_one (ps_expr (pe_bm PySem.F.plainAttrs_list PySem.F.slot_list_append PySem.F.type_list_append mt_append (pe_ndget P w (hu9 hr) (pv 1) (pv 3)) (pa_cons (pv 2) pa_nil)))))))) (pss_one (ps_ret (pv 1))))), ?_⟩
  refine ⟨l, _, n1.obj, True.intro, fun od => ?_⟩
  -- the dict of new lists
  have hD : DdL P w (tDcN P w (iNdKeys P w (tFld K (tVar 0) "links")) (gName 2) tYes (tVar 2) (tLst tNil) [2]) (L2.start N_Ranks_readers [.ref a]) (upd H l (.frz od (ndO P w l kvs))) ks := by
    refine ddL_dc ks hnd (by omega) ?_ fun k hk x H1 s1 tx => ?_
    · have h1 := src_ndkeys (P := P) (w := w) (td := tFld K (tVar 0) "links") (σ := L2.start N_Ranks_readers [.ref a]) (H := upd H l (.frz od (ndO P w l kvs))) (a := l) (kvs := kvs) (od := od) (dv_fld (dv_var rfl) (lock_ne ha hal) T.c_Ranks T.n_Ranks_links rfl) upd_same (lock_r n1).keys
      have e : (kvs.map fun e => dW e.1) = ks.map dW := by rw [← nk1, List.map_map]; rfl
      rw [e] at h1
      exact h1
    · exact ⟨_, sto_name, rfl, by walk_at "dn"⟩
  refine hD _ (Same.refl _) _ fun d H2 kvF la s2 hd nF kF vF lF iF => ?_
  obtain ⟨e2, s3⟩ := lock_back n1.obj s2
  refine ⟨e2, ?_⟩
  have hdl : d ≠ l := fun e => by rw [e, upd_same] at hd; cases hd
  have hdH : H d = none := by rw [upd_ne hdl] at hd; exact hd
  have hla : ∀ x ∈ ks, la x ≠ l ∧ H (la x) = none := fun x hx => by
    obtain ⟨h1, _, _⟩ := lF x hx
    have h2 : la x ≠ l := fun e => by rw [e, upd_same] at h1; cases h1
    rw [upd_ne h2] at h1
    exact ⟨h2, h1⟩
  -- the loop
  let part : Nat → List Wd → Wd → Wd → List Wd := fun i us y x => (ks.take i).flatMap (fun v => occ v x (lk v)) ++ occ y x us
  let RI : Obj → (Wd → List Wd) → Hp → Prop := fun od pt H' => H' l = some (.frz od (ndO P w l kvs)) ∧ (∀ b u, b ≠ l → (∀ x ∈ ks, b ≠ la x) → H2 b = some u → H' b = some u) ∧ ∀ x ∈ ks, ∃ us, H' (la x) = some (.lst us) ∧ TDs H' us ((pt x).map dW)
  have kt : ∀ od pt H', RI od pt H' → KT H2 H' := fun od pt H' p b xs hb => p.2.1 b _ (fun e => by rw [e, e2] at hb; cases hb) (fun x hx e => by rw [e, (lF x hx).2.1] at hb; cases hb) hb
  refine q_seq (s_forN (kvs := kvs) (a := l) (n1.s s3) (fun od => dv_fld (dv_var rfl) (lock_ne (s3 _ _ ha) hal) T.c_Ranks T.n_Ranks_links rfl) (fun od i σ' H' => (∃ o2 o3, σ' = [some (.ref a), some (.ref d), o2, o3]) ∧ RI od (fun x => (ks.take i).flatMap (fun v => occ v x (lk v))) H') (fun od i σ' H' p => p.2.1) ?_ ?_ ?_)
  · intro od
    refine ⟨⟨none, none, rfl⟩, upd_same, fun b u hb _ h => by rw [upd_ne hb, upd_ne hb]; exact h, fun x hx => ⟨[], ?_, .nil⟩⟩
    rw [upd_ne (hla x hx).1, upd_ne (hla x hx).1]
    exact (lF x hx).2.1
  · rintro od i e σ' H' he ⟨⟨o2, o3, rfl⟩, p⟩
    have hi : ks[i]? = some e.1 := by rw [← nk1, List.getElem?_map, he]; rfl
    have hmem : e.1 ∈ ks := List.mem_of_getElem? hi
    refine ⟨_, sto_name, fun Db Dr Dc => ?_⟩
    -- the word's links, a list that stays
    obtain ⟨pw, xs, epw, hpw, txs⟩ := TD.l (nt1 e (List.mem_of_getElem? he))
    have hpl : pw ≠ l := fun z => by rw [z, n1.obj] at hpw; cases hpw
    have hpa : ∀ x ∈ ks, pw ≠ la x := fun x hx z => by rw [z, (hla x hx).2] at hpw; cases hpw
    have hp2 : H2 pw = some (.lst xs) := by
      have := s3 _ _ hpw
      rwa [upd_ne hpl] at this
    have tx2 : TDs H2 xs ((lk e.1).map dW) := (txs.kd (lock_kd n1.obj)).s s2
    have hke : ∀ pt H', RI od pt H' → H' pw = some (.lst xs) := fun pt H' p => p.2.1 pw _ hpl hpa hp2
    have hre : ∀ pt H', RI od pt H' → NDr P w H' l kvs := fun pt H' p => ⟨.inr ⟨od, p.1⟩, fun y hy => ((((n1.keys y hy).kd (lock_kd n1.obj)).s s2).k (kt od pt H' p) (flat_dW _))⟩
    have hkey : ∀ pt H', RI od pt H' → TD H' (.ref e.2.1) (dW e.1) := fun pt H' p => (hre pt H' p).keys e (List.mem_of_getElem? he)
    have haa : ∀ pt H', RI od pt H' → H' a = some (rkO K dx l r) := fun pt H' p => p.2.1 a _ hal (fun x hx z => by rw [z, (hla x hx).2] at ha; cases ha) (by have := s3 _ _ ha; rwa [upd_ne hal] at this)
    have hF : ∀ pt H', RI od pt H' → ND P w H' d kvF := fun pt H' p => nF.k (kt od pt H' p) (by rw [p.2.1 d _ hdl (fun x hx z => (lF x hx).2.2 z.symm) nF.obj, nF.obj])
    have hv : valW kvs e.1 = some e.2.2 := by
      have hs : (valW kvs e.1).isSome = true := valW_mem.mpr (by rw [nk1]; exact hmem)
      obtain ⟨v, hv⟩ := Option.isSome_iff_exists.mp hs
      obtain ⟨y, hy, h1, h2⟩ := valW_at hv
      have hnk : (kvs.map (·.1)).Nodup := by rw [nk1]; exact hnd
      have : y = e := by
        obtain ⟨j, hj⟩ := List.getElem?_of_mem hy
        obtain ⟨j1, j2⟩ := List.getElem?_eq_some_iff.mp hj
        obtain ⟨i1, i2⟩ := List.getElem?_eq_some_iff.mp he
        have hij : j = i := by
          rcases Nat.lt_trichotomy j i with h | h | h
          · refine absurd ?_ (List.pairwise_iff_getElem.mp hnk j i (by simpa using j1) (by simpa using i1) h)
            simp [j2, i2, h1]
          · exact h
          · refine absurd ?_ (List.pairwise_iff_getElem.mp hnk i j (by simpa using i1) (by simpa using j1) h)
            simp [j2, i2, h1]
        subst hij
        exact j2.symm.trans i2
      rw [hv, ← h2, this]
    refine s_forL (p := pw) (xs := xs) ?_ (hke _ _ p) (fun j σ'' H'' => (∃ o3, σ'' = [some (.ref a), some (.ref d), some (.ref e.2.1), o3]) ∧ RI od (part i ((lk e.1).take j) e.1) H'') (fun j σ'' H'' p => hke _ _ p.2) ⟨⟨o3, rfl⟩, ?_⟩ ?_ ?_
    · intro H1 s1 Q1 q1
      exact dv_fld (dv_var rfl) (haa _ _ p) T.c_Ranks T.n_Ranks_links rfl H1 s1 _ ⟨.ref e.2.1, rfl, l, kvs, e.1, .ref pw, rfl, (hre _ _ p).s s1, (hkey _ _ p).s s1, by rw [hv, epw], q1⟩
    · have ep : part i ((lk e.1).take 0) e.1 = fun x => (ks.take i).flatMap (fun v => occ v x (lk v)) := by
        funext x
        show _ ++ occ e.1 x [] = _
        simp [occ]
      rw [ep]; exact p
    · rintro j x σ'' H'' hx ⟨⟨o3, rfl⟩, p⟩
      obtain ⟨du, hdu, tx⟩ := tx2.at hx
      rw [List.getElem?_map] at hdu
      obtain ⟨u, hu, rfl⟩ := Option.map_eq_some_iff.mp hdu
      have tx : TD H'' x (dW u) := tx.k (kt _ _ _ p) (flat_dW _)
      have huk : u ∈ ks := hcl e.1 hmem u (List.mem_of_getElem? hu)
      refine ⟨_, sto_name, ?_⟩
      obtain ⟨us, hus, tus⟩ := p.2.2 u huk
      have hvF : valW kvF u = some (.ref (la u)) := by
        have hs : (valW kvF u).isSome = true := valW_mem.mpr (by rw [kF]; exact huk)
        obtain ⟨v, hv⟩ := Option.isSome_iff_exists.mp hs
        obtain ⟨y, hy, h1, h2⟩ := valW_at hv
        rw [hv, ← h2, vF y hy, h1]
      have hsz : us.length < 100000 := by
        rw [tus.len, List.length_map]
        show ((ks.take i).flatMap (fun v => occ v u (lk v)) ++ occ e.1 u ((lk e.1).take j)).length < 100000
        have h1 := rdr_len (ks := ks.take i) u (fun x hx => h18 x (List.mem_of_mem_take hx))
        have h2 := occ_len e.1 u ((lk e.1).take j)
        have h3 := h18 e.1 hmem
        rw [List.length_take] at h1 h2
        rw [List.length_append]
        omega
      refine s_appE (d := dW e.1) (l := la u) (xs := us) ?_ hus (dn_var rfl (hkey _ _ p)) hsz fun v H3 s3' t3 => ⟨⟨_, rfl⟩, ?_⟩
      · intro H1 s1 Q1 q1
        exact ⟨.ref d, rfl, x, rfl, d, kvF, u, .ref (la u), rfl, ((hF _ _ p).s s1).r, tx.s s1, hvF, q1⟩
      · have hla' := (hla u huk).1
        have kt3 : KT H3 (upd H3 (la u) (.lst (us ++ [v]))) := KT.mut (s3' _ _ hus) (fun _ z => nomatch z)
        refine ⟨by rw [upd_ne hla'.symm]; exact s3' _ _ p.1, fun b o hb hb2 h => ?_, fun x' hx' => ?_⟩
        · rw [upd_ne (hb2 u huk)]
          exact s3' _ _ (p.2.1 b o hb hb2 h)
        · have e1 : part i ((lk e.1).take (j + 1)) e.1 x' = part i ((lk e.1).take j) e.1 x' ++ if u = x' then [e.1] else [] := by
            show _ ++ occ e.1 x' ((lk e.1).take (j + 1)) = _ ++ occ e.1 x' ((lk e.1).take j) ++ _
            rw [take_snoc hu, occ_snoc, List.append_assoc]
          rw [e1]
          by_cases ex : u = x'
          · subst ex
            rw [if_pos rfl, List.map_append]
            exact ⟨us ++ [v], upd_same, ((tus.s s3').k kt3 (flats_map flat_dW _)).snoc (t3.k kt3 (flat_dW _))⟩
          · rw [if_neg ex, List.append_nil]
            obtain ⟨us', h1, h2⟩ := p.2.2 x' hx'
            have ne : la x' ≠ la u := fun z => ex (iF x' hx' u huk z).symm
            exact ⟨us', by rw [upd_ne ne]; exact s3' _ _ h1, (h2.s s3').k kt3 (flats_map flat_dW _)⟩
    · rintro σ'' H'' ⟨⟨o3, rfl⟩, p⟩
      refine ⟨⟨_, _, rfl⟩, ?_⟩
      have hlen : xs.length = (lk e.1).length := by rw [tx2.len, List.length_map]
      have ep : part i ((lk e.1).take xs.length) e.1 = fun x => (ks.take (i + 1)).flatMap (fun v => occ v x (lk v)) := by
        funext x
        show _ ++ occ e.1 x ((lk e.1).take xs.length) = _
        rw [hlen, List.take_length, take_snoc hi, List.flatMap_append]
        simp
      rw [ep] at p
      exact p
  · rintro od σ' H' ⟨⟨o2, o3, rfl⟩, p⟩
    rw [nkl, List.take_length] at p
    have kd' : ∀ pt H', RI od pt H' → KT H2 H' := fun pt H' => kt od pt H'
    have k1 : KD H' (upd H' l (ndO P w l kvs)) := KD.mut (KD.refl H') p.1 rfl
    have sH : Same H (upd H' l (ndO P w l kvs)) := fun b u hb => by
      by_cases e : b = l
      · subst e
        rw [upd_same, ← hb, n1.obj]
      · rw [upd_ne e]
        refine p.2.1 b u e (fun x hx z => by rw [z, (hla x hx).2] at hb; cases hb) ?_
        have := s3 _ _ hb
        rwa [upd_ne e] at this
    refine ⟨.ref d, rfl, q d _ sH hdH ⟨kvF, ?_, kF, fun y hy => ?_⟩⟩
    · have h1 := p.2.1 d _ hdl (fun x hx z => (lF x hx).2.2 z.symm) nF.obj
      exact (nF.k (kt od _ H' p) (by rw [h1, nF.obj])).k k1.kt (by rw [upd_ne hdl])
    · have hy1 : y.1 ∈ ks := by rw [← kF]; exact List.mem_map_of_mem (f := (·.1)) hy
      obtain ⟨us, h1, h2⟩ := p.2.2 y.1 hy1
      rw [vF y hy]
      exact (TD.lst h1 h2).kd k1
end K32
/-! Nd8 -/
set_option Elab.async false
set_option linter.all false
set_option maxRecDepth 100000
set_option maxHeartbeats 1000000
/-! New lists by a comprehension, their address told fresh. -/
namespace K32
open PySem PySem.Spec PyProof.Rows L2
section
variable {P : Program} {w : World} {K : PySem.W.Frag} {σ : L2.St} {H H' : Hp} {ta tb te tx : TE} {t u : TT} {d e z : Dt} {v : V} {ds es : List Dt} {D : Ends} {tz : TS}
/-- gives a new list -/
def DnN (te : TE) (σ : L2.St) (H : Hp) (ds : List Dt) : Prop := ∀ H1, Same H H1 → ∀ Q : VK, (∀ p H2, Same H1 H2 → H1 p = none → TD H2 (.ref p) (.list ds) → Q (.ref p) H2) → te σ H1 Q
theorem DnN.dn (h : DnN te σ H ds) : Dn te σ H (.list ds) := fun H1 s Q q => h H1 s Q fun p H2 s2 _ t2 => q _ H2 s2 t2
theorem DnN.is {ds' : List Dt} (h : DnN te σ H ds) (e : ds = ds') : DnN te σ H ds' := e ▸ h
theorem dnN_lc0 {wi : TI} {g : TG} {tt : TT} {vs : List Nat} (f : Nat → Option Dt) (hs : Src wi σ H ds) (hz : ds.length ≤ 100000) (hfl : ∀ i y, i < ds.length → f i = some y → flat y = true)
    (turn : ∀ (i : Nat) (d : Dt) (x : V) (H1 : Hp), Same H H1 → ds[i]? = some d → TD H1 x d → ∃ σ2, Sto g x (wipe σ vs) H1 σ2 ∧ wipe σ2 vs = wipe σ vs ∧
      DnT tt σ2 H1 (f i).isSome ∧ ∀ y, f i = some y → Dn te σ2 H1 y) : DnN (tLc wi g tt te vs) σ H ((List.range ds.length).filterMap f) := fun H1 s Q q =>
  hs H1 s _ fun J H2 G Y s2 wk hG hY D hD => by
    have gl : ∀ i, i ≤ ds.length → ((List.range i).filterMap f).length ≤ i := fun i _ => by
      have := List.length_filterMap_le f (List.range i)
      rwa [List.length_range] at this
    refine lc_it wk (fun i H' => Same H2 H' ∧ H2 D = none ∧ ∃ xs, H' D = some (.lst xs) ∧ TDs H' xs ((List.range i).filterMap f)) ⟨Same.new hD, hD, [], upd_same, .nil⟩ (fun i H' _ p => hG H' p.1) ?_ ?_
    · rintro i x Ha Hb hi ⟨p1, p2, xs, p3, p4⟩ y
      obtain ⟨s3, d, e, td⟩ := hY i Ha x Hb hi p1 y
      obtain ⟨σ2, st, ew, ht, he⟩ := turn i d x Hb (s.trans (s2.trans (p1.trans s3))) e td
      refine st _ ⟨ew, ht.go fun H3 s4 => ?_⟩
      cases hf : f i with
      | none =>
        show _ ∧ _
        refine ⟨(p1.trans s3).trans s4, p2, xs, s4 _ _ (s3 _ _ p3), ?_⟩
        rw [filterMap_succ (α := Nat), hf]
        simpa using p4.s (s3.trans s4)
      | some r =>
        show te σ2 H3 _
        refine he r hf H3 s4 _ fun v H4 s5 tv => ⟨xs, s5 _ _ (s4 _ _ (s3 _ _ p3)), szl ?_, ?_⟩
        · have := gl i (Nat.le_of_lt hi)
          rw [p4.len]
          omega
        · have sm : Same H2 H4 := ((p1.trans s3).trans s4).trans s5
          refine ⟨Same.mut sm p2, p2, xs ++ [v], upd_same, ?_⟩
          rw [filterMap_succ (α := Nat), hf]
          have kt : KT H4 (upd H4 D (.lst (xs ++ [v]))) := KT.mut (s5 _ _ (s4 _ _ (s3 _ _ p3))) (fun _ z => nomatch z)
          have fl : flats ((List.range i).filterMap f) = true := flats_of fun d hd => by
            obtain ⟨j, hj, e⟩ := List.mem_filterMap.mp hd
            exact hfl j d (Nat.lt_trans (List.mem_range.mp hj) hi) e
          exact ((p4.s (s3.trans (s4.trans s5))).k kt fl).snoc (tv.k kt (hfl i r hi hf))
    · rintro H' ⟨p1, p2, xs, p3, p4⟩
      exact q D H' (s2.trans p1) (Same.none s2 hD) (.lst p3 p4)
theorem dnN_lcF {α : Type} {wi : TI} {g : TG} {tt : TT} {vs : List Nat} (enc : α → Dt) (xs : List α) (p : α → Bool) (f : α → Dt) (hs : Src wi σ H (xs.map enc)) (hz : xs.length ≤ 100000) (hfl : ∀ a ∈ xs, flat (f a) = true)
    (turn : ∀ a ∈ xs, ∀ (x : V) (H1 : Hp), Same H H1 → TD H1 x (enc a) → ∃ σ2, Sto g x (wipe σ vs) H1 σ2 ∧ wipe σ2 vs = wipe σ vs ∧ DnT tt σ2 H1 (p a) ∧ (p a = true → Dn te σ2 H1 (f a))) :
    DnN (tLc wi g tt te vs) σ H ((xs.filter p).map f) := by
  have e : ((List.range (xs.map enc).length).filterMap fun i => (xs[i]?).bind fun a => if p a then some (f a) else none) = (xs.filter p).map f := by
    have key : ∀ (l : List α), (List.range l.length).filterMap (fun i => (l[i]?).bind fun a => if p a then some (f a) else none) = (l.filter p).map f := by
      intro l
      induction l with
      | nil => rfl
      | cons a l ih =>
        rw [List.length_cons, List.range_succ_eq_map, List.filterMap_cons, List.filterMap_map]
        have e2 : (fun i => ((a :: l)[i]?).bind fun a => if p a then some (f a) else none) ∘ Nat.succ = fun i => (l[i]?).bind fun a => if p a then some (f a) else none := by
          funext i
          simp
        rw [e2, ih]
        cases hp : p a <;> simp [hp]
    rw [List.length_map]
    exact key xs
  rw [← e]
  refine dnN_lc0 _ hs (by rw [List.length_map]; exact hz) (fun i y hi h => ?_) fun i d x H1 s hd td => ?_
  · obtain ⟨a, ha, h2⟩ := Option.bind_eq_some_iff.mp h
    have hm : a ∈ xs := List.mem_of_getElem? ha
    split at h2
    · cases h2; exact hfl a hm
    · cases h2
  · rw [List.getElem?_map] at hd
    obtain ⟨a, ha, rfl⟩ := Option.map_eq_some_iff.mp hd
    obtain ⟨σ2, h1, h2, h3, h4⟩ := turn a (List.mem_of_getElem? ha) x H1 s td
    refine ⟨σ2, h1, h2, h3.is ?_, fun y hy => ?_⟩
    · rw [ha]
      cases hp : p a <;> simp [hp]
    · rw [ha] at hy
      cases hp : p a with
      | true =>
        have e3 : f a = y := by simpa [hp] using hy
        rw [← e3]
        exact h4 hp
      | false => simp [hp] at hy
variable {a : Addr}
theorem q_locksetN {kvs : Kvs} {i : Nat} (h : H a = some (ndO P w a kvs)) (ht : ∀ od, DnN te σ (upd H a (.frz od (ndO P w a kvs))) ds) (k : ∀ p H2, Same H H2 → H p = none → TD H2 (.ref p) (.list ds) → tz D (σ.set i (some (.ref p))) H2) : tSeq (tLock (tAsg te (gName i))) tz D σ H :=
  ⟨a, _, h, True.intro, fun od => (ht od) _ (Same.refl _) _ fun p H2 s2 hn t2 => by
    obtain ⟨e1, s3⟩ := lock_back h s2
    have hne : p ≠ a := fun e => by rw [e, upd_same] at hn; cases hn
    rw [upd_ne hne] at hn
    exact ⟨e1, k p _ s3 hn (t2.kd (KD.mut (KD.refl H2) e1 rfl))⟩⟩
/-- x = [..], told fresh -/
theorem q_setLst {i : Nat} {ta : TA} (h : DnA ta σ H ds) (hl : ds.length ≤ 100000) (k : ∀ p H2, Same H H2 → H p = none → TD H2 (.ref p) (.list ds) → tz D (σ.set i (some (.ref p))) H2) : tSeq (tAsg (tLst ta) (gName i)) tz D σ H :=
  h.go fun vs H2 s2 t2 => ⟨by rw [t2.len]; exact sz hl, fun p hp => k p _ (s2.trans (Same.new hp)) (Same.none s2 hp) (.lst upd_same (t2.s (Same.new hp)))⟩
theorem TDs.unsnoc : ∀ {us : List V} {ds : List Dt} {d : Dt}, TDs H us (ds ++ [d]) → ∃ us' v, us = us' ++ [v] ∧ TDs H us' ds ∧ TD H v d
  | us, [], d, h => by
    obtain ⟨v, rfl, t⟩ := TDs.one h
    exact ⟨[], v, rfl, .nil, t⟩
  | us, e :: ds, d, h => by
    cases h with
    | cons h1 h2 =>
      obtain ⟨us', v, rfl, t1, t2⟩ := TDs.unsnoc h2
      exact ⟨_ :: us', v, rfl, .cons h1 t1, t2⟩
end
theorem nodup_len {α : Type} [BEq α] [LawfulBEq α] : ∀ {l m : List α}, l.Nodup → (∀ x ∈ l, x ∈ m) → l.length ≤ m.length
  | [], _, _, _ => Nat.zero_le _
  | a :: l, m, hn, h => by
    obtain ⟨ha, hn⟩ := List.nodup_cons.mp hn
    have hm := h a (List.mem_cons_self ..)
    have h1 : ∀ x ∈ l, x ∈ m.erase a := fun x hx => by
      have hx2 := h x (List.mem_cons_of_mem _ hx)
      have ne : x ≠ a := fun e => ha (e ▸ hx)
      exact (List.mem_erase_of_ne ne).mpr hx2
    have h2 := nodup_len hn h1
    rw [List.length_erase_of_mem hm] at h2
    have h3 := List.length_pos_of_mem hm
    rw [List.length_cons]; omega
theorem ex_max : ∀ ns : List Int, ∃ m, (ns = [] → m = 0) ∧ (ns ≠ [] → m ∈ ns ∧ ∀ y ∈ ns, y ≤ m)
  | [] => ⟨0, fun _ => rfl, fun h => absurd rfl h⟩
  | a :: ns => by
    obtain ⟨m, h1, h2⟩ := ex_max ns
    by_cases e : ns = []
    · subst e
      exact ⟨a, (fun h => nomatch h), fun _ => ⟨List.mem_singleton.mpr rfl, fun y hy => by rw [List.mem_singleton.mp hy]; exact Int.le_refl _⟩⟩
    · obtain ⟨h3, h4⟩ := h2 e
      by_cases h : m ≤ a
      · refine ⟨a, (fun h => nomatch h), fun _ => ⟨List.mem_cons_self .., fun y hy => ?_⟩⟩
        rcases List.mem_cons.mp hy with rfl | hy
        · exact Int.le_refl _
        · exact Int.le_trans (h4 y hy) h
      · refine ⟨m, (fun h => nomatch h), fun _ => ⟨List.mem_cons_of_mem _ h3, fun y hy => ?_⟩⟩
        rcases List.mem_cons.mp hy with rfl | hy
        · omega
        · exact h4 y hy
end K32
/-! R3 -/
set_option Elab.async false
set_option linter.all false
set_option maxRecDepth 100000
set_option maxHeartbeats 400000
namespace K32
open PySem PySem.Spec PyProof.Rows L2
local macro_rules | `(tactic| walk_at "dn") => `(tactic| first
  | with_reducible exact dn_int | with_reducible exact dn_str | with_reducible exact dn_bl | with_reducible exact dn_non | with_reducible exact da_nil | with_reducible exact do_none
  | ((with_reducible refine' dn_var ?h ?k); (case h => rfl); (case k => assumption))
  | ((with_reducible refine' da_cons ?_ ?_) <;> try walk_at "dn")
  | ((with_reducible refine' dn_add ?_ ?_) <;> try walk_at "dn")
  | ((with_reducible refine' dn_sub ?_ ?_) <;> try walk_at "dn")
  | ((with_reducible refine' dn_mul ?_ ?_ ?_) <;> try walk_at "dn")
  | ((with_reducible refine' dn_lt ?_ ?_) <;> try walk_at "dn")
  | ((with_reducible refine' dn_le ?_ ?_) <;> try walk_at "dn")
  | ((with_reducible refine' dn_gt ?_ ?_) <;> try walk_at "dn")
  | ((with_reducible refine' dn_ge ?_ ?_) <;> try walk_at "dn")
  | ((with_reducible refine' dn_neg ?_) <;> try walk_at "dn")
  | ((with_reducible refine' dn_chain ?_ ?_ ?_ rd_le rd_le) <;> try walk_at "dn")
  | ((with_reducible refine' dn_chain ?_ ?_ ?_ rd_le rd_lt) <;> try walk_at "dn")
  | ((with_reducible refine' dn_isI ?h ?k); (case h => walk_at "dn"); (case k => first | with_reducible exact kb_int_int | with_reducible exact kb_int_tuple | with_reducible exact kb_int_str | with_reducible exact kb_int_bool))
  | ((with_reducible refine' dn_isT ?h ?k); (case h => walk_at "dn"); (case k => first | with_reducible exact kb_tuple_int | with_reducible exact kb_tuple_tuple | with_reducible exact kb_tuple_str | with_reducible exact kb_tuple_bool))
  | ((with_reducible refine' dn_isS ?h ?k); (case h => walk_at "dn"); (case k => first | with_reducible exact kb_str_int | with_reducible exact kb_str_tuple | with_reducible exact kb_str_str | with_reducible exact kb_str_bool))
  | ((with_reducible refine' dn_isL ?h ?k); (case h => walk_at "dn"); (case k => first | with_reducible exact kb_list_int | with_reducible exact kb_list_tuple | with_reducible exact kb_list_str | with_reducible exact kb_list_bool))
  | ((with_reducible refine' dn_isB ?h ?k); (case h => walk_at "dn"); (case k => first | with_reducible exact kb_bool_int | with_reducible exact kb_bool_tuple | with_reducible exact kb_bool_str | with_reducible exact kb_bool_bool))
  | ((with_reducible refine' dn_ixT ?h ?t ?k); (case h => walk_at "dn"); (case t => walk_at "dn"); try (case k => rfl))
  | ((with_reducible refine' dn_ixL ?h ?t ?k); (case h => walk_at "dn"); (case t => walk_at "dn"); try (case k => rfl))
  | ((with_reducible refine' dn_cb ?h ?k); (case h => walk_at "dn"); try (case k => first | exact rd_lenT | exact rd_lenL | exact rd_tupL | exact rd_lstT | exact rd_lstL | exact rc_all | exact rc_sum | exact rc_max2 | exact rc_min2))
  | ((with_reducible refine' dn_call ?h ?t ?k); (case h => walk_at "dn"); (case t => rfl))
  | ((with_reducible refine' dt_test ?_) <;> try walk_at "dn")
  | ((with_reducible refine' dt_B ?_) <;> try walk_at "dn")
  | ((with_reducible refine' dn_eqI ?h ?k); (case h => walk_at "dn"); (case k => walk_at "dn"))
  | ((with_reducible refine' dn_neI ?h ?k); (case h => walk_at "dn"); (case k => walk_at "dn"))
  | ((with_reducible refine' dn_eqS ?h ?k); (case h => walk_at "dn"); (case k => walk_at "dn"))
  | ((with_reducible refine' dn_neS ?h ?k); (case h => walk_at "dn"); (case k => walk_at "dn"))
  | ((with_reducible refine' dt_or ?_ (fun _ => ?_)) <;> try walk_at "dn")
  | ((with_reducible refine' dt_and ?_ (fun _ => ?_)) <;> try walk_at "dn")
  | ((with_reducible refine' dn_orV ?_ (fun _ => ?_)) <;> try walk_at "dn")
  | ((with_reducible refine' dn_andV ?_ (fun _ => ?_)) <;> try walk_at "dn")
  | ((with_reducible refine' dt_not ?_) <;> try walk_at "dn")
  | ((with_reducible refine' dn_notV ?_) <;> try walk_at "dn")
  | ((with_reducible refine' da_star ?_ ?_) <;> try walk_at "dn")
  | ((with_reducible refine' dn_tup ?_ ?_) <;> try walk_at "dn")
  | ((with_reducible refine' dn_lst ?_ ?_) <;> try walk_at "dn")
  | ((with_reducible refine' do_some ?_) <;> try walk_at "dn"))
variable {P : Program} {w : World} {K : PySem.W.Frag} {mg : Str → Option Value} {base : Heap}
def iv (rv : Wd → Int) : Wd → Dt := fun x => .int (rv x)
theorem lW_flat {lk : Wd → Int} (k : Wd) : flat (iv lk k) = true := rfl
theorem eqv_lnil (ws : List Wd) : PyData.eqv (.list (ws.map dW)) (.list []) = decide (ws = []) := by
  cases ws with
  | nil => rfl
  | cons a l => simp [PyData.eqv, PyData.eqvAll]
def spGo (P : Program) (w : World) (K : PySem.W.Frag) : Sp := fun vs H Q _ => vs.length = 1 ∧ ∃ (a dx l r : Addr) (ks : List Wd) (lk : Lk), vs = [.ref a] ∧ H a = some (rkO K dx l r) ∧ NDf P w H l ks (gLk lk) ∧ (∀ g, NDf P w H r [] g) ∧ l ≠ r ∧ ks.Nodup ∧ (∀ w ∈ ks, ∀ u ∈ lk w, u ∈ ks) ∧ ks.length ≤ 1440 ∧ (∀ x ∈ ks, (lk x).length ≤ 18) ∧
  ∀ (H' : Hp) (rks : List Wd) (rv : Wd → Int), KX [r] H H' → NDf P w H' r rks (iv rv) → Good ks lk rks rv → Q .non H'
/-- what stands while ranks are marked -/
structure GS (P : Program) (w : World) (B : Hp) (r lka wt : Addr) (ks rks : List Wd) (rv lv : Wd → Int) (ws : List Wd) (H : Hp) : Prop where
  kx : KX [r, lka] B H
  nr : NDf P w H r rks (iv rv)
  nl : NDf P w H lka ks (iv lv)
  wt : ∃ us, H wt = some (.lst us) ∧ TDs H us (ws.map dW)
theorem GS.s {B H H' : Hp} {r lka wt : Addr} {ks rks ws : List Wd} {rv lv : Wd → Int} (g : GS P w B r lka wt ks rks rv lv ws H) (s : Same H H') : GS P w B r lka wt ks rks rv lv ws H' :=
  ⟨g.kx.step s, g.nr.s s, g.nl.s s, let ⟨us, h1, h2⟩ := g.wt; ⟨us, s _ _ h1, h2.s s⟩⟩
theorem NDf.nelst {H : Hp} {a b : Addr} {ks : List Wd} {g : Wd → Dt} {us : List V} (n : NDf P w H a ks g) (h : H b = some (.lst us)) : a ≠ b := fun e => by
  have := n.isd _ (e ▸ h)
  cases this
abbrev N_Ranks_go : List Str := ["self", "waiting", "readers", "lacks", "word", "other"]
abbrev P_Ranks_go : List Str := ["self"]
theorem sc_Ranks_go : FnScope N_Ranks_go P_Ranks_go (defScope s_Ranks_go) := ⟨rfl, rfl, rfl, by decide +kernel, rfl, by decide +kernel, by decide +kernel⟩
theorem D_Ranks_go (T : Tx K mg) : DefP P w K mg base CX0 2 ("Ranks", some "go") P_Ranks_go (spGo P w K) := by
  refine mk_def T 17 d_Ranks_go rfl rfl rfl sc_Ranks_go (fun vs H Q E h => h.1) (fun _ _ _ _ _ _ us hl => match us, hl with | [_], _ => rfl) (fun cdv A outer s H vs Q E hr h => ?_)
  obtain ⟨_, a, dx, l, r, ks, lk, rfl, ha, nl, nr, hlr, hnd, hcl, hks, h18, q⟩ := h
  have hal : a ≠ l := fun e => by obtain ⟨kvs, n, _⟩ := nl.ex; rw [e, n.obj] at ha; cases ha
  have har : a ≠ r := fun e => by obtain ⟨kvs, n, _⟩ := (nr (iv fun _ => 0)).ex; rw [e, n.obj] at ha; cases ha
  refine ⟨_, (pss_cons (ps_asg (pe_tup (pa_cons (pe_md0 (D_Ranks_readers T) T.c_Ranks T.m_Ranks_readers (hr.mono (by decide)) pass0 (pv 0)) (pa_cons (pe_lock (pe_dcN P w (hu9 hr) (own := [("word", 4)]) rfl sc_Ranks_go.nd  (pi_ndkeys P w (kpe_fld K (pv 0))) (blkOk_by (N := N_Ranks_go) (sc := defScope s_Ranks_go) (by decide +kernel)) (fun _ _ _ _ _ => (pg_name (i := 4) sc_Ranks_go.nd rfl (by first | exact Or.inl rfl | exact Or.inr rfl))) (fun _ _ _ _ _ => pts_nil) (fun _ _ _ _ _ => (pv 4)) (fun _ _ _ _ _ => (pe_callB (kcall_len K) (by rfl) T.f_len boot_len (pa_cons (pe_ndget P w (hu9 hr) (kpe_fld K (pv 0)) (pv 4)) pa_nil))))) pa_nil))) (kpg_tup K 2 (pgs_cons (pg_name (i := 2) sc_Ranks_go.nd rfl (by first | exact Or.inl rfl | exact Or.inr rfl)) (pgs_cons (pg_name (i := 3) sc_Ranks_go.nd rfl (by first | exact Or.inl rfl | exact Or.inr rfl)) pgs_nil))) (by first | rfl | kernel_rfl) (by first | rfl | kernel_rfl)) (pss_cons (ps_lock (ps_setLc (i := 1) (own := [("word", 4)]) rfl sc_Ranks_go.nd rfl rfl (sw_true rfl rfl rfl (by decide +kernel)) (pi_ndkeys P w (kpe_fld K (pv 0))) (blkOk_by (N := N_Ranks_go) (sc := defScope s_Ranks_go) (by decide +kernel)) (fun _ _ _ _ _ => (pg_name (i := 4) sc_Ranks_go.nd rfl (by first | exact Or.inl rfl | exact Or.inr rfl))) (fun _ _ _ _ _ => pts_one (pt_cmpR op_eq (pe_ndget P w (hu9 hr) (pv 3) (pv 4)) pe_int (nomark _))) (fun _ _ _ _ _ => (pv 4)))) (pss_one (ps_while PassesOwn.never (pt_cmpR (kop_neD K hr.units) (pv 1) (pe_lst pa_nil) (nomark _)) (pss_cons (ps_set (i := 4) sc_Ranks_go.nd rfl (by first | exact Or.inl rfl | exact Or.inr rfl) (pe_bm0 PySem.F.plainAttrs_list PySem.F.slot_list_pop PySem.F.type_list_pop mt_pop (pv 1))) (pss_cons (ps_ndput P w (hu9 hr) (kpe_fld K (pv 0)) (pv 4) (pe_callBK (kcr_maxDef K (hu9 hr)) (by rfl) T.f_max (by decide +kernel) (pa_cons (pe_lc (own := [("other", 5)]) rfl sc_Ranks_go.nd (kpi_list K (pe_ndget P w (hu9 hr) (kpe_fld K (pv 0)) (pv 4))) (blkOk_by (N := N_Ranks_go) (sc := defScope s_Ranks_go) (by decide +kernel)) (fun _ _ _ _ _ => (pg_name (i := 5) sc_Ranks_go.nd rfl (by first | exact Or.inl rfl | exact Or.inr rfl))) (fun _ _ _ _ _ => pts_nil) (fun _ _ _ _ _ => (pe_op op_add (pe_ndget P w (hu9 hr) (kpe_fld K (pv 0)) (pv 5)) pe_int))) pa_nil) (pk_cons pe_int pk_nil))) (pss_one (ps_for PassesOwn.never rfl (kpi_list K (pe_ndget P w (hu9 hr) (pv 2) (pv 4))) (pg_name (i := 5) sc_Ranks_go.nd rfl (by first | exact Or.inl rfl | exact Or.inr rfl)) (pss_cons (ps_ndaug P w (hu9 hr) (pv 3) (pv 5) pe_int in_sub) (pss_one (ps_if (pt_cmpR op_eq (pe_ndget P w (hu9 hr) (pv 3) (pv 5)) pe_int (nomark _)) (pss_one (ps_expr (pe_bm PySem.F.plainAttrs_list PySem.F.slot_list_append PySem.F.type_list_append mt_append (pv 1) (pa_cons (pv 5) pa_nil)))) pss_nil))))))))))), ?_⟩
  -- readers, lacks
  refine ⟨.ref a, rfl, a, dx, _, rfl, ha, rfl, rfl, a, dx, l, r, ks, lk, rfl, ha, nl, hnd, hcl, hks, h18, fun rd H1 s1 hrd nrd => ?_⟩
  obtain ⟨kvs, n1, nk1, nt1⟩ := (nl.s s1).ex
  have dkeys : ∀ {σ : L2.St} (od : Obj) {H' : Hp}, σ[0]? = some (some (V.ref a)) → H' a = some (rkO K dx l r) → ND P w H' l kvs → Src (iNdKeys P w (tFld K (tVar 0) "links")) σ (upd H' l (.frz od (ndO P w l kvs))) (ks.map dW) := fun {σ} od {H'} h0 ha' n' => by
    have h1 := src_ndkeys (P := P) (w := w) (td := tFld K (tVar 0) "links") (σ := σ) (H := upd H' l (.frz od (ndO P w l kvs))) (a := l) (kvs := kvs) (od := od) (dv_fld (dv_var h0) (lock_ne ha' hal) T.c_Ranks T.n_Ranks_links rfl) upd_same (lock_r n').keys
    have e : (kvs.map fun e => dW e.1) = ks.map dW := by rw [← nk1, List.map_map]; rfl
    rw [e] at h1
    exact h1
  have hL : Dd P w (tLockE (tDcN P w (iNdKeys P w (tFld K (tVar 0) "links")) (gName 4) tYes (tVar 4) (tCB (rLen K) (tCons (tNdGet P w (tFld K (tVar 0) "links") (tVar 4)) tNil)) [4])) (L2.start N_Ranks_go [.ref a]) H1 ks (iv fun x => ((lk x).length : Int)) := by
    refine dd_lock n1.obj fun od => dd_dc ks _ hnd (by omega) (dkeys od rfl (s1 _ _ ha) n1) fun k hk x H3 s3 tx => ?_
    have nlr : NDfr P w (upd H1 l (.frz od (ndO P w l kvs))) l ks (gLk lk) := ⟨kvs, lock_r n1, nk1, fun e he => (nt1 e he).kd (lock_kd n1.obj)⟩
    refine ⟨_, sto_name, rfl, by walk_at "dn", ?_⟩
    have h5 : Dn (tNdGet P w (tFld K (tVar 0) "links") (tVar 4)) ((wipe (L2.start N_Ranks_go [V.ref a]) [4]).set 4 (some x)) H3 (gLk lk k) :=
      dn_ndget (dv_fld (dv_var rfl) (s3 _ _ (lock_ne (s1 _ _ ha) hal)) T.c_Ranks T.n_Ranks_links rfl) (nlr.s s3) (by walk_at "dn") hk
    have h6 := dn_cb (da_cons h5 da_nil) (rd_lenL (K := K))
    rw [List.length_map] at h6
    exact h6
  refine hL H1 (Same.refl _) _ fun lka H20 s20 hlk nlk0 => ⟨sz (by simp), fun tp htp => ⟨tp, _, rfl, SqT.of upd_same, rfl, _, _, rfl, _, _, rfl, rfl, ?_⟩⟩
  have s2 : Same H1 (upd H20 tp (.tup [.ref rd, .ref lka])) := s20.trans (Same.new htp)
  have nlk := nlk0.s (Same.new (o := .tup [.ref rd, .ref lka]) htp)
  generalize upd H20 tp (.tup [V.ref rd, V.ref lka]) = H2 at s2 nlk ⊢
  have s12 : Same H H2 := s1.trans s2
  -- waiting
  have hW : ∀ od, DnN (tLc (iNdKeys P w (tFld K (tVar 0) "links")) (gName 4) (tTest (tOp rEq (tNdGet P w (tVar 3) (tVar 4)) (tC (.int 0)))) (tVar 4) [4]) (((L2.start N_Ranks_go [.ref a]).set 2 (some (.ref rd))).set 3 (some (.ref lka))) (upd H2 l (.frz od (ndO P w l kvs))) ((ks.filter fun x => decide (((lk x).length : Int) = 0)).map dW) := fun od => by
    refine dnN_lcF dW ks _ dW (dkeys od rfl (s12 _ _ ha) (n1.s s2)) (by omega) (fun _ _ => flat_dW _) fun k hk x H3 s3 tx => ⟨_, sto_name, rfl, ?_, fun _ => by walk_at "dn"⟩
    have hne : lka ≠ l := fun e => by rw [e, n1.obj] at hlk; cases hlk
    refine dt_test (dn_eqI (dn_ndget (dv_var rfl) ((nlk.kd (lock_kd (n1.s s2).obj) (by rw [upd_ne hne])).s s3).r (by walk_at "dn") hk) dn_int)
  refine q_locksetN (n1.s s2).obj hW fun wt H3 s3 hwt twt => ?_
  obtain ⟨w0, us0, e0, hw0, tw0⟩ := TD.l twt
  cases e0
  -- what stands
  have hrl : r ≠ lka := fun e => by obtain ⟨kv, n, _⟩ := (nr (iv fun _ => 0)).ex; rw [← e, s1 _ _ n.obj] at hlk; cases hlk
  have hrB : ∀ u, H2 r = some u → isD u = false := (((nr (iv fun _ => 0)).s s12).isd)
  have hlB : ∀ u, H2 lka = some u → isD u = false := nlk.isd
  have kdB : ∀ H', KX [r, lka] H2 H' → KD H2 H' := fun H' k => k.kd fun b hb u hu => by
    rcases List.mem_cons.mp hb with e | hb
    · exact hrB u (e ▸ hu)
    · exact hlB u (List.mem_singleton.mp hb ▸ hu)
  have hln : l ≠ lka := fun e => by rw [← e, n1.obj] at hlk; cases hlk
  have haB : ∀ H', KX [r, lka] H2 H' → H' a = some (rkO K dx l r) := fun H' k => k a _ (by
    have : a ≠ lka := fun e => by rw [← e, s1 _ _ ha] at hlk; cases hlk
    simp [har, this]) (s12 _ _ ha)
  have nlB : ∀ H', KX [r, lka] H2 H' → NDf P w H' l ks (gLk lk) := fun H' k => (nl.s s12).kd (kdB H' k) (by
    obtain ⟨kv, n, _⟩ := (nl.s s12).ex
    rw [k l _ (by simp [hlr, hln]) n.obj, n.obj])
  have hrdn : rd ≠ lka := fun e => by obtain ⟨kv, n, _⟩ := nrd.ex; rw [← e, n.obj] at hlk; cases hlk
  have hrdr : rd ≠ r := fun e => by obtain ⟨kv, n, _⟩ := (nr (iv fun _ => 0)).ex; rw [e, n.obj] at hrd; cases hrd
  obtain ⟨kvR, nR, nkR, ntR⟩ := (nrd.s s2).ex
  have nRB : ∀ H', KX [r, lka] H2 H' → ND P w H' rd kvR := fun H' k => nR.k (kdB H' k).kt (by rw [k rd _ (by simp [hrdr, hrdn]) nR.obj, nR.obj])
  -- the loop
  refine s_while (fun m σ' H' => ∃ rks rv lv ws o4 o5, σ' = [some (.ref a), some (.ref wt), some (.ref rd), some (.ref lka), o4, o5] ∧ m = ks.length - rks.length ∧ GS P w H2 r lka wt ks rks rv lv ws H' ∧ GoI ks lk rks rv lv ws []) (m0 := ks.length)
    ⟨[], fun _ => 0, fun x => ((lk x).length : Int), _, none, none, rfl, rfl, ⟨KX.of s3, (nr _).s (s12.trans s3), nlk.s s3, us0, hw0, tw0⟩, go_init (fun _ _ => rfl) hnd⟩ ?_
  rintro m σ' H' ⟨rks, rv, lv, ws, o4, o5, rfl, rfl, g, gi⟩
  obtain ⟨us, hus, tus⟩ := g.wt
  refine ⟨!decide (ws = []), ?_, ?_, ?_⟩
  · have h1 := dn_neD (K := K) (σ := [some (V.ref a), some (V.ref wt), some (V.ref rd), some (V.ref lka), o4, o5]) (H := H') (ta := tVar 1) (tb := tLst tNil) (d := .list (ws.map dW)) (e := .list []) (dn_var rfl (.lst hus tus)) (dn_lst da_nil (by decide)) (shaped_lW ws) (shaped_lW [])
    rw [eqv_lnil] at h1
    exact dt_test h1
  · intro hb H4 s4 N hN
    have hne : ws ≠ [] := by simpa using hb
    obtain ⟨ws', x, rfl⟩ : ∃ ws' x, ws = ws' ++ [x] := ⟨ws.dropLast, ws.getLast hne, (List.dropLast_concat_getLast hne).symm⟩
    have g := g.s s4
    have hus := s4 _ _ hus
    have tus := tus.s s4
    rw [List.map_append] at tus
    obtain ⟨us', v, rfl, tus', tv⟩ := TDs.unsnoc tus
    have hxm : x ∈ ws' ++ [x] := List.mem_append_right _ (List.mem_singleton.mpr rfl)
    obtain ⟨hxk, hxr, _⟩ := gi.sub x hxm
    have hlk2 := go_links gi hxm
    have hwtB : H2 wt = none := hwt
    refine q_pop (xs := us') (dv_var rfl) hus ?_
    have ktp : KT H4 (upd H4 wt (.lst us')) := KT.mut hus (fun _ z => nomatch z)
    have g5 : GS P w H2 r lka wt ks rks rv lv ws' (upd H4 wt (.lst us')) :=
      ⟨g.kx.new hwtB, g.nr.kt (fun _ => rfl) ktp (by rw [upd_ne (g.nr.nelst hus)]), g.nl.kt (fun _ => rfl) ktp (by rw [upd_ne (g.nl.nelst hus)]), us', upd_same, tus'.k ktp (flats_map flat_dW _)⟩
    have tv5 : TD (upd H4 wt (.lst us')) v (dW x) := tv.k ktp (flat_dW _)
    obtain ⟨mx, hm0, hm1⟩ := ex_max ((lk x).map fun u => rv u + 1)
    have hrl5 : rks.length ≤ ks.length := nodup_len gi.p.nd gi.p.sub
    refine q_seq (s_ndput (P := P) (w := w) (a := r) (ks := rks) (g := iv rv) (k := x) (d := .int mx) ?_ (dv_fld (dv_var rfl) (haB _ g5.kx) T.c_Ranks T.n_Ranks_ranks rfl) (by walk_at "dn") (fun H6 s6 => g5.nr.s s6) (by omega) ?_)
    · have h1 : Dn (tLc (iList K (tNdGet P w (tFld K (tVar 0) "links") (tVar 4))) (gName 5) tYes (tOp (rI0 fun i j => .int (i + j)) (tNdGet P w (tFld K (tVar 0) "ranks") (tVar 5)) (tC (.int 1))) [5]) [some (V.ref a), some (V.ref wt), some (V.ref rd), some (V.ref lka), some v, o5] (upd H4 wt (.lst us')) (.list ((lk x).map fun u => .int (rv u + 1))) := by
        refine dn_lcm dW (lk x) _ (src_lst (dn_ndget (g := gLk lk) (dv_fld (dv_var rfl) (haB _ g5.kx) T.c_Ranks T.n_Ranks_links rfl) (nlB _ g5.kx).r (by walk_at "dn") hxk)) (by have := h18 x hxk; omega) (fun _ _ => rfl) fun u hu y H6 s6 ty => ⟨_, sto_name, rfl, ?_⟩
        exact dn_add (dn_ndget (g := iv rv) (dv_fld (dv_var rfl) (s6 _ _ (haB _ g5.kx)) T.c_Ranks T.n_Ranks_ranks rfl) (g5.nr.s s6).r (by walk_at "dn") (hlk2 u hu)) dn_int
      have e1 : ((lk x).map fun u => PyData.int (rv u + 1)) = ((lk x).map fun u => rv u + 1).map .int := by rw [List.map_map]; rfl
      rw [e1] at h1
      refine dn_maxdef h1 dn_int hm0 fun m' hm' hx' => ?_
      have hn : (lk x).map (fun u => rv u + 1) ≠ [] := fun e => by rw [e] at hm'; exact nomatch hm'
      obtain ⟨h2, h3⟩ := hm1 hn
      have := hx' mx h2
      have := h3 m' hm'
      omega
    · intro H6 H7 s6 e7 n7
      obtain ⟨o7, rfl⟩ := e7
      rw [if_neg hxr] at n7
      have n7 : NDf P w (upd H6 r o7) r (rks ++ [x]) (iv fun y => if y = x then mx else rv y) := n7.cong fun j _ => by
        show (if j = x then PyData.int mx else .int (rv j)) = .int (if j = x then mx else rv j)
        split <;> rfl
      have g6 := g5.s s6
      have k6 : KD H6 (upd H6 r o7) := by
        obtain ⟨kv, n, _⟩ := g6.nr.ex
        exact KD.mut (KD.refl H6) n.obj ndO_isD
      obtain ⟨us6, hus6, tus6⟩ := g6.wt
      have hwr : wt ≠ r := (g6.nr.nelst hus6).symm
      have g7 : GS P w H2 r lka wt ks (rks ++ [x]) (fun y => if y = x then mx else rv y) lv ws' (upd H6 r o7) :=
        ⟨g6.kx.mut (List.mem_cons_self ..), n7, g6.nl.kd k6 (by rw [upd_ne hrl.symm]), us6, by rw [upd_ne hwr]; exact hus6, tus6.kd k6⟩
      have tv7 : TD (upd H6 r o7) v (dW x) := (tv5.s s6).kd k6
      have gi7 := go_pop hnd gi (v := mx) (fun u hu => by
        have hm := List.mem_map_of_mem (f := fun u => rv u + 1) hu
        exact (hm1 (fun e => by rw [e] at hm; exact nomatch hm)).2 _ hm) (by
        by_cases e : lk x = []
        · exact .inl ⟨e, hm0 (by rw [e]; rfl)⟩
        · have hn : (lk x).map (fun u => rv u + 1) ≠ [] := fun z => e (List.map_eq_nil_iff.mp z)
          obtain ⟨u, hu, e2⟩ := List.mem_map.mp (hm1 hn).1
          exact .inr ⟨u, hu, e2.symm⟩)
      -- the readers
      obtain ⟨yR, hyR, eyR, _⟩ : ∃ y ∈ kvR, y.1 = x ∧ True := by
        have : x ∈ kvR.map (·.1) := by rw [nkR]; exact hxk
        obtain ⟨y, hy, e⟩ := List.mem_map.mp this
        exact ⟨y, hy, e, trivial⟩
      have hvs : (valW kvR x).isSome = true := valW_mem.mpr (by rw [nkR]; exact hxk)
      obtain ⟨vR, hvR⟩ := Option.isSome_iff_exists.mp hvs
      obtain ⟨y2, hy2, ey2, ev2⟩ := valW_at hvR
      have tR := ntR y2 hy2
      rw [ev2, ey2] at tR
      obtain ⟨pR, xsR, rfl, hpR, txR⟩ := TD.l tR
      have hpk : ∀ H', KX [r, lka] H2 H' → H' pR = some (.lst xsR) := fun H' k => kdB H' k _ _ rfl hpR
      have hxl : (rdr ks lk x).length = xsR.length := by rw [txR.len, List.length_map]
      show tFor (iList K (tNdGet P w (tVar 2) (tVar 4))) (gName 5) _ _ _ _
      refine s_forL (p := pR) (xs := xsR) ?_ (hpk _ g7.kx) (fun j σ'' H'' => ∃ lv ws o5, σ'' = [some (.ref a), some (.ref wt), some (.ref rd), some (.ref lka), some v, o5] ∧ GS P w H2 r lka wt ks (rks ++ [x]) (fun y => if y = x then mx else rv y) lv ws H'' ∧ GoI ks lk (rks ++ [x]) (fun y => if y = x then mx else rv y) lv ws ((rdr ks lk x).drop j))
        (fun j σ'' H'' ⟨_, _, _, _, g8, _⟩ => hpk _ g8.kx) ⟨lv, ws', o5, rfl, g7, gi7⟩ ?_ ?_
      · intro H8 s8 Q8 q8
        exact ⟨.ref rd, rfl, v, rfl, rd, kvR, x, .ref pR, rfl, ((nRB _ g7.kx).s s8).r, tv7.s s8, hvR, q8⟩
      · rintro j y σ'' H'' hy ⟨lv, ws, o5, rfl, g8, gi8⟩
        obtain ⟨du, hdu, ty⟩ := txR.at hy
        rw [List.getElem?_map] at hdu
        obtain ⟨o, ho, rfl⟩ := Option.map_eq_some_iff.mp hdu
        have ty : TD H'' y (dW o) := ty.kd (kdB _ g8.kx)
        have ed : (rdr ks lk x).drop j = o :: (rdr ks lk x).drop (j + 1) := by
          obtain ⟨hj, e⟩ := List.getElem?_eq_some_iff.mp ho
          rw [List.drop_eq_getElem_cons hj, e]
        rw [ed] at gi8
        obtain ⟨h1, hok, gi9⟩ := go_dec gi8
        refine ⟨_, sto_name, ?_⟩
        refine q_seq (s_ndaug_sub (P := P) (w := w) (a := lka) (ks := ks) (g := iv lv) (k := o) (i := lv o) (j := 1) dn_int (dv_var rfl) (by walk_at "dn") g8.nl hok rfl (by omega) ?_)
        intro H9 H10 s9 e10 n10
        obtain ⟨o10, rfl⟩ := e10
        have n10 : NDf P w (upd H9 lka o10) lka ks (iv fun z => if z = o then lv o - 1 else lv z) := n10.cong fun z _ => by
          show (if z = o then PyData.int (lv o - 1) else .int (lv z)) = .int (if z = o then lv o - 1 else lv z)
          split <;> rfl
        have g9 := g8.s s9
        have k9 : KD H9 (upd H9 lka o10) := by
          obtain ⟨kv, n, _⟩ := g9.nl.ex
          exact KD.mut (KD.refl H9) n.obj ndO_isD
        obtain ⟨us9, hus9, tus9⟩ := g9.wt
        have hwl : wt ≠ lka := (g9.nl.nelst hus9).symm
        have g10 : GS P w H2 r lka wt ks (rks ++ [x]) (fun y => if y = x then mx else rv y) (fun z => if z = o then lv o - 1 else lv z) ws (upd H9 lka o10) :=
          ⟨g9.kx.mut (List.mem_cons_of_mem _ (List.mem_singleton.mpr rfl)), g9.nr.kd k9 (by rw [upd_ne hrl]), n10, us9, by rw [upd_ne hwl]; exact hus9, tus9.kd k9⟩
        have ty10 : TD (upd H9 lka o10) y (dW o) := (ty.s s9).kd k9
        have e11 : (iv fun z => if z = o then lv o - 1 else lv z) o = .int (lv o - 1) := by
          show PyData.int (if o = o then lv o - 1 else lv o) = _
          rw [if_pos rfl]
        have hg : Dn (tNdGet P w (tVar 3) (tVar 5)) [some (V.ref a), some (V.ref wt), some (V.ref rd), some (V.ref lka), some v, some y] (upd H9 lka o10) (.int (lv o - 1)) := (dn_ndget (dv_var rfl) g10.nl.r (by walk_at "dn") hok).is e11
        refine s_if0 (dt_test (dn_eqI hg dn_int)) ?_ ?_
        · intro hb H11 s11
          have hb : lv o - 1 = 0 := by simpa using hb
          rw [if_pos hb] at gi9
          have g11 := g10.s s11
          obtain ⟨us11, hus11, tus11⟩ := g11.wt
          have hws : ws.length ≤ ks.length := nodup_len gi8.nd fun z hz => (gi8.sub z hz).1
          have hl11 : us11.length = ws.length := by rw [tus11.len, List.length_map]
          refine s_appE (d := dW o) (l := wt) (xs := us11) (dv_var rfl) hus11 (dn_var rfl (ty10.s s11)) (by omega) fun v12 H12 s12' t12 => ?_
          have hus12 := s12' _ _ hus11
          have kt12 : KT H12 (upd H12 wt (.lst (us11 ++ [v12]))) := KT.mut hus12 (fun _ z => nomatch z)
          have g12 := g11.s s12'
          refine ⟨_, ws ++ [o], _, rfl, ⟨g12.kx.new hwtB, g12.nr.kt (fun _ => rfl) kt12 (by rw [upd_ne (g12.nr.nelst hus12)]), g12.nl.kt (fun _ => rfl) kt12 (by rw [upd_ne (g12.nl.nelst hus12)]), us11 ++ [v12], upd_same, ?_⟩, gi9⟩
          rw [List.map_append]
          exact ((tus11.s s12').k kt12 (flats_map flat_dW _)).snoc (t12.k kt12 (flat_dW _))
        · intro hb H11 s11
          have hb : ¬ lv o - 1 = 0 := by simpa using hb
          rw [if_neg hb] at gi9
          exact ⟨_, ws, _, rfl, g10.s s11, gi9⟩
      · rintro σ'' H'' ⟨lv, ws, o5, rfl, g8, gi8⟩
        rw [← hxl, List.drop_length] at gi8
        refine hN (ks.length - (rks ++ [x]).length) _ _ ?_ ⟨_, _, _, _, _, _, rfl, rfl, g8, gi8⟩
        have h2 := nodup_len gi8.p.nd gi8.p.sub
        rw [List.length_append] at h2 ⊢
        simp at h2 ⊢
        omega
  · intro hb H4 s4
    have hws : ws = [] := by simpa using hb
    subst hws
    have g := g.s s4
    refine q H4 rks rv ?_ g.nr (go_end gi hcl)
    intro b u hb2 hu
    have hbl : b ≠ lka := fun e => by rw [e] at hu; rw [s1 _ _ hu] at hlk; cases hlk
    exact g.kx b u (by simp at hb2; simp [hb2, hbl]) (s12 _ _ hu)
end K32
/-! M4 -/
set_option Elab.async false
set_option linter.all false
set_option maxRecDepth 100000
set_option maxHeartbeats 1000000
/-! Mathematics 4: ranks are there and are told by the links alone; the loop that is told, the chain that is told. -/
namespace K32
open PySem
section
variable {ks : List Wd} {lk : Lk} {rks : List Wd} {rv : Wd → Int}
theorem Part.ext {x : Wd} {v : Int} (g : Part ks lk rks rv) (hxk : x ∈ ks) (hxr : x ∉ rks) (hlk : ∀ u ∈ lk x, u ∈ rks) (h1 : ∀ u ∈ lk x, rv u + 1 ≤ v) (h2 : (lk x = [] ∧ v = 0) ∨ ∃ u ∈ lk x, v = rv u + 1) : Part ks lk (rks ++ [x]) (fun w => if w = x then v else rv w) := by
  have ne : ∀ w ∈ rks, ¬ w = x := fun w hw e => hxr (e ▸ hw)
  refine ⟨?_, ?_, ?_, ?_, ?_⟩
  · intro w hw
    rcases List.mem_append.mp hw with h | h
    · exact g.sub w h
    · rw [List.mem_singleton.mp h]; exact hxk
  · refine List.nodup_append.mpr ⟨g.nd, by simp, fun a ha b hb e => ?_⟩
    rw [List.mem_singleton.mp hb] at e
    exact hxr (e ▸ ha)
  · intro w hw u hu
    rcases List.mem_append.mp hw with h | h
    · obtain ⟨a, b⟩ := g.up w h u hu
      refine ⟨List.mem_append_left _ a, ?_⟩
      rw [if_neg (ne w h), if_neg (ne u a)]; exact b
    · have e := List.mem_singleton.mp h
      subst e
      refine ⟨List.mem_append_left _ (hlk u hu), ?_⟩
      rw [if_neg (ne u (hlk u hu)), if_pos rfl]; exact h1 u hu
  · intro w hw
    rcases List.mem_append.mp hw with h | h
    · simp only [if_neg (ne w h)]
      rcases g.at_ w h with a | ⟨u, hu, a⟩
      · exact .inl a
      · refine .inr ⟨u, hu, ?_⟩
        rw [if_neg (ne u (g.up w h u hu).1)]; exact a
    · have e := List.mem_singleton.mp h
      subst e
      simp only [if_pos]
      rcases h2 with a | ⟨u, hu, a⟩
      · exact .inl a
      · refine .inr ⟨u, hu, ?_⟩
        rw [if_neg (ne u (hlk u hu))]; exact a
  · intro w hw
    rcases List.mem_append.mp hw with h | h
    · simp only [if_neg (ne w h)]; exact g.pos w h
    · have e := List.mem_singleton.mp h
      subst e
      simp only [if_pos]
      rcases h2 with a | ⟨u, hu, a⟩
      · omega
      · have := g.pos u (hlk u hu)
        omega
theorem good_ex0 : ∀ (n : Nat) (rks : List Wd) (rv : Wd → Int), Part ks lk rks rv → ks.length - rks.length ≤ n → ∃ rks' rv', Good ks lk rks' rv'
  | n, rks, rv, g, hn => by
    by_cases h : ∃ w ∈ ks, w ∉ rks ∧ ∀ u ∈ lk w, u ∈ rks
    · obtain ⟨x, hxk, hxr, hl⟩ := h
      obtain ⟨mx, hm0, hm1⟩ := ex_max ((lk x).map fun u => rv u + 1)
      have g' := g.ext hxk hxr hl (v := mx) (fun u hu => by
        have hm := List.mem_map_of_mem (f := fun u => rv u + 1) hu
        exact (hm1 (fun e => by rw [e] at hm; exact nomatch hm)).2 _ hm) (by
        by_cases e : lk x = []
        · exact .inl ⟨e, hm0 (by rw [e]; rfl)⟩
        · have hn : (lk x).map (fun u => rv u + 1) ≠ [] := fun z => e (List.map_eq_nil_iff.mp z)
          obtain ⟨u, hu, e2⟩ := List.mem_map.mp (hm1 hn).1
          exact .inr ⟨u, hu, e2.symm⟩)
      have hl2 := nodup_len g'.nd g'.sub
      rw [List.length_append, List.length_singleton] at hl2
      cases n with
      | zero => omega
      | succ n => exact good_ex0 n _ _ g' (by rw [List.length_append, List.length_singleton]; omega)
    · refine ⟨rks, rv, g, fun w hw hr => ?_⟩
      refine Classical.byContradiction fun hc => h ⟨w, hw, hr, fun u hu => ?_⟩
      exact Classical.byContradiction fun hu2 => hc ⟨u, hu, hu2⟩
theorem part_nil : Part ks lk [] (fun _ => 0) := ⟨fun _ h => (nomatch h), List.nodup_nil, fun _ h => (nomatch h), fun _ h => (nomatch h), fun _ h => (nomatch h)⟩
theorem good_ex : ∃ rks rv, Good ks lk rks rv := good_ex0 _ [] (fun _ => 0) part_nil (Nat.le_refl _)
end
/-- the ranked words, their ranks (0 of the others) -/
noncomputable def rkL (ks : List Wd) (lk : Lk) : List Wd := Classical.choose (good_ex (ks := ks) (lk := lk))
theorem rkL_spec (ks : List Wd) (lk : Lk) : ∃ rv, Good ks lk (rkL ks lk) rv := Classical.choose_spec (good_ex (ks := ks) (lk := lk))
noncomputable def rkV (ks : List Wd) (lk : Lk) : Wd → Int := fun w => if w ∈ rkL ks lk then Classical.choose (rkL_spec ks lk) w else 0
section
variable {ks : List Wd} {lk : Lk} {rks : List Wd} {rv : Wd → Int}
theorem Good.cong {rv' : Wd → Int} (g : Good ks lk rks rv) (h : ∀ w ∈ rks, rv' w = rv w) : Good ks lk rks rv' := by
  refine ⟨⟨g.sub, g.nd, fun w hw u hu => ?_, fun w hw => ?_, fun w hw => by rw [h w hw]; exact g.pos w hw⟩, g.left⟩
  · obtain ⟨a, b⟩ := g.up w hw u hu
    exact ⟨a, by rw [h w hw, h u a]; exact b⟩
  · rw [h w hw]
    rcases g.at_ w hw with a | ⟨u, hu, a⟩
    · exact .inl a
    · exact .inr ⟨u, hu, by rw [h u (g.up w hw u hu).1]; exact a⟩
theorem rk_good (ks : List Wd) (lk : Lk) : Good ks lk (rkL ks lk) (rkV ks lk) := (Classical.choose_spec (rkL_spec ks lk)).cong fun w hw => if_pos hw
theorem rk_is (g : Good ks lk rks rv) (hc : ∀ w ∈ ks, ∀ u ∈ lk w, u ∈ ks) : (∀ w, w ∈ rks ↔ w ∈ rkL ks lk) ∧ ∀ w ∈ rks, rv w = rkV ks lk w := by
  obtain ⟨h1, h2⟩ := good_uniq g (rk_good ks lk) hc
  exact ⟨h1, fun w hw => (h2 w hw).symm⟩
end
/-! ### the loop that is told -/
noncomputable def unr (ks : List Wd) (lk : Lk) (w : Wd) : Bool := !decide (w ∈ rkL ks lk)
def w0 : Wd := (0, [])
noncomputable def nxt (ks : List Wd) (lk : Lk) (w : Wd) : Wd := ((lk w).filter (unr ks lk)).headD w0
noncomputable def pathF (ks : List Wd) (lk : Lk) : Nat → List Wd → List Wd
  | 0, p => p
  | n + 1, p => if p.count (p.getLastD w0) = 1 then pathF ks lk n (p ++ [nxt ks lk (p.getLastD w0)]) else p
noncomputable def left0 (ks : List Wd) (lk : Lk) : List Wd := ks.filter (unr ks lk)
noncomputable def loopP (ks : List Wd) (lk : Lk) : List Wd := pathF ks lk (ks.length + 1) [(left0 ks lk).headD w0]
noncomputable def loopL (ks : List Wd) (lk : Lk) : List Wd := ((loopP ks lk).drop ((loopP ks lk).idxOf ((loopP ks lk).getLastD w0) + 1)).reverse
/-- a walk over unranked words, each next what the last reads, no word twice but the last -/
structure PathOk (ks : List Wd) (lk : Lk) (p : List Wd) : Prop where
  ne : p ≠ []
  inn : ∀ x ∈ p, x ∈ ks ∧ unr ks lk x = true
  nd : p.dropLast.Nodup
  ch : ∀ i x y, p[i]? = some x → p[i + 1]? = some y → y ∈ lk x
section
variable {ks : List Wd} {lk : Lk} {p : List Wd}
theorem lastD_snoc (p : List Wd) (x : Wd) : (p ++ [x]).getLastD w0 = x := by rw [List.getLastD_eq_getLast?]; simp
theorem lastD_mem (h : p ≠ []) : p.getLastD w0 ∈ p := by
  have e : p = p.dropLast ++ [p.getLast h] := (List.dropLast_concat_getLast h).symm
  rw [e, lastD_snoc]
  simp
theorem unr_nx (hc : ∀ w ∈ ks, ∀ u ∈ lk w, u ∈ ks) {x : Wd} (hx : x ∈ ks) (hu : unr ks lk x = true) : ∃ y l, (lk x).filter (unr ks lk) = y :: l ∧ nxt ks lk x = y ∧ y ∈ lk x ∧ y ∈ ks ∧ unr ks lk y = true := by
  obtain ⟨u, h1, h2⟩ := (rk_good ks lk).left x hx (by simpa [unr] using hu)
  have hm : u ∈ (lk x).filter (unr ks lk) := List.mem_filter.mpr ⟨h1, by simpa [unr] using h2⟩
  cases e : (lk x).filter (unr ks lk) with
  | nil => rw [e] at hm; exact nomatch hm
  | cons y l =>
    have hy : y ∈ (lk x).filter (unr ks lk) := by rw [e]; exact List.mem_cons_self ..
    obtain ⟨a, b⟩ := List.mem_filter.mp hy
    refine ⟨y, l, rfl, ?_, a, hc x hx y a, b⟩
    unfold nxt
    rw [e]; rfl
theorem PathOk.whole (h : PathOk ks lk p) (h1 : p.count (p.getLastD w0) = 1) : p.Nodup := by
  have e : p = p.dropLast ++ [p.getLast h.ne] := (List.dropLast_concat_getLast h.ne).symm
  rw [e, lastD_snoc, List.count_append] at h1
  rw [e]
  refine List.nodup_append.mpr ⟨h.nd, by simp, fun a ha b hb e2 => ?_⟩
  rw [List.mem_singleton.mp hb] at e2
  subst e2
  have h2 := List.count_pos_iff.mpr ha
  simp at h1
  omega
theorem PathOk.snoc (hc : ∀ w ∈ ks, ∀ u ∈ lk w, u ∈ ks) (h : PathOk ks lk p) (h1 : p.count (p.getLastD w0) = 1) : PathOk ks lk (p ++ [nxt ks lk (p.getLastD w0)]) := by
  obtain ⟨hk, hu⟩ := h.inn _ (lastD_mem h.ne)
  obtain ⟨y, l, _, e2, h3, h4, h5⟩ := unr_nx hc hk hu
  rw [e2]
  refine ⟨by simp, fun x hx => ?_, by rw [List.dropLast_concat]; exact h.whole h1, fun i x z hx hz => ?_⟩
  · rcases List.mem_append.mp hx with hx | hx
    · exact h.inn x hx
    · rw [List.mem_singleton.mp hx]; exact ⟨h4, h5⟩
  · by_cases hi : i + 1 < p.length
    · rw [List.getElem?_append_left (by omega)] at hx
      rw [List.getElem?_append_left hi] at hz
      exact h.ch i x z hx hz
    · have hlt : i + 1 < (p ++ [y]).length := (List.getElem?_eq_some_iff.mp hz).1
      have hlen : p.length = i + 1 := by
        rw [List.length_append, List.length_singleton] at hlt
        omega
      rw [List.getElem?_append_right (by omega)] at hz
      rw [List.getElem?_append_left (by omega)] at hx
      have ez : z = y := by
        rw [show i + 1 - p.length = 0 by omega] at hz
        simpa using hz.symm
      have ex : x = p.getLastD w0 := by
        have e : p = p.dropLast ++ [p.getLast h.ne] := (List.dropLast_concat_getLast h.ne).symm
        have hd : p.dropLast.length = i := by rw [List.length_dropLast]; omega
        rw [e] at hx ⊢
        rw [lastD_snoc]
        rw [List.getElem?_append_right (by omega), hd, Nat.sub_self] at hx
        simpa using hx.symm
      rw [ez, ex]; exact h3
theorem PathOk.len (hn : ks.Nodup) (h : PathOk ks lk p) : p.length ≤ ks.length + 1 := by
  have h1 := nodup_len h.nd fun x hx => (h.inn x (List.dropLast_subset _ hx)).1
  rw [List.length_dropLast] at h1
  omega
theorem pathF_ok (hn : ks.Nodup) (hc : ∀ w ∈ ks, ∀ u ∈ lk w, u ∈ ks) : ∀ (n : Nat) (p : List Wd), PathOk ks lk p → ks.length + 1 < p.length + n → PathOk ks lk (pathF ks lk n p) ∧ (pathF ks lk n p).count ((pathF ks lk n p).getLastD w0) ≠ 1
  | 0, p, h, hl => by
    have := h.len hn
    omega
  | n + 1, p, h, hl => by
    unfold pathF
    by_cases h1 : p.count (p.getLastD w0) = 1
    · rw [if_pos h1]
      exact pathF_ok hn hc n _ (h.snoc hc h1) (by rw [List.length_append, List.length_singleton]; omega)
    · rw [if_neg h1]
      exact ⟨h, h1⟩
theorem loopP_ok (hn : ks.Nodup) (hc : ∀ w ∈ ks, ∀ u ∈ lk w, u ∈ ks) (hl : left0 ks lk ≠ []) : PathOk ks lk (loopP ks lk) ∧ (loopP ks lk).count ((loopP ks lk).getLastD w0) ≠ 1 := by
  refine pathF_ok hn hc _ _ ⟨by simp, fun x hx => ?_, by simp, fun i x y h1 h2 => ?_⟩ (by simp)
  · rw [List.mem_singleton.mp hx]
    cases e : left0 ks lk with
    | nil => exact absurd e hl
    | cons a l =>
      have : a ∈ left0 ks lk := by rw [e]; exact List.mem_cons_self ..
      exact List.mem_filter.mp this
  · simp at h2
theorem atI_nat {α : Type} (l : List α) (i : Nat) : L2.atI l (i : Int) = l[i]? := by
  unfold L2.atI L2.ixN
  rw [if_pos (by omega)]
  by_cases h : i < l.length
  · rw [if_pos (by omega), Int.toNat_natCast]; rfl
  · rw [if_neg (by omega)]
    exact (List.getElem?_eq_none (by omega)).symm
theorem atI_last {α : Type} {l : List α} (h : l ≠ []) : L2.atI l (-1) = l[l.length - 1]? := by
  have h1 : 0 < l.length := List.length_pos_iff.mpr h
  unfold L2.atI L2.ixN
  rw [if_neg (by omega), if_pos (by omega)]
  show l[((-1 : Int) + (l.length : Int)).toNat]? = _
  congr 1
  omega
theorem last_at {p : List Wd} (h : p ≠ []) : p[p.length - 1]? = some (p.getLastD w0) := by
  have e : p = p.dropLast ++ [p.getLast h] := (List.dropLast_concat_getLast h).symm
  rw [e, lastD_snoc]
  simp
/-- the place of the first that equals the last -/
theorem last_idx (h : PathOk ks lk p) (h1 : p.count (p.getLastD w0) ≠ 1) : p.idxOf (p.getLastD w0) + 1 < p.length ∧ p[p.idxOf (p.getLastD w0)]? = some (p.getLastD w0) := by
  have e : p = p.dropLast ++ [p.getLast h.ne] := (List.dropLast_concat_getLast h.ne).symm
  have hm : p.getLastD w0 ∈ p.dropLast := by
    rw [e, lastD_snoc] at h1
    rw [e, lastD_snoc, List.dropLast_concat]
    refine Classical.byContradiction fun hc => h1 ?_
    rw [List.count_append, List.count_eq_zero.mpr hc]
    simp
  have hl : p.idxOf (p.getLastD w0) < p.dropLast.length := by
    have h2 : p.idxOf (p.getLastD w0) = p.dropLast.idxOf (p.getLastD w0) := by
      have h3 : (p.dropLast ++ [p.getLast h.ne]).idxOf (p.getLastD w0) = p.dropLast.idxOf (p.getLastD w0) := by
        rw [List.idxOf_append, if_pos hm]
      rwa [← e] at h3
    rw [h2]
    exact List.idxOf_lt_length_of_mem hm
  rw [List.length_dropLast] at hl
  refine ⟨by omega, ?_⟩
  have hlt : p.idxOf (p.getLastD w0) < p.length := by omega
  rw [List.getElem?_eq_getElem hlt, List.getElem_idxOf hlt]
/-- THE LOOP IS ONE: words, each of which the one behind it reads -/
theorem loop_true (hn : ks.Nodup) (hc : ∀ w ∈ ks, ∀ u ∈ lk w, u ∈ ks) (hl : left0 ks lk ≠ []) : loopL ks lk ≠ [] ∧ (∀ x ∈ loopL ks lk, x ∈ ks) ∧
    ∀ k : Nat, k < (loopL ks lk).length → ∃ x y, (loopL ks lk)[k]? = some x ∧ L2.atI (loopL ks lk) ((k : Int) - 1) = some y ∧ y ∈ lk x := by
  obtain ⟨hp, h1⟩ := loopP_ok hn hc hl
  obtain ⟨hj, ej⟩ := last_idx hp h1
  unfold loopL
  generalize loopP ks lk = p at hp h1 hj ej ⊢
  generalize ejj : p.idxOf (p.getLastD w0) = j at hj ej ⊢
  have hlen : ((p.drop (j + 1)).reverse).length = p.length - (j + 1) := by rw [List.length_reverse, List.length_drop]
  have hne : (p.drop (j + 1)).reverse ≠ [] := fun e => by rw [e] at hlen; simp at hlen; omega
  have gt : ∀ k : Nat, k < p.length - (j + 1) → ((p.drop (j + 1)).reverse)[k]? = p[p.length - 1 - k]? := fun k hk => by
    rw [List.getElem?_reverse (by rw [List.length_drop]; exact hk), List.length_drop, List.getElem?_drop]
    congr 1
    omega
  refine ⟨hne, fun x hx => (hp.inn x (List.mem_of_mem_drop (List.mem_reverse.mp hx))).1, fun k hk => ?_⟩
  rw [hlen] at hk
  rw [gt k hk]
  have hx : p[p.length - 1 - k]? = some p[p.length - 1 - k] := List.getElem?_eq_getElem (by omega)
  cases k with
  | zero =>
    have hy : p[j + 1]? = some p[j + 1] := List.getElem?_eq_getElem hj
    refine ⟨p.getLastD w0, p[j + 1], last_at hp.ne, ?_, hp.ch j _ _ ej hy⟩
    show L2.atI _ (-1) = _
    rw [atI_last hne, hlen, gt _ (by omega), ← hy]
    congr 1
    omega
  | succ k =>
    have hy : p[p.length - 1 - k]? = some p[p.length - 1 - k] := List.getElem?_eq_getElem (by omega)
    refine ⟨_, p[p.length - 1 - k], hx, ?_, hp.ch (p.length - 1 - (k + 1)) _ _ hx (by rw [show p.length - 1 - (k + 1) + 1 = p.length - 1 - k by omega]; exact hy)⟩
    rw [show ((k + 1 : Nat) : Int) - 1 = (k : Int) by omega, atI_nat, gt k (by omega), hy]
end
/-! ### the chain that is told -/
def mostOf (ks : List Wd) (rv : Wd → Int) : Int := (ks.map rv).foldr max 0
noncomputable def most (ks : List Wd) (lk : Lk) : Int := mostOf ks (rkV ks lk)
noncomputable def dnw (ks : List Wd) (lk : Lk) : Nat → Wd
  | 0 => (ks.filter fun x => decide (rkV ks lk x = most ks lk)).headD w0
  | i + 1 => ((lk (dnw ks lk i)).filter fun x => decide (rkV ks lk x = most ks lk - 1 - (i : Int))).headD w0
noncomputable def chainL (ks : List Wd) (lk : Lk) : List Wd := ((List.range ((most ks lk).toNat + 1)).map (dnw ks lk)).reverse
section
variable {ks : List Wd} {lk : Lk}
theorem mostOf_le {rv : Wd → Int} : ∀ {ks : List Wd}, (∀ k ∈ ks, rv k ≤ mostOf ks rv) ∧ 0 ≤ mostOf ks rv
  | [] => ⟨fun _ h => (nomatch h), Int.le_refl _⟩
  | a :: l => by
    obtain ⟨h1, h2⟩ := mostOf_le (rv := rv) (ks := l)
    have e : mostOf (a :: l) rv = max (rv a) (mostOf l rv) := rfl
    rw [e]
    refine ⟨fun k hk => ?_, by omega⟩
    rcases List.mem_cons.mp hk with rfl | hk
    · omega
    · have := h1 k hk
      omega
theorem mostOf_mem {rv : Wd → Int} : ∀ {ks : List Wd}, ks ≠ [] → (∀ k ∈ ks, 0 ≤ rv k) → ∃ k ∈ ks, rv k = mostOf ks rv
  | [], h, _ => absurd rfl h
  | a :: l, _, hp => by
    have e : mostOf (a :: l) rv = max (rv a) (mostOf l rv) := rfl
    rw [e]
    have h0 := hp a (List.mem_cons_self ..)
    by_cases hl : l = []
    · subst hl
      exact ⟨a, List.mem_cons_self .., by show rv a = max (rv a) 0; omega⟩
    · obtain ⟨k, hk, ek⟩ := mostOf_mem (rv := rv) hl fun k hk => hp k (List.mem_cons_of_mem _ hk)
      by_cases h : rv a ≤ mostOf l rv
      · exact ⟨k, List.mem_cons_of_mem _ hk, by omega⟩
      · exact ⟨a, List.mem_cons_self .., by omega⟩
theorem headD_filter {p : Wd → Bool} {l : List Wd} {u : Wd} (hu : u ∈ l) (hp : p u = true) : ∃ y r, l.filter p = y :: r ∧ (l.filter p).headD w0 = y ∧ y ∈ l ∧ p y = true := by
  have hm : u ∈ l.filter p := List.mem_filter.mpr ⟨hu, hp⟩
  cases e : l.filter p with
  | nil => rw [e] at hm; exact nomatch hm
  | cons y r =>
    have hy : y ∈ l.filter p := by rw [e]; exact List.mem_cons_self ..
    obtain ⟨a, b⟩ := List.mem_filter.mp hy
    exact ⟨y, r, rfl, rfl, a, b⟩
theorem all_ranked (h : left0 ks lk = []) : ∀ w ∈ ks, w ∈ rkL ks lk := fun w hw => by
  have := List.filter_eq_nil_iff.mp h w hw
  simpa [unr] using this
theorem rkV_pos (ks : List Wd) (lk : Lk) (w : Wd) : 0 ≤ rkV ks lk w := by
  by_cases h : w ∈ rkL ks lk
  · exact (rk_good ks lk).pos w h
  · unfold rkV; rw [if_neg h]; exact Int.le_refl _
theorem most_mem (hne : ks ≠ []) : ∃ k ∈ ks, rkV ks lk k = most ks lk := mostOf_mem hne fun k _ => rkV_pos ks lk k
theorem most_le : ∀ k ∈ ks, rkV ks lk k ≤ most ks lk := mostOf_le.1
theorem most_pos : 0 ≤ most ks lk := mostOf_le.2
theorem dnw_ok (hne : ks ≠ []) (hl : left0 ks lk = []) (hc : ∀ w ∈ ks, ∀ u ∈ lk w, u ∈ ks) : ∀ i : Nat, (i : Int) ≤ most ks lk → dnw ks lk i ∈ ks ∧ rkV ks lk (dnw ks lk i) = most ks lk - (i : Int)
  | 0, _ => by
    obtain ⟨k, hk, ek⟩ := most_mem (lk := lk) hne
    obtain ⟨y, r, _, e, h1, h2⟩ := headD_filter (p := fun x => decide (rkV ks lk x = most ks lk)) hk (by simpa using ek)
    unfold dnw
    rw [e]
    exact ⟨h1, by simpa using h2⟩
  | i + 1, hi => by
    obtain ⟨h1, h2⟩ := dnw_ok hne hl hc i (by omega)
    have hr := all_ranked hl _ h1
    rcases (rk_good ks lk).at_ _ hr with a | ⟨u, hu, a⟩
    · omega
    · obtain ⟨y, r, _, e, h3, h4⟩ := headD_filter (p := fun x => decide (rkV ks lk x = most ks lk - 1 - (i : Int))) hu (by simp; omega)
      have e2 : dnw ks lk (i + 1) = y := e
      rw [e2]
      have h4 : rkV ks lk y = most ks lk - 1 - (i : Int) := by simpa using h4
      exact ⟨hc _ h1 y h3, by omega⟩
theorem dnw_next (hne : ks ≠ []) (hl : left0 ks lk = []) (hc : ∀ w ∈ ks, ∀ u ∈ lk w, u ∈ ks) (i : Nat) (hi : ((i + 1 : Nat) : Int) ≤ most ks lk) : ∃ y r, ((lk (dnw ks lk i)).filter fun x => decide (rkV ks lk x = most ks lk - 1 - (i : Int))) = y :: r ∧ dnw ks lk (i + 1) = y ∧ y ∈ lk (dnw ks lk i) := by
  obtain ⟨h1, h2⟩ := dnw_ok hne hl hc i (by omega)
  have hr := all_ranked hl _ h1
  rcases (rk_good ks lk).at_ _ hr with a | ⟨u, hu, a⟩
  · omega
  · obtain ⟨y, r, e1, e, h3, h4⟩ := headD_filter (p := fun x => decide (rkV ks lk x = most ks lk - 1 - (i : Int))) hu (by simp; omega)
    exact ⟨y, r, e1, e, h3⟩
theorem chain_len : ((chainL ks lk).length : Int) = most ks lk + 1 := by
  unfold chainL
  rw [List.length_reverse, List.length_map, List.length_range]
  have := most_pos (ks := ks) (lk := lk)
  omega
theorem chain_at {k : Nat} (hk : (k : Int) ≤ most ks lk) : (chainL ks lk)[k]? = some (dnw ks lk ((most ks lk).toNat - k)) := by
  unfold chainL
  have hp := most_pos (ks := ks) (lk := lk)
  rw [List.getElem?_reverse (by rw [List.length_map, List.length_range]; omega), List.length_map, List.length_range, List.getElem?_map, List.getElem?_range (by omega)]
  show some _ = some _
  congr 2
theorem chain_true (hne : ks ≠ []) (hl : left0 ks lk = []) (hc : ∀ w ∈ ks, ∀ u ∈ lk w, u ∈ ks) :
    ∀ k : Nat, (k : Int) ≤ most ks lk → ∃ x, (chainL ks lk)[k]? = some x ∧ x ∈ ks ∧ rkV ks lk x = (k : Int) ∧ ∀ k', k = k' + 1 → ∃ y, (chainL ks lk)[k']? = some y ∧ y ∈ lk x := by
  intro k hk
  have hp := most_pos (ks := ks) (lk := lk)
  obtain ⟨h1, h2⟩ := dnw_ok hne hl hc ((most ks lk).toNat - k) (by omega)
  refine ⟨_, chain_at hk, h1, by omega, fun k' e => ?_⟩
  subst e
  refine ⟨_, chain_at (by omega), ?_⟩
  have e2 : (most ks lk).toNat - k' = ((most ks lk).toNat - (k' + 1)) + 1 := by omega
  rw [e2]
  obtain ⟨y, r, _, e3, h3⟩ := dnw_next hne hl hc ((most ks lk).toNat - (k' + 1)) (by omega)
  rw [e3]; exact h3
end
end K32
/-! R4 -/
set_option Elab.async false
set_option linter.all false
set_option maxRecDepth 100000
set_option maxHeartbeats 400000
namespace K32
open PySem PySem.Spec PyProof.Rows L2
local macro_rules | `(tactic| walk_at "dn") => `(tactic| first
  | with_reducible exact dn_int | with_reducible exact dn_str | with_reducible exact dn_bl | with_reducible exact dn_non | with_reducible exact da_nil | with_reducible exact do_none
  | ((with_reducible refine' dn_var ?h ?k); (case h => rfl); (case k => assumption))
  | ((with_reducible refine' da_cons ?_ ?_) <;> try walk_at "dn")
  | ((with_reducible refine' dn_add ?_ ?_) <;> try walk_at "dn")
  | ((with_reducible refine' dn_sub ?_ ?_) <;> try walk_at "dn")
  | ((with_reducible refine' dn_mul ?_ ?_ ?_) <;> try walk_at "dn")
  | ((with_reducible refine' dn_lt ?_ ?_) <;> try walk_at "dn")
  | ((with_reducible refine' dn_le ?_ ?_) <;> try walk_at "dn")
  | ((with_reducible refine' dn_gt ?_ ?_) <;> try walk_at "dn")
  | ((with_reducible refine' dn_ge ?_ ?_) <;> try walk_at "dn")
  | ((with_reducible refine' dn_neg ?_) <;> try walk_at "dn")
  | ((with_reducible refine' dn_chain ?_ ?_ ?_ rd_le rd_le) <;> try walk_at "dn")
  | ((with_reducible refine' dn_chain ?_ ?_ ?_ rd_le rd_lt) <;> try walk_at "dn")
  | ((with_reducible refine' dn_isI ?h ?k); (case h => walk_at "dn"); (case k => first | with_reducible exact kb_int_int | with_reducible exact kb_int_tuple | with_reducible exact kb_int_str | with_reducible exact kb_int_bool))
  | ((with_reducible refine' dn_isT ?h ?k); (case h => walk_at "dn"); (case k => first | with_reducible exact kb_tuple_int | with_reducible exact kb_tuple_tuple | with_reducible exact kb_tuple_str | with_reducible exact kb_tuple_bool))
  | ((with_reducible refine' dn_isS ?h ?k); (case h => walk_at "dn"); (case k => first | with_reducible exact kb_str_int | with_reducible exact kb_str_tuple | with_reducible exact kb_str_str | with_reducible exact kb_str_bool))
  | ((with_reducible refine' dn_isL ?h ?k); (case h => walk_at "dn"); (case k => first | with_reducible exact kb_list_int | with_reducible exact kb_list_tuple | with_reducible exact kb_list_str | with_reducible exact kb_list_bool))
  | ((with_reducible refine' dn_isB ?h ?k); (case h => walk_at "dn"); (case k => first | with_reducible exact kb_bool_int | with_reducible exact kb_bool_tuple | with_reducible exact kb_bool_str | with_reducible exact kb_bool_bool))
  | ((with_reducible refine' dn_ixT ?h ?t ?k); (case h => walk_at "dn"); (case t => walk_at "dn"); try (case k => rfl))
  | ((with_reducible refine' dn_ixL ?h ?t ?k); (case h => walk_at "dn"); (case t => walk_at "dn"); try (case k => rfl))
  | ((with_reducible refine' dn_cb ?h ?k); (case h => walk_at "dn"); try (case k => first | exact rd_lenT | exact rd_lenL | exact rd_tupL | exact rd_lstT | exact rd_lstL | exact rc_all | exact rc_sum | exact rc_max2 | exact rc_min2))
  | ((with_reducible refine' dn_call ?h ?t ?k); (case h => walk_at "dn"); (case t => rfl))
  | ((with_reducible refine' dt_test ?_) <;> try walk_at "dn")
  | ((with_reducible refine' dt_B ?_) <;> try walk_at "dn")
  | ((with_reducible refine' dn_eqI ?h ?k); (case h => walk_at "dn"); (case k => walk_at "dn"))
  | ((with_reducible refine' dn_neI ?h ?k); (case h => walk_at "dn"); (case k => walk_at "dn"))
  | ((with_reducible refine' dn_eqS ?h ?k); (case h => walk_at "dn"); (case k => walk_at "dn"))
  | ((with_reducible refine' dn_neS ?h ?k); (case h => walk_at "dn"); (case k => walk_at "dn"))
  | ((with_reducible refine' dt_or ?_ (fun _ => ?_)) <;> try walk_at "dn")
  | ((with_reducible refine' dt_and ?_ (fun _ => ?_)) <;> try walk_at "dn")
  | ((with_reducible refine' dn_orV ?_ (fun _ => ?_)) <;> try walk_at "dn")
  | ((with_reducible refine' dn_andV ?_ (fun _ => ?_)) <;> try walk_at "dn")
  | ((with_reducible refine' dt_not ?_) <;> try walk_at "dn")
  | ((with_reducible refine' dn_notV ?_) <;> try walk_at "dn")
  | ((with_reducible refine' da_star ?_ ?_) <;> try walk_at "dn")
  | ((with_reducible refine' dn_tup ?_ ?_) <;> try walk_at "dn")
  | ((with_reducible refine' dn_lst ?_ ?_) <;> try walk_at "dn")
  | ((with_reducible refine' do_some ?_) <;> try walk_at "dn"))
variable {P : Program} {w : World} {K : PySem.W.Frag} {mg : Str → Option Value} {base : Heap}
theorem plain_ints : ∀ l : List Int, PyData.plainAll (l.map .int) = true
  | [] => by simp [PyData.plainAll]
  | a :: l => by simp [PyData.plainAll, PyData.plain, plain_ints l]
theorem plain_dV (v : Vec) : (dV v).plain = true := by unfold dV; simp [PyData.plain, plain_ints]
theorem plain_dW (w : Wd) : (dW w).plain = true := by unfold dW; simp [PyData.plain, PyData.plainAll, plain_dV]
theorem plains_dW : ∀ l : List Wd, PyData.plainAll (l.map dW) = true
  | [] => by simp [PyData.plainAll]
  | a :: l => by simp [PyData.plainAll, plain_dW a, plains_dW l]
theorem countP_dW (x : Wd) (p : List Wd) : ((p.map dW).countP fun z => PyData.eqv z (dW x)) = p.count x := by
  rw [List.countP_map]
  induction p with
  | nil => rfl
  | cons a p ih =>
    rw [List.countP_cons, ih, List.count_cons]
    show _ + (if PyData.eqv (dW a) (dW x) = true then 1 else 0) = _
    rw [eqv_dW]
    by_cases h : a = x <;> simp [h]
theorem atI_map0 {x : Wd} {l r : List Wd} (h : l = x :: r) : L2.atI (l.map dW) 0 = some (dW x) := by
  have := atI_nat (l.map dW) 0
  rw [show ((0 : Nat) : Int) = 0 from rfl] at this
  rw [this, h]; rfl
theorem atI_mapL {p : List Wd} (h : p ≠ []) : L2.atI (p.map dW) (-1) = some (dW (p.getLastD w0)) := by
  rw [atI_last (by simpa using h), List.length_map, List.getElem?_map, last_at h]; rfl
theorem pathF_end {ks : List Wd} {lk : Lk} {p : List Wd} (h : p.count (p.getLastD w0) ≠ 1) : ∀ n, pathF ks lk n p = p
  | 0 => rfl
  | n + 1 => by unfold pathF; rw [if_neg h]
noncomputable def loopD (ks : List Wd) (lk : Lk) : Dt := if left0 ks lk = [] then .none else .tuple ((loopL ks lk).map dW)
def RkAt (P : Program) (w : World) (K : PySem.W.Frag) (H : Hp) (a : Addr) (ks : List Wd) (lk : Lk) : Prop := ∃ (dx l r : Addr) (rks : List Wd), H a = some (rkO K dx l r) ∧ NDf P w H l ks (gLk lk) ∧ NDf P w H r rks (iv (rkV ks lk)) ∧ (∀ w, w ∈ rks ↔ w ∈ rkL ks lk)
theorem RkAt.s {H H' : Hp} {a : Addr} {ks : List Wd} {lk : Lk} (h : RkAt P w K H a ks lk) (s : Same H H') : RkAt P w K H' a ks lk :=
  let ⟨dx, l, r, rks, h1, h2, h3, h4⟩ := h; ⟨dx, l, r, rks, s _ _ h1, h2.s s, h3.s s, h4⟩
structure LkOk (ks : List Wd) (lk : Lk) : Prop where
  nd : ks.Nodup
  cl : ∀ w ∈ ks, ∀ u ∈ lk w, u ∈ ks
  ln : ks.length ≤ 1440
  l18 : ∀ x ∈ ks, (lk x).length ≤ 18
  ne : ks ≠ []
def spLoopLeft (P : Program) (w : World) (K : PySem.W.Frag) : Sp := fun vs H Q _ => vs.length = 1 ∧ ∃ (a : Addr) (ks : List Wd) (lk : Lk), vs = [.ref a] ∧ RkAt P w K H a ks lk ∧ LkOk ks lk ∧ ∀ v H', Same H H' → TD H' v (loopD ks lk) → Q v H'
abbrev N_Ranks_loop_left : List Str := ["self", "left", "path", "word"]
abbrev P_Ranks_loop_left : List Str := ["self"]
theorem sc_Ranks_loop_left : FnScope N_Ranks_loop_left P_Ranks_loop_left (defScope s_Ranks_loop_left) := ⟨rfl, rfl, rfl, by decide +kernel, rfl, by decide +kernel, by decide +kernel⟩
theorem D_Ranks_loop_left (T : Tx K mg) : DefP P w K mg base CX0 1 ("Ranks", some "loop_left") P_Ranks_loop_left (spLoopLeft P w K) := by
  refine mk_def T 18 d_Ranks_loop_left rfl rfl rfl sc_Ranks_loop_left (fun vs H Q E h => h.1) (fun _ _ _ _ _ _ us hl => match us, hl with | [_], _ => rfl) (fun cdv A outer s H vs Q E hr h => ?_)
  obtain ⟨_, a, ks, lk, rfl, ⟨dx, l, r, rks, ha, nl, nr, hrk⟩, lok, q⟩ := h
  obtain ⟨kvs, n1, nk1, nt1⟩ := nl.ex
  have hal : a ≠ l := fun e => by rw [e, n1.obj] at ha; cases ha
  have hun : ∀ k, (!decide (k ∈ rks)) = unr ks lk k := fun k => by
    unfold unr
    simp [hrk k]
  have hln := lok.ln
  refine ⟨_, (pss_cons (ps_lock (ps_setLc (i := 1) (own := [("word", 3)]) rfl sc_Ranks_loop_left.nd rfl rfl (sw_true rfl rfl rfl (by decide +kernel)) (pi_ndkeys P w (kpe_fld K (pv 0))) (blkOk_by (N := N_Ranks_loop_left) (sc := defScope s_Ranks_loop_left) (by decide +kernel)) (fun _ _ _ _ _ => (pg_name (i := 3) sc_Ranks_loop_left.nd rfl (by first | exact Or.inl rfl | exact Or.inr rfl))) (fun _ _ _ _ _ => pts_one (pt_cmp (pc_ndnotin P w (hu9 hr) (pv 3) (kpe_fld K (pv 0))) (by rfl))) (fun _ _ _ _ _ => (pv 3)))) (pss_cons (ps_if (pt_cmpR (kop_eqD K hr.units) (pv 1) (pe_lst pa_nil) (nomark _)) (pss_one (ps_ret pe_non)) pss_nil) (pss_cons (ps_set (i := 2) sc_Ranks_loop_left.nd rfl (by first | exact Or.inl rfl | exact Or.inr rfl) (pe_lst (pa_cons (pe_ix (kix_list K) (pv 1) pe_int (fun _ _ => rfl)) pa_nil))) (pss_cons (ps_while PassesOwn.never (pt_cmpR op_eq (pe_bm PySem.F.plainAttrs_list PySem.F.slot_list_count PySem.F.type_list_count (mt_countD K (hu65 hr)) (pv 2) (pa_cons (pe_ix (kix_list K) (pv 2) (pe_un un_neg pe_int) (fun _ _ => rfl)) pa_nil)) pe_int (nomark _)) (pss_one (ps_expr (pe_bm PySem.F.plainAttrs_list PySem.F.slot_list_append PySem.F.type_list_append mt_append (pv 2) (pa_cons (pe_ix (kix_list K) (pe_lc (own := [("word", 3)]) rfl sc_Ranks_loop_left.nd (kpi_list K (pe_ndget P w (hu9 hr) (kpe_fld K (pv 0)) (pe_ix (kix_list K) (pv 2) (pe_un un_neg pe_int) (fun _ _ => rfl)))) (blkOk_by (N := N_Ranks_loop_left) (sc := defScope s_Ranks_loop_left) (by decide +kernel)) (fun _ _ _ _ _ => (pg_name (i := 3) sc_Ranks_loop_left.nd rfl (by first | exact Or.inl rfl | exact Or.inr rfl))) (fun _ _ _ _ _ => pts_one (pt_cmp (pc_ndnotin P w (hu9 hr) (pv 3) (kpe_fld K (pv 0))) (by rfl))) (fun _ _ _ _ _ => (pv 3))) pe_int (fun _ _ => rfl)) pa_nil))))) (pss_one (ps_ret (pe_callTy (kcall_tuple K) (by rfl) T.f_tuple (by decide +kernel) (pa_cons (kpe_revL K (pe_slice (ksl_list K) (pv 2) (po_some (pe_op op_add (pe_bm PySem.F.plainAttrs_list PySem.F.slot_list_index PySem.F.type_list_index (kmt_indexD K (hu65 hr)) (pv 2) (pa_cons (pe_ix (kix_list K) (pv 2) (pe_un un_neg pe_int) (fun _ _ => rfl)) pa_nil)) pe_int)) po_none)) pa_nil)))))))), ?_⟩
  refine q_lockset (d := .list ((left0 ks lk).map dW)) n1.obj (fun od => ?_) fun vl H1 s1 tl => ?_
  · have h1 := src_ndkeys (P := P) (w := w) (td := tFld K (tVar 0) "links") (σ := L2.start N_Ranks_loop_left [.ref a]) (H := upd H l (.frz od (ndO P w l kvs))) (a := l) (kvs := kvs) (od := od) (dv_fld (dv_var rfl) (lock_ne ha hal) T.c_Ranks T.n_Ranks_links rfl) upd_same (lock_r n1).keys
    have e : (kvs.map fun e => dW e.1) = ks.map dW := by rw [← nk1, List.map_map]; rfl
    rw [e] at h1
    refine dn_lcF dW ks (unr ks lk) dW h1 (by omega) (fun _ _ => flat_dW _) fun k hk x H3 s3 tx => ⟨_, sto_name, rfl, ?_, fun _ => by walk_at "dn"⟩
    have nrl : NDfr P w (upd H l (.frz od (ndO P w l kvs))) r rks (iv (rkV ks lk)) := by
      by_cases e : r = l
      · subst e
        obtain ⟨kv2, n2, nk2, nt2⟩ := nr.ex
        exact ⟨kv2, ⟨.inr ⟨od, by
          have h5 := n2.obj
          rw [n1.obj] at h5
          rw [← Option.some.inj h5]
          exact upd_same⟩, fun y hy => (n2.keys y hy).kd (lock_kd n1.obj)⟩, nk2, fun y hy => (nt2 y hy).kd (lock_kd n1.obj)⟩
      · exact (nr.kd (lock_kd n1.obj) (by rw [upd_ne e])).r
    exact (dt_B (dn_ndnotin (dv_fld (dv_var rfl) (s3 _ _ (lock_ne ha hal)) T.c_Ranks T.n_Ranks_ranks rfl) (nrl.s s3) (by walk_at "dn"))).is (hun k)
  have hif := dn_eqD (K := K) (σ := (L2.start N_Ranks_loop_left [V.ref a]).set 1 (some vl)) (H := H1) (ta := tVar 1) (tb := tLst tNil) (dn_var rfl tl) (dn_lst da_nil (by decide)) (shaped_lW (left0 ks lk)) (shaped_lW [])
  rw [eqv_lnil] at hif
  refine q_if0 (dt_test hif) ?_ ?_
  · intro hb H2 s2
    have he : left0 ks lk = [] := by simpa using hb
    exact s_ret dn_non fun v H3 s3 t3 => q v H3 ((s1.trans s2).trans s3) (by unfold loopD; rw [if_pos he]; exact t3)
  · intro hb H2 s2
    have hne : left0 ks lk ≠ [] := by simpa using hb
    obtain ⟨x0, r0, ex0⟩ : ∃ x0 r0, left0 ks lk = x0 :: r0 := by
      cases h : left0 ks lk with
      | nil => exact absurd h hne
      | cons x y => exact ⟨x, y, rfl⟩
    have tl := tl.s s2
    refine q_setLst (ds := [dW x0]) (da_cons (dn_ixL (dn_var rfl tl) dn_int (atI_map0 ex0)) da_nil) (by simp) fun pa H3 s3 hpa tpa => ?_
    have s13 : Same H H3 := (s1.trans s2).trans s3
    have hx0 : x0 ∈ ks ∧ unr ks lk x0 = true := by
      have : x0 ∈ left0 ks lk := by rw [ex0]; exact List.mem_cons_self ..
      exact List.mem_filter.mp this
    obtain ⟨p0, us0, e0, hp0, tp0⟩ := TD.l tpa
    cases e0
    have hB : H pa = none := Same.none (s1.trans s2) hpa
    refine q_seq (s_while (fun m σ' H' => ∃ p us o3, σ' = [some (.ref a), some vl, some (.ref pa), o3] ∧ m = ks.length + 2 - p.length ∧ Same H H' ∧ H' pa = some (.lst us) ∧ TDs H' us (p.map dW) ∧ PathOk ks lk p ∧ pathF ks lk (ks.length + 2 - p.length) p = loopP ks lk) (m0 := ks.length + 2 - [x0].length)
      ⟨[x0], us0, none, rfl, rfl, s13, hp0, tp0, ⟨by simp, fun x hx => by rw [List.mem_singleton.mp hx]; exact hx0, by simp, fun i x y h1 h2 => by simp at h2⟩, ?_⟩ ?_)
    · unfold loopP
      rw [ex0]
      rfl
    · rintro m σ' H' ⟨p, us, o3, rfl, rfl, sH, hus, tus, hp, hpl⟩
      have tp : TD H' (.ref pa) (.list (p.map dW)) := .lst hus tus
      have hlast : ∀ H'', Same H' H'' → Dn (tOp (rIxL K) (tVar 2) (tUn (rU fun i => .int (-i)) (tC (.int 1)))) [some (V.ref a), some vl, some (V.ref pa), o3] H'' (dW (p.getLastD w0)) := fun H'' s'' => dn_ixL (dn_var rfl (tp.s s'')) (dn_neg dn_int) (atI_mapL hp.ne)
      refine ⟨decide ((p.count (p.getLastD w0) : Int) = 1), ?_, ?_, ?_⟩
      · have h1 := dn_count (K := K) (dn_var (σ := [some (V.ref a), some vl, some (V.ref pa), o3]) (i := 2) rfl tp) (hlast H' (Same.refl H')) (shaped_lW p) (shaped_dW _) (plains_dW p) (plain_dW _)
        rw [countP_dW] at h1
        exact dt_test (dn_eqI h1 dn_int)
      · intro hb H4 s4 N hN
        have hc1 : p.count (p.getLastD w0) = 1 := by
          have : (p.count (p.getLastD w0) : Int) = 1 := by simpa using hb
          omega
        obtain ⟨hk, hu⟩ := hp.inn _ (lastD_mem hp.ne)
        obtain ⟨y, rr, e1, e2, h3, h4, h5⟩ := unr_nx lok.cl hk hu
        have s04 := sH.trans s4
        have hnx : Dn (tOp (rIxL K) (tLc (iList K (tNdGet P w (tFld K (tVar 0) "links") (tOp (rIxL K) (tVar 2) (tUn (rU fun i => .int (-i)) (tC (.int 1)))))) (gName 3) (tB (tNdNotIn P w (tVar 3) (tFld K (tVar 0) "ranks"))) (tVar 3) [3]) (tC (.int 0))) [some (V.ref a), some vl, some (V.ref pa), o3] H4 (dW y) := by
          refine dn_ixL (ds := ((lk (p.getLastD w0)).filter (unr ks lk)).map dW) ?_ dn_int (atI_map0 e1)
          refine dn_lcF dW (lk (p.getLastD w0)) (unr ks lk) dW (src_lst (dn_ndget (g := gLk lk) (dv_fld (dv_var rfl) (s04 _ _ ha) T.c_Ranks T.n_Ranks_links rfl) (nl.s s04).r (hlast H4 s4) hk)) (by have := lok.l18 _ hk; omega) (fun _ _ => flat_dW _) fun u hu y H6 s6 ty => ⟨_, sto_name, rfl, ?_, fun _ => by walk_at "dn"⟩
          exact (dt_B (dn_ndnotin (dv_fld (dv_var rfl) (s6 _ _ (s04 _ _ ha)) T.c_Ranks T.n_Ranks_ranks rfl) ((nr.s s04).s s6).r (by walk_at "dn"))).is (hun u)
        have hnd := hp.whole hc1
        have hlen := nodup_len hnd fun x hx => (hp.inn x hx).1
        have hul : us.length = p.length := by rw [tus.len, List.length_map]
        show tDrop (tBM K "list" rAppend (tVar 2) (tCons _ tNil)) _ _ _
        refine s_appE (d := dW y) (l := pa) (xs := us) (dv_var rfl) (s4 _ _ hus) hnx (by omega) fun v H5 s5 t5 => ?_
        have hus5 := s5 _ _ (s4 _ _ hus)
        have kt5 : KT H5 (upd H5 pa (.lst (us ++ [v]))) := KT.mut hus5 (fun _ z => nomatch z)
        refine hN (ks.length + 2 - (p ++ [y]).length) _ _ (by rw [List.length_append, List.length_singleton]; omega) ⟨p ++ [y], us ++ [v], _, rfl, rfl, Same.mut (s04.trans s5) hB, upd_same, ?_, e2 ▸ hp.snoc lok.cl hc1, ?_⟩
        · rw [List.map_append]
          exact ((tus.s (s4.trans s5)).k kt5 (flats_map flat_dW _)).snoc (t5.k kt5 (flat_dW _))
        · rw [← hpl, List.length_append, List.length_singleton]
          have e3 : ks.length + 2 - p.length = (ks.length + 2 - (p.length + 1)) + 1 := by omega
          rw [e3]
          conv => rhs; unfold pathF
          rw [if_pos hc1, e2]
      · intro hb H4 s4
        have hc1 : p.count (p.getLastD w0) ≠ 1 := fun e => by
          rw [e] at hb
          simp at hb
        rw [pathF_end hc1] at hpl
        subst hpl
        obtain ⟨hj, ej⟩ := last_idx hp hc1
        have tp4 := tp.s s4
        have hix := dn_index (K := K) (dn_var (σ := [some (V.ref a), some vl, some (V.ref pa), o3]) (i := 2) rfl tp4) (hlast H4 s4) (shaped_lW _) (shaped_dW _) (j := (loopP ks lk).idxOf ((loopP ks lk).getLastD w0)) (z := dW ((loopP ks lk).getLastD w0)) (by rw [List.getElem?_map, ej]; rfl) (by rw [eqv_dW]; simp) (fun m z' hm hz => by
          rw [List.getElem?_map] at hz
          obtain ⟨x, hx, rfl⟩ := Option.map_eq_some_iff.mp hz
          rw [eqv_dW, decide_eq_false_iff_not]
          intro e
          obtain ⟨hm2, hx2⟩ := List.getElem?_eq_some_iff.mp hx
          have h7 : ((loopP ks lk)[m] == (loopP ks lk).getLastD w0) = false := by
            have := List.not_of_lt_findIdx (p := fun x => x == (loopP ks lk).getLastD w0) (xs := loopP ks lk) hm
            simpa using this
          rw [hx2, e] at h7
          simp at h7)
        have hsl := dn_revL (K := K) (dn_slL (K := K) (dn_var (σ := [some (V.ref a), some vl, some (V.ref pa), o3]) (i := 2) rfl tp4) (do_some (dn_add hix (dn_int (i := 1)))) do_none)
        refine s_ret (dn_cb (da_cons hsl da_nil) (rd_tupL (K := K))) fun v H5 s5 t5 => q v H5 ((sH.trans s4).trans s5) ?_
        unfold loopD
        rw [if_neg hne]
        have e5 : ((((loopP ks lk).map dW).drop (HT.sIx ((loopP ks lk).map dW).length 0 (some (((loopP ks lk).idxOf ((loopP ks lk).getLastD w0) : Nat) + 1 : Int)))).take (HT.sIx ((loopP ks lk).map dW).length ((loopP ks lk).map dW).length none - HT.sIx ((loopP ks lk).map dW).length 0 (some (((loopP ks lk).idxOf ((loopP ks lk).getLastD w0) : Nat) + 1 : Int)))).reverse = (loopL ks lk).map dW := by
          rw [HT.sIx_none]
          have e6 : HT.sIx ((loopP ks lk).map dW).length 0 (some (((loopP ks lk).idxOf ((loopP ks lk).getLastD w0) : Nat) + 1 : Int)) = (loopP ks lk).idxOf ((loopP ks lk).getLastD w0) + 1 := by
            have := HT.sIx_nat ((loopP ks lk).map dW).length 0 ((loopP ks lk).idxOf ((loopP ks lk).getLastD w0) + 1)
            rw [show (((loopP ks lk).idxOf ((loopP ks lk).getLastD w0) + 1 : Nat) : Int) = ((loopP ks lk).idxOf ((loopP ks lk).getLastD w0) : Nat) + 1 by omega] at this
            rw [this, List.length_map]
            omega
          rw [e6]
          unfold loopL
          rw [List.map_reverse, List.map_drop, List.take_of_length_le (by simp)]
        rw [← e5]
        exact t5
end K32
/-! R5 -/
set_option Elab.async false
set_option linter.all false
set_option maxRecDepth 100000
set_option maxHeartbeats 400000
namespace K32
open PySem PySem.Spec PyProof.Rows L2
local macro_rules | `(tactic| walk_at "dn") => `(tactic| first
  | with_reducible exact dn_int | with_reducible exact dn_str | with_reducible exact dn_bl | with_reducible exact dn_non | with_reducible exact da_nil | with_reducible exact do_none
  | ((with_reducible refine' dn_var ?h ?k); (case h => rfl); (case k => assumption))
  | ((with_reducible refine' da_cons ?_ ?_) <;> try walk_at "dn")
  | ((with_reducible refine' dn_add ?_ ?_) <;> try walk_at "dn")
  | ((with_reducible refine' dn_sub ?_ ?_) <;> try walk_at "dn")
  | ((with_reducible refine' dn_mul ?_ ?_ ?_) <;> try walk_at "dn")
  | ((with_reducible refine' dn_lt ?_ ?_) <;> try walk_at "dn")
  | ((with_reducible refine' dn_le ?_ ?_) <;> try walk_at "dn")
  | ((with_reducible refine' dn_gt ?_ ?_) <;> try walk_at "dn")
  | ((with_reducible refine' dn_ge ?_ ?_) <;> try walk_at "dn")
  | ((with_reducible refine' dn_neg ?_) <;> try walk_at "dn")
  | ((with_reducible refine' dn_chain ?_ ?_ ?_ rd_le rd_le) <;> try walk_at "dn")
  | ((with_reducible refine' dn_chain ?_ ?_ ?_ rd_le rd_lt) <;> try walk_at "dn")
  | ((with_reducible refine' dn_isI ?h ?k); (case h => walk_at "dn"); (case k => first | with_reducible exact kb_int_int | with_reducible exact kb_int_tuple | with_reducible exact kb_int_str | with_reducible exact kb_int_bool))
  | ((with_reducible refine' dn_isT ?h ?k); (case h => walk_at "dn"); (case k => first | with_reducible exact kb_tuple_int | with_reducible exact kb_tuple_tuple | with_reducible exact kb_tuple_str | with_reducible exact kb_tuple_bool))
  | ((with_reducible refine' dn_isS ?h ?k); (case h => walk_at "dn"); (case k => first | with_reducible exact kb_str_int | with_reducible exact kb_str_tuple | with_reducible exact kb_str_str | with_reducible exact kb_str_bool))
  | ((with_reducible refine' dn_isL ?h ?k); (case h => walk_at "dn"); (case k => first | with_reducible exact kb_list_int | with_reducible exact kb_list_tuple | with_reducible exact kb_list_str | with_reducible exact kb_list_bool))
  | ((with_reducible refine' dn_isB ?h ?k); (case h => walk_at "dn"); (case k => first | with_reducible exact kb_bool_int | with_reducible exact kb_bool_tuple | with_reducible exact kb_bool_str | with_reducible exact kb_bool_bool))
  | ((with_reducible refine' dn_ixT ?h ?t ?k); (case h => walk_at "dn"); (case t => walk_at "dn"); try (case k => rfl))
  | ((with_reducible refine' dn_ixL ?h ?t ?k); (case h => walk_at "dn"); (case t => walk_at "dn"); try (case k => rfl))
  | ((with_reducible refine' dn_cb ?h ?k); (case h => walk_at "dn"); try (case k => first | exact rd_lenT | exact rd_lenL | exact rd_tupL | exact rd_lstT | exact rd_lstL | exact rc_all | exact rc_sum | exact rc_max2 | exact rc_min2))
  | ((with_reducible refine' dn_call ?h ?t ?k); (case h => walk_at "dn"); (case t => rfl))
  | ((with_reducible refine' dt_test ?_) <;> try walk_at "dn")
  | ((with_reducible refine' dt_B ?_) <;> try walk_at "dn")
  | ((with_reducible refine' dn_eqI ?h ?k); (case h => walk_at "dn"); (case k => walk_at "dn"))
  | ((with_reducible refine' dn_neI ?h ?k); (case h => walk_at "dn"); (case k => walk_at "dn"))
  | ((with_reducible refine' dn_eqS ?h ?k); (case h => walk_at "dn"); (case k => walk_at "dn"))
  | ((with_reducible refine' dn_neS ?h ?k); (case h => walk_at "dn"); (case k => walk_at "dn"))
  | ((with_reducible refine' dt_or ?_ (fun _ => ?_)) <;> try walk_at "dn")
  | ((with_reducible refine' dt_and ?_ (fun _ => ?_)) <;> try walk_at "dn")
  | ((with_reducible refine' dn_orV ?_ (fun _ => ?_)) <;> try walk_at "dn")
  | ((with_reducible refine' dn_andV ?_ (fun _ => ?_)) <;> try walk_at "dn")
  | ((with_reducible refine' dt_not ?_) <;> try walk_at "dn")
  | ((with_reducible refine' dn_notV ?_) <;> try walk_at "dn")
  | ((with_reducible refine' da_star ?_ ?_) <;> try walk_at "dn")
  | ((with_reducible refine' dn_tup ?_ ?_) <;> try walk_at "dn")
  | ((with_reducible refine' dn_lst ?_ ?_) <;> try walk_at "dn")
  | ((with_reducible refine' do_some ?_) <;> try walk_at "dn"))
variable {P : Program} {w : World} {K : PySem.W.Frag} {mg : Str → Option Value} {base : Heap}
def spChain (P : Program) (w : World) (K : PySem.W.Frag) : Sp := fun vs H Q _ => vs.length = 1 ∧ ∃ (a : Addr) (ks : List Wd) (lk : Lk), vs = [.ref a] ∧ RkAt P w K H a ks lk ∧ LkOk ks lk ∧ left0 ks lk = [] ∧ ∀ v H', Same H H' → TD H' v (.tuple ((chainL ks lk).map dW)) → Q v H'
theorem most_lt {ks : List Wd} {lk : Lk} (ok : LkOk ks lk) (hl : left0 ks lk = []) : most ks lk + 1 ≤ (ks.length : Int) := by
  have h1 : ((List.range ((most ks lk).toNat + 1)).map (dnw ks lk)).Nodup := nodup_map' List.nodup_range fun i hi j hj e => by
    have := List.mem_range.mp hi
    have := List.mem_range.mp hj
    have hp := most_pos (ks := ks) (lk := lk)
    have a := (dnw_ok ok.ne hl ok.cl i (by omega)).2
    have b := (dnw_ok ok.ne hl ok.cl j (by omega)).2
    rw [e] at a
    omega
  have hp := most_pos (ks := ks) (lk := lk)
  have h2 := nodup_len h1 fun x hx => by
    obtain ⟨i, hi, rfl⟩ := List.mem_map.mp hx
    have := List.mem_range.mp hi
    exact (dnw_ok ok.ne hl ok.cl i (by omega)).1
  rw [List.length_map, List.length_range] at h2
  omega
abbrev N_Ranks_chain : List Str := ["self", "most", "found", "rank", "word"]
abbrev P_Ranks_chain : List Str := ["self"]
theorem sc_Ranks_chain : FnScope N_Ranks_chain P_Ranks_chain (defScope s_Ranks_chain) := ⟨rfl, rfl, rfl, by decide +kernel, rfl, by decide +kernel, by decide +kernel⟩
theorem D_Ranks_chain (T : Tx K mg) : DefP P w K mg base CX0 1 ("Ranks", some "chain") P_Ranks_chain (spChain P w K) := by
  refine mk_def T 19 d_Ranks_chain rfl rfl rfl sc_Ranks_chain (fun vs H Q E h => h.1) (fun _ _ _ _ _ _ us hl => match us, hl with | [_], _ => rfl) (fun cdv A outer s H vs Q E hr h => ?_)
  obtain ⟨_, a, ks, lk, rfl, ⟨dx, l, r, rks, ha, nl, nr, hrk⟩, lok, hl0, q⟩ := h
  obtain ⟨kvs, n1, nk1, nt1⟩ := nl.ex
  have hal : a ≠ l := fun e => by rw [e, n1.obj] at ha; cases ha
  have hall : ∀ k ∈ ks, k ∈ rks := fun k hk => (hrk k).mpr (all_ranked hl0 k hk)
  have hsub : ∀ k ∈ rks, k ∈ ks := fun k hk => (rk_good ks lk).sub k ((hrk k).mp hk)
  have hln := lok.ln
  have hp := most_pos (ks := ks) (lk := lk)
  have hm1 := most_lt lok hl0
  have hrne : rks ≠ [] := fun e => by
    obtain ⟨k, hk, _⟩ := most_mem (lk := lk) lok.ne
    have := hall k hk
    rw [e] at this; exact nomatch this
  refine ⟨_, (pss_cons (ps_set (i := 1) sc_Ranks_chain.nd rfl (by first | exact Or.inl rfl | exact Or.inr rfl) (pe_callB (kcr_max K) (by rfl) T.f_max (by decide +kernel) (pa_cons (pe_callTy (call_list_vals P w) (by rfl) T.f_list (by decide +kernel) (pa_cons (pe_ndvals P w (kpe_fld K (pv 0))) pa_nil)) pa_nil))) (pss_cons (ps_set (i := 2) sc_Ranks_chain.nd rfl (by first | exact Or.inl rfl | exact Or.inr rfl) (pe_lst (pa_cons (pe_ix (kix_list K) (pe_lock (pe_lc (own := [("word", 4)]) rfl sc_Ranks_chain.nd (pi_ndkeys P w (kpe_fld K (pv 0))) (blkOk_by (N := N_Ranks_chain) (sc := defScope s_Ranks_chain) (by decide +kernel)) (fun _ _ _ _ _ => (pg_name (i := 4) sc_Ranks_chain.nd rfl (by first | exact Or.inl rfl | exact Or.inr rfl))) (fun _ _ _ _ _ => pts_one (pt_cmpR op_eq (pe_ndget P w (hu9 hr) (kpe_fld K (pv 0)) (pv 4)) (pv 1) (nomark _))) (fun _ _ _ _ _ => (pv 4)))) pe_int (fun _ _ => rfl)) pa_nil))) (pss_cons (ps_for PassesOwn.never rfl (pi_range1 rfl T.f_range (pa_cons (pv 1) pa_nil)) (pg_name (i := 3) sc_Ranks_chain.nd rfl (by first | exact Or.inl rfl | exact Or.inr rfl)) (pss_one (ps_expr (pe_bm PySem.F.plainAttrs_list PySem.F.slot_list_append PySem.F.type_list_append mt_append (pv 2) (pa_cons (pe_ix (kix_list K) (pe_lc (own := [("word", 4)]) rfl sc_Ranks_chain.nd (kpi_list K (pe_ndget P w (hu9 hr) (kpe_fld K (pv 0)) (pe_ix (kix_list K) (pv 2) (pe_un un_neg pe_int) (fun _ _ => rfl)))) (blkOk_by (N := N_Ranks_chain) (sc := defScope s_Ranks_chain) (by decide +kernel)) (fun _ _ _ _ _ => (pg_name (i := 4) sc_Ranks_chain.nd rfl (by first | exact Or.inl rfl | exact Or.inr rfl))) (fun _ _ _ _ _ => pts_one (pt_cmpR op_eq (pe_ndget P w (hu9 hr) (kpe_fld K (pv 0)) (pv 4)) (pe_op op_sub (pe_op op_sub (pv 1) pe_int) (pv 3)) (nomark _))) (fun _ _ _ _ _ => (pv 4))) pe_int (fun _ _ => rfl)) pa_nil))))) (pss_one (ps_ret (pe_callTy (kcall_tuple K) (by rfl) T.f_tuple (by decide +kernel) (pa_cons (kpe_revL K (pv 2)) pa_nil))))))), ?_⟩
  refine q_set (d := .int (most ks lk)) (dn_maxvals (dv_fld (dv_var rfl) ha T.c_Ranks T.n_Ranks_ranks rfl) nr.r hrne (by
    obtain ⟨k, hk, ek⟩ := most_mem (lk := lk) lok.ne
    exact ⟨k, hall k hk, ek⟩) fun k hk => most_le k (hsub k hk)) fun vm H1 s1 tm => ?_
  -- the first
  have n1' := n1.s s1
  obtain ⟨k0, hk0, ek0⟩ := most_mem (lk := lk) lok.ne
  obtain ⟨y0, r0, e0, e0', _, _⟩ := headD_filter (p := fun x => decide (rkV ks lk x = most ks lk)) hk0 (by simpa using ek0)
  have hfst : Dn (tOp (rIxL K) (tLockE (tLc (iNdKeys P w (tFld K (tVar 0) "links")) (gName 4) (tTest (tOp rEq (tNdGet P w (tFld K (tVar 0) "ranks") (tVar 4)) (tVar 1))) (tVar 4) [4])) (tC (.int 0))) ((L2.start N_Ranks_chain [V.ref a]).set 1 (some vm)) H1 (dW y0) := by
    refine dn_ixL (ds := (ks.filter fun x => decide (rkV ks lk x = most ks lk)).map dW) (dn_lock n1'.obj fun od => ?_) dn_int (atI_map0 e0)
    have h1 := src_ndkeys (P := P) (w := w) (td := tFld K (tVar 0) "links") (σ := (L2.start N_Ranks_chain [V.ref a]).set 1 (some vm)) (H := upd H1 l (.frz od (ndO P w l kvs))) (a := l) (kvs := kvs) (od := od) (dv_fld (dv_var rfl) (lock_ne (s1 _ _ ha) hal) T.c_Ranks T.n_Ranks_links rfl) upd_same (lock_r n1').keys
    have e : (kvs.map fun e => dW e.1) = ks.map dW := by rw [← nk1, List.map_map]; rfl
    rw [e] at h1
    refine dn_lcF dW ks _ dW h1 (by omega) (fun _ _ => flat_dW _) fun k hk x H3 s3 tx => ⟨_, sto_name, rfl, ?_, fun _ => by walk_at "dn"⟩
    have nrl : NDfr P w (upd H1 l (.frz od (ndO P w l kvs))) r rks (iv (rkV ks lk)) := by
      by_cases e : r = l
      · subst e
        obtain ⟨kv2, n2, nk2, nt2⟩ := (nr.s s1).ex
        exact ⟨kv2, ⟨.inr ⟨od, by
          have h5 := n2.obj
          rw [n1'.obj] at h5
          rw [← Option.some.inj h5]
          exact upd_same⟩, fun y hy => (n2.keys y hy).kd (lock_kd n1'.obj)⟩, nk2, fun y hy => (nt2 y hy).kd (lock_kd n1'.obj)⟩
      · exact ((nr.s s1).kd (lock_kd n1'.obj) (by rw [upd_ne e])).r
    have tm3 := (tm.kd (lock_kd n1'.obj (od := od))).s s3
    have hd : Dn (tNdGet P w (tFld K (tVar 0) "ranks") (tVar 4)) ((wipe ((L2.start N_Ranks_chain [V.ref a]).set 1 (some vm)) [4]).set 4 (some x)) H3 (.int (rkV ks lk k)) :=
      dn_ndget (g := iv (rkV ks lk)) (dv_fld (dv_var rfl) (s3 _ _ (lock_ne (s1 _ _ ha) hal)) T.c_Ranks T.n_Ranks_ranks rfl) (nrl.s s3) (by walk_at "dn") (hall k hk)
    exact dt_test (dn_eqI hd (dn_var rfl tm3))
  refine q_setLst (ds := [dW y0]) (da_cons hfst da_nil) (by simp) fun pf H2 s2 hpf tpf => ?_
  obtain ⟨p0, us0, e00, hp0, tp0⟩ := TD.l tpf
  cases e00
  have hB : H pf = none := Same.none s1 hpf
  have s02 := s1.trans s2
  have tm2 := tm.s s2
  have hy0 : dnw ks lk 0 = y0 := e0'
  have hsrc := srcK_rng1 (σ := ((L2.start N_Ranks_chain [V.ref a]).set 1 (some vm)).set 2 (some (V.ref pf))) (H := H2) (ta := tCons (tVar 1) tNil) (n := most ks lk) (by walk_at "dn") (by omega) (by omega)
  refine q_forK (fun i : Nat => PyData.int (i : Int)) (List.range (most ks lk).toNat) hsrc (fun i σ' H' => ∃ o3 us, σ' = [some (.ref a), some vm, some (.ref pf), o3, none] ∧ Same H H' ∧ H' pf = some (.lst us) ∧ TDs H' us (((List.range (i + 1)).map (dnw ks lk)).map dW)) ?_ ?_ ?_ ?_
  · rintro i σ' Ha Hb sab ⟨o3, us, rfl, h1, h2, h3⟩
    exact ⟨o3, us, rfl, h1.trans sab, sab _ _ h2, h3.s sab⟩
  · intro H3 s3
    refine ⟨none, us0, rfl, s02.trans s3, s3 _ _ hp0, ?_⟩
    have e : ((List.range (0 + 1)).map (dnw ks lk)).map dW = [dW y0] := by rw [← hy0]; rfl
    rw [e]
    exact tp0.s s3
  · rintro i i' y σ' H3 hi kt ty ⟨o3, us, rfl, sH, hus, tus⟩
    obtain ⟨hi1, hi2⟩ := List.getElem?_eq_some_iff.mp hi
    rw [List.length_range] at hi1
    rw [List.getElem_range] at hi2
    subst hi2
    refine ⟨_, sto_name, fun N hN => ?_⟩
    obtain ⟨hik, hir⟩ := dnw_ok lok.ne hl0 lok.cl i (by omega)
    obtain ⟨y1, r1, e1, e2, h3⟩ := dnw_next lok.ne hl0 lok.cl i (by omega)
    have tm3 : TD H3 vm (.int (most ks lk)) := by rw [tm2.i]; exact .int _
    have tl3 : TD H3 (.ref pf) (.list (((List.range (i + 1)).map (dnw ks lk)).map dW)) := .lst hus tus
    have hat : L2.atI (((List.range (i + 1)).map (dnw ks lk)).map dW) (-1) = some (dW (dnw ks lk i)) := by
      have hne : (List.range (i + 1)).map (dnw ks lk) ≠ [] := by simp
      rw [atI_mapL hne, List.range_succ, List.map_append, List.map_singleton, lastD_snoc]
    have hnx : Dn (tOp (rIxL K) (tLc (iList K (tNdGet P w (tFld K (tVar 0) "links") (tOp (rIxL K) (tVar 2) (tUn (rU fun i => .int (-i)) (tC (.int 1)))))) (gName 4) (tTest (tOp rEq (tNdGet P w (tFld K (tVar 0) "ranks") (tVar 4)) (tOp (rI0 fun i j => .int (i - j)) (tOp (rI0 fun i j => .int (i - j)) (tVar 1) (tC (.int 1))) (tVar 3)))) (tVar 4) [4]) (tC (.int 0))) [some (V.ref a), some vm, some (V.ref pf), some y, none] H3 (dW y1) := by
      refine dn_ixL (ds := ((lk (dnw ks lk i)).filter fun x => decide (rkV ks lk x = most ks lk - 1 - (i : Int))).map dW) ?_ dn_int (atI_map0 e1)
      refine dn_lcF dW (lk (dnw ks lk i)) _ dW (src_lst (dn_ndget (g := gLk lk) (dv_fld (dv_var rfl) (sH _ _ ha) T.c_Ranks T.n_Ranks_links rfl) (nl.s sH).r (dn_ixL (dn_var rfl tl3) (dn_neg dn_int) hat) hik)) (by have := lok.l18 _ hik; omega) (fun _ _ => flat_dW _) fun u hu z H6 s6 tz => ⟨_, sto_name, rfl, ?_, fun _ => by walk_at "dn"⟩
      have hd : Dn (tNdGet P w (tFld K (tVar 0) "ranks") (tVar 4)) ((wipe [some (V.ref a), some vm, some (V.ref pf), some y, none] [4]).set 4 (some z)) H6 (.int (rkV ks lk u)) :=
        dn_ndget (g := iv (rkV ks lk)) (dv_fld (dv_var rfl) (s6 _ _ (sH _ _ ha)) T.c_Ranks T.n_Ranks_ranks rfl) ((nr.s sH).s s6).r (by walk_at "dn") (hall u (lok.cl _ hik u hu))
      exact dt_test (dn_eqI hd (dn_sub (dn_sub (dn_var rfl (tm3.s s6)) dn_int) (dn_var rfl (ty.s s6))))
    have hul : us.length = i + 1 := by rw [tus.len, List.length_map, List.length_map, List.length_range]
    show tDrop (tBM K "list" rAppend (tVar 2) (tCons _ tNil)) _ _ _
    refine s_appE (d := dW y1) (l := pf) (xs := us) (dv_var rfl) hus hnx (by omega) fun v H5 s5 t5 => ?_
    have hus5 := s5 _ _ hus
    have kt5 : KT H5 (upd H5 pf (.lst (us ++ [v]))) := KT.mut hus5 (fun _ z => nomatch z)
    refine hN _ _ ((KT.of s5).trans kt5) ⟨_, us ++ [v], rfl, Same.mut (sH.trans s5) hB, upd_same, ?_⟩
    rw [List.range_succ, List.map_append, List.map_append, List.map_singleton, List.map_singleton, e2]
    exact ((tus.s s5).k kt5 (flats_map flat_dW _)).snoc (t5.k kt5 (flat_dW _))
  · rintro σ' H3 kt ⟨o3, us, rfl, sH, hus, tus⟩
    rw [List.length_range] at tus
    have tl3 : TD H3 (.ref pf) (.list (((List.range ((most ks lk).toNat + 1)).map (dnw ks lk)).map dW)) := .lst hus tus
    refine s_ret (dn_cb (da_cons (dn_revL (K := K) (dn_var (i := 2) rfl tl3)) da_nil) (rd_tupL (K := K))) fun v H5 s5 t5 => q v H5 (sH.trans s5) ?_
    unfold chainL
    rw [List.map_reverse]
    exact t5
end K32
/-! R6 -/
set_option Elab.async false
set_option linter.all false
set_option maxRecDepth 100000
set_option maxHeartbeats 400000
namespace K32
open PySem PySem.Spec PyProof.Rows L2
local macro_rules | `(tactic| walk_at "dn") => `(tactic| first
  | with_reducible exact dn_int | with_reducible exact dn_str | with_reducible exact dn_bl | with_reducible exact dn_non | with_reducible exact da_nil | with_reducible exact do_none
  | ((with_reducible refine' dn_var ?h ?k); (case h => rfl); (case k => assumption))
  | ((with_reducible refine' da_cons ?_ ?_) <;> try walk_at "dn")
  | ((with_reducible refine' dn_add ?_ ?_) <;> try walk_at "dn")
  | ((with_reducible refine' dn_sub ?_ ?_) <;> try walk_at "dn")
  | ((with_reducible refine' dn_mul ?_ ?_ ?_) <;> try walk_at "dn")
  | ((with_reducible refine' dn_lt ?_ ?_) <;> try walk_at "dn")
  | ((with_reducible refine' dn_le ?_ ?_) <;> try walk_at "dn")
  | ((with_reducible refine' dn_gt ?_ ?_) <;> try walk_at "dn")
  | ((with_reducible refine' dn_ge ?_ ?_) <;> try walk_at "dn")
  | ((with_reducible refine' dn_neg ?_) <;> try walk_at "dn")
  | ((with_reducible refine' dn_chain ?_ ?_ ?_ rd_le rd_le) <;> try walk_at "dn")
  | ((with_reducible refine' dn_chain ?_ ?_ ?_ rd_le rd_lt) <;> try walk_at "dn")
  | ((with_reducible refine' dn_isI ?h ?k); (case h => walk_at "dn"); (case k => first | with_reducible exact kb_int_int | with_reducible exact kb_int_tuple | with_reducible exact kb_int_str | with_reducible exact kb_int_bool))
  | ((with_reducible refine' dn_isT ?h ?k); (case h => walk_at "dn"); (case k => first | with_reducible exact kb_tuple_int | with_reducible exact kb_tuple_tuple | with_reducible exact kb_tuple_str | with_reducible exact kb_tuple_bool))
  | ((with_reducible refine' dn_isS ?h ?k); (case h => walk_at "dn"); (case k => first | with_reducible exact kb_str_int | with_reducible exact kb_str_tuple | with_reducible exact kb_str_str | with_reducible exact kb_str_bool))
  | ((with_reducible refine' dn_isL ?h ?k); (case h => walk_at "dn"); (case k => first | with_reducible exact kb_list_int | with_reducible exact kb_list_tuple | with_reducible exact kb_list_str | with_reducible exact kb_list_bool))
  | ((with_reducible refine' dn_isB ?h ?k); (case h => walk_at "dn"); (case k => first | with_reducible exact kb_bool_int | with_reducible exact kb_bool_tuple | with_reducible exact kb_bool_str | with_reducible exact kb_bool_bool))
  | ((with_reducible refine' dn_ixT ?h ?t ?k); (case h => walk_at "dn"); (case t => walk_at "dn"); try (case k => rfl))
  | ((with_reducible refine' dn_ixL ?h ?t ?k); (case h => walk_at "dn"); (case t => walk_at "dn"); try (case k => rfl))
  | ((with_reducible refine' dn_cb ?h ?k); (case h => walk_at "dn"); try (case k => first | exact rd_lenT | exact rd_lenL | exact rd_tupL | exact rd_lstT | exact rd_lstL | exact rc_all | exact rc_sum | exact rc_max2 | exact rc_min2))
  | ((with_reducible refine' dn_call ?h ?t ?k); (case h => walk_at "dn"); (case t => rfl))
  | ((with_reducible refine' dt_test ?_) <;> try walk_at "dn")
  | ((with_reducible refine' dt_B ?_) <;> try walk_at "dn")
  | ((with_reducible refine' dn_eqI ?h ?k); (case h => walk_at "dn"); (case k => walk_at "dn"))
  | ((with_reducible refine' dn_neI ?h ?k); (case h => walk_at "dn"); (case k => walk_at "dn"))
  | ((with_reducible refine' dn_eqS ?h ?k); (case h => walk_at "dn"); (case k => walk_at "dn"))
  | ((with_reducible refine' dn_neS ?h ?k); (case h => walk_at "dn"); (case k => walk_at "dn"))
  | ((with_reducible refine' dt_or ?_ (fun _ => ?_)) <;> try walk_at "dn")
  | ((with_reducible refine' dt_and ?_ (fun _ => ?_)) <;> try walk_at "dn")
  | ((with_reducible refine' dn_orV ?_ (fun _ => ?_)) <;> try walk_at "dn")
  | ((with_reducible refine' dn_andV ?_ (fun _ => ?_)) <;> try walk_at "dn")
  | ((with_reducible refine' dt_not ?_) <;> try walk_at "dn")
  | ((with_reducible refine' dn_notV ?_) <;> try walk_at "dn")
  | ((with_reducible refine' da_star ?_ ?_) <;> try walk_at "dn")
  | ((with_reducible refine' dn_tup ?_ ?_) <;> try walk_at "dn")
  | ((with_reducible refine' dn_lst ?_ ?_) <;> try walk_at "dn")
  | ((with_reducible refine' do_some ?_) <;> try walk_at "dn"))
variable {P : Program} {w : World} {K : PySem.W.Frag} {mg : Str → Option Value} {base : Heap}
theorem zeros_in : ∀ (b : Vec), (∀ s ∈ b, 1 ≤ s) → inside b (b.map fun _ => 0) = true
  | [], _ => rfl
  | s :: b, h => by
    rw [List.map_cons, inside_cons, zeros_in b fun t ht => h t (List.mem_cons_of_mem _ ht)]
    have := h s (List.mem_cons_self ..)
    simp; omega
theorem lkOk {f : Flow} {b : Vec} (hf : FlowOk f) (hb : BoxOk b) (hd : f.dims = (b.length : Int)) : LkOk (wds f b) (rby f b) := by
  refine ⟨wds_nodup f b, rby_closed hf hd, wds_le hf hb, fun x _ => Nat.le_trans (rby_len hf x) (rds_len hf), fun e => ?_⟩
  have h1 : ((0 : Int), b.map fun _ => (0 : Int)) ∈ wds f b := mem_wds.mpr ⟨⟨Int.le_refl _, by have := hf.n1; show (0 : Int) < _; omega⟩, mem_pts.mpr ⟨by simp, zeros_in b hb.pos⟩⟩
  rw [e] at h1
  exact nomatch h1
def FB (f : Flow) (b : Vec) : Prop := FlowOk f ∧ BoxOk b ∧ f.dims = (b.length : Int)
def spRanked (P : Program) (w : World) (K : PySem.W.Frag) : Sp := fun vs H Q _ => vs.length = 2 ∧ ∃ (vf vb : V) (f : Flow) (b : Vec), vs = [vf, vb] ∧ TD H vf (dFlow f) ∧ TD H vb (dV b) ∧ FB f b ∧ ∀ a H', Same H H' → RkAt P w K H' a (wds f b) (rby f b) → Q (.ref a) H'
abbrev N_ranked : List Str := ["flow", "box", "found"]
abbrev P_ranked : List Str := ["flow", "box"]
theorem sc_ranked : FnScope N_ranked P_ranked (defScope s_ranked) := ⟨rfl, rfl, rfl, by decide +kernel, rfl, by decide +kernel, by decide +kernel⟩
theorem D_ranked (T : Tx K mg) : DefP P w K mg base CX0 7 ("ranked", none) P_ranked (spRanked P w K) := by
  refine mk_def T 20 d_ranked rfl rfl rfl sc_ranked (fun vs H Q E h => h.1) (fun _ _ _ _ _ _ us hl => match us, hl with | [_, _], _ => rfl) (fun cdv A outer s H vs Q E hr h => ?_)
  obtain ⟨_, vf, vb, f, b, rfl, t1, t2, ⟨hf, hb, hd⟩, q⟩ := h
  have lok := lkOk hf hb hd
  refine ⟨_, (pss_cons (ps_expr (pe_cd (D_require_small T) (hr.mono (by decide)) T.g_require_small pass0 (pa_cons (pv 1) pa_nil))) (pss_cons (ps_set (i := 2) sc_ranked.nd rfl (by first | exact Or.inl rfl | exact Or.inr rfl) (pe_mk (D_Ranks_init T) T.k_Ranks (hr.mono (by decide)) T.g_Ranks pass0 (pa_cons (pv 0) (pa_cons (pv 1) pa_nil)))) (pss_cons (ps_expr (pe_md0 (D_Ranks_go T) T.c_Ranks T.m_Ranks_go (hr.mono (by decide)) pass0 (pv 2))) (pss_one (ps_ret (pv 2)))))), ?_⟩
  refine q_drop (dn_call (by walk_at "dn") (by rfl) ⟨b, rfl, hb, rfl⟩) fun H1 s1 => ?_
  have t1 := t1.s s1
  have t2 := t2.s s1
  -- the object
  refine ⟨vf, rfl, vb, rfl, fun a dx ha hdx hne => ?_⟩
  have s2 : Same H1 (upd (upd H1 dx (.own a)) a (.ins (He.ga K "Ranks") dx [])) := (Same.new hdx).trans (Same.new (by rw [upd_ne hne.symm]; exact ha))
  refine ⟨rfl, a, dx, vf, vb, f, b, rfl, upd_same, t1.s s2, t2.s s2, hf, hb, fun l r H2 k2 ha2 hl hr hlr nl nr => ⟨rfl, ?_⟩⟩
  refine ⟨.ref a, rfl, a, dx, _, rfl, ha2, rfl, rfl, a, dx, l, r, wds f b, rby f b, rfl, ha2, nl, nr, hlr, lok.nd, lok.cl, lok.ln, lok.l18, fun H3 rks rv k3 n3 g3 => ?_⟩
  obtain ⟨h4, h5⟩ := rk_is g3 lok.cl
  have har : a ≠ r := fun e => by rw [← e, upd_same] at hr; cases hr
  have hal : a ≠ l := fun e => by rw [← e, upd_same] at hl; cases hl
  have ha3 : H3 a = some (rkO K dx l r) := k3 a _ (by simpa using har) ha2
  have hr1 : H1 r = none := by
    rw [upd_ne har.symm] at hr
    by_cases e : r = dx
    · subst e; exact hdx
    · rwa [upd_ne e] at hr
  have nl3 : NDf P w H3 l (wds f b) (gLk (rby f b)) := by
    have kd : KD H2 H3 := k3.kd fun b hb u hu => by
      rw [List.mem_singleton.mp hb] at hu
      exact (nr (iv fun _ => 0)).isd u hu
    obtain ⟨kv, n, _⟩ := nl.ex
    exact NDf.kd nl kd (by rw [k3 l _ (by simpa using hlr) n.obj, n.obj])
  have s13 : Same H1 H3 := fun c u hc => by
    have hca : c ≠ a := fun e => by rw [e, ha] at hc; cases hc
    have hcr : c ≠ r := fun e => by rw [e, hr1] at hc; cases hc
    exact k3 c u (by simpa using hcr) (k2 c u (by simpa using hca) (s2 c u hc))
  exact ⟨.ref a, rfl, q a H3 (s1.trans s13) ⟨dx, l, r, rks, ha3, nl3, n3.cong fun k hk => by show PyData.int (rv k) = .int _; rw [h5 k hk], h4⟩⟩
end K32
/-! R7 -/
set_option Elab.async false
set_option linter.all false
set_option maxRecDepth 100000
set_option maxHeartbeats 400000
namespace K32
open PySem PySem.Spec PyProof.Rows L2
local macro_rules | `(tactic| walk_at "dn") => `(tactic| first
  | with_reducible exact dn_int | with_reducible exact dn_str | with_reducible exact dn_bl | with_reducible exact dn_non | with_reducible exact da_nil | with_reducible exact do_none
  | ((with_reducible refine' dn_var ?h ?k); (case h => rfl); (case k => assumption))
  | ((with_reducible refine' da_cons ?_ ?_) <;> try walk_at "dn")
  | ((with_reducible refine' dn_add ?_ ?_) <;> try walk_at "dn")
  | ((with_reducible refine' dn_sub ?_ ?_) <;> try walk_at "dn")
  | ((with_reducible refine' dn_mul ?_ ?_ ?_) <;> try walk_at "dn")
  | ((with_reducible refine' dn_lt ?_ ?_) <;> try walk_at "dn")
  | ((with_reducible refine' dn_le ?_ ?_) <;> try walk_at "dn")
  | ((with_reducible refine' dn_gt ?_ ?_) <;> try walk_at "dn")
  | ((with_reducible refine' dn_ge ?_ ?_) <;> try walk_at "dn")
  | ((with_reducible refine' dn_neg ?_) <;> try walk_at "dn")
  | ((with_reducible refine' dn_chain ?_ ?_ ?_ rd_le rd_le) <;> try walk_at "dn")
  | ((with_reducible refine' dn_chain ?_ ?_ ?_ rd_le rd_lt) <;> try walk_at "dn")
  | ((with_reducible refine' dn_isI ?h ?k); (case h => walk_at "dn"); (case k => first | with_reducible exact kb_int_int | with_reducible exact kb_int_tuple | with_reducible exact kb_int_str | with_reducible exact kb_int_bool))
  | ((with_reducible refine' dn_isT ?h ?k); (case h => walk_at "dn"); (case k => first | with_reducible exact kb_tuple_int | with_reducible exact kb_tuple_tuple | with_reducible exact kb_tuple_str | with_reducible exact kb_tuple_bool))
  | ((with_reducible refine' dn_isS ?h ?k); (case h => walk_at "dn"); (case k => first | with_reducible exact kb_str_int | with_reducible exact kb_str_tuple | with_reducible exact kb_str_str | with_reducible exact kb_str_bool))
  | ((with_reducible refine' dn_isL ?h ?k); (case h => walk_at "dn"); (case k => first | with_reducible exact kb_list_int | with_reducible exact kb_list_tuple | with_reducible exact kb_list_str | with_reducible exact kb_list_bool))
  | ((with_reducible refine' dn_isB ?h ?k); (case h => walk_at "dn"); (case k => first | with_reducible exact kb_bool_int | with_reducible exact kb_bool_tuple | with_reducible exact kb_bool_str | with_reducible exact kb_bool_bool))
  | ((with_reducible refine' dn_ixT ?h ?t ?k); (case h => walk_at "dn"); (case t => walk_at "dn"); try (case k => rfl))
  | ((with_reducible refine' dn_ixL ?h ?t ?k); (case h => walk_at "dn"); (case t => walk_at "dn"); try (case k => rfl))
  | ((with_reducible refine' dn_cb ?h ?k); (case h => walk_at "dn"); try (case k => first | exact rd_lenT | exact rd_lenL | exact rd_tupL | exact rd_lstT | exact rd_lstL | exact rc_all | exact rc_sum | exact rc_max2 | exact rc_min2))
  | ((with_reducible refine' dn_call ?h ?t ?k); (case h => walk_at "dn"); (case t => rfl))
  | ((with_reducible refine' dt_test ?_) <;> try walk_at "dn")
  | ((with_reducible refine' dt_B ?_) <;> try walk_at "dn")
  | ((with_reducible refine' dn_eqI ?h ?k); (case h => walk_at "dn"); (case k => walk_at "dn"))
  | ((with_reducible refine' dn_neI ?h ?k); (case h => walk_at "dn"); (case k => walk_at "dn"))
  | ((with_reducible refine' dn_eqS ?h ?k); (case h => walk_at "dn"); (case k => walk_at "dn"))
  | ((with_reducible refine' dn_neS ?h ?k); (case h => walk_at "dn"); (case k => walk_at "dn"))
  | ((with_reducible refine' dt_or ?_ (fun _ => ?_)) <;> try walk_at "dn")
  | ((with_reducible refine' dt_and ?_ (fun _ => ?_)) <;> try walk_at "dn")
  | ((with_reducible refine' dn_orV ?_ (fun _ => ?_)) <;> try walk_at "dn")
  | ((with_reducible refine' dn_andV ?_ (fun _ => ?_)) <;> try walk_at "dn")
  | ((with_reducible refine' dt_not ?_) <;> try walk_at "dn")
  | ((with_reducible refine' dn_notV ?_) <;> try walk_at "dn")
  | ((with_reducible refine' da_star ?_ ?_) <;> try walk_at "dn")
  | ((with_reducible refine' dn_tup ?_ ?_) <;> try walk_at "dn")
  | ((with_reducible refine' dn_lst ?_ ?_) <;> try walk_at "dn")
  | ((with_reducible refine' do_some ?_) <;> try walk_at "dn"))
variable {P : Program} {w : World} {K : PySem.W.Frag} {mg : Str → Option Value} {base : Heap}
theorem q_asg {i : Nat} {te : TE} {tz : TS} {D : Ends} {σ : L2.St} {H : Hp} (h : te σ H fun v H1 => tz D (σ.set i (some v)) H1) : tSeq (tAsg te (gName i)) tz D σ H := h
def isNo : Dt → Bool
  | .none => true
  | _ => false
theorem TD.no {H : Hp} {v : V} {d : Dt} (t : TD H v d) : decide (v = .non) = isNo d := by
  cases t <;> simp [isNo]
theorem dn_notN {σ : L2.St} {H : Hp} {ta : TE} {d : Dt} (ha : Dn ta σ H d) : Dn (tOp (fun x y H Q => y = .non ∧ Q (.bl (!decide (x = .non))) H) ta (tC .non)) σ H (.bool (!isNo d)) := dn_op ha dn_non fun x y H tx ty Q q => by
  refine ⟨by cases ty; rfl, ?_⟩
  rw [tx.no]
  exact q _ H (Same.refl H) (.bl _)
theorem isNo_loopD (ks : List Wd) (lk : Lk) : isNo (loopD ks lk) = decide (left0 ks lk = []) := by
  unfold loopD
  by_cases h : left0 ks lk = [] <;> simp [h, isNo]
noncomputable def LF (f : Flow) (b : Vec) : List Wd := left0 (wds f b) (rby f b)
noncomputable def RV (f : Flow) (b : Vec) : Wd → Int := rkV (wds f b) (rby f b)
noncomputable def rowD (f : Flow) (b : Vec) (pl : Nat) : Dt := .tuple ((pts b).map fun p => .int (RV f b ((pl : Int), p)))
noncomputable def frD (f : Flow) (b : Vec) : Dt := if LF f b = [] then .tuple [.str "ranks", .tuple ((List.range f.rules.length).map (rowD f b))] else .tuple [.str "loop", .tuple ((loopL (wds f b) (rby f b)).map dW)]
def fFindRanks (ds : List Dt) (r : Dt) : Prop := ∃ (f : Flow) (b : Vec), ds = [dFlow f, dV b] ∧ FB f b ∧ r = frD f b
theorem flat_rowD (f : Flow) (b : Vec) (pl : Nat) : flat (rowD f b pl) = true := by
  unfold rowD
  rw [flat]
  exact flats_map (fun _ => rfl) _
abbrev N_find_ranks : List Str := ["flow", "box", "found", "loop", "points", "plane", "point"]
abbrev P_find_ranks : List Str := ["flow", "box"]
theorem sc_find_ranks : FnScope N_find_ranks P_find_ranks (defScope s_find_ranks) := ⟨rfl, rfl, rfl, by decide +kernel, rfl, by decide +kernel, by decide +kernel⟩
theorem D_find_ranks (T : Tx K mg) : DefP P w K mg base CX0 8 ("find_ranks", none) P_find_ranks (Pu 2 fFindRanks) := by
  refine mk_def T 21 d_find_ranks rfl rfl rfl sc_find_ranks (fun vs H Q E h => h.1) (fun _ _ _ _ _ _ us hl => match us, hl with | [_, _], _ => rfl) (fun cdv A outer s H vs Q E hr h => ?_)
  obtain ⟨_, ds, r, hd, ⟨f, b, rfl, hfb, rfl⟩, q⟩ := h
  obtain ⟨vf, vb, rfl, t1, t2⟩ := hd.two
  have lok := lkOk hfb.1 hfb.2.1 hfb.2.2
  refine ⟨_, (pss_cons (ps_set (i := 2) sc_find_ranks.nd rfl (by first | exact Or.inl rfl | exact Or.inr rfl) (pe_cd (D_ranked T) (hr.mono (by decide)) T.g_ranked pass0 (pa_cons (pv 0) (pa_cons (pv 1) pa_nil)))) (pss_cons (ps_set (i := 3) sc_find_ranks.nd rfl (by first | exact Or.inl rfl | exact Or.inr rfl) (pe_md0 (D_Ranks_loop_left T) T.c_Ranks T.m_Ranks_loop_left (hr.mono (by decide)) pass0 (pv 2))) (pss_cons (ps_if (pt_cmpR op_notN (pv 3) pe_non (nomark _)) (pss_one (ps_ret (pe_tup (pa_cons pe_str (pa_cons (pv 3) pa_nil))))) pss_nil) (pss_cons (ps_set (i := 4) sc_find_ranks.nd rfl (by first | exact Or.inl rfl | exact Or.inr rfl) (pe_cd (D_points_of T) (hr.mono (by decide)) T.g_points_of pass0 (pa_cons (pv 1) pa_nil))) (pss_one (ps_ret (pe_tup (pa_cons pe_str (pa_cons (pe_callTy (kcall_tuple K) (by rfl) T.f_tuple (by decide +kernel) (pa_cons (pe_lc (own := [("plane", 5)]) rfl sc_find_ranks.nd (pi_range1 rfl T.f_range (pa_cons (pe_callB (kcall_len K) (by rfl) T.f_len boot_len (pa_cons (pe_ix (kix_tup K) (pv 0) pe_int (fun _ _ => rfl)) pa_nil)) pa_nil)) (blkOk_by (N := N_find_ranks) (sc := defScope s_find_ranks) (by decide +kernel)) (fun _ _ _ _ _ => (pg_name (i := 5) sc_find_ranks.nd rfl (by first | exact Or.inl rfl | exact Or.inr rfl))) (fun _ _ _ _ _ => pts_nil) (fun _ _ _ _ _ => (pe_callTy (kcall_tuple K) (by rfl) T.f_tuple (by decide +kernel) (pa_cons (pe_lc (own := [("point", 6)]) rfl sc_find_ranks.nd (kpi_tup K (pv 4)) (blkOk_by (N := N_find_ranks) (by kernel_rfl)) (fun _ _ _ _ _ => (pg_name (i := 6) sc_find_ranks.nd rfl (by first | exact Or.inl rfl | exact Or.inr rfl))) (fun _ _ _ _ _ => pts_nil) (fun _ _ _ _ _ => (pe_ndget P w (hu9 hr) (kpe_fld K (pv 2)) (pe_tup (pa_cons (pv 5) (pa_cons (pv 6) pa_nil)))))) pa_nil)))) pa_nil)) pa_nil))))))))), ?_⟩
  refine q_asg ⟨vf, rfl, vb, rfl, rfl, vf, vb, f, b, rfl, t1, t2, hfb, fun a H1 s1 rk => ?_⟩
  obtain ⟨dx, l, r, rks, ha, nl, nr, hrk⟩ := id rk
  refine q_asg ⟨.ref a, rfl, a, dx, _, rfl, ha, rfl, rfl, a, wds f b, rby f b, rfl, rk, lok, fun v H2 s2 tv => ?_⟩
  have hif := dn_notN (σ := ((L2.start N_find_ranks [vf, vb]).set 2 (some (V.ref a))).set 3 (some v)) (dn_var (i := 3) rfl tv)
  rw [isNo_loopD] at hif
  refine q_if0 (dt_test hif) ?_ ?_
  · intro hb H3 s3
    have hne : LF f b ≠ [] := by simpa [LF] using hb
    have tv3 := tv.s s3
    have el : loopD (wds f b) (rby f b) = .tuple ((loopL (wds f b) (rby f b)).map dW) := by
      unfold loopD
      rw [if_neg (show ¬ left0 (wds f b) (rby f b) = [] from hne)]
    rw [el] at tv3
    refine s_ret (dn_tup (da_cons dn_str (da_cons (dn_var (i := 3) rfl tv3) da_nil)) (by simp)) fun v4 H4 s4 t4 => q v4 H4 (((s1.trans s2).trans s3).trans s4) ?_
    unfold frD
    rw [if_neg hne]
    exact t4
  · intro hb H3 s3
    have he : LF f b = [] := by simpa [LF] using hb
    have s03 := (s1.trans s2).trans s3
    have hall : ∀ k ∈ wds f b, k ∈ rks := fun k hk => (hrk k).mpr (all_ranked he k hk)
    have t1 := t1.s s03
    have t2 := t2.s s03
    have ha := s3 _ _ (s2 _ _ ha)
    have nr := (nr.s s2).s s3
    refine q_set (dn_call (by walk_at "dn") (by rfl) ⟨b, rfl, hfb.2.1, rfl⟩) fun vp H4 s4 tp => ?_
    have t1 := t1.s s4
    have ha := s4 _ _ ha
    have nr := nr.s s4
    have h6 := hfb.1.n6
    have h240 := pts_le0 hfb.2.1
    refine s_ret (d := .tuple [.str "ranks", .tuple ((List.range f.rules.length).map (rowD f b))]) (dn_tup (da_cons dn_str (da_cons (dn_cb (da_cons (dn_lcm (fun pl : Nat => PyData.int (pl : Int)) (List.range f.rules.length) (rowD f b) ?_ (by rw [List.length_range]; omega) (fun pl _ => flat_rowD f b pl) ?_) da_nil) (rd_tupL (K := K))) da_nil)) (by simp)) fun v4 H5 s5 t5 => q v4 H5 (s03.trans (s4.trans s5)) ?_
    · have h3 := src_rng1 (σ := (((L2.start N_find_ranks [vf, vb]).set 2 (some (V.ref a))).set 3 (some v)).set 4 (some vp)) (H := H4) (ta := tCons (tCB (rLen K) (tCons (tOp (rIxT K) (tVar 0) (tC (.int 1))) tNil)) tNil) (n := ((f.rules.map dRule).length : Int)) (by walk_at "dn") (by rw [List.length_map]; omega) (by omega)
      rw [List.length_map, Int.toNat_natCast] at h3
      exact h3
    · intro pl hpl x H5 s5 tx
      have hpl := List.mem_range.mp hpl
      have tp := tp.s s5
      refine ⟨_, sto_name, rfl, dn_cb (da_cons (dn_lcm dV (pts b) (fun p => .int (RV f b ((pl : Int), p))) (src_tup (by walk_at "dn")) (by omega) (fun _ _ => rfl) ?_) da_nil) (rd_tupL (K := K))⟩
      intro p hp y H6 s6 ty
      have tx := tx.s s6
      have hk : (((pl : Nat) : Int), p) ∈ wds f b := mem_wds.mpr ⟨⟨by omega, by omega⟩, hp⟩
      refine ⟨_, sto_name, rfl, ?_⟩
      refine dn_ndget (g := iv (rkV (wds f b) (rby f b))) (k := ((pl : Int), p)) (dv_fld (dv_var rfl) (s6 _ _ (s5 _ _ ha)) T.c_Ranks T.n_Ranks_ranks rfl) ((nr.s s5).s s6).r (dn_tup (da_cons (dn_var rfl tx) (da_cons (dn_var rfl ty) da_nil)) (by simp)) (hall _ hk)
    · unfold frD
      rw [if_pos he]
      exact t5
abbrev N_is_loop : List Str := ["flow", "box", "value", "at", "item"]
abbrev P_is_loop : List Str := ["flow", "box", "value"]
theorem sc_is_loop : FnScope N_is_loop P_is_loop (defScope s_is_loop) := ⟨rfl, rfl, rfl, by decide +kernel, rfl, by decide +kernel, by decide +kernel⟩
def loopB (f : Flow) (b : Vec) (L : List Wd) : Bool := (List.range L.length).all fun k => decide (((L2.atI L ((k : Int) - 1)).getD w0) ∈ rby f b ((L[k]?).getD w0))
def fIsLoop (ds : List Dt) (r : Dt) : Prop := ∃ (f : Flow) (b : Vec) (L : List Wd), ds = [dFlow f, dV b, .tuple (L.map dW)] ∧ FB f b ∧ L ≠ [] ∧ L.length ≤ 1440 ∧ (∀ x ∈ L, x ∈ wds f b) ∧ r = .bool (loopB f b L)
theorem wordB_true {f : Flow} {b : Vec} {x : Wd} (h : x ∈ wds f b) : wordB f b x = true := by
  obtain ⟨⟨h1, h2⟩, h3⟩ := mem_wds.mp h
  obtain ⟨h4, h5⟩ := mem_pts.mp h3
  unfold wordB isPt
  rw [if_pos h4]
  have h6 : ((x.2.zip b).map fun p => decide (0 ≤ p.1) && decide (p.1 ≤ p.2 - 1)) = ((x.2.zip b).map fun p => decide (0 ≤ p.1) && decide (p.1 < p.2)) := List.map_congr_left fun p _ => by
    congr 1
    by_cases h : p.1 < p.2
    · have : p.1 ≤ p.2 - 1 := by omega
      simp [h, this]
    · have : ¬ p.1 ≤ p.2 - 1 := by omega
      simp [h, this]
  rw [h6]
  unfold inside at h5
  rw [h5]
  have : x.1 ≤ (f.rules.length : Int) - 1 := by omega
  simp [h1, this]
theorem atI_some {α : Type} {l : List α} {k : Nat} (h : k < l.length) : ∃ x, L2.atI l ((k : Int) - 1) = some x ∧ x ∈ l := by
  cases k with
  | zero =>
    have hne : l ≠ [] := fun e => by rw [e] at h; simp at h
    have h2 : l.length - 1 < l.length := by omega
    refine ⟨l[l.length - 1], ?_, List.getElem_mem h2⟩
    show L2.atI l (-1) = _
    rw [atI_last hne, List.getElem?_eq_getElem h2]
  | succ k =>
    refine ⟨l[k], ?_, List.getElem_mem (by omega)⟩
    rw [show ((k + 1 : Nat) : Int) - 1 = (k : Int) by omega, atI_nat, List.getElem?_eq_getElem (by omega)]
theorem atI_map {α β : Type} (g : α → β) (l : List α) (i : Int) : L2.atI (l.map g) i = (L2.atI l i).map g := by
  unfold L2.atI
  rw [List.length_map]
  cases L2.ixN l.length i with
  | none => rfl
  | some j => simp
theorem D_is_loop (T : Tx K mg) : DefP P w K mg base CX0 4 ("is_loop", none) P_is_loop (Pu 3 fIsLoop) := by
  refine mk_def T 23 d_is_loop rfl rfl rfl sc_is_loop (fun vs H Q E h => h.1) (fun _ _ _ _ _ _ us hl => match us, hl with | [_, _, _], _ => rfl) (fun cdv A outer s H vs Q E hr h => ?_)
  obtain ⟨_, ds, r, hd, ⟨f, b, L, rfl, hfb, hne, hL, hin, rfl⟩, q⟩ := h
  obtain ⟨x, y, z, rfl, t1, t2, t3⟩ := hd.three
  have hb3 := hfb.2.1.len
  have hwl : ∀ x ∈ L, x.2.length ≤ 1000 := fun x hx => by
    have := (mem_pts.mp (mem_wds.mp (hin x hx)).2).1
    omega
  refine ⟨_, (pss_cons (ps_if (PW.pt (pw_or (pt_not (pt_val (pe_callB (kcall_isi K) (by rfl) T.f_isinstance (by decide +kernel) (pa_cons (pv 2) (pa_cons (pe_bltn (v := .ty "tuple") rfl T.f_tuple (by decide +kernel) rfl) pa_nil))))) (pw_or (pt_cmpR (kop_eqD K hr.units) (pv 2) (pe_tup pa_nil) (nomark _)) (pw_or1 (pt_not (pt_val (pe_callB (kcr_all K) (by rfl) T.f_all (by decide +kernel) (pa_cons (pe_lc (own := [("item", 4)]) rfl sc_is_loop.nd (kpi_tup K (pv 2)) (blkOk_by (N := N_is_loop) (sc := defScope s_is_loop) (by decide +kernel)) (fun _ _ _ _ _ => (pg_name (i := 4) sc_is_loop.nd rfl (by first | exact Or.inl rfl | exact Or.inr rfl))) (fun _ _ _ _ _ => pts_nil) (fun _ _ _ _ _ => (pe_cd (D_is_word T) (hr.mono (by decide)) T.g_is_word pass0 (pa_cons (pv 0) (pa_cons (pv 1) (pa_cons (pv 4) pa_nil)))))) pa_nil)))))))) (pss_one (ps_ret pe_bl)) pss_nil) (pss_one (ps_ret (pe_callB (kcr_all K) (by rfl) T.f_all (by decide +kernel) (pa_cons (pe_lc (own := [("at", 3)]) rfl sc_is_loop.nd (pi_range1 rfl T.f_range (pa_cons (pe_callB (kcall_len K) (by rfl) T.f_len boot_len (pa_cons (pv 2) pa_nil)) pa_nil)) (blkOk_by (N := N_is_loop) (sc := defScope s_is_loop) (by decide +kernel)) (fun _ _ _ _ _ => (pg_name (i := 3) sc_is_loop.nd rfl (by first | exact Or.inl rfl | exact Or.inr rfl))) (fun _ _ _ _ _ => pts_nil) (fun _ _ _ _ _ => (pe_cmpR (kop_inD K (hu65 hr)) (pe_ix (kix_tup K) (pv 2) (pe_op op_sub (pv 3) pe_int) (fun _ _ => rfl)) (pe_cd (D_read_by T) (hr.mono (by decide)) T.g_read_by pass0 (pa_cons (pv 0) (pa_cons (pv 1) (pa_cons (pe_ix (kix_tup K) (pv 2) (pv 3) (fun _ _ => rfl)) pa_nil)))) (by rfl)))) pa_nil))))), ?_⟩
  have e0 : PyData.eqv (.tuple (L.map dW)) (.tuple []) = false := by
    cases L with
    | nil => exact absurd rfl hne
    | cons a l => simp [PyData.eqv, PyData.eqvAll]
  have hall : ∀ H', Same H H' → Dn (tCB (rAll K) (tCons (tLc (iTup K (tVar 2)) (gName 3) tYes (tCall (Pu 3 fIsWord) [] E0 (tCons (tVar 0) (tCons (tVar 1) (tCons (tVar 3) tNil)))) [3]) tNil)) (L2.start N_is_loop [x, y, z]) H' (.bool true) := fun H' s' => by
    have t1 := t1.s s'
    have t2 := t2.s s'
    have t3 := t3.s s'
    have h1 := dn_lcm (te := tCall (Pu 3 fIsWord) [] E0 (tCons (tVar 0) (tCons (tVar 1) (tCons (tVar 3) tNil)))) (g := gName 3) (vs := [3]) dW L (fun x => .bool (wordB f b x)) (src_tup (K := K) (σ := L2.start N_is_loop [x, y, z]) (te := tVar 2) (dn_var rfl t3)) (by omega) (fun _ _ => rfl) fun k hk u H1 s1 tu => ⟨_, sto_name, rfl, by
      have t1 := t1.s s1
      have t2 := t2.s s1
      exact dn_call (by walk_at "dn") (by rfl) ⟨f, b, k, rfl, hwl k hk, rfl⟩⟩
    have e1 : (L.map fun x => PyData.bool (wordB f b x)) = (L.map (wordB f b)).map .bool := by rw [List.map_map]; rfl
    rw [e1] at h1
    refine (dn_cb (da_cons h1 da_nil) (rc_all (K := K))).is ?_
    have : (L.map (wordB f b)).all id = true := by
      rw [List.all_map, List.all_eq_true]
      exact fun x hx => wordB_true (hin x hx)
    rw [this]
  refine q_ifno (DnT.is (b := !true || (PyData.eqv (.tuple (L.map dW)) (.tuple []) || !true)) (dt_or (by walk_at "dn") fun _ => dt_or (dt_test (dn_eqD (dn_var rfl t3) (dn_tup da_nil (by decide)) (shaped_tW L) (shaped_tW []))) fun _ => dt_not (dt_B (hall H (Same.refl H)))) (by rw [e0]; rfl)) fun H1 s1 => ?_
  have t1 := t1.s s1
  have t2 := t2.s s1
  have t3 := t3.s s1
  have hsrc := src_rng1 (σ := L2.start N_is_loop [x, y, z]) (H := H1) (ta := tCons (tCB (rLen K) (tCons (tVar 2) tNil)) tNil) (n := ((L.map dW).length : Int)) (by walk_at "dn") (by rw [List.length_map]; omega) (by omega)
  rw [List.length_map, Int.toNat_natCast] at hsrc
  refine s_ret (dn_cb (da_cons (dn_lcm (fun k : Nat => PyData.int (k : Int)) (List.range L.length) (fun k => .bool (decide (((L2.atI L ((k : Int) - 1)).getD w0) ∈ rby f b ((L[k]?).getD w0)))) hsrc (by rw [List.length_range]; omega) (fun _ _ => rfl) ?_) da_nil) (z := .bool (loopB f b L)) ?_) fun v H2 s2 t2 => q v H2 (s1.trans s2) t2
  · intro k hk u H2 s2 tu
    have hk := List.mem_range.mp hk
    have t1 := t1.s s2
    have t2 := t2.s s2
    have t3 := t3.s s2
    obtain ⟨a, ha, ham⟩ := atI_some (l := L) hk
    have hx : L[k]? = some L[k] := List.getElem?_eq_getElem hk
    refine ⟨_, sto_name, rfl, ?_⟩
    rw [ha, hx]
    show Dn _ _ _ (.bool (decide (a ∈ rby f b L[k])))
    rw [← any_eqv]
    refine dn_inD (dn_ixT (dn_var rfl t3) (dn_sub (dn_var rfl tu) dn_int) (by rw [atI_map, ha]; rfl)) (dn_call (da_cons (dn_var rfl t1) (da_cons (dn_var rfl t2) (da_cons (dn_ixT (dn_var rfl t3) (dn_var rfl tu) (by rw [atI_map, atI_nat, hx]; rfl)) da_nil))) (by rfl) ⟨f, b, L[k], rfl, hfb.1, hwl _ (List.getElem_mem hk), rfl⟩) (shaped_dW _) (shaped_lW _)
  · unfold loopB
    have e2 : ((List.range L.length).map fun k : Nat => PyData.bool (decide (((L2.atI L ((k : Int) - 1)).getD w0) ∈ rby f b ((L[k]?).getD w0)))) = ((List.range L.length).map fun k : Nat => decide (((L2.atI L ((k : Int) - 1)).getD w0) ∈ rby f b ((L[k]?).getD w0))).map .bool := by rw [List.map_map]; rfl
    rw [e2]
    have e3 : ((List.range L.length).all fun k : Nat => decide (((L2.atI L ((k : Int) - 1)).getD w0) ∈ rby f b ((L[k]?).getD w0))) = ((List.range L.length).map fun k : Nat => decide (((L2.atI L ((k : Int) - 1)).getD w0) ∈ rby f b ((L[k]?).getD w0))).all id := by rw [List.all_map]; rfl
    rw [e3]
    exact rc_all
end K32
/-! R8 -/
set_option Elab.async false
set_option linter.all false
set_option maxRecDepth 100000
set_option maxHeartbeats 400000
namespace K32
open PySem PySem.Spec PyProof.Rows L2
local macro_rules | `(tactic| walk_at "dn") => `(tactic| first
  | with_reducible exact dn_int | with_reducible exact dn_str | with_reducible exact dn_bl | with_reducible exact dn_non | with_reducible exact da_nil | with_reducible exact do_none
  | ((with_reducible refine' dn_var ?h ?k); (case h => rfl); (case k => assumption))
  | ((with_reducible refine' da_cons ?_ ?_) <;> try walk_at "dn")
  | ((with_reducible refine' dn_add ?_ ?_) <;> try walk_at "dn")
  | ((with_reducible refine' dn_sub ?_ ?_) <;> try walk_at "dn")
  | ((with_reducible refine' dn_mul ?_ ?_ ?_) <;> try walk_at "dn")
  | ((with_reducible refine' dn_lt ?_ ?_) <;> try walk_at "dn")
  | ((with_reducible refine' dn_le ?_ ?_) <;> try walk_at "dn")
  | ((with_reducible refine' dn_gt ?_ ?_) <;> try walk_at "dn")
  | ((with_reducible refine' dn_ge ?_ ?_) <;> try walk_at "dn")
  | ((with_reducible refine' dn_neg ?_) <;> try walk_at "dn")
  | ((with_reducible refine' dn_chain ?_ ?_ ?_ rd_le rd_le) <;> try walk_at "dn")
  | ((with_reducible refine' dn_chain ?_ ?_ ?_ rd_le rd_lt) <;> try walk_at "dn")
  | ((with_reducible refine' dn_isI ?h ?k); (case h => walk_at "dn"); (case k => first | with_reducible exact kb_int_int | with_reducible exact kb_int_tuple | with_reducible exact kb_int_str | with_reducible exact kb_int_bool))
  | ((with_reducible refine' dn_isT ?h ?k); (case h => walk_at "dn"); (case k => first | with_reducible exact kb_tuple_int | with_reducible exact kb_tuple_tuple | with_reducible exact kb_tuple_str | with_reducible exact kb_tuple_bool))
  | ((with_reducible refine' dn_isS ?h ?k); (case h => walk_at "dn"); (case k => first | with_reducible exact kb_str_int | with_reducible exact kb_str_tuple | with_reducible exact kb_str_str | with_reducible exact kb_str_bool))
  | ((with_reducible refine' dn_isL ?h ?k); (case h => walk_at "dn"); (case k => first | with_reducible exact kb_list_int | with_reducible exact kb_list_tuple | with_reducible exact kb_list_str | with_reducible exact kb_list_bool))
  | ((with_reducible refine' dn_isB ?h ?k); (case h => walk_at "dn"); (case k => first | with_reducible exact kb_bool_int | with_reducible exact kb_bool_tuple | with_reducible exact kb_bool_str | with_reducible exact kb_bool_bool))
  | ((with_reducible refine' dn_ixT ?h ?t ?k); (case h => walk_at "dn"); (case t => walk_at "dn"); try (case k => rfl))
  | ((with_reducible refine' dn_ixL ?h ?t ?k); (case h => walk_at "dn"); (case t => walk_at "dn"); try (case k => rfl))
  | ((with_reducible refine' dn_cb ?h ?k); (case h => walk_at "dn"); try (case k => first | exact rd_lenT | exact rd_lenL | exact rd_tupL | exact rd_lstT | exact rd_lstL | exact rc_all | exact rc_sum | exact rc_max2 | exact rc_min2))
  | ((with_reducible refine' dn_call ?h ?t ?k); (case h => walk_at "dn"); (case t => rfl))
  | ((with_reducible refine' dt_test ?_) <;> try walk_at "dn")
  | ((with_reducible refine' dt_B ?_) <;> try walk_at "dn")
  | ((with_reducible refine' dn_eqI ?h ?k); (case h => walk_at "dn"); (case k => walk_at "dn"))
  | ((with_reducible refine' dn_neI ?h ?k); (case h => walk_at "dn"); (case k => walk_at "dn"))
  | ((with_reducible refine' dn_eqS ?h ?k); (case h => walk_at "dn"); (case k => walk_at "dn"))
  | ((with_reducible refine' dn_neS ?h ?k); (case h => walk_at "dn"); (case k => walk_at "dn"))
  | ((with_reducible refine' dt_or ?_ (fun _ => ?_)) <;> try walk_at "dn")
  | ((with_reducible refine' dt_and ?_ (fun _ => ?_)) <;> try walk_at "dn")
  | ((with_reducible refine' dn_orV ?_ (fun _ => ?_)) <;> try walk_at "dn")
  | ((with_reducible refine' dn_andV ?_ (fun _ => ?_)) <;> try walk_at "dn")
  | ((with_reducible refine' dt_not ?_) <;> try walk_at "dn")
  | ((with_reducible refine' dn_notV ?_) <;> try walk_at "dn")
  | ((with_reducible refine' da_star ?_ ?_) <;> try walk_at "dn")
  | ((with_reducible refine' dn_tup ?_ ?_) <;> try walk_at "dn")
  | ((with_reducible refine' dn_lst ?_ ?_) <;> try walk_at "dn")
  | ((with_reducible refine' do_some ?_) <;> try walk_at "dn"))
variable {P : Program} {w : World} {K : PySem.W.Frag} {mg : Str → Option Value} {base : Heap}
mutual
def sh : Nat → Dt → Bool
  | _, .int _ => true
  | _, .str x => PyData.strOk x
  | n + 1, .tuple ds => decide (ds.length ≤ 1500) && shs n ds
  | _, _ => false
def shs : Nat → List Dt → Bool
  | _, [] => true
  | n, d :: ds => sh n d && shs n ds
end
theorem shs_mem {n : Nat} : ∀ {ds : List Dt}, shs n ds = true → ∀ d ∈ ds, sh n d = true
  | [], _, _, h => nomatch h
  | a :: l, hs, d, hd => by
    rw [shs] at hs
    have hs : sh n a = true ∧ shs n l = true := by simpa using hs
    rcases List.mem_cons.mp hd with rfl | hd
    · exact hs.1
    · exact shs_mem hs.2 d hd
theorem shs_map {n : Nat} {α : Type} {e : α → Dt} (h : ∀ a, sh n (e a) = true) : ∀ l : List α, shs n (l.map e) = true
  | [] => by simp [shs]
  | a :: l => by simp [shs, h a, shs_map h l]
def fSame (n : Nat) (ds : List Dt) (r : Dt) : Prop := ∃ d, ds = [d, d] ∧ sh n d = true ∧ r = .bool true
theorem zip_self (ds : List Dt) : (ds.zip ds).map (fun p => PyData.tuple [p.1, p.2]) = ds.map fun d => .tuple [d, d] := by
  induction ds with
  | nil => rfl
  | cons a l ih => simp [ih]
theorem lay_int (i : Int) : SeqAt.shaped (.int i) = true := shaped_of (by simp [PyData.canLay0]) (by simp [PyData.depth])
theorem lay_str {i : Str} (h : PyData.strOk i = true) : SeqAt.shaped (.str i) = true := shaped_of (by simpa [PyData.canLay0] using h) (by simp [PyData.depth])
abbrev N_is_same : List Str := ["one", "other", "left", "right"]
abbrev P_is_same : List Str := ["one", "other"]
theorem sc_is_same : FnScope N_is_same P_is_same (defScope s_is_same) := ⟨rfl, rfl, rfl, by decide +kernel, rfl, by decide +kernel, by decide +kernel⟩
theorem is_same_S (T : Tx K mg) (k n : Nat) (spc : Sp) (D0 : DefP P w K mg base CX0 k ("is_same", none) P_is_same spc) (hs : n = 0 ∨ ∃ m, n = m + 1 ∧ spc = Pu 2 (fSame m)) : DefP P w K mg base CX0 (k + 1) ("is_same", none) P_is_same (Pu 2 (fSame n)) := by
  refine mk_def T 5 d_is_same rfl rfl rfl sc_is_same (fun vs H Q E h => h.1) (fun _ _ _ _ _ _ us hl => match us, hl with | [_, _], _ => rfl) (fun cdv A outer s H vs Q E hr h => ?_)
  obtain ⟨_, ds, r, hd, ⟨d, rfl, hsh, rfl⟩, q⟩ := h
  obtain ⟨x, y, rfl, t1, t2⟩ := hd.two
  refine ⟨_, (pss_cons (ps_if (PW.pt (pw_and (pt_val (pe_callB (kcall_isi K) (by rfl) T.f_isinstance (by decide +kernel) (pa_cons (pv 0) (pa_cons (pe_bltn (v := .ty "tuple") rfl T.f_tuple (by decide +kernel) rfl) pa_nil)))) (pw_and1 (pt_val (pe_callB (kcall_isi K) (by rfl) T.f_isinstance (by decide +kernel) (pa_cons (pv 1) (pa_cons (pe_bltn (v := .ty "tuple") rfl T.f_tuple (by decide +kernel) rfl) pa_nil))))))) (pss_one (ps_ret (pe_and (pe_cmpR op_eq (pe_callB (kcall_len K) (by rfl) T.f_len boot_len (pa_cons (pv 0) pa_nil)) (pe_callB (kcall_len K) (by rfl) T.f_len boot_len (pa_cons (pv 1) pa_nil)) (nomark _)) (pe_one (pe_callB (kcr_all K) (by rfl) T.f_all (by decide +kernel) (pa_cons (pe_lc (own := [("left", 2), ("right", 3)]) rfl sc_is_same.nd (kpi_zip K T.f_zip (pa_cons (pv 0) (pa_cons (pv 1) pa_nil))) (blkOk_by (N := N_is_same) (sc := defScope s_is_same) (by decide +kernel)) (fun _ _ _ _ _ => (kpg_tup K 2 (pgs_cons (pg_name (i := 2) sc_is_same.nd rfl (by first | exact Or.inl rfl | exact Or.inr rfl)) (pgs_cons (pg_name (i := 3) sc_is_same.nd rfl (by first | exact Or.inl rfl | exact Or.inr rfl)) pgs_nil)))) (fun _ _ _ _ _ => pts_nil) (fun _ _ _ _ _ => (pe_cd D0 hr T.g_is_same pass0 (pa_cons (pv 2) (pa_cons (pv 3) pa_nil))))) pa_nil)))))) pss_nil) (pss_cons (ps_if (PW.pt (pw_or (pt_val (pe_callB (kcall_isi K) (by rfl) T.f_isinstance (by decide +kernel) (pa_cons (pv 0) (pa_cons (pe_bltn (v := .ty "bool") rfl T.f_bool (by decide +kernel) rfl) pa_nil)))) (pw_or1 (pt_val (pe_callB (kcall_isi K) (by rfl) T.f_isinstance (by decide +kernel) (pa_cons (pv 1) (pa_cons (pe_bltn (v := .ty "bool") rfl T.f_bool (by decide +kernel) rfl) pa_nil))))))) (pss_one (ps_ret pe_bl)) pss_nil) (pss_cons (ps_if (PW.pt (pw_and (pt_val (pe_callB (kcall_isi K) (by rfl) T.f_isinstance (by decide +kernel) (pa_cons (pv 0) (pa_cons (pe_bltn (v := .ty "int") rfl T.f_int (by decide +kernel) rfl) pa_nil)))) (pw_and1 (pt_val (pe_callB (kcall_isi K) (by rfl) T.f_isinstance (by decide +kernel) (pa_cons (pv 1) (pa_cons (pe_bltn (v := .ty "int") rfl T.f_int (by decide +kernel) rfl) pa_nil))))))) (pss_one (ps_ret (pe_cmpR (kop_eqD K hr.units) (pv 0) (pv 1) (nomark _)))) pss_nil) (pss_one (ps_ret (pe_and (pe_callB (kcall_isi K) (by rfl) T.f_isinstance (by decide +kernel) (pa_cons (pv 0) (pa_cons (pe_bltn (v := .ty "str") rfl T.f_str (by decide +kernel) rfl) pa_nil))) (pe_and (pe_callB (kcall_isi K) (by rfl) T.f_isinstance (by decide +kernel) (pa_cons (pv 1) (pa_cons (pe_bltn (v := .ty "str") rfl T.f_str (by decide +kernel) rfl) pa_nil))) (pe_one (pe_cmpR (kop_eqD K hr.units) (pv 0) (pv 1) (nomark _)))))))))), ?_⟩
  cases d with
  | int i =>
    refine q_ifno (DnT.is (b := false && false) (by walk_at "dn") rfl) fun H1 s1 => ?_
    have t1 := t1.s s1
    have t2 := t2.s s1
    refine q_ifno (DnT.is (b := false || false) (by walk_at "dn") rfl) fun H2 s2 => ?_
    have t1 := t1.s s2
    have t2 := t2.s s2
    refine q_ifyes (DnT.is (b := true && true) (by walk_at "dn") rfl) fun H3 s3 => ?_
    have h1 := dn_eqD (K := K) (dn_var (σ := L2.start N_is_same [x, y]) (i := 0) rfl (t1.s s3)) (dn_var (σ := L2.start N_is_same [x, y]) (i := 1) rfl (t2.s s3)) (lay_int i) (lay_int i)
    have e : PyData.eqv (.int i) (.int i) = true := by simp [PyData.eqv]
    rw [e] at h1
    exact s_ret h1 fun v H4 s4 t4 => q v H4 (((s1.trans s2).trans s3).trans s4) t4
  | str i =>
    have hok : PyData.strOk i = true := by cases n <;> simpa [sh] using hsh
    refine q_ifno (DnT.is (b := false && false) (by walk_at "dn") rfl) fun H1 s1 => ?_
    have t1 := t1.s s1
    have t2 := t2.s s1
    refine q_ifno (DnT.is (b := false || false) (by walk_at "dn") rfl) fun H2 s2 => ?_
    have t1 := t1.s s2
    have t2 := t2.s s2
    refine q_ifno (DnT.is (b := false && false) (by walk_at "dn") rfl) fun H3 s3 => ?_
    have h1 := dn_eqD (K := K) (dn_var (σ := L2.start N_is_same [x, y]) (i := 0) rfl (t1.s s3)) (dn_var (σ := L2.start N_is_same [x, y]) (i := 1) rfl (t2.s s3)) (lay_str hok) (lay_str hok)
    have e : PyData.eqv (.str i) (.str i) = true := by simp [PyData.eqv]
    rw [e] at h1
    have t1 := t1.s s3
    have t2 := t2.s s3
    exact s_ret (d := .bool (true && (true && true))) (dn_andV (by walk_at "dn") fun _ => dn_andV (by walk_at "dn") fun _ => h1) fun v H4 s4 t4 => q v H4 (((s1.trans s2).trans s3).trans s4) t4
  | tuple es =>
    rcases hs with rfl | ⟨m, rfl, rfl⟩
    · simp [sh] at hsh
    · have hsh : es.length ≤ 1500 ∧ shs m es = true := by simpa [sh] using hsh
      refine q_ifyes (DnT.is (b := true && true) (by walk_at "dn") rfl) fun H1 s1 => ?_
      have t1 := t1.s s1
      have t2 := t2.s s1
      refine s_ret (d := .bool (decide ((es.length : Int) = es.length) && true)) (dn_andV (by walk_at "dn") fun _ => ?_) fun v H4 s4 t4 => q v H4 (s1.trans s4) (by simpa using t4)
      have h1 := src_zip (K := K) (σ := L2.start N_is_same [x, y]) (H := H1) (ta := tCons (tVar 0) (tCons (tVar 1) tNil)) (ds := es) (es := es) (by walk_at "dn")
      rw [zip_self] at h1
      have h2 := dn_lcm (te := tCall (Pu 2 (fSame m)) [] E0 (tCons (tVar 2) (tCons (tVar 3) tNil))) (g := gTup K 2 (gCons (gName 2) (gCons (gName 3) gNil))) (vs := [2, 3]) (fun d => PyData.tuple [d, d]) es (fun _ => .bool true) h1 (by omega) (fun _ _ => rfl) fun a ha u H5 s5 tu => by
        obtain ⟨u1, u2, tu1, tu2, st⟩ := sto_two (K := K) (σ := wipe (L2.start N_is_same [x, y]) [2, 3]) (i := 2) (j := 3) tu
        exact ⟨_, st, rfl, dn_call (by walk_at "dn") (by rfl) ⟨a, rfl, shs_mem hsh.2 a ha, rfl⟩⟩
      have e1 : (es.map fun _ => PyData.bool true) = (es.map fun _ => true).map .bool := by rw [List.map_map]; rfl
      rw [e1] at h2
      refine (dn_cb (da_cons h2 da_nil) (rc_all (K := K))).is ?_
      have : (es.map fun _ => true).all id = true := by rw [List.all_map, List.all_eq_true]; exact fun _ _ => rfl
      rw [this]
  | none => cases n <;> simp [sh] at hsh
  | bool b => cases n <;> simp [sh] at hsh
  | list l => cases n <;> simp [sh] at hsh
  | dict l => cases n <;> simp [sh] at hsh
theorem is_same_0 (T : Tx K mg) : DefP P w K mg base CX0 1 ("is_same", none) P_is_same (fun _ _ _ _ => False) := by
  refine mk_def T 5 d_is_same rfl rfl rfl sc_is_same (fun vs H Q E h => h.elim) (fun _ _ _ _ _ _ us hl => match us, hl with | [_, _], _ => rfl) (fun cdv A outer s H vs Q E hr h => h.elim)
theorem D_is_same (T : Tx K mg) : DefP P w K mg base CX0 5 ("is_same", none) P_is_same (Pu 2 (fSame 3)) :=
  is_same_S T 4 3 _ (is_same_S T 3 2 _ (is_same_S T 2 1 _ (is_same_S T 1 0 _ (is_same_0 T) (.inl rfl)) (.inr ⟨0, rfl, rfl⟩)) (.inr ⟨1, rfl, rfl⟩)) (.inr ⟨2, rfl, rfl⟩)
theorem sh_int (i : Int) (n : Nat) : sh n (.int i) = true := by cases n <;> simp [sh]
theorem sh_str {i : Str} (h : PyData.strOk i = true) (n : Nat) : sh n (.str i) = true := by cases n <;> simpa [sh] using h
theorem sh_fr {f : Flow} {b : Vec} (h : FB f b) (he : LF f b = []) : sh 3 (frD f b) = true := by
  unfold frD
  rw [if_pos he]
  have h6 := h.1.n6
  have h240 := pts_le0 h.2.1
  have hr : ∀ pl, sh 1 (rowD f b pl) = true := fun pl => by
    unfold rowD
    simp only [sh, List.length_map]
    rw [shs_map (fun _ => sh_int _ 0)]
    simp; omega
  have h2 : sh 2 (.tuple ((List.range f.rules.length).map (rowD f b))) = true := by
    simp only [sh, List.length_map, List.length_range]
    rw [shs_map hr]
    simp; omega
  have h3 : shs 2 [PyData.str "ranks", .tuple ((List.range f.rules.length).map (rowD f b))] = true := by
    rw [shs, shs, shs, h2, sh_str (by decide +kernel)]; rfl
  rw [sh, h3]; simp
theorem loopB_true {f : Flow} {b : Vec} (h : FB f b) (hl : LF f b ≠ []) : loopB f b (loopL (wds f b) (rby f b)) = true := by
  have lok := lkOk h.1 h.2.1 h.2.2
  obtain ⟨_, _, h3⟩ := loop_true lok.nd lok.cl hl
  unfold loopB
  rw [List.all_eq_true]
  intro k hk
  obtain ⟨x, y, h4, h5, h6⟩ := h3 k (List.mem_range.mp hk)
  rw [h4, h5]
  simpa using h6
theorem loopL_len {f : Flow} {b : Vec} (h : FB f b) (hl : LF f b ≠ []) : (loopL (wds f b) (rby f b)).length ≤ 1440 := by
  have lok := lkOk h.1 h.2.1 h.2.2
  obtain ⟨hp, _⟩ := loopP_ok lok.nd lok.cl hl
  have h1 := hp.len lok.nd
  have h2 := lok.ln
  unfold loopL
  rw [List.length_reverse, List.length_drop]
  omega
abbrev N_ranks_hold : List Str := ["flow", "box", "value"]
abbrev P_ranks_hold : List Str := ["flow", "box", "value"]
theorem sc_ranks_hold : FnScope N_ranks_hold P_ranks_hold (defScope s_ranks_hold) := ⟨rfl, rfl, rfl, by decide +kernel, rfl, by decide +kernel, by decide +kernel⟩
def fRanksHold (ds : List Dt) (r : Dt) : Prop := ∃ (f : Flow) (b : Vec), ds = [dFlow f, dV b, frD f b] ∧ FB f b ∧ r = .bool true
theorem D_ranks_hold (T : Tx K mg) : DefP P w K mg base CX0 9 ("ranks_hold", none) P_ranks_hold (Pu 3 fRanksHold) := by
  refine mk_def T 24 d_ranks_hold rfl rfl rfl sc_ranks_hold (fun vs H Q E h => h.1) (fun _ _ _ _ _ _ us hl => match us, hl with | [_, _, _], _ => rfl) (fun cdv A outer s H vs Q E hr h => ?_)
  obtain ⟨_, ds, r, hd, ⟨f, b, rfl, hfb, rfl⟩, q⟩ := h
  obtain ⟨x, y, z, rfl, t1, t2, t3⟩ := hd.three
  refine ⟨_, (pss_cons (ps_expr (pe_cd (D_require_small T) (hr.mono (by decide)) T.g_require_small pass0 (pa_cons (pv 1) pa_nil))) (pss_cons (ps_if (PW.pt (pw_or (pt_not (pt_val (pe_callB (kcall_isi K) (by rfl) T.f_isinstance (by decide +kernel) (pa_cons (pv 2) (pa_cons (pe_bltn (v := .ty "tuple") rfl T.f_tuple (by decide +kernel) rfl) pa_nil))))) (pw_or (pt_cmpR op_ne (pe_callB (kcall_len K) (by rfl) T.f_len boot_len (pa_cons (pv 2) pa_nil)) pe_int (nomark _)) (pw_or1 (pt_not (pt_val (pe_callB (kcall_isi K) (by rfl) T.f_isinstance (by decide +kernel) (pa_cons (pe_ix (kix_tup K) (pv 2) pe_int (fun _ _ => rfl)) (pa_cons (pe_bltn (v := .ty "str") rfl T.f_str (by decide +kernel) rfl) pa_nil))))))))) (pss_one (ps_ret pe_bl)) pss_nil) (pss_cons (ps_if (pt_cmpR op_eq (pe_ix (kix_tup K) (pv 2) pe_int (fun _ _ => rfl)) pe_str (nomark _)) (pss_one (ps_ret (pe_cd (D_is_loop T) (hr.mono (by decide)) T.g_is_loop pass0 (pa_cons (pv 0) (pa_cons (pv 1) (pa_cons (pe_ix (kix_tup K) (pv 2) pe_int (fun _ _ => rfl)) pa_nil)))))) pss_nil) (pss_one (ps_ret (pe_and (pe_cmpR op_eq (pe_ix (kix_tup K) (pv 2) pe_int (fun _ _ => rfl)) pe_str (nomark _)) (pe_one (pe_cd (D_is_same T) (hr.mono (by decide)) T.g_is_same pass0 (pa_cons (pv 2) (pa_cons (pe_cd (D_find_ranks T) (hr.mono (by decide)) T.g_find_ranks pass0 (pa_cons (pv 0) (pa_cons (pv 1) pa_nil))) pa_nil)))))))))), ?_⟩
  refine q_drop (dn_call (by walk_at "dn") (by rfl) ⟨b, rfl, hfb.2.1, rfl⟩) fun H1 s1 => ?_
  have t1 := t1.s s1
  have t2 := t2.s s1
  have t3 := t3.s s1
  have lok := lkOk hfb.1 hfb.2.1 hfb.2.2
  by_cases he : LF f b = []
  · have ef : frD f b = .tuple [.str "ranks", .tuple ((List.range f.rules.length).map (rowD f b))] := by unfold frD; rw [if_pos he]
    rw [ef] at t3
    refine q_ifno (DnT.is (b := !true || (!decide ((2 : Int) = 2) || !true)) (by walk_at "dn") (by decide)) fun H2 s2 => ?_
    have t3 := t3.s s2
    refine q_ifno (DnT.is (b := decide (("ranks" : Str) = "loop")) (by walk_at "dn") (by decide +kernel)) fun H3 s3 => ?_
    have t1 := (t1.s s2).s s3
    have t2 := (t2.s s2).s s3
    have t3 := t3.s s3
    have t3' : TD H3 z (frD f b) := by rw [ef]; exact t3
    refine s_ret (d := .bool (decide (("ranks" : Str) = "ranks") && true)) (dn_andV (dn_eqS (dn_ixT (dn_var (i := 2) rfl t3) dn_int rfl) dn_str) fun _ => dn_call (da_cons (dn_var (i := 2) rfl t3') (da_cons (dn_call (by walk_at "dn") (by rfl) ⟨f, b, rfl, hfb, rfl⟩) da_nil)) (by rfl) ⟨frD f b, rfl, sh_fr hfb he, rfl⟩) fun v H4 s4 t4 => q v H4 (((s1.trans s2).trans s3).trans s4) (by simpa using t4)
  · have ef : frD f b = .tuple [.str "loop", .tuple ((loopL (wds f b) (rby f b)).map dW)] := by unfold frD; rw [if_neg he]
    rw [ef] at t3
    refine q_ifno (DnT.is (b := !true || (!decide ((2 : Int) = 2) || !true)) (by walk_at "dn") (by decide)) fun H2 s2 => ?_
    have t3 := t3.s s2
    refine q_ifyes (DnT.is (b := decide (("loop" : Str) = "loop")) (by walk_at "dn") (by decide +kernel)) fun H3 s3 => ?_
    have t1 := (t1.s s2).s s3
    have t2 := (t2.s s2).s s3
    have t3 := t3.s s3
    obtain ⟨h1, h2, _⟩ := loop_true lok.nd lok.cl he
    refine s_ret (dn_call (by walk_at "dn") (by rfl) ⟨f, b, loopL (wds f b) (rby f b), rfl, hfb, h1, loopL_len hfb he, h2, rfl⟩) fun v H4 s4 t4 => q v H4 (((s1.trans s2).trans s3).trans s4) ?_
    rw [loopB_true hfb he] at t4
    exact t4
abbrev N_longest_chain : List Str := ["flow", "box", "found", "loop"]
abbrev P_longest_chain : List Str := ["flow", "box"]
theorem sc_longest_chain : FnScope N_longest_chain P_longest_chain (defScope s_longest_chain) := ⟨rfl, rfl, rfl, by decide +kernel, rfl, by decide +kernel, by decide +kernel⟩
def fChain0 (ds : List Dt) (r : Dt) : Prop := ∃ (f : Flow) (b : Vec), ds = [dFlow f, dV b] ∧ FB f b ∧ LF f b = [] ∧ r = .tuple ((chainL (wds f b) (rby f b)).map dW)
theorem D_longest_chain (T : Tx K mg) : DefP P w K mg base CX0 8 ("longest_chain", none) P_longest_chain (Pu 2 fChain0) := by
  refine mk_def T 25 d_longest_chain rfl rfl rfl sc_longest_chain (fun vs H Q E h => h.1) (fun _ _ _ _ _ _ us hl => match us, hl with | [_, _], _ => rfl) (fun cdv A outer s H vs Q E hr h => ?_)
  obtain ⟨_, ds, r, hd, ⟨f, b, rfl, hfb, he, rfl⟩, q⟩ := h
  obtain ⟨vf, vb, rfl, t1, t2⟩ := hd.two
  have lok := lkOk hfb.1 hfb.2.1 hfb.2.2
  refine ⟨_, (pss_cons (ps_set (i := 2) sc_longest_chain.nd rfl (by first | exact Or.inl rfl | exact Or.inr rfl) (pe_cd (D_ranked T) (hr.mono (by decide)) T.g_ranked pass0 (pa_cons (pv 0) (pa_cons (pv 1) pa_nil)))) (pss_cons (ps_set (i := 3) sc_longest_chain.nd rfl (by first | exact Or.inl rfl | exact Or.inr rfl) (pe_md0 (D_Ranks_loop_left T) T.c_Ranks T.m_Ranks_loop_left (hr.mono (by decide)) pass0 (pv 2))) (pss_cons (ps_if (pt_cmpR op_notN (pv 3) pe_non (nomark _)) (pss_one ps_never) pss_nil) (pss_one (ps_ret (pe_md0 (D_Ranks_chain T) T.c_Ranks T.m_Ranks_chain (hr.mono (by decide)) pass0 (pv 2))))))), ?_⟩
  refine q_asg ⟨vf, rfl, vb, rfl, rfl, vf, vb, f, b, rfl, t1, t2, hfb, fun a H1 s1 rk => ?_⟩
  obtain ⟨dx, l, r, rks, ha, nl, nr, hrk⟩ := id rk
  refine q_asg ⟨.ref a, rfl, a, dx, _, rfl, ha, rfl, rfl, a, wds f b, rby f b, rfl, rk, lok, fun v H2 s2 tv => ?_⟩
  have hif := dn_notN (σ := ((L2.start N_longest_chain [vf, vb]).set 2 (some (V.ref a))).set 3 (some v)) (dn_var (i := 3) rfl tv)
  rw [isNo_loopD, show left0 (wds f b) (rby f b) = [] from he] at hif
  refine q_ifno (dt_test hif) fun H3 s3 => ?_
  exact ⟨.ref a, rfl, a, dx, _, rfl, s3 _ _ (s2 _ _ ha), rfl, rfl, a, wds f b, rby f b, rfl, (rk.s s2).s s3, lok, he, fun v4 H4 s4 t4 => q v4 H4 (((s1.trans s2).trans s3).trans s4) t4⟩
end K32
/-! Hx -/
set_option Elab.async false
set_option linter.all false
set_option maxRecDepth 100000
set_option maxHeartbeats 2000000
/-! The hook that also tells of the error class Looped. -/
namespace K32
open PySem PySem.Spec PyProof.Rows L2
def exK (K : PySem.W.Frag) (C : Addr) : Bool := match K.lookup C with
  | some ⟨.type "type", _, .cls cd, sl⟩ => (match cd.mro, sl.toList with
    | .ref C' :: bm, [_, _, _, _, some (.builtin n), _] => C' == C && (n == "ValueError.__new__" && (!cd.hasDel && (cd.hasDict && PySem.HandSPX.refsVE bm)))
    | _, _ => false)
  | _ => false
def lpC (K : PySem.W.Frag) : Addr := He.ga K "Looped"
def lpI (K : PySem.W.Frag) : Addr := He.fAd K ("Looped", some "__init__")
def exB (K : PySem.W.Frag) : Bool := (He.Fa.glo "Looped").ok K && (exK K (lpC K) && (He.eqO (PySem.W.findIn K (.ref (lpC K)) "__setattr__") (some (some (.builtin "object.__setattr__"))) &&
  (He.eqO (PySem.W.findIn K (.ref (lpC K)) "__getattribute__") (some (some (.builtin "BaseException.__getattribute__"))) && (He.eqO (PySem.W.findIn K (.ref (lpC K)) "__getattr__") (some none) && (He.eqO (PySem.W.findIn K (.ref (lpC K)) "loop") (some none) &&
  (He.eqO (PySem.W.findIn K (.ref (lpC K)) "__init__") (some (some (.ref (lpI K)))) && (decide (PySem.W.typeIn K (.ref (lpI K)) = some (.type "function")) && (PySem.W.keepIn K (.ref (lpC K)) && (decide (PySem.W.subIn K (.ref (lpC K)) (.type "BaseException") = some true) &&
  (decide (PySem.W.typeIn K (.ref (lpC K)) = some (.type "type")) && (PySem.W.hasDictIn K (lpC K) && decide (PySem.W.exmOne K (.ref (lpC K)) (.ref (lpC K)) = some true))))))))))))
abbrev AlX : Type := He.AlD × Bool
def obsX (n : Nat) (g : Addr → Option Obj) : AlX := (He.obsD fa fn (He.frG g (He.asD g n)), exB (He.frG g (He.asD g n)))
def hookX (n : Nat) : PySem.W.Hook where
  α := AlX
  obs := fun s => obsX n s.heap.get?
  val := fun _ => (He.valD fn, true)
  says := fun _ h => ∃ K : PySem.W.Frag, K.In h ∧ He.SaysD fa fn K ∧ exB K = true
  of := fun _ _ e => ⟨_, He.frG_in, congrArg (fun z : AlX => z.1) e, congrArg (fun z : AlX => z.2) e⟩
  keeps := fun _ _ _ ⟨K, hK, c, x⟩ k => ⟨K, PySem.W.Frag.In.keeps hK k, c, x⟩
theorem obsX_eq {n : Nat} {g : Addr → Option Obj} {s : Shared} (h : ∀ a, g a = s.heap.get? a) : obsX n g = (hookX n).obs s := by
  have e : g = s.heap.get? := funext h
  rw [e] <;> rfl
end K32
/-! Lp -/
set_option Elab.async false
set_option linter.all false
set_option maxRecDepth 100000
set_option maxHeartbeats 2000000
/-! The error class Looped with its field loop (a worked proof's rules for an error with a field, turned to this class). -/
namespace PySem
namespace LpX
open PySem.W PySem.Calls PyProof.Rows PySem.HandSPX
def iA (p1 p2 : Pos) : Arguments := { posonlyargs := [], args := [{ arg := "self", annotation := none, pos := p1 }, { arg := "loop", annotation := none, pos := p2 }], vararg := none, kwonlyargs := [], kw_defaults := [], kwarg := none, defaults := [] }
def iB (q1 q2 q3 q4 : Pos) : List Stmt := [.Assign [.Attribute (.Name "self" q1) "loop" q2] (.Name "loop" q3) q4]
def iS : Scope := { kind := .function, names := [(PySem.Str.ofString "self", .local), (PySem.Str.ofString "loop", .local)], isGenerator := false, isCoroutine := false, more := [] }
structure LpTxt (K : Frag) (mg : Str → Option Value) (C fI : Addr) : Prop where
  gC : mg "Looped" = some (.ref C)
  cls : ∃ nm q N bs bm sn sub ab col dd k0 k1 k2 k3 k5, K.lookup C = some (excClassObj nm q C N bs bm true sn sub ab col dd k0 k1 k2 k3 k5 "ValueError.__new__") ∧ refsVE bm = true
  sa : findIn K (.ref C) "__setattr__" = some (some (.builtin "object.__setattr__"))
  ga : findIn K (.ref C) "__getattribute__" = some (some (.builtin "BaseException.__getattribute__"))
  gg : findIn K (.ref C) "__getattr__" = some none
  noN : findIn K (.ref C) "loop" = some none
  iC : findIn K (.ref C) "__init__" = some (some (.ref fI))
  tC : typeIn K (.ref fI) = some (.type "function")
  kC : keepIn K (.ref C) = true
  exC : subIn K (.ref C) (.type "BaseException") = some true
  tyC : typeIn K (.ref C) = some (.type "type")
  hdC : hasDictIn K C = true
  te : exmOne K (.ref C) (.ref C) = some true
  fn : ∃ (oc : Value) (od : Option Addr) (kV doc pm : Value) (an : Option Addr) (cdv ct : Value) (osl : Array (Option Value)) (p1 p2 q1 q2 q3 q4 : Pos),
    K.lookup fI = some ⟨oc, od, .func (fnOf "__init__" "Looped.__init__" (iA p1 p2) (iB q1 q2 q3 q4) iS .none kV doc pm an cdv ct), osl⟩ ∧ codeIn K cdv "Looped.__init__" = true
theorem one_size (v : Value) : [v].length ≤ sizeLine := by
  rw [sizeLine_eq]
  exact (by decide : 1 ≤ 16777216)
theorem kept_but {K : Frag} {h h' : Heap} {x : Addr} (X : K.In h) (hx : K.lookup x = none) (k : ∀ b o, b ≠ x → h.get? b = some o → h'.get? b = some o) : K.In h' := fun a o e =>
  k a o (fun z => by rw [z, hx] at e; cases e) (X a o e)
theorem ldC {M : Model} {s : Shared} {name : Str} {scope : Scope} {L a : Addr} {cd : Value} {m : Str → Option Value} {x : Str} {pos : Pos} {v : Value} {Q : Value → Shared → Prop} {A : Around} {E : Value → Shared → Prop} (hn : s.heap.Ns L m) (hv : m x = some v) (h : Q v s)
    (hk : scope.kind = .function := by rfl) (hl : (envOfC name scope L a cd).kindOf x = some .local := by rfl) (hd : (x == ("__debug__" : Str)) = false := by decide) :
    wpAny M A (eval (.Name x pos) (envOfC name scope L a cd)) Q E s := wpAny_Name (wpAny_loadName_local hk hl hn hv h) hd
structure InitEnd (h h' : Heap) (x C dx t1 : Addr) (v : Value) : Prop where
  keep : ∀ b o, b ≠ x → h.get? b = some o → h'.get? b = some o
  obj : h'.get? x = some { cls := .ref C, dict := some dx, data := .fields #[.ref t1, .none, .none, .none, .bool false, .none] }
  dbig : h.objs.size ≤ dx
  dne : dx ≠ x
  ns : h'.Ns1 dx (fun y => if y = "loop" then some v else none)
structure OwnMade (h h' : Heap) (e C d : Addr) (v : Value) : Prop where
  keep : ∀ b o, h.get? b = some o → h'.get? b = some o
  new : h.objs.size ≤ e
  obj : ∃ oe vs, h'.get? e = some oe ∧ oe.cls = .ref C ∧ oe.dict = some d ∧ oe.data = .fields vs ∧ vs[1]? = some .none
  dbig : h.objs.size ≤ d
  dne : d ≠ e
  ns : h'.Ns1 d (fun y => if y = "loop" then some v else none)
section
variable {prog : Program} {w : World} {A : Around} {E : Value → Shared → Prop} {R : Result → Shared → Prop} {s : Shared} {K : Frag} {mg : Str → Option Value} {C fI : Addr}
theorem lp_init (T : LpTxt K mg C fI) {x t0 : Addr} {v : Value} (X : K.In s.heap) (hlim : s.heap.NoLimit) (hx : s.heap.get? x = some (excO C t0)) (hnx : K.lookup x = none) (hroom : A.depth < recursionLimit)
    (hq : ∀ h' tk dx, InitEnd s.heap h' x C dx t0 v → R (.ok (.ret .none)) { s with heap := h', toks := tk }) :
    codeAny (model prog w) A (.call (.ref fI) ⟨[.ref x, v], []⟩) R s := by
  obtain ⟨oc, od, kV, doc, pm, an, cdv, ct, osl, p1, p2, q1, q2, q3, q4, ho, hcd⟩ := T.fn
  obtain ⟨nm, q, N, bs, bm, sn, sub, ab, col, dd, k0, k1, k2, k3, k5, hC, hbm⟩ := T.cls
  have hcl : clsIn K C = some { name := nm, bases := bs, mro := .ref C :: bm, ns := N, qualname := q, hasDict := true, slotNames := sn, subclasses := sub, abstract := ab, collection := col, hasDel := false } := by unfold clsIn; rw [hC] <;> rfl
  refine Att.call_fn (binds := [("self", .ref x), ("loop", v)]) X hlim ho hcd hroom (BindsTo.of_eq (by first | rfl | with_unfolding_all rfl)) (by first | rfl | decide | with_unfolding_all rfl) (fun s₁ IC => ?_) rfl rfl rfl
  obtain ⟨h₁, tk₁, rfl⟩ := IC.toInCall.same
  have k : ∀ b o, s.heap.get? b = some o → h₁.get? b = some o := IC.toInCall.keep
  have hn := IC.toInCall.ns
  have hxL : s.heap.objs.size ≠ x := Nat.ne_of_gt (Heap.lt_size hx)
  have X₁ : K.In h₁ := X.keeps k
  have hx₁ := k _ _ hx
  -- self.by = by
  show wpAny _ _ (execs _ _) _ _ _
  refine wpAny_execs_cons (plainObj_wpAny_Assign_Attribute ?_)
  refine ldC (v := v) hn (by first | rfl | with_unfolding_all rfl | kernel_rfl) (ldC (v := .ref x) hn (by first | rfl | with_unfolding_all rfl | kernel_rfl) ?_)
  refine set_plain X₁ (ox := excO C t0) (od := none) ⟨hx₁, rfl, rfl, trivial⟩ T.sa ?_
  refine exc_osa X₁ hx₁ hcl (show refsVE (.ref C :: bm) = true from hbm) rfl T.noN (fun h₃ tk₃ dx k₃ dn dne hx₃ hn₃ => ?_)
  show wpAny _ _ (execs _ _) _ _ _
  have z : s.heap.objs.size < h₁.objs.size := hn.lt
  exact wpAny_execs_nil (hq h₃ tk₃ dx ⟨fun b o hb e => k₃ b o hb (k b o e), hx₃, Nat.le_of_lt (Nat.lt_of_lt_of_le z dn), dne, hn₃⟩)
theorem lp_made (T : LpTxt K mg C fI) {v : Value} (X : K.In s.heap) (hlim : s.heap.NoLimit) (hroom : A.depth + 1 < recursionLimit)
    (hq : ∀ h' tk e d, OwnMade s.heap h' e C d v → R (.ok (.ret (.ref e))) { s with heap := h', toks := tk }) :
    codeAny (model prog w) A (.call (.ref C) ⟨[v], []⟩) R s := by
  obtain ⟨nm, q, N, bs, bm, sn, sub, ab, col, dd, k0, k1, k2, k3, k5, hC, hbm⟩ := T.cls
  obtain ⟨hp, g, dr, tk, os⟩ := s
  have k : ∀ b o, hp.get? b = some o → ((hp.push (kdv_tup [v])).push (excO C hp.objs.size)).get? b = some o := fun b o e => Heap.get?_push_of_some _ (Heap.get?_push_of_some _ e)
  have hget : ((hp.push (kdv_tup [v])).push (excO C hp.objs.size)).get? (hp.objs.size + 1) = some (excO C hp.objs.size) := by heap_get
  have hnx : K.lookup (hp.objs.size + 1) = none := by
    cases e : K.lookup (hp.objs.size + 1) with
    | none => rfl
    | some o =>
      have z : hp.get? (hp.objs.size + 1) = some o := X _ _ e
      exact absurd (Nat.lt_of_succ_lt (Heap.lt_size z)) (Nat.lt_irrefl _)
  refine call_own F.excBase_ValueError (fun X => refsVE_contains X bm hbm) (X _ _ hC) (looks_findIn X T.iC) (fun self => bind_fn X self T.tC) (one_size v) ?_
  refine lp_init (s := ⟨(hp.push (kdv_tup [v])).push (excO C hp.objs.size), g, dr, tk, os⟩) T (X.keeps k) (hlim.keeps k) hget hnx ?_ fun h' tk' dx ⟨k', hx, dn, dne, hns⟩ => ?_
  · show A.depth + 1 < recursionLimit
    exact hroom
  · have old : ∀ b o, hp.get? b = some o → h'.get? b = some o := fun b o e => k' b o (Nat.ne_of_lt (Nat.lt_succ_of_lt (Heap.lt_size e))) (k b o e)
    have z : hp.objs.size + 1 + 1 ≤ dx := by
      first
        | (simpa only [Heap.size_push] using dn)
        | exact dn
        | (have q := dn; rw [Heap.size_push, Heap.size_push] at q; exact q)
    exact ⟨rfl, hq h' tk' (hp.objs.size + 1) dx ⟨old, Nat.le_succ _, ⟨_, _, hx, rfl, rfl, rfl, rfl⟩, Nat.le_trans (Nat.le_trans (Nat.le_succ _) (Nat.le_succ _)) z, dne, hns⟩⟩
end
end LpX
end PySem
namespace L2
open PySem PySem.Spec PyProof.Rows
theorem relO_lp {v : V} {v' : Value} (r : RelV v v') (f : Str) : RelO (List.lookup f [(("loop" : Str), v)]) (if f = "loop" then some v' else none) := by
  by_cases hw : f = "loop"
  · subst hw
    rw [if_pos rfl]
    have q : List.lookup ("loop" : Str) [(("loop" : Str), v)] = some v := by simp [List.lookup]
    rw [q]
    exact r
  · rw [if_neg hw]
    have qw : (f == ("loop" : Str)) = false := by simpa using hw
    have q2 : List.lookup f [(("loop" : Str), v)] = none := by simp [List.lookup, qw]
    rw [q2]
    trivial
section
variable {X : Cx} {C fI : Addr}
def tMkLp (C : Addr) (ta : TA) : St → Hp → XK → Prop := fun σ H Q => ta σ H fun vs H1 => ∃ v, vs = [v] ∧ ∀ d, H1 d = none → Q (.ref C) (some d) (upd H1 d (.xd [(("loop" : Str), v)]))
theorem pmk_lp {a : Expr} {ta : TA} {p pos : Pos} {k : Nat} (T : PySem.LpX.LpTxt X.K X.mg C fI) (hr : Room k X.A) (ha : PA X [a] ta) (hg : Gl X "Looped" := by rfl)
    (he : starEach (a :: []) X.env = (false, eval a X.env) :: starEach [] X.env := by rfl) (hpl : (backTo pos (starEach [] X.env)).any (·.1) = false := by rfl) :
    PMk X (.Call (.Name "Looped" p) [a] [] pos) (tMkLp C ta) := by
  intro pins s σ H Q I h
  refine wpAny_Call_Name_kw (ld_glob I hg T.gC ?_)
  refine PySem.W.callWith_K (h₀ := X.base) I.ok.mod.kin T.kC (thn (ha.run pos pins s σ H _ I h) fun us s1 hh => ?_) he hpl
  obtain ⟨vs, H1, I1, r1, v, ev, q1⟩ := hh
  subst ev
  refine ⟨I1.kIn, ?_⟩
  cases r1 with
  | cons rv rn =>
    rename_i v' us'
    cases rn
    show wpAny _ _ (call (.ref C) [v']) _ _ _
    have hlim := I1.nolimit
    obtain ⟨hp, g, dr, tk, os⟩ := s1
    refine wpAny_call (PySem.LpX.lp_made T I1.kIn hlim (by have := hr.dp; omega) fun h' tk' e d M => ?_)
    show MkP X pins σ Q (.ref e) ⟨h', g, dr, tk', os⟩
    obtain ⟨oe, fv, hoe, hc, hd, hdat, h1⟩ := M.obj
    have hns := M.ns
    obtain ⟨G', g1, g2⟩ := restrict h' fun b => decide (b ≠ e)
    have gk : ∀ b, b ≠ e → G'.get? b = h'.get? b := fun b hb => g1 b (decide_eq_true hb)
    have ge : G'.get? e = none := g2 e (by simp)
    have old : ∀ b o, hp.get? b = some o → G'.get? b = some o := fun b o q => (gk b (Nat.ne_of_lt (Nat.lt_of_lt_of_le (Heap.lt_size q) M.new))).trans (M.keep b o q)
    have ob : ObjOk X.prog X.w (upd H1 d (.xd [(("loop" : Str), v)])) G' d (.xd [(("loop" : Str), v)]) :=
      ⟨_, hns.at (fun o q => (gk d M.dne).trans q), fun f => relO_lp rv f⟩
    have J : Inv X pins σ (upd H1 d (.xd [(("loop" : Str), v)])) ⟨G', g, dr, tk', os⟩ := I1.laid (t' := tk') old M.dbig ob
    refine ⟨e, oe, fv, ⟨G', g, dr, tk', os⟩, _, .ref C, some d, rfl, J, fun b o q => ?_, ge, hoe, ⟨hc, hd⟩, hdat, h1, ?_, rfl, I1.bare, raises_own T.exC T.tyC, q1 d (I1.hok.fresh M.dbig)⟩
    · by_cases hb : b = e
      · have q' : G'.get? b = some o := q
        rw [hb, ge] at q'; cases q'
      · exact (gk b hb).symm.trans q
    · rw [upd_ne (Ne.symm M.dne)]
      exact I1.hok.fresh M.new
def tRaiseLp (C : Addr) (W : WX) (ta : TA) : TS := fun _ σ H => tMkLp C ta σ H fun cls d H' => W cls d σ H'
theorem ps_raiseLp {a : Expr} {ta : TA} {W : WX} {p pos pos2 : Pos} {k : Nat} (hc : X.calm = true) (T : PySem.LpX.LpTxt X.K X.mg C fI) (hr : Room k X.A) (tk : Takes X W) (ha : PA X [a] ta) (hg : Gl X "Looped" := by rfl)
    (he : starEach (a :: []) X.env = (false, eval a X.env) :: starEach [] X.env := by rfl) (hpl : (backTo pos (starEach [] X.env)).any (·.1) = false := by rfl) :
    PS X (.Raise (some (.Call (.Name "Looped" p) [a] [] pos)) none pos2) (tRaiseLp C W ta) := ps_raise hc tk (pmk_lp T hr ha hg he hpl)
def tByLp (C : Addr) (a : Addr) (cls : Value) (d : Option Addr) (te : TE) : TE := fun σ H Q => te σ H fun x H1 => x = .ref a ∧ cls = .ref C ∧ ∃ (dd : Addr) (v : V), d = some dd ∧ H1 dd = some (.xd [(("loop" : Str), v)]) ∧ Q v H1
theorem pe_byLp {a : Addr} {oe : Obj} {cls : Value} {d : Option Addr} {pn : List (Addr × Obj)} {e : Expr} {te : TE} {pos : Pos} (T : PySem.LpX.LpTxt X.K X.mg C fI) (hz : Zc cls d oe) (hf : ∃ vs, oe.data = .fields vs) (he : PE (X.suite a ((a, oe) :: pn)) e te)
    (hb : attributeBase e "loop" X.env (eval e X.env) = eval e X.env := by rfl) :
    PE (X.suite a ((a, oe) :: pn)) (.Attribute e "loop" pos) (tByLp C a cls d te) := by
  refine ⟨fun pins s σ H Q I h => ?_⟩
  refine attr_of hb (thn (he.run pins s σ H _ I h) fun u s1 hh => ?_)
  obtain ⟨x, H1, I1, rx, ex, ec, dd, v, ed, ea, q⟩ := hh
  subst ex
  obtain rfl : u = Value.ref a := rx
  subst ec
  subst ed
  obtain ⟨ha, _⟩ := I1.pin (a, oe) (List.mem_append_left _ List.mem_cons_self)
  obtain ⟨vs, hd⟩ := hf
  have hx : ObjOk X.prog X.w H1 s1.heap dd (.xd [(("loop" : Str), v)]) := I1.hok dd _ ea
  obtain ⟨mA, hns, hr⟩ := hx
  obtain ⟨od, ho, hl⟩ := lookIn_ns hns
  have l : List.lookup ("loop" : Str) [(("loop" : Str), v)] = some v := by simp [List.lookup]
  obtain ⟨u, hu, ru⟩ := RelO.some_of (v := v) (o := mA "loop") (by rw [← l]; exact hr "loop")
  have J : PySem.W.InstAt s1.heap a oe C (some od) := ⟨ha, hz.1, by unfold PySem.W.notCls; rw [hd] <;> rfl, by rw [hz.2]; exact ho⟩
  exact HandSPX.exc_get I1.kIn J T.ga T.gg T.exC (PySem.W.findObj_own T.hdC T.noN rfl (by rw [hl, hu])) (handed_of ru) ⟨v, H1, I1.tok _, ru, q⟩
end
end L2
/-! TxE -/
set_option Elab.async false
set_option linter.all false
set_option maxRecDepth 100000
set_option maxHeartbeats 1000000
/-! The text's facts with the error class. -/
namespace K32
open PySem PySem.Spec PyProof.Rows L2
structure TxE (K : PySem.W.Frag) (mg : Str → Option Value) extends Tx K mg where
  ex2 : exB K = true
section
variable {K : PySem.W.Frag} {mg : Str → Option Value}
theorem exK_ok {C : Addr} (h : exK K C = true) : ∃ nm q N bs bm sn sub ab col dd k0 k1 k2 k3 k5, K.lookup C = some (excClassObj nm q C N bs bm true sn sub ab col dd k0 k1 k2 k3 k5 "ValueError.__new__") ∧ PySem.HandSPX.refsVE bm = true := by
  unfold exK at h
  split at h
  · rename_i dd cd sl ho
    split at h
    · rename_i C' bm k0 k1 k2 k3 n k5 hm hs
      simp only [Bool.and_eq_true, beq_iff_eq, Bool.not_eq_true'] at h
      obtain ⟨rfl, rfl, hdel, hd, ht⟩ := h
      obtain ⟨nm, bs, mro, ns, qn, hdd, sn, sub, ab, col, del⟩ := cd
      dsimp only at hm hdel hd
      subst hm hdel hd
      have hsl : sl = #[k0, k1, k2, k3, some (.builtin "ValueError.__new__"), k5] := by
        obtain ⟨l⟩ := sl
        simp only at hs
        rw [hs]
      subst hsl
      exact ⟨nm, qn, ns, bs, bm, sn, sub, ab, col, dd, k0, k1, k2, k3, k5, ho, ht⟩
    · cases h
  · cases h
theorem TxE.low (T : TxE K mg) : PySem.LpX.LpTxt K mg (lpC K) (lpI K) := by
  obtain ⟨c1, h⟩ := He.ba (show _ = true from T.ex2)
  obtain ⟨c2, h⟩ := He.ba h
  obtain ⟨c3, h⟩ := He.ba h
  obtain ⟨c4, h⟩ := He.ba h
  obtain ⟨c5, h⟩ := He.ba h
  obtain ⟨c6, h⟩ := He.ba h
  obtain ⟨c7, h⟩ := He.ba h
  obtain ⟨c8, h⟩ := He.ba h
  obtain ⟨c9, h⟩ := He.ba h
  obtain ⟨c10, h⟩ := He.ba h
  obtain ⟨c11, h⟩ := He.ba h
  obtain ⟨c12, c13⟩ := He.ba h
  obtain ⟨hp, X, G⟩ := T.ex
  obtain ⟨fd, F⟩ := T.says.def_ 0 (d := d_Looped_init) rfl
  obtain ⟨oc, od, dV, kV, doc, pm, an, cdv, ct, osl, e, lk, hcd, hD, _⟩ := F.ex
  subst e
  have hdV : dV = .none := by
    rcases hD with ⟨_, e⟩ | ⟨e, _⟩
    · exact e
    · exact absurd rfl e
  subst hdV
  exact ⟨He.glo_ok X G c1, exK_ok c2, He.eqO_ok c3, He.eqO_ok c4, He.eqO_ok c5, He.eqO_ok c6, He.eqO_ok c7, of_decide_eq_true c8, c9, of_decide_eq_true c10, of_decide_eq_true c11, c12, of_decide_eq_true c13,
    ⟨oc, od, kV, doc, pm, an, cdv, ct, osl, _, _, _, _, _, _, lk, hcd⟩⟩
end
end K32
/-! R9 -/
set_option Elab.async false
set_option linter.all false
set_option maxRecDepth 100000
set_option maxHeartbeats 400000
namespace K32
open PySem PySem.Spec PyProof.Rows L2
local macro_rules | `(tactic| walk_at "dn") => `(tactic| first
  | with_reducible exact dn_int | with_reducible exact dn_str | with_reducible exact dn_bl | with_reducible exact dn_non | with_reducible exact da_nil | with_reducible exact do_none
  | ((with_reducible refine' dn_var ?h ?k); (case h => rfl); (case k => assumption))
  | ((with_reducible refine' da_cons ?_ ?_) <;> try walk_at "dn")
  | ((with_reducible refine' dn_add ?_ ?_) <;> try walk_at "dn")
  | ((with_reducible refine' dn_sub ?_ ?_) <;> try walk_at "dn")
  | ((with_reducible refine' dn_mul ?_ ?_ ?_) <;> try walk_at "dn")
  | ((with_reducible refine' dn_lt ?_ ?_) <;> try walk_at "dn")
  | ((with_reducible refine' dn_le ?_ ?_) <;> try walk_at "dn")
  | ((with_reducible refine' dn_gt ?_ ?_) <;> try walk_at "dn")
  | ((with_reducible refine' dn_ge ?_ ?_) <;> try walk_at "dn")
  | ((with_reducible refine' dn_neg ?_) <;> try walk_at "dn")
  | ((with_reducible refine' dn_chain ?_ ?_ ?_ rd_le rd_le) <;> try walk_at "dn")
  | ((with_reducible refine' dn_chain ?_ ?_ ?_ rd_le rd_lt) <;> try walk_at "dn")
  | ((with_reducible refine' dn_isI ?h ?k); (case h => walk_at "dn"); (case k => first | with_reducible exact kb_int_int | with_reducible exact kb_int_tuple | with_reducible exact kb_int_str | with_reducible exact kb_int_bool))
  | ((with_reducible refine' dn_isT ?h ?k); (case h => walk_at "dn"); (case k => first | with_reducible exact kb_tuple_int | with_reducible exact kb_tuple_tuple | with_reducible exact kb_tuple_str | with_reducible exact kb_tuple_bool))
  | ((with_reducible refine' dn_isS ?h ?k); (case h => walk_at "dn"); (case k => first | with_reducible exact kb_str_int | with_reducible exact kb_str_tuple | with_reducible exact kb_str_str | with_reducible exact kb_str_bool))
  | ((with_reducible refine' dn_isL ?h ?k); (case h => walk_at "dn"); (case k => first | with_reducible exact kb_list_int | with_reducible exact kb_list_tuple | with_reducible exact kb_list_str | with_reducible exact kb_list_bool))
  | ((with_reducible refine' dn_isB ?h ?k); (case h => walk_at "dn"); (case k => first | with_reducible exact kb_bool_int | with_reducible exact kb_bool_tuple | with_reducible exact kb_bool_str | with_reducible exact kb_bool_bool))
  | ((with_reducible refine' dn_ixT ?h ?t ?k); (case h => walk_at "dn"); (case t => walk_at "dn"); try (case k => rfl))
  | ((with_reducible refine' dn_ixL ?h ?t ?k); (case h => walk_at "dn"); (case t => walk_at "dn"); try (case k => rfl))
  | ((with_reducible refine' dn_cb ?h ?k); (case h => walk_at "dn"); try (case k => first | exact rd_lenT | exact rd_lenL | exact rd_tupL | exact rd_lstT | exact rd_lstL | exact rc_all | exact rc_sum | exact rc_max2 | exact rc_min2))
  | ((with_reducible refine' dn_call ?h ?t ?k); (case h => walk_at "dn"); (case t => rfl))
  | ((with_reducible refine' dt_test ?_) <;> try walk_at "dn")
  | ((with_reducible refine' dt_B ?_) <;> try walk_at "dn")
  | ((with_reducible refine' dn_eqI ?h ?k); (case h => walk_at "dn"); (case k => walk_at "dn"))
  | ((with_reducible refine' dn_neI ?h ?k); (case h => walk_at "dn"); (case k => walk_at "dn"))
  | ((with_reducible refine' dn_eqS ?h ?k); (case h => walk_at "dn"); (case k => walk_at "dn"))
  | ((with_reducible refine' dn_neS ?h ?k); (case h => walk_at "dn"); (case k => walk_at "dn"))
  | ((with_reducible refine' dt_or ?_ (fun _ => ?_)) <;> try walk_at "dn")
  | ((with_reducible refine' dt_and ?_ (fun _ => ?_)) <;> try walk_at "dn")
  | ((with_reducible refine' dn_orV ?_ (fun _ => ?_)) <;> try walk_at "dn")
  | ((with_reducible refine' dn_andV ?_ (fun _ => ?_)) <;> try walk_at "dn")
  | ((with_reducible refine' dt_not ?_) <;> try walk_at "dn")
  | ((with_reducible refine' dn_notV ?_) <;> try walk_at "dn")
  | ((with_reducible refine' da_star ?_ ?_) <;> try walk_at "dn")
  | ((with_reducible refine' dn_tup ?_ ?_) <;> try walk_at "dn")
  | ((with_reducible refine' dn_lst ?_ ?_) <;> try walk_at "dn")
  | ((with_reducible refine' do_some ?_) <;> try walk_at "dn"))
variable {P : Program} {w : World} {K : PySem.W.Frag} {mg : Str → Option Value} {base : Heap}
noncomputable def loopT (f : Flow) (b : Vec) : Dt := .tuple ((loopL (wds f b) (rby f b)).map dW)
noncomputable def chainT (f : Flow) (b : Vec) : Dt := .tuple ((chainL (wds f b) (rby f b)).map dW)
def spLC (C : Addr) : Sp := fun vs H Q E => vs.length = 2 ∧ ∃ (vf vb : V) (f : Flow) (b : Vec), vs = [vf, vb] ∧ TD H vf (dFlow f) ∧ TD H vb (dV b) ∧ FB f b ∧
  (LF f b = [] → ∀ v H', Same H H' → TD H' v (chainT f b) → Q v H') ∧ (LF f b ≠ [] → ∀ v d H', Same H H' → H' d = some (.xd [("loop", v)]) → TD H' v (loopT f b) → E (.ref C) (some d) H')
theorem D_longest_chainX (TE : TxE K mg) : DefP P w K mg base (L2.CX P w) 8 ("longest_chain", none) P_longest_chain (spLC (lpC K)) := by
  refine mk_defX TE.toTx 25 d_longest_chain rfl rfl rfl sc_longest_chain (fun vs H Q E h => h.1) (fun _ _ _ _ _ _ us hl => match us, hl with | [_, _], _ => rfl) (fun cdv A outer s H vs Q E hr h => ?_)
  have T := TE.toTx
  obtain ⟨_, vf, vb, f, b, rfl, t1, t2, hfb, q1, q2⟩ := h
  have lok := lkOk hfb.1 hfb.2.1 hfb.2.2
  refine ⟨_, (pss_cons (ps_set (i := 2) sc_longest_chain.nd rfl (by first | exact Or.inl rfl | exact Or.inr rfl) (pe_cd (D_ranked T) (hr.mono (by decide)) T.g_ranked pass0 (pa_cons (pv 0) (pa_cons (pv 1) pa_nil)))) (pss_cons (ps_set (i := 3) sc_longest_chain.nd rfl (by first | exact Or.inl rfl | exact Or.inr rfl) (pe_md0 (D_Ranks_loop_left T) T.c_Ranks T.m_Ranks_loop_left (hr.mono (by decide)) pass0 (pv 2))) (pss_cons (ps_if (pt_cmpR op_notN (pv 3) pe_non (nomark _)) (pss_one (ps_raiseLp rfl TE.low hr (takes_of rfl rfl rfl rfl) (pa_cons (pv 3) pa_nil))) pss_nil) (pss_one (ps_ret (pe_md0 (D_Ranks_chain T) T.c_Ranks T.m_Ranks_chain (hr.mono (by decide)) pass0 (pv 2))))))), ?_⟩
  refine q_asg ⟨vf, rfl, vb, rfl, rfl, vf, vb, f, b, rfl, t1, t2, hfb, fun a H1 s1 rk => ?_⟩
  obtain ⟨dx, l, r, rks, ha, nl, nr, hrk⟩ := id rk
  refine q_asg ⟨.ref a, rfl, a, dx, _, rfl, ha, rfl, rfl, a, wds f b, rby f b, rfl, rk, lok, fun v H2 s2 tv => ?_⟩
  have hif := dn_notN (σ := ((L2.start N_longest_chain [vf, vb]).set 2 (some (V.ref a))).set 3 (some v)) (dn_var (i := 3) rfl tv)
  rw [isNo_loopD] at hif
  refine q_if0 (dt_test hif) ?_ ?_
  · intro hb H3 s3
    have hne : LF f b ≠ [] := by simpa [LF] using hb
    have tv3 := tv.s s3
    have el : loopD (wds f b) (rby f b) = loopT f b := by
      unfold loopD
      rw [if_neg (show ¬ left0 (wds f b) (rby f b) = [] from hne)]
      rfl
    rw [el] at tv3
    refine ⟨v, rfl, v, rfl, fun d hd => ?_⟩
    exact q2 hne v d _ (((s1.trans s2).trans s3).trans (Same.new hd)) upd_same (tv3.s (Same.new hd))
  · intro hb H3 s3
    have he : LF f b = [] := by simpa [LF] using hb
    exact ⟨.ref a, rfl, a, dx, _, rfl, s3 _ _ (s2 _ _ ha), rfl, rfl, a, wds f b, rby f b, rfl, (rk.s s2).s s3, lok, he, fun v4 H4 s4 t4 => q1 he v4 H4 (((s1.trans s2).trans s3).trans s4) t4⟩
noncomputable def toldD (f : Flow) (b : Vec) : Dt := if LF f b = [] then chainT f b else .list [loopT f b]
def fTold (ds : List Dt) (r : Dt) : Prop := ∃ (f : Flow) (b : Vec), ds = [dFlow f, dV b] ∧ FB f b ∧ r = toldD f b
abbrev N_law_told : List Str := ["_law_flow", "_law_sizes", "_law_found", "error"]
abbrev P_law_told : List Str := ["_law_flow", "_law_sizes"]
theorem sc_law_told : FnScope N_law_told P_law_told (defScope s_law_told) := ⟨rfl, rfl, rfl, by decide +kernel, rfl, by decide +kernel, by decide +kernel⟩
theorem D_law_told (TE : TxE K mg) : DefP P w K mg base CX0 9 ("_law_told", none) P_law_told (Pu 2 fTold) := by
  have T := TE.toTx
  refine mk_def TE.toTx 56 d_law_told rfl rfl rfl sc_law_told (fun vs H Q E h => h.1) (fun _ _ _ _ _ _ us hl => match us, hl with | [_, _], _ => rfl) (fun cdv A outer s H vs Q E hr h => ?_)
  obtain ⟨_, ds, r, hd, ⟨f, b, rfl, hfb, rfl⟩, q⟩ := h
  obtain ⟨vf, vb, rfl, t1, t2⟩ := hd.two
  obtain ⟨fdL, FL, kpL, bL⟩ := (D_longest_chainX (P := P) (w := w) (base := base) TE).ok
  refine ⟨_, (pss_cons (ps_set (i := 2) sc_law_told.nd rfl (by first | exact Or.inl rfl | exact Or.inr rfl) pe_non) (pss_cons (ps_try_as (i := 3) (tb := fun W => tAsg (tCallS (spLC (lpC K)) (WE W) (tCons (tVar 0) (tCons (tVar 1) tNil))) (gName 2)) (ts := fun a cls d => tAsg (tLst (tCons (tByLp (lpC K) a cls d (tVar 3)) tNil)) (gName 2)) (Wout := fun _ _ _ _ => False) rfl rfl sc_law_told.nd rfl rfl ⟨rfl, by decide, Or.inl TE.low.gC⟩ takes0
      (fun W pn xe tk _ => pss_one (ps_set (i := 2) sc_law_told.nd rfl (by first | exact Or.inl rfl | exact Or.inr rfl) (by exact (pe_callS FL hr rfl T.g_longest_chain kpL bL (fun σ => passAt tk σ) (by exact (pa_cons (pv 0) (pa_cons (pv 1) pa_nil)))))))
      (fun a oe cls d pn hz hf => pss_one (ps_set (i := 2) sc_law_told.nd rfl (by first | exact Or.inl rfl | exact Or.inr rfl) (by exact (pe_lst (pa_cons (pe_byLp TE.low hz hf (pv 3)) pa_nil))))))
      (pss_one (ps_ret (pv 2))))), ?_⟩
  refine q_set dn_non fun v0 H0 s0 _ => ?_
  have t1 := t1.s s0
  have t2 := t2.s s0
  refine ⟨vf, rfl, vb, rfl, rfl, vf, vb, f, b, rfl, t1, t2, hfb, fun he v H1 s1 tv => ?_, fun hne v d H1 s1 hd tv => ?_⟩
  · refine ⟨v, rfl, q v H1 (s0.trans s1) ?_⟩
    unfold toldD
    rw [if_pos he]
    exact tv
  · refine ⟨true, TE.low.te, fun _ a0 _ => ?_, fun q => Bool.noConfusion q⟩
    refine ⟨_, rfl, rfl, rfl, d, v, rfl, hd, sz (by simp), fun p hp => ?_⟩
    refine ⟨.ref p, rfl, q _ _ ((s0.trans s1).trans (Same.new hp)) ?_⟩
    unfold toldD
    rw [if_neg hne]
    exact .lst upd_same (.cons (tv.s (Same.new hp)) .nil)
end K32
/-! Nd9 -/
set_option Elab.async false
set_option linter.all false
set_option maxRecDepth 100000
set_option maxHeartbeats 1000000
/-! More of what is evaluated: greatest and least, powers, is not True, extend. -/
namespace K32
open PySem PySem.Spec PyProof.Rows L2
section
variable {X : Cx}
def rMaxT (K : PySem.W.Frag) : List V → Hp → VK → Prop := fun vs H Q => ∃ (a : Addr) (ns : List Int), vs = [V.ref a] ∧ SqT K H a (ns.map V.int) ∧ 0 < ns.length ∧ ∀ m, m ∈ ns → (∀ y, y ∈ ns → y ≤ m) → Q (.int m) H
theorem kcr_maxT (K : PySem.W.Frag) (hu : X.A.units + 9 < cLine) (hc : X.calm = true := by rfl) (hK : X.K = K := by rfl) : CallR X (.builtin "max") (rMaxT K) := by
  subst hK
  intro pins s σ H vs us Q I r h
  obtain ⟨a, ns, rfl, hs, hne, q⟩ := h
  obtain ⟨its, rv, hl, _⟩ := I.tuple hs
  rw [Vals.ref1 r]
  cases ns with
  | nil => simp at hne
  | cons x xs =>
    refine PySem.W.max_tuple_datum (α := Int) (x := x) (xs := xs) (I.ok.hd hc) hl (PySem.W.HoldAll.of_ints rv.ints) (show X.A.units + 1 + 0 < cLine by omega) fun i v h' tk hi hv hk => ?_
    obtain ⟨h1, h2⟩ := maxOf_int x xs
    obtain ⟨as, hr⟩ := hv
    have hv2 : ∃ t, v = .int (PySem.W.maxOf x xs) t := by
      cases hr with
      | int _ t => exact ⟨t, rfl⟩
    exact ⟨.int _, H, I.kept hk, hv2, q _ h1 h2⟩
end
section
variable {K : PySem.W.Frag} {σ : L2.St} {H H' : Hp} {ta tb te tx : TE} {t u : TT} {d e z : Dt} {v : V} {ds es : List Dt} {D : Ends} {tz : TS}
theorem rd_maxL {ns : List Int} {m : Int} (h1 : m ∈ ns) (h2 : ∀ y ∈ ns, y ≤ m) : RDc (rMax K) [.list (ns.map .int)] (.int m) := fun xs H h Q q => by
  obtain ⟨v, rfl, tv⟩ := h.one
  obtain ⟨a, ys, rfl, e1, e2⟩ := tv.l
  have e := e2.ints
  subst e
  refine ⟨a, ns, rfl, SqL.of e1, List.length_pos_of_mem h1, fun m' hm hx => ?_⟩
  have := hx m h1
  have := h2 m' hm
  have e : m' = m := by omega
  rw [e]
  exact q _ H (Same.refl H) (.int _)
theorem rd_minL {ns : List Int} {m : Int} (h1 : m ∈ ns) (h2 : ∀ y ∈ ns, m ≤ y) : RDc (rMin K) [.list (ns.map .int)] (.int m) := fun xs H h Q q => by
  obtain ⟨v, rfl, tv⟩ := h.one
  obtain ⟨a, ys, rfl, e1, e2⟩ := tv.l
  have e := e2.ints
  subst e
  refine ⟨a, ns, rfl, SqL.of e1, List.length_pos_of_mem h1, fun m' hm hx => ?_⟩
  have := hx m h1
  have := h2 m' hm
  have e : m' = m := by omega
  rw [e]
  exact q _ H (Same.refl H) (.int _)
theorem rd_maxT {ns : List Int} {m : Int} (h1 : m ∈ ns) (h2 : ∀ y ∈ ns, y ≤ m) : RDc (rMaxT K) [.tuple (ns.map .int)] (.int m) := fun xs H h Q q => by
  obtain ⟨v, rfl, tv⟩ := h.one
  obtain ⟨a, ys, rfl, e1, e2⟩ := tv.t
  have e := e2.ints
  subst e
  refine ⟨a, ns, rfl, SqT.of e1, List.length_pos_of_mem h1, fun m' hm hx => ?_⟩
  have := hx m h1
  have := h2 m' hm
  have e : m' = m := by omega
  rw [e]
  exact q _ H (Same.refl H) (.int _)
theorem dn_pow {i j : Int} (ha : Dn ta σ H (.int i)) (hb : Dn tb σ H (.int j)) (hc : CPow i j) : Dn (tOp (rI CPow fun i j => .int (i ^ j.toNat)) ta tb) σ H (.int (i ^ j.toNat)) := dn_op ha hb (rd_I hc fun _ => .int _)
theorem dn_mod {i j : Int} (ha : Dn ta σ H (.int i)) (hb : Dn tb σ H (.int j)) {C : Int → Int → Prop} {g : Int → Int → Int} (hc : C i j) : Dn (tOp (rI C fun i j => .int (g i j)) ta tb) σ H (.int (g i j)) := dn_op ha hb (rd_I hc fun _ => .int _)
theorem dn_notBl {a b : Bool} (ha : Dn ta σ H (.bool a)) (hb : Dn tb σ H (.bool b)) : Dn (tOp rNotB ta tb) σ H (.bool (!decide (a = b))) := dn_op ha hb fun x y H tx ty Q q => ⟨a, b, tx.b, ty.b, q _ H (Same.refl H) (.bl _)⟩
theorem s_ext {l : Addr} {xs : List V} (hv : Dv te σ H (.ref l)) (hl : H l = some (.lst xs)) (h : Dn tx σ H (.list ds)) (hz : xs.length + ds.length ≤ 100000) (k : ∀ zs H2, Same H H2 → TDs H2 zs ds → D.nx σ (upd H2 l (.lst (xs ++ zs)))) :
    tDrop (tBM K "list" rExtend te (tCons tx tNil)) D σ H :=
  hv H (Same.refl H) _ ⟨.inl ⟨rfl, _, SqL.of hl⟩, h.go fun v H2 s2 t2 => by
    obtain ⟨b, zs, rfl, e1, e2⟩ := t2.l
    exact ⟨l, b, xs, zs, rfl, rfl, s2 _ _ hl, e1, sz (by rw [e2.len]; exact hz), k zs H2 s2 e2⟩⟩
end
end K32
/-! R10 -/
set_option Elab.async false
set_option linter.all false
set_option maxRecDepth 100000
set_option maxHeartbeats 400000
namespace K32
open PySem PySem.Spec PyProof.Rows L2
local macro_rules | `(tactic| walk_at "dn") => `(tactic| first
  | with_reducible exact dn_int | with_reducible exact dn_str | with_reducible exact dn_bl | with_reducible exact dn_non | with_reducible exact da_nil | with_reducible exact do_none
  | ((with_reducible refine' dn_var ?h ?k); (case h => rfl); (case k => assumption))
  | ((with_reducible refine' da_cons ?_ ?_) <;> try walk_at "dn")
  | ((with_reducible refine' dn_add ?_ ?_) <;> try walk_at "dn")
  | ((with_reducible refine' dn_sub ?_ ?_) <;> try walk_at "dn")
  | ((with_reducible refine' dn_mul ?_ ?_ ?_) <;> try walk_at "dn")
  | ((with_reducible refine' dn_lt ?_ ?_) <;> try walk_at "dn")
  | ((with_reducible refine' dn_le ?_ ?_) <;> try walk_at "dn")
  | ((with_reducible refine' dn_gt ?_ ?_) <;> try walk_at "dn")
  | ((with_reducible refine' dn_ge ?_ ?_) <;> try walk_at "dn")
  | ((with_reducible refine' dn_neg ?_) <;> try walk_at "dn")
  | ((with_reducible refine' dn_chain ?_ ?_ ?_ rd_le rd_le) <;> try walk_at "dn")
  | ((with_reducible refine' dn_chain ?_ ?_ ?_ rd_le rd_lt) <;> try walk_at "dn")
  | ((with_reducible refine' dn_isI ?h ?k); (case h => walk_at "dn"); (case k => first | with_reducible exact kb_int_int | with_reducible exact kb_int_tuple | with_reducible exact kb_int_str | with_reducible exact kb_int_bool))
  | ((with_reducible refine' dn_isT ?h ?k); (case h => walk_at "dn"); (case k => first | with_reducible exact kb_tuple_int | with_reducible exact kb_tuple_tuple | with_reducible exact kb_tuple_str | with_reducible exact kb_tuple_bool))
  | ((with_reducible refine' dn_isS ?h ?k); (case h => walk_at "dn"); (case k => first | with_reducible exact kb_str_int | with_reducible exact kb_str_tuple | with_reducible exact kb_str_str | with_reducible exact kb_str_bool))
  | ((with_reducible refine' dn_isL ?h ?k); (case h => walk_at "dn"); (case k => first | with_reducible exact kb_list_int | with_reducible exact kb_list_tuple | with_reducible exact kb_list_str | with_reducible exact kb_list_bool))
  | ((with_reducible refine' dn_isB ?h ?k); (case h => walk_at "dn"); (case k => first | with_reducible exact kb_bool_int | with_reducible exact kb_bool_tuple | with_reducible exact kb_bool_str | with_reducible exact kb_bool_bool))
  | ((with_reducible refine' dn_ixT ?h ?t ?k); (case h => walk_at "dn"); (case t => walk_at "dn"); try (case k => rfl))
  | ((with_reducible refine' dn_ixL ?h ?t ?k); (case h => walk_at "dn"); (case t => walk_at "dn"); try (case k => rfl))
  | ((with_reducible refine' dn_cb ?h ?k); (case h => walk_at "dn"); try (case k => first | exact rd_lenT | exact rd_lenL | exact rd_tupL | exact rd_lstT | exact rd_lstL | exact rc_all | exact rc_sum | exact rc_max2 | exact rc_min2))
  | ((with_reducible refine' dn_call ?h ?t ?k); (case h => walk_at "dn"); (case t => rfl))
  | ((with_reducible refine' dt_test ?_) <;> try walk_at "dn")
  | ((with_reducible refine' dt_B ?_) <;> try walk_at "dn")
  | ((with_reducible refine' dn_eqI ?h ?k); (case h => walk_at "dn"); (case k => walk_at "dn"))
  | ((with_reducible refine' dn_neI ?h ?k); (case h => walk_at "dn"); (case k => walk_at "dn"))
  | ((with_reducible refine' dn_eqS ?h ?k); (case h => walk_at "dn"); (case k => walk_at "dn"))
  | ((with_reducible refine' dn_neS ?h ?k); (case h => walk_at "dn"); (case k => walk_at "dn"))
  | ((with_reducible refine' dt_or ?_ (fun _ => ?_)) <;> try walk_at "dn")
  | ((with_reducible refine' dt_and ?_ (fun _ => ?_)) <;> try walk_at "dn")
  | ((with_reducible refine' dn_orV ?_ (fun _ => ?_)) <;> try walk_at "dn")
  | ((with_reducible refine' dn_andV ?_ (fun _ => ?_)) <;> try walk_at "dn")
  | ((with_reducible refine' dt_not ?_) <;> try walk_at "dn")
  | ((with_reducible refine' dn_notV ?_) <;> try walk_at "dn")
  | ((with_reducible refine' da_star ?_ ?_) <;> try walk_at "dn")
  | ((with_reducible refine' dn_tup ?_ ?_) <;> try walk_at "dn")
  | ((with_reducible refine' dn_lst ?_ ?_) <;> try walk_at "dn")
  | ((with_reducible refine' do_some ?_) <;> try walk_at "dn"))
variable {P : Program} {w : World} {K : PySem.W.Frag} {mg : Str → Option Value} {base : Heap}
abbrev N_law_whole : List Str := ["_law_value", "_law_low", "_law_high"]
abbrev P_law_whole : List Str := ["_law_value", "_law_low", "_law_high"]
theorem sc_law_whole : FnScope N_law_whole P_law_whole (defScope s_law_whole) := ⟨rfl, rfl, rfl, by decide +kernel, rfl, by decide +kernel, by decide +kernel⟩
theorem D_law_whole (T : Tx K mg) : DefP P w K mg base CX0 1 ("_law_whole", none) P_law_whole (Pu 3 fIsInteger) := by
  refine mk_def T 45 d_law_whole rfl rfl rfl sc_law_whole (fun vs H Q E h => h.1) (fun _ _ _ _ _ _ us hl => match us, hl with | [_, _, _], _ => rfl) (fun cdv A outer s H vs Q E hr h => ?_)
  obtain ⟨_, ds, r, hd, ⟨v, lo, hi, rfl, rfl⟩, q⟩ := h
  obtain ⟨x, y, z, rfl, t1, t2, t3⟩ := hd.three
  refine ⟨_, (pss_one (ps_ret (pe_and (pe_callB (kcall_isi K) (by rfl) T.f_isinstance (by decide +kernel) (pa_cons (pv 0) (pa_cons (pe_bltn (v := .ty "int") rfl T.f_int (by decide +kernel) rfl) pa_nil))) (pe_and (pe_not (pe_callB (kcall_isi K) (by rfl) T.f_isinstance (by decide +kernel) (pa_cons (pv 0) (pa_cons (pe_bltn (v := .ty "bool") rfl T.f_bool (by decide +kernel) rfl) pa_nil)))) (pe_one (pe_chain op_le op_le (pv 1) (pv 0) (pv 2))))))), ?_⟩
  refine s_ret (d := .bool (true && (!false && (decide (lo ≤ v) && decide (v ≤ hi))))) (dn_andV ?_ fun _ => dn_andV ?_ fun _ => ?_) fun v H2 s t => q v H2 s (by simpa using t)
  all_goals walk_at "dn"
abbrev N_law_dot : List Str := ["_law_one_here", "_law_other", "_law_left", "_law_right_here"]
abbrev P_law_dot : List Str := ["_law_one_here", "_law_other"]
theorem sc_law_dot : FnScope N_law_dot P_law_dot (defScope s_law_dot) := ⟨rfl, rfl, rfl, by decide +kernel, rfl, by decide +kernel, by decide +kernel⟩
theorem D_law_dot (T : Tx K mg) : DefP P w K mg base CX0 1 ("_law_dot", none) P_law_dot (Pu 2 fDot) := by
  refine mk_def T 49 d_law_dot rfl rfl rfl sc_law_dot (fun vs H Q E h => h.1) (fun _ _ _ _ _ _ us hl => match us, hl with | [_, _], _ => rfl) (fun cdv A outer s H vs Q E hr h => ?_)
  obtain ⟨_, ds, r, hd, ⟨a, b, rfl, hs, hl, rfl⟩, q⟩ := h
  obtain ⟨x, y, rfl, t1, t2⟩ := hd.two
  refine ⟨_, (pss_one (ps_ret (pe_callB (kcr_sum K) (by rfl) T.f_sum (by decide +kernel) (pa_cons (pe_lc (own := [("_law_left", 2), ("_law_right_here", 3)]) rfl sc_law_dot.nd (kpi_zip K T.f_zip (pa_cons (pv 0) (pa_cons (pv 1) pa_nil))) (blkOk_by (N := N_law_dot) (sc := defScope s_law_dot) (by decide +kernel)) (fun _ _ _ _ _ => (kpg_tup K 2 (pgs_cons (pg_name (i := 2) sc_law_dot.nd rfl (by first | exact Or.inl rfl | exact Or.inr rfl)) (pgs_cons (pg_name (i := 3) sc_law_dot.nd rfl (by first | exact Or.inl rfl | exact Or.inr rfl)) pgs_nil)))) (fun _ _ _ _ _ => pts_nil) (fun _ _ _ _ _ => (pe_op op_mul (pv 2) (pv 3)))) pa_nil)))), ?_⟩
  refine s_ret (dn_cb (da_cons (dn_lcm (α := Int × Int) (fun p => .tuple [.int p.1, .int p.2]) (a.zip b) (fun p => .int (p.1 * p.2)) ?_ ?_ (fun _ _ => rfl) ?_) da_nil) (z := .int (dotp a b)) ?_) q
  · rw [zip_dV]
    exact src_zip (by walk_at "dn")
  · rw [List.length_zip]; omega
  · rintro p hp x H1 s td
    obtain ⟨u, v, tu, tv, st⟩ := sto_two (K := K) (σ := wipe _ _) (i := 2) (j := 3) td
    refine ⟨_, st, rfl, dn_mul (by walk_at "dn") (by walk_at "dn") (.inl ?_)⟩
    have := hs _ (List.of_mem_zip hp).1
    omega
  · have e : (a.zip b).map (fun p => PyData.int (p.1 * p.2)) = ((a.zip b).map fun p => p.1 * p.2).map .int := by rw [List.map_map]; rfl
    rw [e]
    exact rc_sum
abbrev N_law_grid : List Str := ["_law_sizes", "_law_found", "_law_size", "_law_longer", "_law_ahead", "_law_item"]
abbrev P_law_grid : List Str := ["_law_sizes"]
theorem sc_law_grid : FnScope N_law_grid P_law_grid (defScope s_law_grid) := ⟨rfl, rfl, rfl, by decide +kernel, rfl, by decide +kernel, by decide +kernel⟩
def fGrid (ds : List Dt) (r : Dt) : Prop := ∃ b : Vec, ds = [dV b] ∧ BoxOk b ∧ r = .list ((pts b).map dV)
theorem ptsStep_take (rows : List Vec) (s : Int) (j : Nat) : (ptsStep (rows.take j) s).length ≤ (ptsStep rows s).length := by
  have e : ptsStep rows s = ptsStep (rows.take j) s ++ ptsStep (rows.drop j) s := by
    unfold ptsStep
    rw [← List.flatMap_append, List.take_append_drop]
  rw [e, List.length_append]; omega
theorem D_law_grid (T : Tx K mg) : DefP P w K mg base CX0 1 ("_law_grid", none) P_law_grid (Pu 1 fGrid) := by
  refine mk_def T 51 d_law_grid rfl rfl rfl sc_law_grid (fun vs H Q E h => h.1) (fun _ _ _ _ _ _ us hl => match us, hl with | [_], _ => rfl) (fun cdv A outer s H vs Q E hr h => ?_)
  obtain ⟨_, ds, r, hd, ⟨b, rfl, hb, rfl⟩, q⟩ := h
  obtain ⟨x, rfl, t1⟩ := hd.one
  refine ⟨_, (pss_cons (ps_set (i := 1) sc_law_grid.nd rfl (by first | exact Or.inl rfl | exact Or.inr rfl) (pe_lst (pa_cons (pe_tup pa_nil) pa_nil))) (pss_cons (ps_for PassesOwn.never rfl (kpi_tup K (pv 0)) (pg_name (i := 2) sc_law_grid.nd rfl (by first | exact Or.inl rfl | exact Or.inr rfl)) (pss_cons (ps_set (i := 3) sc_law_grid.nd rfl (by first | exact Or.inl rfl | exact Or.inr rfl) (pe_lst pa_nil)) (pss_cons (ps_for PassesOwn.never rfl (kpi_list K (pv 1)) (pg_name (i := 4) sc_law_grid.nd rfl (by first | exact Or.inl rfl | exact Or.inr rfl)) (pss_one (ps_expr (pe_bm PySem.F.plainAttrs_list PySem.F.slot_list_extend PySem.F.type_list_extend mt_extend (pv 3) (pa_cons (pe_lc (own := [("_law_item", 5)]) rfl sc_law_grid.nd (pi_range1 rfl T.f_range (pa_cons (pv 2) pa_nil)) (blkOk_by (N := N_law_grid) (sc := defScope s_law_grid) (by decide +kernel)) (fun _ _ _ _ _ => (pg_name (i := 5) sc_law_grid.nd rfl (by first | exact Or.inl rfl | exact Or.inr rfl))) (fun _ _ _ _ _ => pts_nil) (fun _ _ _ _ _ => (pe_op (kop_catA K) (pv 4) (pe_tup (pa_cons (pv 5) pa_nil))))) pa_nil))))) (pss_one (ps_set (i := 1) sc_law_grid.nd rfl (by first | exact Or.inl rfl | exact Or.inr rfl) (pv 3)))))) (pss_one (ps_ret (pv 1))))), ?_⟩
  refine q_set (d := .list [.tuple []]) (dn_lst (da_cons (dn_tup da_nil (by decide)) da_nil) (by decide)) fun v H3 s3 t3 => ?_
  have t1 := t1.s s3
  refine q_forK (α := Int) .int b (srcK_tup (by walk_at "dn") (flat_dV b)) (fun i σ H' => ∃ v o2 o3 o4, σ = [some x, some v, o2, o3, o4, none] ∧ Same H H' ∧ TD H' v (.list ((pts (b.take i)).map dV))) ?_ ?_ ?_ ?_
  · rintro i σ Ha Hb sab ⟨v, o2, o3, o4, rfl, s3, t3⟩
    exact ⟨v, o2, o3, o4, rfl, s3.trans sab, t3.s sab⟩
  · intro H1 s1
    exact ⟨v, none, none, none, rfl, s3.trans s1, t3.s s1⟩
  · rintro i a y σ H1 ha kt ty ⟨v, o2, o3, o4, rfl, s4, t4⟩
    have ha1 := hb.pos a (List.mem_of_getElem? ha)
    have hle := pts_le hb (i + 1)
    rw [take_snoc ha, pts_snoc] at hle
    have hle2 : a ≤ 240 := by
      have h1 := (vol_take hb.pos (i + 1)).2
      rw [take_snoc ha, vol_snoc] at h1
      have h2 := (vol_take hb.pos i).1
      have h3 := hb.vol
      have h4 : a ≤ vol (b.take i) * a := by
        have := Int.mul_le_mul_of_nonneg_right h2 (show 0 ≤ a by omega)
        omega
      omega
    obtain ⟨pf, us, rfl, hpf, tus⟩ := t4.l
    refine ⟨_, sto_name, fun N hN => ?_⟩
    refine q_lst0 fun pl hpl => ?_
    have hne : pf ≠ pl := fun e => by rw [e, hpl] at hpf; cases hpf
    have hul : us.length = (pts (b.take i)).length := by rw [tus.len, List.length_map]
    refine q_seq (s_forL (p := pf) (xs := us) (dv_var rfl) (by rw [upd_ne hne]; exact hpf) (fun j σ' H' => ∃ o4 zs, σ' = [some x, some (.ref pf), some y, some (.ref pl), o4, none] ∧ (∀ c u, c ≠ pl → H1 c = some u → H' c = some u) ∧ H' pl = some (.lst zs) ∧ TDs H' zs ((ptsStep ((pts (b.take i)).take j) a).map dV)) ?_ ⟨o4, [], rfl, fun c u hc h => by rw [upd_ne hc]; exact h, upd_same, by unfold ptsStep; exact .nil⟩ ?_ ?_)
    · rintro j σ' H' ⟨o4, zs, _, h1, _, _⟩
      exact h1 _ _ hne hpf
    · rintro j u σ' H' hu ⟨o4, zs, rfl, h1, h2, h3⟩
      have ktH : KT H1 H' := fun c xs h => h1 c _ (fun e => by rw [e, hpl] at h; cases h) h
      obtain ⟨du, hdu, tu⟩ := tus.at hu
      rw [List.getElem?_map] at hdu
      obtain ⟨r, hr, rfl⟩ := Option.map_eq_some_iff.mp hdu
      have tu : TD H' u (dV r) := tu.k ktH (flat_dV r)
      have ty' : TD H' y (.int a) := ty.k ktH rfl
      refine ⟨_, sto_name, ?_⟩
      have hlr : r.length ≤ 3 := by
        have h5 := pts_mem_len (List.mem_of_getElem? hr)
        have h6 := hb.len
        rw [List.length_take] at h5
        omega
      have hlst : Dn (tLc (iRng1 (tCons (tVar 2) tNil)) (gName 5) tYes (tOp (rCatA K) (tVar 4) (tTup (tCons (tVar 5) tNil))) [5]) [some x, some (V.ref pf), some y, some (V.ref pl), some u, none] H' (.list ((List.range a.toNat).map fun k : Nat => dV (r ++ [(k : Int)]))) := by
        refine dn_lcm (fun k : Nat => PyData.int (k : Int)) (List.range a.toNat) (fun k : Nat => dV (r ++ [(k : Int)])) (src_rng1 (by walk_at "dn") (by omega) (by omega)) (by rw [List.length_range]; omega) (fun _ _ => flat_dV _) fun k hk z H6 s6 tz => ⟨_, sto_name, rfl, ?_⟩
        have e2 : dV (r ++ [(k : Int)]) = .tuple (r.map .int ++ [.int (k : Int)]) := by unfold dV; rw [List.map_append]; rfl
        rw [e2]
        exact dn_catT (dn_var rfl (tu.s s6)) (dn_tup (da_cons (dn_var rfl tz) da_nil) (by simp)) (by rw [List.length_map]; simp; omega)
      have hzl : zs.length = (ptsStep ((pts (b.take i)).take j) a).length := by rw [h3.len, List.length_map]
      have hzt := ptsStep_take (pts (b.take i)) a j
      refine s_ext (l := pl) (xs := zs) (dv_var rfl) h2 hlst (by rw [List.length_map, List.length_range]; omega) fun ws H6 s6 tw => ⟨_, zs ++ ws, rfl, fun c u hc h => by rw [upd_ne hc]; exact s6 _ _ (h1 c u hc h), upd_same, ?_⟩
      have kt6 : KT H6 (upd H6 pl (.lst (zs ++ ws))) := KT.mut (s6 _ _ h2) (fun _ z => nomatch z)
      have e3 : (ptsStep ((pts (b.take i)).take (j + 1)) a).map dV = (ptsStep ((pts (b.take i)).take j) a).map dV ++ (List.range a.toNat).map fun k : Nat => dV (r ++ [(k : Int)]) := by
        unfold ptsStep
        rw [take_snoc hr, List.flatMap_append, List.map_append]
        simp
      rw [e3]
      exact ((h3.s s6).k kt6 (flats_map flat_dV _)).app (tw.k kt6 (flats_of fun d hd => by
        obtain ⟨k, _, rfl⟩ := List.mem_map.mp hd
        exact flat_dV _))
    · rintro σ' H' ⟨o4, zs, rfl, h1, h2, h3⟩
      rw [hul, List.take_length] at h3
      have ktH : KT H1 H' := fun c xs h => h1 c _ (fun e => by rw [e, hpl] at h; cases h) h
      refine s_set (dn_var (i := 3) rfl (TD.lst h2 h3)) fun v5 H5 s5 t5 => hN _ _ (ktH.trans (KT.of s5)) ⟨v5, _, _, _, rfl, ?_, ?_⟩
      · exact Same.trans (fun c u hc => h1 c u (fun e => by rw [e] at hc; have := s4 _ _ hc; rw [hpl] at this; cases this) (s4 _ _ hc)) s5
      · rw [take_snoc ha, pts_snoc]
        exact t5
  · rintro σ H1 kt ⟨v, o2, o3, o4, rfl, s3, t3⟩
    rw [List.take_length] at t3
    exact s_ret (dn_var (i := 1) rfl t3) fun v4 H4 s4 t4 => q v4 H4 (s3.trans s4) t4
end K32
/-! R11 -/
set_option Elab.async false
set_option linter.all false
set_option maxRecDepth 100000
set_option maxHeartbeats 400000
namespace K32
open PySem PySem.Spec PyProof.Rows L2
local macro_rules | `(tactic| walk_at "dn") => `(tactic| first
  | with_reducible exact dn_int | with_reducible exact dn_str | with_reducible exact dn_bl | with_reducible exact dn_non | with_reducible exact da_nil | with_reducible exact do_none
  | ((with_reducible refine' dn_var ?h ?k); (case h => rfl); (case k => assumption))
  | ((with_reducible refine' da_cons ?_ ?_) <;> try walk_at "dn")
  | ((with_reducible refine' dn_add ?_ ?_) <;> try walk_at "dn")
  | ((with_reducible refine' dn_sub ?_ ?_) <;> try walk_at "dn")
  | ((with_reducible refine' dn_mul ?_ ?_ ?_) <;> try walk_at "dn")
  | ((with_reducible refine' dn_lt ?_ ?_) <;> try walk_at "dn")
  | ((with_reducible refine' dn_le ?_ ?_) <;> try walk_at "dn")
  | ((with_reducible refine' dn_gt ?_ ?_) <;> try walk_at "dn")
  | ((with_reducible refine' dn_ge ?_ ?_) <;> try walk_at "dn")
  | ((with_reducible refine' dn_neg ?_) <;> try walk_at "dn")
  | ((with_reducible refine' dn_chain ?_ ?_ ?_ rd_le rd_le) <;> try walk_at "dn")
  | ((with_reducible refine' dn_chain ?_ ?_ ?_ rd_le rd_lt) <;> try walk_at "dn")
  | ((with_reducible refine' dn_isI ?h ?k); (case h => walk_at "dn"); (case k => first | with_reducible exact kb_int_int | with_reducible exact kb_int_tuple | with_reducible exact kb_int_str | with_reducible exact kb_int_bool))
  | ((with_reducible refine' dn_isT ?h ?k); (case h => walk_at "dn"); (case k => first | with_reducible exact kb_tuple_int | with_reducible exact kb_tuple_tuple | with_reducible exact kb_tuple_str | with_reducible exact kb_tuple_bool))
  | ((with_reducible refine' dn_isS ?h ?k); (case h => walk_at "dn"); (case k => first | with_reducible exact kb_str_int | with_reducible exact kb_str_tuple | with_reducible exact kb_str_str | with_reducible exact kb_str_bool))
  | ((with_reducible refine' dn_isL ?h ?k); (case h => walk_at "dn"); (case k => first | with_reducible exact kb_list_int | with_reducible exact kb_list_tuple | with_reducible exact kb_list_str | with_reducible exact kb_list_bool))
  | ((with_reducible refine' dn_isB ?h ?k); (case h => walk_at "dn"); (case k => first | with_reducible exact kb_bool_int | with_reducible exact kb_bool_tuple | with_reducible exact kb_bool_str | with_reducible exact kb_bool_bool))
  | ((with_reducible refine' dn_ixT ?h ?t ?k); (case h => walk_at "dn"); (case t => walk_at "dn"); try (case k => rfl))
  | ((with_reducible refine' dn_ixL ?h ?t ?k); (case h => walk_at "dn"); (case t => walk_at "dn"); try (case k => rfl))
  | ((with_reducible refine' dn_cb ?h ?k); (case h => walk_at "dn"); try (case k => first | exact rd_lenT | exact rd_lenL | exact rd_tupL | exact rd_lstT | exact rd_lstL | exact rc_all | exact rc_sum | exact rc_max2 | exact rc_min2))
  | ((with_reducible refine' dn_call ?h ?t ?k); (case h => walk_at "dn"); (case t => rfl))
  | ((with_reducible refine' dt_test ?_) <;> try walk_at "dn")
  | ((with_reducible refine' dt_B ?_) <;> try walk_at "dn")
  | ((with_reducible refine' dn_eqI ?h ?k); (case h => walk_at "dn"); (case k => walk_at "dn"))
  | ((with_reducible refine' dn_neI ?h ?k); (case h => walk_at "dn"); (case k => walk_at "dn"))
  | ((with_reducible refine' dn_eqS ?h ?k); (case h => walk_at "dn"); (case k => walk_at "dn"))
  | ((with_reducible refine' dn_neS ?h ?k); (case h => walk_at "dn"); (case k => walk_at "dn"))
  | ((with_reducible refine' dt_or ?_ (fun _ => ?_)) <;> try walk_at "dn")
  | ((with_reducible refine' dt_and ?_ (fun _ => ?_)) <;> try walk_at "dn")
  | ((with_reducible refine' dn_orV ?_ (fun _ => ?_)) <;> try walk_at "dn")
  | ((with_reducible refine' dn_andV ?_ (fun _ => ?_)) <;> try walk_at "dn")
  | ((with_reducible refine' dt_not ?_) <;> try walk_at "dn")
  | ((with_reducible refine' dn_notV ?_) <;> try walk_at "dn")
  | ((with_reducible refine' da_star ?_ ?_) <;> try walk_at "dn")
  | ((with_reducible refine' dn_tup ?_ ?_) <;> try walk_at "dn")
  | ((with_reducible refine' dn_lst ?_ ?_) <;> try walk_at "dn")
  | ((with_reducible refine' do_some ?_) <;> try walk_at "dn"))
variable {P : Program} {w : World} {K : PySem.W.Frag} {mg : Str → Option Value} {base : Heap}
def rbG (b p : Vec) (q : Wd) : Option Wd := if inside b (diff p q.2) = true then some (q.1, diff p q.2) else none
def rbF (b : Vec) (w : Wd) (r : Rd4) : Option Wd := if r.1 = w.1 ∧ inside b (diff w.2 r.2.2.2) = true then some (r.2.2.1, diff w.2 r.2.2.2) else none
theorem rb_in (b p : Vec) (i pl : Nat) : ∀ (l : List Wd) (m : Nat), ((l.zipIdx m).map fun q => ((i : Int), (q.2 : Int), q.1.1, q.1.2)).filterMap (rbF b ((pl : Int), p)) = if i = pl then l.filterMap (rbG b p) else []
  | [], m => by simp
  | q :: l, m => by
    rw [List.zipIdx_cons, List.map_cons, List.filterMap_cons, rb_in b p i pl l (m + 1)]
    by_cases h : i = pl
    · subst h
      rw [if_pos rfl, if_pos rfl, List.filterMap_cons]
      unfold rbF rbG
      by_cases h2 : inside b (diff p q.2) = true <;> simp [h2]
    · rw [if_neg h, if_neg h]
      unfold rbF
      have : ¬ ((i : Int) = (pl : Int)) := by omega
      simp [this]
theorem rb_out (b p : Vec) (pl : Nat) : ∀ (l : List (Str × List Wd)) (n : Nat), ((l.zipIdx n).flatMap fun x => x.1.2.zipIdx.map fun q => ((x.2 : Int), (q.2 : Int), q.1.1, q.1.2)).filterMap (rbF b ((pl : Int), p)) = if n ≤ pl then ((l[pl - n]?).map fun r => r.2.filterMap (rbG b p)).getD [] else []
  | [], n => by simp
  | r :: l, n => by
    rw [List.zipIdx_cons, List.flatMap_cons, List.filterMap_append, rb_out b p pl l (n + 1), rb_in]
    by_cases h : n = pl
    · subst h
      rw [if_pos rfl, if_neg (by omega), if_pos (Nat.le_refl _), Nat.sub_self]
      simp
    · rw [if_neg h, List.nil_append]
      by_cases h2 : n ≤ pl
      · rw [if_pos h2, if_pos (by omega)]
        have e : pl - n = (pl - (n + 1)) + 1 := by omega
        rw [e, List.getElem?_cons_succ]
      · rw [if_neg h2, if_neg (by omega)]
theorem rby_pl {f : Flow} {b p : Vec} {pl : Nat} {rule : Str × List Wd} (h : f.rules[pl]? = some rule) : rby f b ((pl : Int), p) = rule.2.filterMap (rbG b p) := by
  have h1 := rb_out b p pl f.rules 0
  rw [if_pos (Nat.zero_le _), Nat.sub_zero, h] at h1
  exact h1
theorem filterMap_take_succ {α β : Type} (g : α → Option β) {l : List α} {k : Nat} {a : α} (h : l[k]? = some a) : (l.take (k + 1)).filterMap g = (l.take k).filterMap g ++ (g a).toList := by
  rw [take_snoc h, List.filterMap_append]
  congr 1
def spLinks (P : Program) (w : World) : Sp := fun vs H Q _ => vs.length = 2 ∧ ∃ (vf vb : V) (f : Flow) (b : Vec), vs = [vf, vb] ∧ TD H vf (dFlow f) ∧ TD H vb (dV b) ∧ FB f b ∧ ∀ d H', Same H H' → H d = none → NDf P w H' d (wds f b) (gLk (rby f b)) → Q (.ref d) H'
abbrev N_law_links : List Str := ["_law_flow", "_law_sizes", "_law_plane", "_law_points", "_law_found", "_law_point", "_law_there", "_law_source", "_law_distance", "_law_other", "_law_item", "_law_step", "_law_size"]
abbrev P_law_links : List Str := ["_law_flow", "_law_sizes"]
theorem sc_law_links : FnScope N_law_links P_law_links (defScope s_law_links) := ⟨rfl, rfl, rfl, by decide +kernel, rfl, by decide +kernel, by decide +kernel⟩
theorem D_law_links (T : Tx K mg) : DefP P w K mg base CX0 2 ("_law_links", none) P_law_links (spLinks P w) := by
  refine mk_def T 53 d_law_links rfl rfl rfl sc_law_links (fun vs H Q E h => h.1) (fun _ _ _ _ _ _ us hl => match us, hl with | [_, _], _ => rfl) (fun cdv A outer s H vs Q E hr h => ?_)
  obtain ⟨_, vf, vb, f, b, rfl, t1, t2, hfb, q⟩ := h
  have h6 := hfb.1.n6
  have h240 := pts_le0 hfb.2.1
  have hb3 := hfb.2.1.len
  refine ⟨_, (pss_cons (ps_par (i := 3) (j := 4) (by rfl) sc_law_links.nd rfl rfl (by decide) rfl rfl (pa_cons (pe_cd (D_law_grid T) (hr.mono (by decide)) T.g_law_grid pass0 (pa_cons (pv 1) pa_nil)) (pa_cons (pe_ndnew P w) pa_nil)) (by kernel_rfl)) (pss_cons (ps_for PassesOwn.never rfl (pi_range1 rfl T.f_range (pa_cons (pe_callB (kcall_len K) (by rfl) T.f_len boot_len (pa_cons (pe_ix (kix_tup K) (pv 0) pe_int (fun _ _ => rfl)) pa_nil)) pa_nil)) (pg_name (i := 2) sc_law_links.nd rfl (by first | exact Or.inl rfl | exact Or.inr rfl)) (pss_one (ps_for PassesOwn.never rfl (kpi_list K (pv 3)) (pg_name (i := 5) sc_law_links.nd rfl (by first | exact Or.inl rfl | exact Or.inr rfl)) (pss_cons (ps_set (i := 6) sc_law_links.nd rfl (by first | exact Or.inl rfl | exact Or.inr rfl) (pe_lst pa_nil)) (pss_cons (ps_for PassesOwn.never rfl (kpi_tup K (pe_slice (ksl_tup K) (pe_ix (kix_tup K) (pe_ix (kix_tup K) (pv 0) pe_int (fun _ _ => rfl)) (pv 2) (fun _ _ => rfl)) (po_some pe_int) po_none)) (kpg_tup K 2 (pgs_cons (pg_name (i := 7) sc_law_links.nd rfl (by first | exact Or.inl rfl | exact Or.inr rfl)) (pgs_cons (pg_name (i := 8) sc_law_links.nd rfl (by first | exact Or.inl rfl | exact Or.inr rfl)) pgs_nil))) (pss_cons (ps_set (i := 9) sc_law_links.nd rfl (by first | exact Or.inl rfl | exact Or.inr rfl) (pe_callTy (kcall_tuple K) (by rfl) T.f_tuple (by decide +kernel) (pa_cons (pe_lc (own := [("_law_item", 10), ("_law_step", 11)]) rfl sc_law_links.nd (kpi_zip K T.f_zip (pa_cons (pv 5) (pa_cons (pv 8) pa_nil))) (blkOk_by (N := N_law_links) (sc := defScope s_law_links) (by decide +kernel)) (fun _ _ _ _ _ => (kpg_tup K 2 (pgs_cons (pg_name (i := 10) sc_law_links.nd rfl (by first | exact Or.inl rfl | exact Or.inr rfl)) (pgs_cons (pg_name (i := 11) sc_law_links.nd rfl (by first | exact Or.inl rfl | exact Or.inr rfl)) pgs_nil)))) (fun _ _ _ _ _ => pts_nil) (fun _ _ _ _ _ => (pe_op op_sub (pv 10) (pv 11)))) pa_nil))) (pss_one (ps_if (pt_val (pe_callB (kcr_all K) (by rfl) T.f_all (by decide +kernel) (pa_cons (pe_lc (own := [("_law_item", 10), ("_law_size", 12)]) rfl sc_law_links.nd (kpi_zip K T.f_zip (pa_cons (pv 9) (pa_cons (pv 1) pa_nil))) (blkOk_by (N := N_law_links) (sc := defScope s_law_links) (by decide +kernel)) (fun _ _ _ _ _ => (kpg_tup K 2 (pgs_cons (pg_name (i := 10) sc_law_links.nd rfl (by first | exact Or.inl rfl | exact Or.inr rfl)) (pgs_cons (pg_name (i := 12) sc_law_links.nd rfl (by first | exact Or.inl rfl | exact Or.inr rfl)) pgs_nil)))) (fun _ _ _ _ _ => pts_nil) (fun _ _ _ _ _ => (pe_chain op_le op_lt pe_int (pv 10) (pv 12)))) pa_nil))) (pss_one (ps_expr (pe_bm PySem.F.plainAttrs_list PySem.F.slot_list_append PySem.F.type_list_append mt_append (pv 6) (pa_cons (pe_tup (pa_cons (pv 7) (pa_cons (pv 9) pa_nil))) pa_nil)))) pss_nil)))) (pss_one (ps_ndput P w (hu9 hr) (pv 4) (pe_tup (pa_cons (pv 2) (pa_cons (pv 5) pa_nil))) (pv 6)))))))) (pss_one (ps_ret (pv 4))))), ?_⟩
  refine (dn_call (z := .list ((pts b).map dV)) (by walk_at "dn") (by rfl) ⟨b, rfl, hfb.2.1, rfl⟩).go fun vp H1 s1 tp d hd => ⟨_, _, rfl, ?_⟩
  have t1 := t1.s s1
  have t2 := t2.s s1
  obtain ⟨pp, ups, rfl, hpp, tps⟩ := tp.l
  have hul : ups.length = (pts b).length := by rw [tps.len, List.length_map]
  have hsrc := srcK_rng1 (σ := ((L2.start N_law_links [vf, vb]).set 3 (some (V.ref pp))).set 4 (some (V.ref d))) (H := upd H1 d (ndO P w d [])) (ta := tCons (tCB (rLen K) (tCons (tOp (rIxT K) (tVar 0) (tC (.int 1))) tNil)) tNil) (n := ((f.rules.map dRule).length : Int)) (by
    have t1 := t1.s (Same.new (o := ndO P w d []) hd)
    walk_at "dn") (by rw [List.length_map]; omega) (by omega)
  rw [List.length_map, Int.toNat_natCast] at hsrc
  refine q_forK (fun i : Nat => PyData.int (i : Int)) (List.range f.rules.length) hsrc (fun i σ' H' => ∃ o2 o5 o6 o7 o8 o9, σ' = [some vf, some vb, o2, some (.ref pp), some (.ref d), o5, o6, o7, o8, o9, none, none, none] ∧ Same H1 H' ∧ NDf P w H' d ((List.range i).flatMap fun pl : Nat => (pts b).map fun p => ((pl : Int), p)) (gLk (rby f b))) ?_ ?_ ?_ ?_
  · rintro i σ' Ha Hb sab ⟨o2, o5, o6, o7, o8, o9, rfl, a1, a2⟩
    exact ⟨o2, o5, o6, o7, o8, o9, rfl, a1.trans sab, a2.s sab⟩
  · intro H2 s2
    exact ⟨none, none, none, none, none, none, rfl, (Same.new hd).trans s2, (NDf.nil d).s s2⟩
  · rintro i i' y σ' H2 hi kt ty ⟨o2, o5, o6, o7, o8, o9, rfl, a1, a2⟩
    obtain ⟨hi1, hi2⟩ := List.getElem?_eq_some_iff.mp hi
    rw [List.length_range] at hi1
    rw [List.getElem_range] at hi2
    subst hi2
    have hrule : f.rules[i]? = some f.rules[i] := List.getElem?_eq_getElem hi1
    generalize f.rules[i] = rule at hrule
    have hrm := List.mem_of_getElem? hrule
    have hr3 := hfb.1.r1 rule hrm
    refine ⟨_, sto_name, fun N hN => ?_⟩
    show tFor (iList K (tVar 3)) (gName 5) _ _ _ _
    refine s_forL (p := pp) (xs := ups) (dv_var rfl) (a1 _ _ hpp) (fun j σ' H' => ∃ o5 o6 o7 o8 o9, σ' = [some vf, some vb, some y, some (.ref pp), some (.ref d), o5, o6, o7, o8, o9, none, none, none] ∧ Same H1 H' ∧ KT H2 H' ∧ NDf P w H' d (((List.range i).flatMap fun pl : Nat => (pts b).map fun p => ((pl : Int), p)) ++ ((pts b).take j).map fun p => ((i : Int), p)) (gLk (rby f b))) ?_ ⟨o5, o6, o7, o8, o9, rfl, a1, KT.refl _, by simpa using a2⟩ ?_ ?_
    · rintro j σ' H' ⟨_, _, _, _, _, _, h1, _, _⟩
      exact h1 _ _ hpp
    · rintro j u σ' H3 hu ⟨o5, o6, o7, o8, o9, rfl, b1, b2, b3⟩
      obtain ⟨du, hdu, tu⟩ := tps.at hu
      rw [List.getElem?_map] at hdu
      obtain ⟨p, hp, rfl⟩ := Option.map_eq_some_iff.mp hdu
      have hpm := List.mem_of_getElem? hp
      have hpl := (mem_pts.mp hpm).1
      have tu : TD H3 u (dV p) := tu.s b1
      have ty3 : TD H3 y (.int (i : Int)) := ty.k b2 rfl
      refine ⟨_, sto_name, ?_⟩
      refine q_lst0 fun pt hpt => ?_
      have sN : Same H3 (upd H3 pt (.lst [])) := Same.new hpt
      have t1N := (t1.s b1).s sN
      have t2N := (t2.s b1).s sN
      have tyN := ty3.s sN
      have hsl : Dn (tSl (rSlA K) (tOp (rIxT K) (tOp (rIxT K) (tVar 0) (tC (.int 1))) (tVar 2)) (tPart (tC (.int 1))) tNoPart) [some vf, some vb, some y, some (V.ref pp), some (V.ref d), some u, some (V.ref pt), o7, o8, o9, none, none, none] (upd H3 pt (.lst [])) (.tuple (rule.2.map dW)) := by
        have h7 : Dn (tOp (rIxT K) (tOp (rIxT K) (tVar 0) (tC (.int 1))) (tVar 2)) [some vf, some vb, some y, some (V.ref pp), some (V.ref d), some u, some (V.ref pt), o7, o8, o9, none, none, none] (upd H3 pt (.lst [])) (.tuple (.str rule.1 :: rule.2.map dW)) :=
          dn_ixT (ds := f.rules.map dRule) (dn_ixT (dn_var rfl t1N) dn_int rfl) (dn_var rfl tyN) (by rw [atI_map, atI_nat, hrule]; rfl)
        have h8 := dn_slT (K := K) h7 (do_some (dn_int (i := 1))) do_none
        have e3 : (((PyData.str rule.1 :: rule.2.map dW).drop (HT.sIx (PyData.str rule.1 :: rule.2.map dW).length 0 (some 1))).take (HT.sIx (PyData.str rule.1 :: rule.2.map dW).length (PyData.str rule.1 :: rule.2.map dW).length none - HT.sIx (PyData.str rule.1 :: rule.2.map dW).length 0 (some 1))) = rule.2.map dW := by
          rw [sIx_one (by simp), HT.sIx_none]
          show List.take ((rule.2.map dW).length + 1 - 1) (rule.2.map dW) = _
          rw [Nat.add_sub_cancel, List.take_length]
        rw [e3] at h8
        exact h8
      refine q_forK dW rule.2 (srcK_tup hsl (flats_map flat_dW _)) (fun k σ' H' => ∃ o7 o8 o9 zs, σ' = [some vf, some vb, some y, some (.ref pp), some (.ref d), some u, some (.ref pt), o7, o8, o9, none, none, none] ∧ Same H3 H' ∧ H' pt = some (.lst zs) ∧ TDs H' zs (((rule.2.take k).filterMap (rbG b p)).map dW)) ?_ ?_ ?_ ?_
      · rintro k σ' Ha Hb sab ⟨o7, o8, o9, zs, rfl, c1, c2, c3⟩
        exact ⟨o7, o8, o9, zs, rfl, c1.trans sab, sab _ _ c2, c3.s sab⟩
      · intro H4 s4
        exact ⟨o7, o8, o9, [], rfl, sN.trans s4, s4 _ _ upd_same, .nil⟩
      · rintro k ⟨src, dst⟩ z σ' H4 hk kt4 tz ⟨o7, o8, o9, zs, rfl, c1, c2, c3⟩
        obtain ⟨z1, z2, tz1, tz2, st⟩ := sto_two (K := K) (σ := [some vf, some vb, some y, some (V.ref pp), some (V.ref d), some u, some (V.ref pt), o7, o8, o9, none, none, none]) (i := 7) (j := 8) tz
        refine ⟨_, st, fun N2 hN2 => ?_⟩
        have tu4 := tu.s c1
        have t24 := (t2.s b1).s c1
        have hdl : (diff p dst).length ≤ 1000 := by
          unfold diff
          rw [List.length_map, List.length_zip]; omega
        refine q_set (d := dV (diff p dst)) (dn_cb (da_cons (dn_lcm (α := Int × Int) (fun x => .tuple [.int x.1, .int x.2]) (p.zip dst) (fun x => .int (x.1 - x.2)) ?_ ?_ (fun _ _ => rfl) ?_) da_nil) ?_) fun vo H5 s5 to => ?_
        · rw [zip_dV]
          exact src_zip (by walk_at "dn")
        · rw [List.length_zip]; omega
        · rintro x hx m H6 s6 tm
          obtain ⟨m1, m2, tm1, tm2, st⟩ := sto_two (K := K) (σ := wipe _ _) (i := 10) (j := 11) tm
          exact ⟨_, st, rfl, by walk_at "dn"⟩
        · have e : (p.zip dst).map (fun x => PyData.int (x.1 - x.2)) = (diff p dst).map .int := by unfold diff; rw [List.map_map]; rfl
          rw [e]
          exact rd_tupL (K := K)
        have t25 := t24.s s5
        have hin : DnT (tB (tCB (rAll K) (tCons (tLc (RZ.iZipA K (tCons (tVar 9) (tCons (tVar 1) tNil))) (gTup K 2 (gCons (gName 10) (gCons (gName 12) gNil))) tYes (tChain (rI0 fun i j => .bl (decide (i ≤ j))) (rI0 fun i j => .bl (decide (i < j))) (tC (.int 0)) (tVar 10) (tVar 12)) [10, 12]) tNil))) [some vf, some vb, some y, some (V.ref pp), some (V.ref d), some u, some (V.ref pt), some z1, some z2, some vo, none, none, none] H5 (inside b (diff p dst)) := by
          refine dt_B (dn_cb (da_cons (dn_lcm (α := Int × Int) (fun x => .tuple [.int x.1, .int x.2]) ((diff p dst).zip b) (fun x => .bool (decide (0 ≤ x.1) && decide (x.1 < x.2))) ?_ ?_ (fun _ _ => rfl) ?_) da_nil) ?_)
          · rw [zip_dV]
            exact src_zip (da_cons (dn_var rfl to) (da_cons (dn_var rfl t25) da_nil))
          · rw [List.length_zip]; omega
          · rintro x hx m H6 s6 tm
            obtain ⟨m1, m2, tm1, tm2, st⟩ := sto_two (K := K) (σ := wipe _ _) (i := 10) (j := 12) tm
            exact ⟨_, st, rfl, by walk_at "dn"⟩
          · have e : ((diff p dst).zip b).map (fun x => PyData.bool (decide (0 ≤ x.1) && decide (x.1 < x.2))) = (((diff p dst).zip b).map fun x => decide (0 ≤ x.1) && decide (x.1 < x.2)).map .bool := by rw [List.map_map]; rfl
            rw [e]
            exact rc_all
        have tz15 := tz1.s s5
        refine s_if0 hin ?_ ?_
        · intro hb1 H6 s6
          have e : ((rule.2.take (k + 1)).filterMap (rbG b p)).map dW = ((rule.2.take k).filterMap (rbG b p)).map dW ++ [dW (src, diff p dst)] := by
            rw [filterMap_take_succ _ hk, List.map_append]
            unfold rbG
            rw [if_pos hb1]; rfl
          have hzl : zs.length ≤ rule.2.length := by
            rw [c3.len, List.length_map]
            refine Nat.le_trans (List.length_filterMap_le ..) ?_
            rw [List.length_take]; omega
          have c2' := s6 _ _ (s5 _ _ c2)
          refine s_appE (d := dW (src, diff p dst)) (l := pt) (xs := zs) (dv_var rfl) c2' (dn_tup (da_cons (dn_var (i := 7) rfl (tz15.s s6)) (da_cons (dn_var (i := 9) rfl (to.s s6)) da_nil)) (by simp)) (by omega) fun v9 H7 s7 t9 => ?_
          have hk7 : KT H7 (upd H7 pt (.lst (zs ++ [v9]))) := KT.mut (s7 _ _ c2') (fun _ z => nomatch z)
          have ss := (s5.trans s6).trans s7
          refine hN2 _ _ ((KT.of ss).trans hk7) ⟨_, _, _, zs ++ [v9], rfl, Same.mut (c1.trans ss) hpt, upd_same, ?_⟩
          rw [e]
          exact ((c3.s ss).k hk7 (flats_map flat_dW _)).snoc (t9.k hk7 (flat_dW _))
        · intro hb1 H6 s6
          have e : ((rule.2.take (k + 1)).filterMap (rbG b p)).map dW = ((rule.2.take k).filterMap (rbG b p)).map dW := by
            rw [filterMap_take_succ _ hk]
            unfold rbG
            rw [if_neg (by rw [hb1]; exact Bool.false_ne_true)]
            simp
          have ss := s5.trans s6
          refine hN2 _ _ (KT.of ss) ⟨_, _, _, zs, rfl, c1.trans ss, ss _ _ c2, ?_⟩
          rw [e]
          exact c3.s ss
      · rintro σ' H4 kt4 ⟨o7, o8, o9, zs, rfl, c1, c2, c3⟩
        rw [List.take_length, ← rby_pl hrule] at c3
        have hni : ¬ (((i : Nat) : Int), p) ∈ ((List.range i).flatMap fun pl : Nat => (pts b).map fun p => ((pl : Int), p)) ++ ((pts b).take j).map fun p => ((i : Int), p) := fun hm => by
          rcases List.mem_append.mp hm with hm | hm
          · obtain ⟨i', hi', hm⟩ := List.mem_flatMap.mp hm
            obtain ⟨p', _, e⟩ := List.mem_map.mp hm
            have := (Prod.mk.inj e).1
            have := List.mem_range.mp hi'
            omega
          · obtain ⟨p', hp', e⟩ := List.mem_map.mp hm
            have e := (Prod.mk.inj e).2
            subst e
            obtain ⟨j', hj'⟩ := List.getElem?_of_mem hp'
            rw [List.getElem?_take] at hj'
            split at hj'
            · rename_i hlt
              obtain ⟨hj1, hj2⟩ := List.getElem?_eq_some_iff.mp hj'
              obtain ⟨hk1, hk2⟩ := List.getElem?_eq_some_iff.mp hp
              exact List.pairwise_iff_getElem.mp (pts_nodup b) j' j hj1 hk1 hlt (hj2.trans hk2.symm)
            · cases hj'
        have hlen : (((List.range i).flatMap fun pl : Nat => (pts b).map fun p => ((pl : Int), p)) ++ ((pts b).take j).map fun p => ((i : Int), p)).length < 100000 := by
          have key : ∀ m : Nat, ((List.range m).flatMap fun pl : Nat => (pts b).map fun p => ((pl : Int), p)).length = m * (pts b).length := by
            intro m
            induction m with
            | zero => simp
            | succ m ih => rw [List.range_succ, List.flatMap_append, List.length_append, ih, Nat.add_mul]; simp
          rw [List.length_append, key, List.length_map, List.length_take]
          have := Nat.mul_le_mul (show i ≤ 6 by omega) h240
          omega
        show sNdPut P w (tVar 4) (tTup (tCons (tVar 2) (tCons (tVar 5) tNil))) (tVar 6) _ _ _
        refine s_ndput (P := P) (w := w) (a := d) (k := (((i : Nat) : Int), p)) (d := .list ((rby f b (((i : Nat) : Int), p)).map dW)) (dn_var rfl (TD.lst c2 c3)) (dv_var rfl) (dn_tup (da_cons (dn_var rfl (ty3.s c1)) (da_cons (dn_var rfl (tu.s c1)) da_nil)) (by simp)) (fun H5 s5 => (b3.s c1).s s5) hlen ?_
        rintro H5 H6 s5 ⟨o6', rfl⟩ n6
        rw [if_neg hni] at n6
        have hdn : ∀ u, H5 d = some u → isD u = false := ((b3.s c1).s s5).isd
        obtain ⟨kv, n5, _⟩ := ((b3.s c1).s s5).ex
        have kt6 : KT H5 (upd H5 d o6') := KT.mut n5.obj ndO_notup
        refine ⟨_, _, _, _, _, rfl, Same.mut ((b1.trans c1).trans s5) hd, ((b2.trans (KT.of c1)).trans (KT.of s5)).trans kt6, ?_⟩
        have e4 : ((pts b).take (j + 1)).map (fun p => ((i : Int), p)) = ((pts b).take j).map (fun p => ((i : Int), p)) ++ [((i : Int), p)] := by rw [take_snoc hp, List.map_append]; rfl
        rw [e4, ← List.append_assoc]
        refine n6.cong fun k _ => ?_
        by_cases ek : k = (((i : Nat) : Int), p)
        · rw [if_pos ek, ek]; rfl
        · rw [if_neg ek]
    · rintro σ' H3 ⟨o5, o6, o7, o8, o9, rfl, b1, b2, b3⟩
      rw [hul, List.take_length] at b3
      refine hN _ _ b2 ⟨_, _, _, _, _, _, rfl, b1, ?_⟩
      rw [List.range_succ, List.flatMap_append]
      simpa using b3
  · rintro σ' H2 kt ⟨o2, o5, o6, o7, o8, o9, rfl, a1, a2⟩
    rw [List.length_range] at a2
    exact ⟨.ref d, rfl, q d H2 (s1.trans a1) (Same.none s1 hd) a2⟩
end K32
/-! Gd -/
set_option Elab.async false
set_option linter.all false
set_option maxRecDepth 100000
set_option maxHeartbeats 2000000
/-! Defs whose promise also needs that no repr is under way (repr of nested data), by the layer's own proofs with that premise carried along. -/
namespace L2
open PySem PySem.Spec PyProof.Rows
structure FnGd (P : Program) (w : World) (K : PySem.W.Frag) (mg : Str → Option Value) (base : Heap) (CX : CXT) (k : Nat) (f : Addr) (fd : FuncData) (ps : List Str) (sp : Sp) : Prop where
  len : ∀ vs H Q E, sp vs H Q E → vs.length = ps.length
  run : ∀ (A : Around) (outer : List Env) (s : Shared) (H : Hp) (args : Args) (us : List Value) (vs : List V) (Q : VK) (E : XK), Room k A → A.guards = some [] → Env0 P w K mg base A outer s H → BindsTo s fd args (ps.zip us) → Vals vs us → sp vs H Q E →
    codeAny (model P w) A (.call (.ref f) args) (CR CX outer P w H s Q E) s
theorem fnG_of {CX : CXT} {P : Program} {w : World} {K : PySem.W.Frag} {mg : Str → Option Value} {base : Heap} {k : Nat} {f : Addr} {name qual : Str} {params : Arguments} {body : List Stmt} {scope : Scope} {dV kV doc pm cdv ct oc : Value} {an od : Option Addr}
    {osl : Array (Option Value)} {N ps : List Str} {sp : Sp} (lk : K.lookup f = some ⟨oc, od, .func (PySem.W.fnOf name qual params body scope dV kV doc pm an cdv ct), osl⟩) (hcd : PySem.W.codeIn K cdv qual = true) (S : FnScope N ps scope)
    (len : ∀ vs H Q E, sp vs H Q E → vs.length = ps.length)
    (hbody : ∀ (A : Around) (outer : List Env) (s : Shared) (H : Hp) (vs : List V) (Q : VK) (E : XK), Room k (A.deeper (envOfC qual scope s.heap.objs.size f cdv)) → A.guards = some [] → sp vs H Q E →
      ∃ t, PSs (cxOf CX P w K mg base N qual scope f cdv A outer s H E) body t ∧ t { nx := fun _ H' => Q .non H', rt := Q } (start N vs) H) :
    FnGd P w K mg base CX (k + 1) f (PySem.W.fnOf name qual params body scope dV kV doc pm an cdv ct) ps sp := by
  refine ⟨len, fun A outer s H args us vs Q E hr hg e0 hb r hsp => ?_⟩
  have hl := len _ _ _ _ hsp
  have KX : K.In s.heap := e0.mod.kin.keeps fun b o e => (e0.bs b o e).1
  have lim : s.heap.NoLimit := e0.mod.nolimit.keeps fun b o e => (e0.bs b o e).1
  have hkind : ∀ y ∈ ps.zip us, scope.names.lookup y.1 = some .local ∨ (scope.names.lookup y.1 = some .cell ∧ ((cellsFrom (s.heap.objs.size + 1) scope.names []).lookup y.1).isSome = true) := fun ⟨n, v⟩ hy => by
    rcases S.par n (List.of_mem_zip hy).1 with q | q
    · exact .inl q
    · exact .inr ⟨q, PySem.W.cellsFrom_some _ _ _ (.inl q)⟩
  refine codeAny_call_function hr.depth (KX _ _ lk) rfl S.co S.gen rfl (PySem.W.codeRec_of KX hcd) (hb _ _ _ _ ?_)
  refine wpAny_newFunctionEnv_cells S.kind hkind fun env he s1 x => ?_
  subst he
  refine ⟨lim.keeps x.toInCall.keep, codeAny_func ?_⟩
  obtain ⟨t, ht, hq⟩ := hbody A outer s H vs Q E (hr.deeper _) hg hsp
  have I : Inv (cxOf CX P w K mg base N qual scope f cdv A outer s H E) [] (start N vs) H s1 := inv_start S hr.hd e0 hl r x
  refine wpAny_mono (ht.run [] s1 (start N vs) H _ I hq) (fun fl s' hs => ?_) fun e s' hs => hs
  have fin : ∀ {σ' : St} {H' : Hp} {v : V} {u : Value}, Inv (cxOf CX P w K mg base N qual scope f cdv A outer s H E) [] σ' H' s' → RelV v u → Q v H' → CE outer P w H s Q u s' :=
    fun {σ' H' v u} J rv q => ⟨v, H', J.os, J.bare, J.base, J.hok, rv, q⟩
  cases fl with
  | ret u =>
    obtain ⟨v, σ', H', J, rv, q⟩ := hs
    exact fin J rv q
  | next =>
    obtain ⟨σ', H', J, q⟩ := hs
    exact fin (v := V.non) (u := Value.none) J rfl q
  | brk =>
    obtain ⟨_, _, _, q⟩ := hs
    exact False.elim q
  | cont =>
    obtain ⟨_, _, _, q⟩ := hs
    exact False.elim q
section
variable {X : Cx} {CX : CXT} {k : Nat} {f C : Addr} {fd : FuncData} {ps : List Str} {sp : Sp} {dvs : List V} {ds : List Value} {E : XK} {x m : Str} {p pos apos : Pos} {e o : Expr} {es : List Expr} {ta : TE} {t : TA}
theorem run_fnG {pins : List (Addr × Obj)} {σ : St} {H : Hp} {s : Shared} {Q : VK} {us : List Value} {vs : List V} (F : FnGd X.prog X.w X.K X.mg X.base CX k f fd ps sp) (hr : Room k X.A) (hg0 : X.A.guards = some []) (hb : Binds X.K fd ps ds) (hd : Vals dvs ds) (hx : Passes CX X E)
    (I : Inv X pins σ H s) (r : Vals vs us) (h : sp (vs ++ dvs) H Q E) : wpAny (model X.prog X.w) X.A (call (.ref f) us) (EP X pins σ Q) X.xe s := by
  have r2 : Vals (vs ++ dvs) (us ++ ds) := r.append hd
  have hl : (us ++ ds).length = ps.length := by rw [← r2.length]; exact F.len _ _ _ _ h
  refine wpAny_call (codeAny_mono (F.run X.A X.stack s H ⟨us, []⟩ (us ++ ds) (vs ++ dvs) Q E hr hg0 I.env0 (hb s us I.kIn hl) r2 h) fun r s' hq => ?_)
  cases r with
  | error e => exact hx pins σ H s e s' I hq
  | ok fl =>
    cases fl with
    | ret u => exact I.after hq
    | next => exact False.elim hq
    | brk => exact False.elim hq
    | cont => exact False.elim hq

theorem pe_callG (F : FnGd X.prog X.w X.K X.mg X.base CX k f fd ps sp) (hr : Room k X.A) (hg0 : X.A.guards = some []) (hg : Gl X x) (hm : X.mg x = some (.ref f)) (hk : PySem.W.keepIn X.K (.ref f) = true) (hb : Binds X.K fd ps ds) (hd : Vals dvs ds) (hx : Passes CX X E)
    (ha : PA X (e :: es) t) (hdb : (x == ("__debug__" : Str)) = false := by decide) (he : starEach (e :: es) X.env = (false, eval e X.env) :: starEach es X.env := by rfl) (hpl : (backTo pos (starEach es X.env)).any (·.1) = false := by rfl) :
    PE X (.Call (.Name x p) (e :: es) [] pos) (tCall sp dvs E t) := by
  refine ⟨fun pins s σ H Q I h => ?_⟩
  refine wpAny_Call_Name_kw (ld_glob I hg hm ?_ hdb)
  refine PySem.W.callWith_K (h₀ := X.base) I.ok.mod.kin hk (thn (ha.run pos pins s σ H _ I h) fun us s1 ⟨vs, H1, I1, r, q⟩ => ⟨I1.kIn, ?_⟩) he hpl
  exact run_fnG F hr hg0 hb hd hx I1 r q
end
theorem law_callG {P : Program} {w : World} {K : PySem.W.Frag} {mg mb : Str → Option Value} {CX : CXT} {k : Nat} {fa a : Addr} {fd : FuncData} {x : Str} {sp : Sp} {s₁ : Shared} {vs : List Value} {ns : List Int}
    (KX : K.In s₁.heap) (hns : s₁.heap.Ns mainGlobals mg) (hb : s₁.heap.Ns builtinsNs mb) (hbb : ∀ x : Str, x ≠ "__name__" → mb x = bootBuiltins x) (hlim : s₁.heap.NoLimit) (hg : s₁.gens = #[])
    (ha : s₁.heap.get? a = some { cls := .type "list", data := .seq vs.toArray }) (hi : IntsAre vs ns) (hl : ns.length ≤ sizeLine) (hr : Room k callerA)
    (F : ∀ base : Heap, K.In base → base.Ns mainGlobals mg → FnGd P w K mg base CX k fa fd [x] sp) (hbind : ∀ (s : Shared) (u : Value), BindsTo s fd ⟨[u], []⟩ [(x, u)])
    (hsp : ∀ H : Hp, Only H → SqL K H a (ns.map V.int) → sp [.ref a] H (fun v _ => v = .bl true) fun _ _ _ => False)
    (hCX : ∀ H e s', CX [] H s₁ (fun _ _ _ => False) e s' → False) :
    codeAny (model P w) callerA (.call (.ref fa) ⟨[.ref a], []⟩) (fun r s' => r = .ok (.ret (.bool true)) ∧ OldK s₁.heap s'.heap ∧ s'.os = s₁.os ∧ AllBare s'.gens) s₁ := by
  have rv := vals_ints hi
  have lenV := hi.length
  -- from an abstract heap in which nothing but the script may be tracked
  have core : ∀ H : Hp, Only H → SqL K H a (ns.map V.int) → HOk P w H s₁.heap → (∀ b, H b ≠ none → b = a) → (H a ≠ none → K.lookup a = none) →
      codeAny (model P w) callerA (.call (.ref fa) ⟨[.ref a], []⟩) (fun r s' => r = .ok (.ret (.bool true)) ∧ OldK s₁.heap s'.heap ∧ s'.os = s₁.os ∧ AllBare s'.gens) s₁ := by
    intro H hO hS hok hA hK
    have base_of : ∀ {b : Addr} {o : Obj}, s₁.heap.get? b = some o → H b = none → (hidT s₁.heap H).get? b = some o := fun e n => hidT_get e n
    have noA : ∀ {b : Addr} {o : Obj} {es : Array DictEntry} {ep : Nat}, s₁.heap.get? b = some o → o.data = .dict es ep → H b = none := fun {b o es ep} e d => by
      cases q : H b with
      | none => rfl
      | some u =>
        have e' : b = a := hA b (by rw [q]; simp)
        subst e'
        rw [ha] at e; cases e
        have d' : Data.seq vs.toArray _ = Data.dict es ep := d
        cases d'
    have nsK : ∀ {b : Addr} {m : Str → Option Value}, s₁.heap.Ns b m → (hidT s₁.heap H).Ns b m := fun {b m} ⟨o, es, ep, e, d, r⟩ => ⟨o, es, ep, base_of e (noA e d), d, r⟩
    have hKb : K.In (hidT s₁.heap H) := fun b o e => base_of (KX b o e) (by
      cases q : H b with
      | none => rfl
      | some u =>
        have e' : b = a := hA b (by rw [q]; simp)
        subst e'
        rw [hK (by rw [q]; simp)] at e; cases e)
    have hM : Mod K mg (hidT s₁.heap H) := ⟨hKb, nsK hns, ⟨mb, nsK hb, hbb⟩, let ⟨mc, h1, h2⟩ := hlim; ⟨mc, nsK h1, h2⟩⟩
    have e0 : Env0 P w K mg (hidT s₁.heap H) callerA [] s₁ H := ⟨rfl, hM, fun b o e => of_hidT e, Nat.le_of_eq (hidT_size _ _), trivial, fun b hb => absurd (show b ∈ ([] : List Addr) from hb) (by simp), hok, .of_eq hg⟩
    refine codeAny_mono ((F _ hKb (nsK hns)).run callerA [] s₁ H ⟨[.ref a], []⟩ [.ref a] [.ref a] _ _ hr rfl e0 (hbind s₁ (.ref a)) (.cons rfl .nil) (hsp H hO hS)) fun r s' h => ?_
    cases r with
    | error e => exact (hCX H e s' h).elim
    | ok fl =>
      cases fl with
      | next => exact False.elim h
      | brk => exact False.elim h
      | cont => exact False.elim h
      | ret u =>
        obtain ⟨v, H', os, bare, un, hok', r', q⟩ := h
        have q' : v = .bl true := q
        subst q'
        obtain rfl : u = Value.bool true := r'
        refine ⟨rfl, OldK.of_keep fun b o e => ?_, os, bare⟩
        cases q : H b with
        | none => exact un.keep b o e q (by intro z; exact absurd (show b ∈ ([] : List Addr) from z) (by simp)) (by simp)
        | some u =>
          rcases hO b with z | ⟨ob, xs, z⟩
          · rw [q] at z; cases z
          · have z2 := un.frzs b ob _ z
            obtain ⟨e1, _⟩ := hok b _ z
            obtain ⟨e2, _⟩ := hok' b _ z2
            rw [e] at e1; cases e1
            exact e2
  cases hk : K.lookup a with
  | some o =>
    -- the script is one of the module's own objects
    have e := KX a o hk
    rw [ha] at e
    cases e
    refine core (fun _ => none) (fun _ => .inl rfl) (.inr ⟨_, vs.toArray, _, hk, rfl, rfl, rfl, by rw [List.size_toArray, lenV]; exact hl, by simpa using rv⟩) (fun b u z => by have z' : (none : Option HO) = some u := z; cases z') (fun b z => absurd rfl z) fun z => absurd rfl z
  | none =>
    refine core (fun b => if b = a then some (.frz { cls := .type "list", data := .seq vs.toArray } (.lst (ns.map V.int))) else none) (fun b => ?_) (.inl (.inr ⟨{ cls := .type "list", data := .seq vs.toArray }, if_pos rfl⟩)) (fun b u z => ?_) (fun b z => ?_) fun _ => hk
    · by_cases hb : b = a
      · exact .inr ⟨_, _, if_pos hb⟩
      · exact .inl (if_neg hb)
    · by_cases hb : b = a
      · have z' := (if_pos hb).symm.trans z
        cases z'
        subst hb
        exact ⟨ha, by rw [List.length_map]; exact hl, vs, _, rv, ha⟩
      · have z' := (if_neg hb).symm.trans z
        cases z'
    · by_cases hb : b = a
      · exact hb
      · exact absurd (if_neg hb) z
theorem walk_ofG {l : PySem.W.OpenLaw} {n k : Nat} {q : Program} {loose : List Str} {XP : (Str → Option Value) → Heap → Prop} {YP : World → Heap → Prop} {d : DefRec} {CX : CXT} {x : Str}
    (hn : l.most = some n) (hn2 : n ≤ sizeLine) (hdf : d.params.defaults = []) (hr : Room k callerA)
    (F : ∀ (w : World) (mg : Str → Option Value) (fa : Addr) (h : Heap), YP w h → h.Ns mainGlobals mg → mg d.name = some (.ref fa) →
      ∃ (K : PySem.W.Frag) (fd : FuncData) (sp : Sp), K.In h ∧ (∀ (s : Shared) (u : Value), BindsTo s fd ⟨[u], []⟩ [(x, u)]) ∧
        (∀ (H : Hp) (a : Addr) (ns : List Int), ns.length ≤ n → Only H → SqL K H a (ns.map V.int) → sp [.ref a] H (fun v _ => v = .bl true) fun _ _ _ => False) ∧
        ∀ base : Heap, K.In base → base.Ns mainGlobals mg → FnGd l.prog w K mg base CX k fa fd [x] sp)
    (hCX : ∀ (H : Hp) (s : Shared) (e : Value) (s' : Shared), CX [] H s (fun _ _ _ => False) e s' → False) :
    PySem.W.WalkO q loose XP YP l.row.toRowW d [] (fun f vs => PySem.call f vs) := by
  refine Att.attach_call hn hdf fun w s₀ s₁ mg mb fa o pm cd doc a vs ns G Y ho hd hcd hmg hobj hints hlen hg => ?_
  obtain ⟨K, fd, sp, KX, hb, hsp, hF⟩ := F w mg fa _ Y G.T.g hmg
  exact law_callG KX G.T.g G.T.b G.T.builtins G.T.nolimit hg hobj hints (Nat.le_trans hlen hn2) hr hF hb (fun H hO hS => hsp H a ns hlen hO hS) fun H e s' => hCX H s₁ e s'
end L2
namespace K32
open PySem PySem.Spec PyProof.Rows L2
def rRepr (K : PySem.W.Frag) : List V → Hp → VK → Prop := fun xs H Q => ∃ (a : Addr) (d : Dt), xs = [.ref a] ∧ TD H (.ref a) d ∧ d.showable = true ∧ d.hasDict = false ∧ d.depth ≤ 100 ∧ d.shown.length ≤ sizeLine ∧ Q (.str d.shown) H
theorem kcr_repr (K : PySem.W.Frag) {X : Cx} {k : Nat} (hg : X.A.guards = some []) (hr : Room k X.A) (hK : X.K = K := by rfl) : CallR X (.builtin "repr") (rRepr K) := by
  subst hK
  intro pins s σ H xs us Q I r h
  obtain ⟨a, d, rfl, td, hs, hnd, hdp, hsz, q⟩ := h
  obtain ⟨u, rfl, rx⟩ := vals1 r
  cases rx
  obtain ⟨as, r1⟩ := Dp.reads I d _ _ (td.dp (K := X.K)) (show RelV (.ref a) (.ref a) from rfl)
  exact PySem.repr_of_reads' r1 hs (PyData.noDict_hsm hnd) hg (by have := hr.un; omega) (fun _ _ e => e) (fun h' u tk hk => ⟨.str d.shown, H, I.kept hk, ⟨u, rfl⟩, q⟩) hsz
/-- in bundles -/
structure DefG (P : Program) (w : World) (K : PySem.W.Frag) (mg : Str → Option Value) (base : Heap) (CX : CXT) (k : Nat) (at_ : Str × Option Str) (ps : List Str) (sp : Sp) : Prop where
  ok : ∃ fd, FnGd P w K mg base CX k (He.fAd K at_) fd ps sp ∧ PySem.W.keepIn K (.ref (He.fAd K at_)) = true ∧ Binds K fd ps []
theorem FunD.okG {P : Program} {w : World} {K : PySem.W.Frag} {mg : Str → Option Value} {base : Heap} {x qual : Str} {params : Arguments} {body : List Stmt} {scope : Scope} {dvs : List V} {kws : List (Str × V)} {f : Addr} {fd : FuncData} {CX : CXT} {N ps : List Str} {k : Nat} {sp : Sp} (F : FunD K x qual params body scope dvs kws f fd) (S : FnScope N ps scope) (len : ∀ vs H Q E, sp vs H Q E → vs.length = ps.length)
    (hbody : ∀ (cdv : Value) (A : Around) (outer : List Env) (s : Shared) (H : Hp) (vs : List V) (Q : VK) (E : XK), Room k (A.deeper (envOfC qual scope s.heap.objs.size f cdv)) → A.guards = some [] → sp vs H Q E →
      ∃ t, PSs (cxOf CX P w K mg base N qual scope f cdv A outer s H E) body t ∧ t { nx := fun _ H' => Q .non H', rt := Q } (start N vs) H) : FnGd P w K mg base CX (k + 1) f fd ps sp := by
  obtain ⟨oc, od, dV, kV, doc, pm, an, cdv, ct, osl, rfl, lk, hcd, _, _⟩ := F.ex
  exact fnG_of lk hcd S len fun A outer s H vs Q E hr hg hsp => hbody cdv A outer s H vs Q E hr hg hsp
theorem mk_defG {K : PySem.W.Frag} {mg : Str → Option Value} {P : Program} {w : World} {base : Heap} (T : Tx K mg) (i : Nat) (d : He.DefD) {N ps : List Str} {k : Nat} {sp : Sp} (h : fn[i]? = some d) (hdf : d.dfl = []) (hkw : d.kwd = []) (S : FnScope N ps d.scope) (len : ∀ vs H Q E, sp vs H Q E → vs.length = ps.length)
    (hb : ∀ (kV doc pm : Value) (an : Option Addr) (cdv ct : Value) (us : List Value), us.length = ps.length → bindArgs (PySem.W.fnOf d.name d.qual d.params d.body d.scope .none kV doc pm an cdv ct) ⟨us, []⟩ = pure (ps.zip us))
    (hbody : ∀ (cdv : Value) (A : Around) (outer : List Env) (s : Shared) (H : Hp) (vs : List V) (Q : VK) (E : XK), Room k (A.deeper (envOfC d.qual d.scope s.heap.objs.size (He.fAd K d.at_) cdv)) → A.guards = some [] → sp vs H Q E →
      ∃ t, PSs (cxOf CX0 P w K mg base N d.qual d.scope (He.fAd K d.at_) cdv A outer s H E).nox d.body t ∧ t { nx := fun _ H' => Q .non H', rt := Q } (start N vs) H) : DefG P w K mg base CX0 (k + 1) d.at_ ps sp := by
  obtain ⟨fd, F⟩ := T.says.def_ i h
  have e1 : d.dvs K = [] := by unfold He.DefD.dvs; rw [hdf]; rfl
  have e2 : d.kws K = [] := by unfold He.DefD.kws; rw [hkw]; rfl
  rw [e1, e2] at F
  refine ⟨fd, FunD.okG F S len (fun cdv A outer s H vs Q E hr hg h => ?_), F.kp, F.bindsN hb⟩
  obtain ⟨t, p, q⟩ := hbody cdv A outer s H vs Q E hr hg h
  exact ⟨t, p.nox, q⟩
theorem pe_cdG {X : Cx} {CX : CXT} {k : Nat} {x : Str} {ps : List Str} {sp : Sp} {E : XK} {p pos : Pos} {e : Expr} {es : List Expr} {t : TA} (D : DefG X.prog X.w X.K X.mg X.base CX k (x, none) ps sp) (hr : Room k X.A) (hg0 : X.A.guards = some []) (hm : X.mg x = some (.ref (He.ga X.K x))) (hx : Passes CX X E) (ha : PA X (e :: es) t)
    (hg : Gl X x := by rfl) (hdb : (x == ("__debug__" : Str)) = false := by decide) (he : starEach (e :: es) X.env = (false, eval e X.env) :: starEach es X.env := by rfl) (hpl : (backTo pos (starEach es X.env)).any (·.1) = false := by rfl) :
    PE X (.Call (.Name x p) (e :: es) [] pos) (tCall sp [] E t) := by
  obtain ⟨fd, F, kp, b⟩ := D.ok
  exact pe_callG F hr hg0 hg hm kp b .nil hx ha hdb he hpl
end K32
/-! R12 -/
set_option Elab.async false
set_option linter.all false
set_option maxRecDepth 100000
set_option maxHeartbeats 400000
namespace K32
open PySem PySem.Spec PyProof.Rows L2
local macro_rules | `(tactic| walk_at "dn") => `(tactic| first
  | with_reducible exact dn_int | with_reducible exact dn_str | with_reducible exact dn_bl | with_reducible exact dn_non | with_reducible exact da_nil | with_reducible exact do_none
  | ((with_reducible refine' dn_var ?h ?k); (case h => rfl); (case k => assumption))
  | ((with_reducible refine' da_cons ?_ ?_) <;> try walk_at "dn")
  | ((with_reducible refine' dn_add ?_ ?_) <;> try walk_at "dn")
  | ((with_reducible refine' dn_sub ?_ ?_) <;> try walk_at "dn")
  | ((with_reducible refine' dn_mul ?_ ?_ ?_) <;> try walk_at "dn")
  | ((with_reducible refine' dn_lt ?_ ?_) <;> try walk_at "dn")
  | ((with_reducible refine' dn_le ?_ ?_) <;> try walk_at "dn")
  | ((with_reducible refine' dn_gt ?_ ?_) <;> try walk_at "dn")
  | ((with_reducible refine' dn_ge ?_ ?_) <;> try walk_at "dn")
  | ((with_reducible refine' dn_neg ?_) <;> try walk_at "dn")
  | ((with_reducible refine' dn_chain ?_ ?_ ?_ rd_le rd_le) <;> try walk_at "dn")
  | ((with_reducible refine' dn_chain ?_ ?_ ?_ rd_le rd_lt) <;> try walk_at "dn")
  | ((with_reducible refine' dn_isI ?h ?k); (case h => walk_at "dn"); (case k => first | with_reducible exact kb_int_int | with_reducible exact kb_int_tuple | with_reducible exact kb_int_str | with_reducible exact kb_int_bool))
  | ((with_reducible refine' dn_isT ?h ?k); (case h => walk_at "dn"); (case k => first | with_reducible exact kb_tuple_int | with_reducible exact kb_tuple_tuple | with_reducible exact kb_tuple_str | with_reducible exact kb_tuple_bool))
  | ((with_reducible refine' dn_isS ?h ?k); (case h => walk_at "dn"); (case k => first | with_reducible exact kb_str_int | with_reducible exact kb_str_tuple | with_reducible exact kb_str_str | with_reducible exact kb_str_bool))
  | ((with_reducible refine' dn_isL ?h ?k); (case h => walk_at "dn"); (case k => first | with_reducible exact kb_list_int | with_reducible exact kb_list_tuple | with_reducible exact kb_list_str | with_reducible exact kb_list_bool))
  | ((with_reducible refine' dn_isB ?h ?k); (case h => walk_at "dn"); (case k => first | with_reducible exact kb_bool_int | with_reducible exact kb_bool_tuple | with_reducible exact kb_bool_str | with_reducible exact kb_bool_bool))
  | ((with_reducible refine' dn_ixT ?h ?t ?k); (case h => walk_at "dn"); (case t => walk_at "dn"); try (case k => rfl))
  | ((with_reducible refine' dn_ixL ?h ?t ?k); (case h => walk_at "dn"); (case t => walk_at "dn"); try (case k => rfl))
  | ((with_reducible refine' dn_cb ?h ?k); (case h => walk_at "dn"); try (case k => first | exact rd_lenT | exact rd_lenL | exact rd_tupL | exact rd_lstT | exact rd_lstL | exact rc_all | exact rc_sum | exact rc_max2 | exact rc_min2))
  | ((with_reducible refine' dn_call ?h ?t ?k); (case h => walk_at "dn"); (case t => rfl))
  | ((with_reducible refine' dt_test ?_) <;> try walk_at "dn")
  | ((with_reducible refine' dt_B ?_) <;> try walk_at "dn")
  | ((with_reducible refine' dn_eqI ?h ?k); (case h => walk_at "dn"); (case k => walk_at "dn"))
  | ((with_reducible refine' dn_neI ?h ?k); (case h => walk_at "dn"); (case k => walk_at "dn"))
  | ((with_reducible refine' dn_eqS ?h ?k); (case h => walk_at "dn"); (case k => walk_at "dn"))
  | ((with_reducible refine' dn_neS ?h ?k); (case h => walk_at "dn"); (case k => walk_at "dn"))
  | ((with_reducible refine' dt_or ?_ (fun _ => ?_)) <;> try walk_at "dn")
  | ((with_reducible refine' dt_and ?_ (fun _ => ?_)) <;> try walk_at "dn")
  | ((with_reducible refine' dn_orV ?_ (fun _ => ?_)) <;> try walk_at "dn")
  | ((with_reducible refine' dn_andV ?_ (fun _ => ?_)) <;> try walk_at "dn")
  | ((with_reducible refine' dt_not ?_) <;> try walk_at "dn")
  | ((with_reducible refine' dn_notV ?_) <;> try walk_at "dn")
  | ((with_reducible refine' da_star ?_ ?_) <;> try walk_at "dn")
  | ((with_reducible refine' dn_tup ?_ ?_) <;> try walk_at "dn")
  | ((with_reducible refine' dn_lst ?_ ?_) <;> try walk_at "dn")
  | ((with_reducible refine' do_some ?_) <;> try walk_at "dn"))
variable {P : Program} {w : World} {K : PySem.W.Frag} {mg : Str → Option Value} {base : Heap}
/-! ### how long the texts of such data are -/
theorem w_int {i : Int} (h : i.natAbs ≤ 1000) : (PyData.int i).weight ≤ 10 := by
  rw [PyData.weight]
  split
  · omega
  · rename_i hz
    have h0 : i.natAbs ≠ 0 := fun e => hz (by simpa using Int.natAbs_eq_zero.mp e)
    have h1 : i.natAbs.log2 < 10 := (Nat.log2_lt h0).mpr (by omega)
    omega
theorem w_ints : ∀ l : List Int, (∀ x ∈ l, x.natAbs ≤ 1000) → PyData.weightAll (l.map .int) ≤ 11 * l.length
  | [], _ => by simp [PyData.weightAll]
  | a :: l, h => by
    have h1 := w_ints l fun x hx => h x (List.mem_cons_of_mem _ hx)
    have h2 := w_int (h a (List.mem_cons_self ..))
    rw [List.map_cons, PyData.weightAll, List.length_cons]
    omega
structure Wsm (w : Wd) : Prop where
  a : w.1.natAbs ≤ 1000
  n : w.2.length ≤ 3
  b : ∀ x ∈ w.2, x.natAbs ≤ 1000
theorem w_dW {x : Wd} (h : Wsm x) : (dW x).weight ≤ 45 := by
  have h1 := w_int h.a
  have h2 := w_ints x.2 h.b
  have h3 := h.n
  unfold dW dV
  simp only [PyData.weight, PyData.weightAll] at h1 ⊢
  omega
theorem w_dWs : ∀ l : List Wd, (∀ x ∈ l, Wsm x) → PyData.weightAll (l.map dW) ≤ 46 * l.length
  | [], _ => by simp [PyData.weightAll]
  | a :: l, h => by
    have h1 := w_dWs l fun x hx => h x (List.mem_cons_of_mem _ hx)
    have h2 := w_dW (h a (List.mem_cons_self ..))
    rw [List.map_cons, PyData.weightAll, List.length_cons]
    omega
theorem sh_dW {x : Wd} (h : Wsm x) : PyData.intsShort 13 (dW x) = true := by
  have h1 := h.a
  have h2 : PyData.intsShortAll 13 (x.2.map .int) = true := PyData.intsShortAll_ints x.2 fun n hn => by have := h.b n hn; omega
  have h3 := PyData.shown_int_le (i := x.1) (by omega)
  unfold dW dV
  simp [PyData.intsShort, PyData.intsShortAll, h2, h3]
theorem sh_dWs : ∀ l : List Wd, (∀ x ∈ l, Wsm x) → PyData.intsShortAll 13 (l.map dW) = true
  | [], _ => by simp [PyData.intsShortAll]
  | a :: l, h => by
    have h1 := sh_dWs l fun x hx => h x (List.mem_cons_of_mem _ hx)
    have h2 := sh_dW (h a (List.mem_cons_self ..))
    simp [PyData.intsShortAll, h1, h2]
theorem sho_ints : ∀ l : List Int, (∀ x ∈ l, x.natAbs ≤ 1000) → PyData.showableAll (l.map .int) = true
  | [], _ => by simp [PyData.showableAll]
  | a :: l, h => by
    have h1 := sho_ints l fun x hx => h x (List.mem_cons_of_mem _ hx)
    have h2 := h a (List.mem_cons_self ..)
    have h3 : a.natAbs.log2 < 1920 := by
      by_cases e : a.natAbs = 0
      · rw [e]; decide
      · have : a.natAbs.log2 < 10 := (Nat.log2_lt e).mpr (by omega)
        omega
    simp [PyData.showableAll, PyData.showable, h1, h3]
theorem sho_dW {x : Wd} (h : Wsm x) : (dW x).showable = true := by
  have h1 := sho_ints [x.1] (fun y hy => by rw [List.mem_singleton.mp hy]; exact h.a)
  have h2 := sho_ints x.2 h.b
  simp [PyData.showableAll] at h1
  unfold dW dV
  simp [PyData.showable, PyData.showableAll, h2, h1]
  simpa [PyData.showable] using h1
theorem sho_dWs : ∀ l : List Wd, (∀ x ∈ l, Wsm x) → PyData.showableAll (l.map dW) = true
  | [], _ => by simp [PyData.showableAll]
  | a :: l, h => by simp [PyData.showableAll, sho_dW (h a (List.mem_cons_self ..)), sho_dWs l fun x hx => h x (List.mem_cons_of_mem _ hx)]
theorem hd_ints : ∀ l : List Int, PyData.hasDictAll (l.map .int) = false
  | [] => by simp [PyData.hasDictAll]
  | a :: l => by simp [PyData.hasDictAll, PyData.hasDict, hd_ints l]
theorem hd_dW (x : Wd) : (dW x).hasDict = false := by unfold dW dV; simp [PyData.hasDict, PyData.hasDictAll, hd_ints]
theorem hd_dWs : ∀ l : List Wd, PyData.hasDictAll (l.map dW) = false
  | [] => by simp [PyData.hasDictAll]
  | a :: l => by simp [PyData.hasDictAll, hd_dW a, hd_dWs l]
/-- fit to be shown -/
structure Shw (d : Dt) : Prop where
  s : d.showable = true
  h : d.hasDict = false
  p : d.depth ≤ 100
  z : d.shown.length ≤ sizeLine
theorem shw_tW {l : List Wd} (h : ∀ x ∈ l, Wsm x) (hl : l.length ≤ 1500) : Shw (.tuple (l.map dW)) ∧ Shw (.list [.tuple (l.map dW)]) := by
  have d1 : PyData.depthAll (l.map dW) ≤ 2 := deps_map (e := dW) (n := 2) (fun a => by rw [dep_dW]; decide) l
  have w1 := w_dWs l h
  refine ⟨⟨by simp [PyData.showable, sho_dWs l h], by simp [PyData.hasDict, hd_dWs], by simp only [PyData.depth]; omega, PyData.shown_fits_of_layable0 (B := 13) (by decide) (by decide) ?_ (by simp [PyData.intsShort, sh_dWs l h])⟩,
    ⟨by simp [PyData.showable, PyData.showableAll, sho_dWs l h], by simp [PyData.hasDict, PyData.hasDictAll, hd_dWs], by simp only [PyData.depth, PyData.depthAll]; omega, PyData.shown_fits_of_layable0 (B := 13) (by decide) (by decide) ?_ (by simp [PyData.intsShort, PyData.intsShortAll, sh_dWs l h])⟩⟩
  · unfold PyData.layable0
    have e1 : PyData.depth (.tuple (l.map dW)) ≤ 64 := by simp only [PyData.depth]; omega
    have e2 : PyData.weight (.tuple (l.map dW)) ≤ 2 ^ 20 := by simp only [PyData.weight]; omega
    simp only [Bool.and_eq_true, decide_eq_true_eq]
    exact ⟨⟨by simp [PyData.canLay0, lays_map lay_dW], e1⟩, e2⟩
  · unfold PyData.layable0
    have e1 : PyData.depth (.list [.tuple (l.map dW)]) ≤ 64 := by simp only [PyData.depth, PyData.depthAll]; omega
    have e2 : PyData.weight (.list [.tuple (l.map dW)]) ≤ 2 ^ 20 := by simp only [PyData.weight, PyData.weightAll]; omega
    simp only [Bool.and_eq_true, decide_eq_true_eq]
    exact ⟨⟨by simp [PyData.canLay0, PyData.canLayAll0, lays_map lay_dW], e1⟩, e2⟩
theorem box_le {b : Vec} (h : BoxOk b) : ∀ s ∈ b, s ≤ 240 := by
  intro s hs
  obtain ⟨i, hi⟩ := List.getElem?_of_mem hs
  have h1 := (vol_take h.pos (i + 1)).2
  rw [take_snoc hi, vol_snoc] at h1
  have h2 := (vol_take h.pos i).1
  have h3 := h.vol
  have hs1 := h.pos s hs
  have h4 : s ≤ vol (b.take i) * s := by
    have := Int.mul_le_mul_of_nonneg_right h2 (show 0 ≤ s by omega)
    omega
  omega
theorem inside_bd {M : Int} : ∀ (b p : Vec), p.length = b.length → inside b p = true → (∀ s ∈ b, s ≤ M) → ∀ x ∈ p, 0 ≤ x ∧ x < M
  | _, [], _, _, _, _, h => nomatch h
  | [], _ :: _, h, _, _, _, _ => by simp at h
  | s :: b, i :: p, hl, hi, hM, x, hx => by
    rw [inside_cons] at hi
    simp at hi
    rcases List.mem_cons.mp hx with rfl | hx
    · have := hM s (List.mem_cons_self ..)
      omega
    · exact inside_bd b p (by simpa using hl) hi.2 (fun t ht => hM t (List.mem_cons_of_mem _ ht)) x hx
theorem wds_bd {f : Flow} {b : Vec} (h : FB f b) {x : Wd} (hx : x ∈ wds f b) : (∀ y ∈ x.2, 0 ≤ y ∧ y < 240) ∧ x.2.length = b.length ∧ 0 ≤ x.1 ∧ x.1 < (f.rules.length : Int) := by
  obtain ⟨h1, h2⟩ := mem_wds.mp hx
  obtain ⟨h3, h4⟩ := mem_pts.mp h2
  exact ⟨inside_bd b x.2 h3 h4 (box_le h.2.1), h3, h1⟩
theorem wds_sm {f : Flow} {b : Vec} (h : FB f b) {x : Wd} (hx : x ∈ wds f b) : Wsm x := by
  obtain ⟨h1, h2, h3, h4⟩ := wds_bd h hx
  have h6 := h.1.n6
  have hb := h.2.1.len
  exact ⟨by omega, by omega, fun y hy => by have := h1 y hy; omega⟩
theorem chain_in {f : Flow} {b : Vec} (h : FB f b) (hl : LF f b = []) : (∀ x ∈ chainL (wds f b) (rby f b), x ∈ wds f b) ∧ (chainL (wds f b) (rby f b)).length ≤ 1440 ∧ chainL (wds f b) (rby f b) ≠ [] := by
  have lok := lkOk h.1 h.2.1 h.2.2
  have hlen := chain_len (ks := wds f b) (lk := rby f b)
  have hm := most_lt lok hl
  have hp := most_pos (ks := wds f b) (lk := rby f b)
  have hn := lok.ln
  refine ⟨fun x hx => ?_, by omega, fun e => ?_⟩
  · obtain ⟨k, hk⟩ := List.getElem?_of_mem hx
    obtain ⟨hk1, _⟩ := List.getElem?_eq_some_iff.mp hk
    obtain ⟨y, e1, h1, _⟩ := chain_true lok.ne hl lok.cl k (by omega)
    rw [hk] at e1
    cases e1
    exact h1
  · rw [e] at hlen
    simp at hlen
    omega
theorem told_shw {f : Flow} {b : Vec} (h : FB f b) : Shw (toldD f b) := by
  have lok := lkOk h.1 h.2.1 h.2.2
  unfold toldD
  by_cases hl : LF f b = []
  · rw [if_pos hl]
    obtain ⟨h1, h2, _⟩ := chain_in h hl
    exact (shw_tW (fun x hx => wds_sm h (h1 x hx)) (by omega)).1
  · rw [if_neg hl]
    obtain ⟨_, h1, _⟩ := loop_true lok.nd lok.cl hl
    have h2 := loopL_len h hl
    exact (shw_tW (fun x hx => wds_sm h (h1 x hx)) (by omega)).2
theorem dn_repr {σ : L2.St} {H : Hp} {te : TE} {d : Dt} (h : Dn te σ H d) (hs : Shw d) (hr : ∃ ds, d = .list ds ∨ d = .tuple ds) : Dn (tCB (rRepr K) (tCons te tNil)) σ H (.str d.shown) := fun H1 s Q q =>
  h H1 s _ fun v H2 s2 t2 => by
    have : ∃ a, v = .ref a := by
      obtain ⟨ds, e | e⟩ := hr
      · subst e; obtain ⟨a, _, e, _⟩ := t2.l; exact ⟨a, e⟩
      · subst e; obtain ⟨a, _, e, _⟩ := t2.t; exact ⟨a, e⟩
    obtain ⟨a, rfl⟩ := this
    exact ⟨a, d, rfl, t2, hs.s, hs.h, hs.p, hs.z, q _ H2 s2 (.str _)⟩
end K32
/-! R13 -/
set_option Elab.async false
set_option linter.all false
set_option maxRecDepth 100000
set_option maxHeartbeats 400000
namespace K32
open PySem PySem.Spec PyProof.Rows L2
local macro_rules | `(tactic| walk_at "dn") => `(tactic| first
  | with_reducible exact dn_int | with_reducible exact dn_str | with_reducible exact dn_bl | with_reducible exact dn_non | with_reducible exact da_nil | with_reducible exact do_none
  | ((with_reducible refine' dn_var ?h ?k); (case h => rfl); (case k => assumption))
  | ((with_reducible refine' da_cons ?_ ?_) <;> try walk_at "dn")
  | ((with_reducible refine' dn_add ?_ ?_) <;> try walk_at "dn")
  | ((with_reducible refine' dn_sub ?_ ?_) <;> try walk_at "dn")
  | ((with_reducible refine' dn_mul ?_ ?_ ?_) <;> try walk_at "dn")
  | ((with_reducible refine' dn_lt ?_ ?_) <;> try walk_at "dn")
  | ((with_reducible refine' dn_le ?_ ?_) <;> try walk_at "dn")
  | ((with_reducible refine' dn_gt ?_ ?_) <;> try walk_at "dn")
  | ((with_reducible refine' dn_ge ?_ ?_) <;> try walk_at "dn")
  | ((with_reducible refine' dn_neg ?_) <;> try walk_at "dn")
  | ((with_reducible refine' dn_chain ?_ ?_ ?_ rd_le rd_le) <;> try walk_at "dn")
  | ((with_reducible refine' dn_chain ?_ ?_ ?_ rd_le rd_lt) <;> try walk_at "dn")
  | ((with_reducible refine' dn_isI ?h ?k); (case h => walk_at "dn"); (case k => first | with_reducible exact kb_int_int | with_reducible exact kb_int_tuple | with_reducible exact kb_int_str | with_reducible exact kb_int_bool))
  | ((with_reducible refine' dn_isT ?h ?k); (case h => walk_at "dn"); (case k => first | with_reducible exact kb_tuple_int | with_reducible exact kb_tuple_tuple | with_reducible exact kb_tuple_str | with_reducible exact kb_tuple_bool))
  | ((with_reducible refine' dn_isS ?h ?k); (case h => walk_at "dn"); (case k => first | with_reducible exact kb_str_int | with_reducible exact kb_str_tuple | with_reducible exact kb_str_str | with_reducible exact kb_str_bool))
  | ((with_reducible refine' dn_isL ?h ?k); (case h => walk_at "dn"); (case k => first | with_reducible exact kb_list_int | with_reducible exact kb_list_tuple | with_reducible exact kb_list_str | with_reducible exact kb_list_bool))
  | ((with_reducible refine' dn_isB ?h ?k); (case h => walk_at "dn"); (case k => first | with_reducible exact kb_bool_int | with_reducible exact kb_bool_tuple | with_reducible exact kb_bool_str | with_reducible exact kb_bool_bool))
  | ((with_reducible refine' dn_ixT ?h ?t ?k); (case h => walk_at "dn"); (case t => walk_at "dn"); try (case k => rfl))
  | ((with_reducible refine' dn_ixL ?h ?t ?k); (case h => walk_at "dn"); (case t => walk_at "dn"); try (case k => rfl))
  | ((with_reducible refine' dn_cb ?h ?k); (case h => walk_at "dn"); try (case k => first | exact rd_lenT | exact rd_lenL | exact rd_tupL | exact rd_lstT | exact rd_lstL | exact rc_all | exact rc_sum | exact rc_max2 | exact rc_min2))
  | ((with_reducible refine' dn_call ?h ?t ?k); (case h => walk_at "dn"); (case t => rfl))
  | ((with_reducible refine' dt_test ?_) <;> try walk_at "dn")
  | ((with_reducible refine' dt_B ?_) <;> try walk_at "dn")
  | ((with_reducible refine' dn_eqI ?h ?k); (case h => walk_at "dn"); (case k => walk_at "dn"))
  | ((with_reducible refine' dn_neI ?h ?k); (case h => walk_at "dn"); (case k => walk_at "dn"))
  | ((with_reducible refine' dn_eqS ?h ?k); (case h => walk_at "dn"); (case k => walk_at "dn"))
  | ((with_reducible refine' dn_neS ?h ?k); (case h => walk_at "dn"); (case k => walk_at "dn"))
  | ((with_reducible refine' dt_or ?_ (fun _ => ?_)) <;> try walk_at "dn")
  | ((with_reducible refine' dt_and ?_ (fun _ => ?_)) <;> try walk_at "dn")
  | ((with_reducible refine' dn_orV ?_ (fun _ => ?_)) <;> try walk_at "dn")
  | ((with_reducible refine' dn_andV ?_ (fun _ => ?_)) <;> try walk_at "dn")
  | ((with_reducible refine' dt_not ?_) <;> try walk_at "dn")
  | ((with_reducible refine' dn_notV ?_) <;> try walk_at "dn")
  | ((with_reducible refine' da_star ?_ ?_) <;> try walk_at "dn")
  | ((with_reducible refine' dn_tup ?_ ?_) <;> try walk_at "dn")
  | ((with_reducible refine' dn_lst ?_ ?_) <;> try walk_at "dn")
  | ((with_reducible refine' do_some ?_) <;> try walk_at "dn"))
variable {P : Program} {w : World} {K : PySem.W.Frag} {mg : Str → Option Value} {base : Heap}
def LoopT (f : Flow) (b : Vec) (L : List Wd) : Prop := ∀ k : Nat, k < L.length → ∃ x y, L[k]? = some x ∧ L2.atI L ((k : Int) - 1) = some y ∧ y ∈ rby f b x
def fLawLoop (ds : List Dt) (r : Dt) : Prop := ∃ (f : Flow) (b : Vec) (L : List Wd), ds = [dFlow f, dV b, .tuple (L.map dW)] ∧ FB f b ∧ L ≠ [] ∧ L.length ≤ 1440 ∧ (∀ x ∈ L, x ∈ wds f b) ∧ LoopT f b L ∧ r = .bool true
theorem eqv_tnil {L : List Wd} (h : L ≠ []) : PyData.eqv (.tuple (L.map dW)) (.tuple []) = false := by
  cases L with
  | nil => exact absurd rfl h
  | cons a l => simp [PyData.eqv, PyData.eqvAll]
abbrev N_law_is_loop : List Str := ["_law_flow", "_law_sizes", "_law_value", "_law_links_here", "_law_word", "_law_k", "_law_item"]
abbrev P_law_is_loop : List Str := ["_law_flow", "_law_sizes", "_law_value"]
theorem sc_law_is_loop : FnScope N_law_is_loop P_law_is_loop (defScope s_law_is_loop) := ⟨rfl, rfl, rfl, by decide +kernel, rfl, by decide +kernel, by decide +kernel⟩
theorem D_law_is_loop (T : Tx K mg) : DefP P w K mg base CX0 3 ("_law_is_loop", none) P_law_is_loop (Pu 3 fLawLoop) := by
  refine mk_def T 54 d_law_is_loop rfl rfl rfl sc_law_is_loop (fun vs H Q E h => h.1) (fun _ _ _ _ _ _ us hl => match us, hl with | [_, _, _], _ => rfl) (fun cdv A outer s H vs Q E hr h => ?_)
  obtain ⟨_, ds, r, hd, ⟨f, b, L, rfl, hfb, hne, hL, hin, hlt, rfl⟩, q⟩ := h
  obtain ⟨x, y, z, rfl, t1, t2, t3⟩ := hd.three
  have hb3 := hfb.2.1.len
  refine ⟨_, (pss_cons (ps_set (i := 3) sc_law_is_loop.nd rfl (by first | exact Or.inl rfl | exact Or.inr rfl) (pe_cd (D_law_links T) (hr.mono (by decide)) T.g_law_links pass0 (pa_cons (pv 0) (pa_cons (pv 1) pa_nil)))) (pss_cons (ps_if (PW.pt (pw_or (pt_not (pt_val (pe_callB (kcall_isi K) (by rfl) T.f_isinstance (by decide +kernel) (pa_cons (pv 2) (pa_cons (pe_bltn (v := .ty "tuple") rfl T.f_tuple (by decide +kernel) rfl) pa_nil))))) (pw_or1 (pt_cmpR (kop_eqD K hr.units) (pv 2) (pe_tup pa_nil) (nomark _))))) (pss_one (ps_ret pe_bl)) pss_nil) (pss_cons (ps_for PassesOwn.never rfl (kpi_tup K (pv 2)) (pg_name (i := 4) sc_law_is_loop.nd rfl (by first | exact Or.inl rfl | exact Or.inr rfl)) (pss_cons (ps_if (PW.pt (pw_or (pt_not (pt_val (pe_callB (kcall_isi K) (by rfl) T.f_isinstance (by decide +kernel) (pa_cons (pv 4) (pa_cons (pe_bltn (v := .ty "tuple") rfl T.f_tuple (by decide +kernel) rfl) pa_nil))))) (pw_or (pt_cmpR op_ne (pe_callB (kcall_len K) (by rfl) T.f_len boot_len (pa_cons (pv 4) pa_nil)) pe_int (nomark _)) (pw_or1 (pt_not (pt_val (pe_cd (D_law_whole T) (hr.mono (by decide)) T.g_law_whole pass0 (pa_cons (pe_ix (kix_tup K) (pv 4) pe_int (fun _ _ => rfl)) (pa_cons pe_int (pa_cons (pe_op op_sub (pe_callB (kcall_len K) (by rfl) T.f_len boot_len (pa_cons (pe_ix (kix_tup K) (pv 0) pe_int (fun _ _ => rfl)) pa_nil)) pe_int) pa_nil)))))))))) (pss_one (ps_ret pe_bl)) pss_nil) (pss_cons (ps_if (PW.pt (pw_or (pt_not (pt_val (pe_callB (kcall_isi K) (by rfl) T.f_isinstance (by decide +kernel) (pa_cons (pe_ix (kix_tup K) (pv 4) pe_int (fun _ _ => rfl)) (pa_cons (pe_bltn (v := .ty "tuple") rfl T.f_tuple (by decide +kernel) rfl) pa_nil))))) (pw_or1 (pt_not (pt_val (pe_callB (kcr_all K) (by rfl) T.f_all (by decide +kernel) (pa_cons (pe_lc (own := [("_law_item", 6)]) rfl sc_law_is_loop.nd (kpi_tup K (pe_ix (kix_tup K) (pv 4) pe_int (fun _ _ => rfl))) (blkOk_by (N := N_law_is_loop) (sc := defScope s_law_is_loop) (by decide +kernel)) (fun _ _ _ _ _ => (pg_name (i := 6) sc_law_is_loop.nd rfl (by first | exact Or.inl rfl | exact Or.inr rfl))) (fun _ _ _ _ _ => pts_nil) (fun _ _ _ _ _ => (pe_cd (D_law_whole T) (hr.mono (by decide)) T.g_law_whole pass0 (pa_cons (pv 6) (pa_cons pe_int (pa_cons (pe_op op_pow pe_int pe_int) pa_nil)))))) pa_nil))))))) (pss_one (ps_ret pe_bl)) pss_nil) (pss_one (ps_if (pt_cmp (pc_ndnotin P w (hu9 hr) (pv 4) (pv 3)) (by rfl)) (pss_one (ps_ret pe_bl)) pss_nil))))) (pss_one (ps_ret (pe_callB (kcr_all K) (by rfl) T.f_all (by decide +kernel) (pa_cons (pe_lc (own := [("_law_k", 5)]) rfl sc_law_is_loop.nd (pi_range1 rfl T.f_range (pa_cons (pe_callB (kcall_len K) (by rfl) T.f_len boot_len (pa_cons (pv 2) pa_nil)) pa_nil)) (blkOk_by (N := N_law_is_loop) (sc := defScope s_law_is_loop) (by decide +kernel)) (fun _ _ _ _ _ => (pg_name (i := 5) sc_law_is_loop.nd rfl (by first | exact Or.inl rfl | exact Or.inr rfl))) (fun _ _ _ _ _ => pts_nil) (fun _ _ _ _ _ => (pe_cmpR (kop_inD K (hu65 hr)) (pe_ix (kix_tup K) (pv 2) (pe_op op_sub (pv 5) pe_int) (fun _ _ => rfl)) (pe_ndget P w (hu9 hr) (pv 3) (pe_ix (kix_tup K) (pv 2) (pv 5) (fun _ _ => rfl))) (by rfl)))) pa_nil))))))), ?_⟩
  refine q_asg ⟨x, rfl, y, rfl, rfl, x, y, f, b, rfl, t1, t2, hfb, fun d H1 s1 hd nd => ?_⟩
  have t1 := t1.s s1
  have t2 := t2.s s1
  have t3 := t3.s s1
  refine q_ifno (DnT.is (b := !true || PyData.eqv (.tuple (L.map dW)) (.tuple [])) (dt_or (by walk_at "dn") fun _ => dt_test (dn_eqD (dn_var rfl t3) (dn_tup da_nil (by decide)) (shaped_tW L) (shaped_tW []))) (by rw [eqv_tnil hne]; rfl)) fun H2 s2 => ?_
  have t1 := t1.s s2
  have t3 := t3.s s2
  have nd := nd.s s2
  refine q_forK dW L (srcK_tup (dn_var (i := 2) rfl t3) (flats_map flat_dW _)) (fun i σ' H' => ∃ o4, σ' = [some x, some y, some z, some (.ref d), o4, none, none] ∧ Same H2 H') ?_ ?_ ?_ ?_
  · rintro i σ' Ha Hb sab ⟨o4, rfl, a1⟩
    exact ⟨o4, rfl, a1.trans sab⟩
  · intro H3 s3
    exact ⟨none, rfl, s3⟩
  · rintro i k u σ' H3 hk kt tu ⟨o4, rfl, a1⟩
    have hkm := hin k (List.mem_of_getElem? hk)
    obtain ⟨hb1, hb2, hb4, hb5⟩ := wds_bd hfb hkm
    refine ⟨_, sto_name, fun N hN => ?_⟩
    have t1 := t1.s a1
    refine q_ifno (DnT.is (b := !true || (!decide ((2 : Int) = 2) || !true)) (dt_or (by walk_at "dn") fun _ => dt_or (by walk_at "dn") fun _ => dt_not (dt_B ((dn_call (z := .bool true) (by walk_at "dn") (by rfl) ⟨k.1, 0, (f.rules.length : Int) - 1, by rw [List.length_map], ?_⟩)))) (by decide)) fun H4 s4 => ?_
    · have e1 : k.1 ≤ (f.rules.length : Int) - 1 := by omega
      simp [hb4, e1]
    have tu := tu.s s4
    have hall : Dn (tCB (rAll K) (tCons (tLc (iTup K (tOp (rIxT K) (tVar 4) (tC (.int 1)))) (gName 6) tYes (tCall (Pu 3 fIsInteger) [] E0 (tCons (tVar 6) (tCons (tC (.int 0)) (tCons (tOp (rI CPow fun i j => .int (i ^ j.toNat)) (tC (.int 10)) (tC (.int 9))) tNil)))) [6]) tNil)) [some x, some y, some z, some (V.ref d), some u, none, none] H4 (.bool true) := by
      have h1 := dn_lcm (te := tCall (Pu 3 fIsInteger) [] E0 (tCons (tVar 6) (tCons (tC (.int 0)) (tCons (tOp (rI CPow fun i j => .int (i ^ j.toNat)) (tC (.int 10)) (tC (.int 9))) tNil)))) (g := gName 6) (vs := [6]) (α := Int) .int k.2 (fun _ => .bool true) (src_tup (K := K) (σ := [some x, some y, some z, some (V.ref d), some u, none, none]) (H := H4) (te := tOp (rIxT K) (tVar 4) (tC (.int 1))) (ds := k.2.map .int) (dn_ixT (ds := [.int k.1, dV k.2]) (dn_var rfl tu) dn_int rfl)) (by omega) (fun _ _ => rfl) fun c hc m H6 s6 tm => ⟨_, sto_name, rfl, dn_call (da_cons (dn_var rfl tm) (da_cons dn_int (da_cons (dn_pow dn_int dn_int (by unfold CPow; decide)) da_nil))) (by rfl) ⟨c, 0, 10 ^ (9 : Int).toNat, rfl, by
          have := hb1 c hc
          have e1 : c ≤ 10 ^ (9 : Int).toNat := by
            have : (10 : Int) ^ (9 : Int).toNat = 1000000000 := by decide
            omega
          congr 1; symm; rw [Bool.and_eq_true, decide_eq_true_eq, decide_eq_true_eq]; exact ⟨this.1, e1⟩⟩⟩
      have e1 : (k.2.map fun _ => PyData.bool true) = (k.2.map fun _ => true).map .bool := by rw [List.map_map]; rfl
      rw [e1] at h1
      refine (dn_cb (da_cons h1 da_nil) (rc_all (K := K))).is ?_
      have : (k.2.map fun _ => true).all id = true := by rw [List.all_map, List.all_eq_true]; exact fun _ _ => rfl
      rw [this]
    refine q_ifno (DnT.is (b := !true || !true) (dt_or (dt_not (dt_B (dn_isT (ds := k.2.map .int) (dn_ixT (ds := [.int k.1, dV k.2]) (dn_var rfl tu) dn_int rfl) kb_tuple_tuple))) fun _ => dt_not (dt_B hall)) (by decide)) fun H5 s5 => ?_
    refine s_ifno (DnT.is (b := !decide (k ∈ wds f b)) (dt_B (dn_ndnotin (dv_var rfl) ((nd.s a1).s (s4.trans s5)).r (dn_var rfl (tu.s s5)))) (by simp [hkm])) fun H6 s6 => ?_
    exact hN _ _ (KT.of ((s4.trans s5).trans s6)) ⟨_, rfl, ((a1.trans s4).trans s5).trans s6⟩
  · rintro σ' H3 kt ⟨o4, rfl, a1⟩
    have t3 := t3.s a1
    have nd := nd.s a1
    have hsrc := src_rng1 (σ := [some x, some y, some z, some (V.ref d), o4, none, none]) (H := H3) (ta := tCons (tCB (rLen K) (tCons (tVar 2) tNil)) tNil) (n := ((L.map dW).length : Int)) (by walk_at "dn") (by rw [List.length_map]; omega) (by omega)
    rw [List.length_map, Int.toNat_natCast] at hsrc
    refine s_ret (dn_cb (da_cons (dn_lcm (fun k : Nat => PyData.int (k : Int)) (List.range L.length) (fun _ => .bool true) hsrc (by rw [List.length_range]; omega) (fun _ _ => rfl) ?_) da_nil) (z := .bool true) ?_) fun v H4 s4 t4 => q v H4 (((s1.trans s2).trans a1).trans s4) t4
    · intro k hk u H4 s4 tu
      have hk := List.mem_range.mp hk
      have t3 := t3.s s4
      obtain ⟨a, a', ha, ha', hm⟩ := hlt k hk
      refine ⟨_, sto_name, rfl, ?_⟩
      refine Dn.is (d := .bool (decide (a' ∈ rby f b a))) ?_ (by simp [hm])
      rw [← any_eqv]
      exact dn_inD (dn_ixT (dn_var (i := 2) rfl t3) (dn_sub (dn_var (i := 5) rfl tu) (dn_int (i := 1))) (by rw [atI_map, ha']; rfl))
        (dn_ndget (g := gLk (rby f b)) (k := a) (dv_var (i := 3) rfl) (nd.s s4).r (dn_ixT (dn_var (i := 2) rfl t3) (dn_var (i := 5) rfl tu) (by rw [atI_map, atI_nat, ha]; rfl)) (hin a (List.mem_of_getElem? ha))) (shaped_dW _) (shaped_lW _)
    · have e2 : ((List.range L.length).map fun _ => PyData.bool true) = ((List.range L.length).map fun _ => true).map .bool := by rw [List.map_map]; rfl
      rw [e2]
      have e3 : true = ((List.range L.length).map fun _ => true).all id := by
        symm
        rw [List.all_map, List.all_eq_true]
        exact fun _ _ => rfl
      conv => rhs; rw [e3]
      exact rc_all
abbrev N_law_is_chain : List Str := ["_law_flow", "_law_sizes", "_law_value", "_law_links_here", "_law_k", "_law_word"]
abbrev P_law_is_chain : List Str := ["_law_flow", "_law_sizes", "_law_value"]
theorem sc_law_is_chain : FnScope N_law_is_chain P_law_is_chain (defScope s_law_is_chain) := ⟨rfl, rfl, rfl, by decide +kernel, rfl, by decide +kernel, by decide +kernel⟩
def ChainT (f : Flow) (b : Vec) (L : List Wd) : Prop := ∀ k : Nat, k + 1 < L.length → ∃ x y, L[k + 1]? = some x ∧ L[k]? = some y ∧ y ∈ rby f b x
def fLawChain (ds : List Dt) (r : Dt) : Prop := ∃ (f : Flow) (b : Vec) (L : List Wd), ds = [dFlow f, dV b, .tuple (L.map dW)] ∧ FB f b ∧ L ≠ [] ∧ L.length ≤ 1440 ∧ (∀ x ∈ L, x ∈ wds f b) ∧ ChainT f b L ∧ r = .bool true
theorem D_law_is_chain (T : Tx K mg) : DefP P w K mg base CX0 3 ("_law_is_chain", none) P_law_is_chain (Pu 3 fLawChain) := by
  refine mk_def T 55 d_law_is_chain rfl rfl rfl sc_law_is_chain (fun vs H Q E h => h.1) (fun _ _ _ _ _ _ us hl => match us, hl with | [_, _, _], _ => rfl) (fun cdv A outer s H vs Q E hr h => ?_)
  obtain ⟨_, ds, r, hd, ⟨f, b, L, rfl, hfb, hne, hL, hin, hlt, rfl⟩, q⟩ := h
  obtain ⟨x, y, z, rfl, t1, t2, t3⟩ := hd.three
  refine ⟨_, (pss_cons (ps_set (i := 3) sc_law_is_chain.nd rfl (by first | exact Or.inl rfl | exact Or.inr rfl) (pe_cd (D_law_links T) (hr.mono (by decide)) T.g_law_links pass0 (pa_cons (pv 0) (pa_cons (pv 1) pa_nil)))) (pss_cons (ps_if (PW.pt (pw_or (pt_not (pt_val (pe_callB (kcall_isi K) (by rfl) T.f_isinstance (by decide +kernel) (pa_cons (pv 2) (pa_cons (pe_bltn (v := .ty "tuple") rfl T.f_tuple (by decide +kernel) rfl) pa_nil))))) (pw_or (pt_cmpR (kop_eqD K hr.units) (pv 2) (pe_tup pa_nil) (nomark _)) (pw_or1 (pt_not (pt_val (pe_callB (kcr_all K) (by rfl) T.f_all (by decide +kernel) (pa_cons (pe_lc (own := [("_law_word", 5)]) rfl sc_law_is_chain.nd (kpi_tup K (pv 2)) (blkOk_by (N := N_law_is_chain) (sc := defScope s_law_is_chain) (by decide +kernel)) (fun _ _ _ _ _ => (pg_name (i := 5) sc_law_is_chain.nd rfl (by first | exact Or.inl rfl | exact Or.inr rfl))) (fun _ _ _ _ _ => pts_nil) (fun _ _ _ _ _ => (pe_cmp (pc_ndin P w (hu9 hr) (pv 5) (pv 3)) (by rfl)))) pa_nil)))))))) (pss_one (ps_ret pe_bl)) pss_nil) (pss_one (ps_ret (pe_callB (kcr_all K) (by rfl) T.f_all (by decide +kernel) (pa_cons (pe_lc (own := [("_law_k", 4)]) rfl sc_law_is_chain.nd (pi_range2 rfl T.f_range (pa_cons pe_int (pa_cons (pe_callB (kcall_len K) (by rfl) T.f_len boot_len (pa_cons (pv 2) pa_nil)) pa_nil))) (blkOk_by (N := N_law_is_chain) (sc := defScope s_law_is_chain) (by decide +kernel)) (fun _ _ _ _ _ => (pg_name (i := 4) sc_law_is_chain.nd rfl (by first | exact Or.inl rfl | exact Or.inr rfl))) (fun _ _ _ _ _ => pts_nil) (fun _ _ _ _ _ => (pe_cmpR (kop_inD K (hu65 hr)) (pe_ix (kix_tup K) (pv 2) (pe_op op_sub (pv 4) pe_int) (fun _ _ => rfl)) (pe_ndget P w (hu9 hr) (pv 3) (pe_ix (kix_tup K) (pv 2) (pv 4) (fun _ _ => rfl))) (by rfl)))) pa_nil)))))), ?_⟩
  refine q_asg ⟨x, rfl, y, rfl, rfl, x, y, f, b, rfl, t1, t2, hfb, fun d H1 s1 hd nd => ?_⟩
  have t3 := t3.s s1
  have hall : ∀ H', Same H1 H' → Dn (tCB (rAll K) (tCons (tLc (iTup K (tVar 2)) (gName 5) tYes (tNdIn P w (tVar 5) (tVar 3)) [5]) tNil)) ((L2.start N_law_is_chain [x, y, z]).set 3 (some (V.ref d))) H' (.bool true) := fun H' s' => by
    have t3 := t3.s s'
    have nd := nd.s s'
    have h1 := dn_lcm (te := tNdIn P w (tVar 5) (tVar 3)) (g := gName 5) (vs := [5]) dW L (fun _ => .bool true) (src_tup (K := K) (σ := (L2.start N_law_is_chain [x, y, z]).set 3 (some (V.ref d))) (te := tVar 2) (dn_var rfl t3)) (by omega) (fun _ _ => rfl) fun k hk u H1 s1 tu => ⟨_, sto_name, rfl, (dn_ndin (dv_var rfl) (nd.s s1).r (dn_var rfl tu)).is (by simp [hin k hk])⟩
    have e1 : (L.map fun _ => PyData.bool true) = (L.map fun _ => true).map .bool := by rw [List.map_map]; rfl
    rw [e1] at h1
    refine (dn_cb (da_cons h1 da_nil) (rc_all (K := K))).is ?_
    have : (L.map fun _ => true).all id = true := by rw [List.all_map, List.all_eq_true]; exact fun _ _ => rfl
    rw [this]
  refine q_ifno (DnT.is (b := !true || (PyData.eqv (.tuple (L.map dW)) (.tuple []) || !true)) (dt_or (by walk_at "dn") fun _ => dt_or (dt_test (dn_eqD (dn_var rfl t3) (dn_tup da_nil (by decide)) (shaped_tW L) (shaped_tW []))) fun _ => dt_not (dt_B (hall H1 (Same.refl H1)))) (by rw [eqv_tnil hne]; rfl)) fun H2 s2 => ?_
  have t3 := t3.s s2
  have nd := nd.s s2
  have hpos : 0 < L.length := List.length_pos_iff.mpr hne
  have hsrc := src_rng2 (σ := (L2.start N_law_is_chain [x, y, z]).set 3 (some (V.ref d))) (H := H2) (ta := tCons (tC (.int 1)) (tCons (tCB (rLen K) (tCons (tVar 2) tNil)) tNil)) (lo := 1) (n := ((L.map dW).length : Int)) (by walk_at "dn") (by rw [List.length_map]; omega)
  have ern : (((L.map dW).length : Int) - 1).toNat = L.length - 1 := by rw [List.length_map]; omega
  rw [ern] at hsrc
  refine s_ret (dn_cb (da_cons (dn_lcm (fun k : Nat => PyData.int (1 + (k : Int))) (List.range (L.length - 1)) (fun _ => .bool true) hsrc (by rw [List.length_range]; omega) (fun _ _ => rfl) ?_) da_nil) (z := .bool true) ?_) fun v H4 s4 t4 => q v H4 ((s1.trans s2).trans s4) t4
  · intro k hk u H4 s4 tu
    have hk := List.mem_range.mp hk
    have t3 := t3.s s4
    obtain ⟨a, a', ha, ha', hm⟩ := hlt k (by omega)
    refine ⟨_, sto_name, rfl, ?_⟩
    refine Dn.is (d := .bool (decide (a' ∈ rby f b a))) ?_ (by simp [hm])
    rw [← any_eqv]
    exact dn_inD (dn_ixT (dn_var (i := 2) rfl t3) (dn_sub (dn_var (i := 4) rfl tu) (dn_int (i := 1))) (by rw [atI_map, show (1 + (k : Int)) - 1 = (k : Int) by omega, atI_nat, ha']; rfl))
      (dn_ndget (g := gLk (rby f b)) (k := a) (dv_var (i := 3) rfl) (nd.s s4).r (dn_ixT (dn_var (i := 2) rfl t3) (dn_var (i := 4) rfl tu) (by rw [atI_map, show (1 + (k : Int)) = ((k + 1 : Nat) : Int) by omega, atI_nat, ha]; rfl)) (hin a (List.mem_of_getElem? ha))) (shaped_dW _) (shaped_lW _)
  · have e2 : ((List.range (L.length - 1)).map fun _ => PyData.bool true) = ((List.range (L.length - 1)).map fun _ => true).map .bool := by rw [List.map_map]; rfl
    rw [e2]
    have e3 : true = ((List.range (L.length - 1)).map fun _ => true).all id := by
      symm
      rw [List.all_map, List.all_eq_true]
      exact fun _ _ => rfl
    conv => rhs; rw [e3]
    exact rc_all
end K32
/-! R14 -/
set_option Elab.async false
set_option linter.all false
set_option maxRecDepth 100000
set_option maxHeartbeats 400000
namespace K32
open PySem PySem.Spec PyProof.Rows L2
local macro_rules | `(tactic| walk_at "dn") => `(tactic| first
  | with_reducible exact dn_int | with_reducible exact dn_str | with_reducible exact dn_bl | with_reducible exact dn_non | with_reducible exact da_nil | with_reducible exact do_none
  | ((with_reducible refine' dn_var ?h ?k); (case h => rfl); (case k => assumption))
  | ((with_reducible refine' da_cons ?_ ?_) <;> try walk_at "dn")
  | ((with_reducible refine' dn_add ?_ ?_) <;> try walk_at "dn")
  | ((with_reducible refine' dn_sub ?_ ?_) <;> try walk_at "dn")
  | ((with_reducible refine' dn_mul ?_ ?_ ?_) <;> try walk_at "dn")
  | ((with_reducible refine' dn_lt ?_ ?_) <;> try walk_at "dn")
  | ((with_reducible refine' dn_le ?_ ?_) <;> try walk_at "dn")
  | ((with_reducible refine' dn_gt ?_ ?_) <;> try walk_at "dn")
  | ((with_reducible refine' dn_ge ?_ ?_) <;> try walk_at "dn")
  | ((with_reducible refine' dn_neg ?_) <;> try walk_at "dn")
  | ((with_reducible refine' dn_chain ?_ ?_ ?_ rd_le rd_le) <;> try walk_at "dn")
  | ((with_reducible refine' dn_chain ?_ ?_ ?_ rd_le rd_lt) <;> try walk_at "dn")
  | ((with_reducible refine' dn_isI ?h ?k); (case h => walk_at "dn"); (case k => first | with_reducible exact kb_int_int | with_reducible exact kb_int_tuple | with_reducible exact kb_int_str | with_reducible exact kb_int_bool))
  | ((with_reducible refine' dn_isT ?h ?k); (case h => walk_at "dn"); (case k => first | with_reducible exact kb_tuple_int | with_reducible exact kb_tuple_tuple | with_reducible exact kb_tuple_str | with_reducible exact kb_tuple_bool))
  | ((with_reducible refine' dn_isS ?h ?k); (case h => walk_at "dn"); (case k => first | with_reducible exact kb_str_int | with_reducible exact kb_str_tuple | with_reducible exact kb_str_str | with_reducible exact kb_str_bool))
  | ((with_reducible refine' dn_isL ?h ?k); (case h => walk_at "dn"); (case k => first | with_reducible exact kb_list_int | with_reducible exact kb_list_tuple | with_reducible exact kb_list_str | with_reducible exact kb_list_bool))
  | ((with_reducible refine' dn_isB ?h ?k); (case h => walk_at "dn"); (case k => first | with_reducible exact kb_bool_int | with_reducible exact kb_bool_tuple | with_reducible exact kb_bool_str | with_reducible exact kb_bool_bool))
  | ((with_reducible refine' dn_ixT ?h ?t ?k); (case h => walk_at "dn"); (case t => walk_at "dn"); try (case k => rfl))
  | ((with_reducible refine' dn_ixL ?h ?t ?k); (case h => walk_at "dn"); (case t => walk_at "dn"); try (case k => rfl))
  | ((with_reducible refine' dn_cb ?h ?k); (case h => walk_at "dn"); try (case k => first | exact rd_lenT | exact rd_lenL | exact rd_tupL | exact rd_lstT | exact rd_lstL | exact rc_all | exact rc_sum | exact rc_max2 | exact rc_min2))
  | ((with_reducible refine' dn_call ?h ?t ?k); (case h => walk_at "dn"); (case t => rfl))
  | ((with_reducible refine' dt_test ?_) <;> try walk_at "dn")
  | ((with_reducible refine' dt_B ?_) <;> try walk_at "dn")
  | ((with_reducible refine' dn_eqI ?h ?k); (case h => walk_at "dn"); (case k => walk_at "dn"))
  | ((with_reducible refine' dn_neI ?h ?k); (case h => walk_at "dn"); (case k => walk_at "dn"))
  | ((with_reducible refine' dn_eqS ?h ?k); (case h => walk_at "dn"); (case k => walk_at "dn"))
  | ((with_reducible refine' dn_neS ?h ?k); (case h => walk_at "dn"); (case k => walk_at "dn"))
  | ((with_reducible refine' dt_or ?_ (fun _ => ?_)) <;> try walk_at "dn")
  | ((with_reducible refine' dt_and ?_ (fun _ => ?_)) <;> try walk_at "dn")
  | ((with_reducible refine' dn_orV ?_ (fun _ => ?_)) <;> try walk_at "dn")
  | ((with_reducible refine' dn_andV ?_ (fun _ => ?_)) <;> try walk_at "dn")
  | ((with_reducible refine' dt_not ?_) <;> try walk_at "dn")
  | ((with_reducible refine' dn_notV ?_) <;> try walk_at "dn")
  | ((with_reducible refine' da_star ?_ ?_) <;> try walk_at "dn")
  | ((with_reducible refine' dn_tup ?_ ?_) <;> try walk_at "dn")
  | ((with_reducible refine' dn_lst ?_ ?_) <;> try walk_at "dn")
  | ((with_reducible refine' do_some ?_) <;> try walk_at "dn"))
variable {P : Program} {w : World} {K : PySem.W.Frag} {mg : Str → Option Value} {base : Heap}
theorem told_dt (f : Flow) (b : Vec) : ∃ ds, toldD f b = .list ds ∨ toldD f b = .tuple ds := by
  unfold toldD chainT
  by_cases h : LF f b = []
  · rw [if_pos h]; exact ⟨_, .inr rfl⟩
  · rw [if_neg h]; exact ⟨_, .inl rfl⟩
def plW (b : Vec) (pl : Nat) : List Wd := (pts b).map fun p => ((pl : Int), p)
noncomputable def mxR (f : Flow) (b : Vec) (pl : Nat) : Int := mostOf (plW b pl) (RV f b)
theorem plW_ne {f : Flow} {b : Vec} (h : FB f b) (pl : Nat) : plW b pl ≠ [] := by
  intro e
  have h1 : (b.map fun _ => (0 : Int)) ∈ pts b := mem_pts.mpr ⟨by simp, zeros_in b h.2.1.pos⟩
  have h2 : pts b = [] := List.map_eq_nil_iff.mp e
  rw [h2] at h1
  exact nomatch h1
theorem mxR_mem {f : Flow} {b : Vec} (h : FB f b) (pl : Nat) : mxR f b pl ∈ (pts b).map fun p => RV f b ((pl : Int), p) := by
  obtain ⟨k, hk, e⟩ := mostOf_mem (rv := RV f b) (plW_ne h pl) fun k _ => rkV_pos _ _ k
  obtain ⟨p, hp, rfl⟩ := List.mem_map.mp hk
  exact List.mem_map.mpr ⟨p, hp, e⟩
theorem mxR_le {f : Flow} {b : Vec} (pl : Nat) : ∀ y ∈ (pts b).map fun p => RV f b ((pl : Int), p), y ≤ mxR f b pl := by
  intro y hy
  obtain ⟨p, hp, rfl⟩ := List.mem_map.mp hy
  exact mostOf_le.1 _ (List.mem_map.mpr ⟨p, hp, rfl⟩)
noncomputable def mstF (f : Flow) (b : Vec) : Int := most (wds f b) (rby f b)
theorem mx_mem {f : Flow} {b : Vec} (h : FB f b) : mstF f b ∈ (List.range f.rules.length).map (mxR f b) ∧ ∀ y ∈ (List.range f.rules.length).map (mxR f b), y ≤ mstF f b := by
  have lok := lkOk h.1 h.2.1 h.2.2
  have hle : ∀ y ∈ (List.range f.rules.length).map (mxR f b), y ≤ mstF f b := by
    intro y hy
    obtain ⟨pl, hpl, rfl⟩ := List.mem_map.mp hy
    have hpl := List.mem_range.mp hpl
    obtain ⟨p, hp, e⟩ := List.mem_map.mp (mxR_mem h pl)
    rw [← e]
    exact most_le (lk := rby f b) _ (mem_wds.mpr ⟨⟨by show (0 : Int) ≤ (pl : Int); omega, by show (pl : Int) < _; omega⟩, hp⟩)
  refine ⟨?_, hle⟩
  obtain ⟨k, hk, e⟩ := most_mem (lk := rby f b) lok.ne
  obtain ⟨⟨h1, h2⟩, h3⟩ := mem_wds.mp hk
  have hm : mxR f b k.1.toNat ∈ (List.range f.rules.length).map (mxR f b) := List.mem_map.mpr ⟨k.1.toNat, List.mem_range.mpr (by omega), rfl⟩
  have h4 := hle _ hm
  have h5 := mxR_le (f := f) (b := b) k.1.toNat (mstF f b) (List.mem_map.mpr ⟨k.2, h3, by
    rw [Int.toNat_of_nonneg h1]
    exact e⟩)
  have h6 : mxR f b k.1.toNat = mstF f b := by omega
  rw [← h6]
  exact hm
def fRight (ds : List Dt) (r : Dt) : Prop := ∃ (f : Flow) (b : Vec), ds = [dFlow f, dV b] ∧ FB f b ∧ r = .bool true
theorem q_par {i j : Nat} {ta tb : TE} {tz : TS} {D : Ends} {σ : L2.St} {H : Hp} {d e : Dt} (h1 : Dn ta σ H d) (h2 : Dn tb σ H e) (k : ∀ v u H2, Same H H2 → TD H2 v d → TD H2 u e → tz D ((σ.set i (some v)).set j (some u)) H2) : tSeq (tPar i j (tCons ta (tCons tb tNil))) tz D σ H :=
  h1.go fun v H1 s1 t1 => h2 H1 s1 _ fun u H2 s2 t2 => ⟨v, u, rfl, k v u H2 (s1.trans s2) (t1.s s2) t2⟩
abbrev N_law_right : List Str := ["_law_flow", "_law_sizes", "_law_told_here", "_law_ranks", "_law_row"]
abbrev P_law_right : List Str := ["_law_flow", "_law_sizes"]
theorem sc_law_right : FnScope N_law_right P_law_right (defScope s_law_right) := ⟨rfl, rfl, rfl, by decide +kernel, rfl, by decide +kernel, by decide +kernel⟩
theorem D_law_right (TE : TxE K mg) : DefG P w K mg base CX0 10 ("_law_right", none) P_law_right (Pu 2 fRight) := by
  refine mk_defG TE.toTx 57 d_law_right rfl rfl rfl sc_law_right (fun vs H Q E h => h.1) (fun _ _ _ _ _ _ us hl => match us, hl with | [_, _], _ => rfl) (fun cdv A outer s H vs Q E hr hg h => ?_)
  have T := TE.toTx
  obtain ⟨_, ds, r, hd, ⟨f, b, rfl, hfb, rfl⟩, q⟩ := h
  obtain ⟨x, y, rfl, t1, t2⟩ := hd.two
  have lok := lkOk hfb.1 hfb.2.1 hfb.2.2
  refine ⟨_, (pss_cons (ps_par (i := 2) (j := 3) (by rfl) sc_law_right.nd rfl rfl (by decide) rfl rfl (pa_cons (pe_cd (D_law_told TE) (hr.mono (by decide)) T.g_law_told pass0 (pa_cons (pv 0) (pa_cons (pv 1) pa_nil))) (pa_cons (pe_cd (D_find_ranks T) (hr.mono (by decide)) T.g_find_ranks pass0 (pa_cons (pv 0) (pa_cons (pv 1) pa_nil))) pa_nil)) (by kernel_rfl)) (pss_cons (ps_if (PW.pt (pw_or (pt_cmpR op_notBl (pe_cd (D_ranks_hold T) (hr.mono (by decide)) T.g_ranks_hold pass0 (pa_cons (pv 0) (pa_cons (pv 1) (pa_cons (pv 3) pa_nil)))) pe_bl (nomark _)) (pw_or1 (pt_cmpR op_ne (pe_callB (kcr_repr K hg hr) (by rfl) T.f_repr (by decide +kernel) (pa_cons (pe_cd (D_law_told TE) (hr.mono (by decide)) T.g_law_told pass0 (pa_cons (pv 0) (pa_cons (pv 1) pa_nil))) pa_nil)) (pe_callB (kcr_repr K hg hr) (by rfl) T.f_repr (by decide +kernel) (pa_cons (pv 2) pa_nil)) (nomark _))))) (pss_one (ps_ret pe_bl)) pss_nil) (pss_cons (ps_if (pt_cmpR op_eq (pe_ix (kix_tup K) (pv 3) pe_int (fun _ _ => rfl)) pe_str (nomark _)) (pss_one (ps_ret (pe_and (pe_cmpR op_eq (pe_callB (kcr_repr K hg hr) (by rfl) T.f_repr (by decide +kernel) (pa_cons (pv 2) pa_nil)) (pe_callB (kcr_repr K hg hr) (by rfl) T.f_repr (by decide +kernel) (pa_cons (pe_lst (pa_cons (pe_ix (kix_tup K) (pv 3) pe_int (fun _ _ => rfl)) pa_nil)) pa_nil)) (nomark _)) (pe_one (pe_cd (D_law_is_loop T) (hr.mono (by decide)) T.g_law_is_loop pass0 (pa_cons (pv 0) (pa_cons (pv 1) (pa_cons (pe_ix (kix_tup K) (pv 3) pe_int (fun _ _ => rfl)) pa_nil)))))))) pss_nil) (pss_one (ps_ret (pe_and (pe_cd (D_law_is_chain T) (hr.mono (by decide)) T.g_law_is_chain pass0 (pa_cons (pv 0) (pa_cons (pv 1) (pa_cons (pv 2) pa_nil)))) (pe_one (pe_cmpR op_eq (pe_callB (kcall_len K) (by rfl) T.f_len boot_len (pa_cons (pv 2) pa_nil)) (pe_op op_add (pe_callB (kcr_max K) (by rfl) T.f_max (by decide +kernel) (pa_cons (pe_lc (own := [("_law_row", 4)]) rfl sc_law_right.nd (kpi_tup K (pe_ix (kix_tup K) (pv 3) pe_int (fun _ _ => rfl))) (blkOk_by (N := N_law_right) (sc := defScope s_law_right) (by decide +kernel)) (fun _ _ _ _ _ => (pg_name (i := 4) sc_law_right.nd rfl (by first | exact Or.inl rfl | exact Or.inr rfl))) (fun _ _ _ _ _ => pts_nil) (fun _ _ _ _ _ => (pe_callB (kcr_maxT K (hu9 hr)) (by rfl) T.f_max (by decide +kernel) (pa_cons (pv 4) pa_nil)))) pa_nil)) pe_int) (nomark _))))))))), ?_⟩
  refine q_par (d := toldD f b) (e := frD f b) (dn_call (by walk_at "dn") (by rfl) ⟨f, b, rfl, hfb, rfl⟩) (dn_call (by walk_at "dn") (by rfl) ⟨f, b, rfl, hfb, rfl⟩) fun v u H1 s1 tv tu => ?_
  have t1 := t1.s s1
  have t2 := t2.s s1
  refine q_ifno (DnT.is (b := !decide (true = true) || !decide ((toldD f b).shown = (toldD f b).shown)) (dt_or (dt_test (dn_notBl (dn_call (da_cons (dn_var rfl t1) (da_cons (dn_var rfl t2) (da_cons (dn_var rfl tu) da_nil))) (by rfl) ⟨f, b, rfl, hfb, rfl⟩) dn_bl)) fun _ => dt_test (dn_neS (dn_repr (dn_call (da_cons (dn_var rfl t1) (da_cons (dn_var rfl t2) da_nil)) (by rfl) ⟨f, b, rfl, hfb, rfl⟩) (told_shw hfb) (told_dt f b)) (dn_repr (dn_var rfl tv) (told_shw hfb) (told_dt f b)))) (by simp)) fun H2 s2 => ?_
  have t1 := t1.s s2
  have t2 := t2.s s2
  have tu := tu.s s2
  have tv := tv.s s2
  by_cases he : LF f b = []
  · have ef : frD f b = .tuple [.str "ranks", .tuple ((List.range f.rules.length).map (rowD f b))] := by unfold frD; rw [if_pos he]
    have et : toldD f b = .tuple ((chainL (wds f b) (rby f b)).map dW) := by unfold toldD; rw [if_pos he]; rfl
    rw [ef] at tu
    rw [et] at tv
    refine q_ifno (DnT.is (b := decide (("ranks" : Str) = "loop")) (dt_test (dn_eqS (dn_ixT (dn_var rfl tu) dn_int rfl) dn_str)) (by decide +kernel)) fun H3 s3 => ?_
    have t1 := t1.s s3
    have t2 := t2.s s3
    have tu := tu.s s3
    have tv := tv.s s3
    obtain ⟨h1, h2, h3⟩ := chain_in hfb he
    have hlen := chain_len (ks := wds f b) (lk := rby f b)
    obtain ⟨hm1, hm2⟩ := mx_mem hfb
    have h6 := hfb.1.n6
    have hmx : Dn (tCB (rMax K) (tCons (tLc (iTup K (tOp (rIxT K) (tVar 3) (tC (.int 1)))) (gName 4) tYes (tCB (rMaxT K) (tCons (tVar 4) tNil)) [4]) tNil)) (((L2.start N_law_right [x, y]).set 2 (some v)).set 3 (some u)) H3 (.int (mstF f b)) := by
      refine dn_cb (da_cons (dn_lcm (rowD f b) (List.range f.rules.length) (fun pl => .int (mxR f b pl)) (src_tup (dn_ixT (ds := [.str "ranks", .tuple ((List.range f.rules.length).map (rowD f b))]) (dn_var rfl tu) dn_int rfl)) (by rw [List.length_range]; omega) (fun _ _ => rfl) fun pl hpl m H5 s5 tm => ⟨_, sto_name, rfl, ?_⟩) da_nil) ?_
      · have e1 : rowD f b pl = .tuple (((pts b).map fun p => RV f b ((pl : Int), p)).map .int) := by unfold rowD; rw [List.map_map]; rfl
        rw [e1] at tm
        exact dn_cb (da_cons (dn_var rfl tm) da_nil) (rd_maxT (mxR_mem hfb pl) (mxR_le pl))
      · have e2 : ((List.range f.rules.length).map fun pl => PyData.int (mxR f b pl)) = ((List.range f.rules.length).map (mxR f b)).map .int := by rw [List.map_map]; rfl
        rw [e2]
        exact rd_maxL hm1 hm2
    refine s_ret (d := .bool (true && decide ((((chainL (wds f b) (rby f b)).map dW).length : Int) = mstF f b + 1))) (dn_andV (dn_call (da_cons (dn_var rfl t1) (da_cons (dn_var rfl t2) (da_cons (dn_var rfl tv) da_nil))) (by rfl) ⟨f, b, _, rfl, hfb, h3, h2, h1, ?_, rfl⟩) fun _ => dn_eqI (dn_cb (da_cons (dn_var rfl tv) da_nil) (rd_lenT (K := K))) (dn_add hmx dn_int)) fun v4 H4 s4 t4 => q v4 H4 (((s1.trans s2).trans s3).trans s4) ?_
    · intro k hk
      obtain ⟨a, e1, _, _, e2⟩ := chain_true lok.ne he lok.cl (k + 1) (by omega)
      obtain ⟨a', e3, e4⟩ := e2 k rfl
      exact ⟨a, a', e1, e3, e4⟩
    · have e1 : (((chainL (wds f b) (rby f b)).map dW).length : Int) = mstF f b + 1 := by rw [List.length_map]; exact hlen
      rw [e1] at t4
      simpa using t4
  · have ef : frD f b = .tuple [.str "loop", .tuple ((loopL (wds f b) (rby f b)).map dW)] := by unfold frD; rw [if_neg he]
    have et : toldD f b = .list [.tuple ((loopL (wds f b) (rby f b)).map dW)] := by unfold toldD; rw [if_neg he]; rfl
    rw [ef] at tu
    refine q_ifyes (DnT.is (b := decide (("loop" : Str) = "loop")) (dt_test (dn_eqS (dn_ixT (dn_var rfl tu) dn_int rfl) dn_str)) (by decide +kernel)) fun H3 s3 => ?_
    have t1 := t1.s s3
    have t2 := t2.s s3
    have tu := tu.s s3
    have tv := tv.s s3
    obtain ⟨h1, h2, h3⟩ := loop_true lok.nd lok.cl he
    have hs := told_shw hfb
    rw [et] at hs tv
    refine s_ret (d := .bool (decide ((PyData.list [.tuple ((loopL (wds f b) (rby f b)).map dW)]).shown = (PyData.list [.tuple ((loopL (wds f b) (rby f b)).map dW)]).shown) && true)) (dn_andV (dn_eqS (dn_repr (dn_var rfl tv) hs ⟨_, .inl rfl⟩) (dn_repr (dn_lst (da_cons (dn_ixT (ds := [.str "loop", .tuple ((loopL (wds f b) (rby f b)).map dW)]) (dn_var rfl tu) dn_int rfl) da_nil) (by simp)) hs ⟨_, .inl rfl⟩)) fun _ => dn_call (da_cons (dn_var rfl t1) (da_cons (dn_var rfl t2) (da_cons (dn_ixT (ds := [.str "loop", .tuple ((loopL (wds f b) (rby f b)).map dW)]) (dn_var rfl tu) dn_int rfl) da_nil))) (by rfl) ⟨f, b, _, rfl, hfb, h1, loopL_len hfb he, h2, h3, rfl⟩) fun v4 H4 s4 t4 => q v4 H4 (((s1.trans s2).trans s3).trans s4) (by simpa using t4)
end K32
/-! R15 -/
set_option Elab.async false
set_option linter.all false
set_option maxRecDepth 100000
set_option maxHeartbeats 400000
namespace K32
open PySem PySem.Spec PyProof.Rows L2
local macro_rules | `(tactic| walk_at "dn") => `(tactic| first
  | with_reducible exact dn_int | with_reducible exact dn_str | with_reducible exact dn_bl | with_reducible exact dn_non | with_reducible exact da_nil | with_reducible exact do_none
  | ((with_reducible refine' dn_var ?h ?k); (case h => rfl); (case k => assumption))
  | ((with_reducible refine' da_cons ?_ ?_) <;> try walk_at "dn")
  | ((with_reducible refine' dn_add ?_ ?_) <;> try walk_at "dn")
  | ((with_reducible refine' dn_sub ?_ ?_) <;> try walk_at "dn")
  | ((with_reducible refine' dn_mul ?_ ?_ ?_) <;> try walk_at "dn")
  | ((with_reducible refine' dn_lt ?_ ?_) <;> try walk_at "dn")
  | ((with_reducible refine' dn_le ?_ ?_) <;> try walk_at "dn")
  | ((with_reducible refine' dn_gt ?_ ?_) <;> try walk_at "dn")
  | ((with_reducible refine' dn_ge ?_ ?_) <;> try walk_at "dn")
  | ((with_reducible refine' dn_neg ?_) <;> try walk_at "dn")
  | ((with_reducible refine' dn_chain ?_ ?_ ?_ rd_le rd_le) <;> try walk_at "dn")
  | ((with_reducible refine' dn_chain ?_ ?_ ?_ rd_le rd_lt) <;> try walk_at "dn")
  | ((with_reducible refine' dn_isI ?h ?k); (case h => walk_at "dn"); (case k => first | with_reducible exact kb_int_int | with_reducible exact kb_int_tuple | with_reducible exact kb_int_str | with_reducible exact kb_int_bool))
  | ((with_reducible refine' dn_isT ?h ?k); (case h => walk_at "dn"); (case k => first | with_reducible exact kb_tuple_int | with_reducible exact kb_tuple_tuple | with_reducible exact kb_tuple_str | with_reducible exact kb_tuple_bool))
  | ((with_reducible refine' dn_isS ?h ?k); (case h => walk_at "dn"); (case k => first | with_reducible exact kb_str_int | with_reducible exact kb_str_tuple | with_reducible exact kb_str_str | with_reducible exact kb_str_bool))
  | ((with_reducible refine' dn_isL ?h ?k); (case h => walk_at "dn"); (case k => first | with_reducible exact kb_list_int | with_reducible exact kb_list_tuple | with_reducible exact kb_list_str | with_reducible exact kb_list_bool))
  | ((with_reducible refine' dn_isB ?h ?k); (case h => walk_at "dn"); (case k => first | with_reducible exact kb_bool_int | with_reducible exact kb_bool_tuple | with_reducible exact kb_bool_str | with_reducible exact kb_bool_bool))
  | ((with_reducible refine' dn_ixT ?h ?t ?k); (case h => walk_at "dn"); (case t => walk_at "dn"); try (case k => rfl))
  | ((with_reducible refine' dn_ixL ?h ?t ?k); (case h => walk_at "dn"); (case t => walk_at "dn"); try (case k => rfl))
  | ((with_reducible refine' dn_cb ?h ?k); (case h => walk_at "dn"); try (case k => first | exact rd_lenT | exact rd_lenL | exact rd_tupL | exact rd_lstT | exact rd_lstL | exact rc_all | exact rc_sum | exact rc_max2 | exact rc_min2))
  | ((with_reducible refine' dn_call ?h ?t ?k); (case h => walk_at "dn"); (case t => rfl))
  | ((with_reducible refine' dt_test ?_) <;> try walk_at "dn")
  | ((with_reducible refine' dt_B ?_) <;> try walk_at "dn")
  | ((with_reducible refine' dn_eqI ?h ?k); (case h => walk_at "dn"); (case k => walk_at "dn"))
  | ((with_reducible refine' dn_neI ?h ?k); (case h => walk_at "dn"); (case k => walk_at "dn"))
  | ((with_reducible refine' dn_eqS ?h ?k); (case h => walk_at "dn"); (case k => walk_at "dn"))
  | ((with_reducible refine' dn_neS ?h ?k); (case h => walk_at "dn"); (case k => walk_at "dn"))
  | ((with_reducible refine' dt_or ?_ (fun _ => ?_)) <;> try walk_at "dn")
  | ((with_reducible refine' dt_and ?_ (fun _ => ?_)) <;> try walk_at "dn")
  | ((with_reducible refine' dn_orV ?_ (fun _ => ?_)) <;> try walk_at "dn")
  | ((with_reducible refine' dn_andV ?_ (fun _ => ?_)) <;> try walk_at "dn")
  | ((with_reducible refine' dt_not ?_) <;> try walk_at "dn")
  | ((with_reducible refine' dn_notV ?_) <;> try walk_at "dn")
  | ((with_reducible refine' da_star ?_ ?_) <;> try walk_at "dn")
  | ((with_reducible refine' dn_tup ?_ ?_) <;> try walk_at "dn")
  | ((with_reducible refine' dn_lst ?_ ?_) <;> try walk_at "dn")
  | ((with_reducible refine' do_some ?_) <;> try walk_at "dn"))
variable {P : Program} {w : World} {K : PySem.W.Frag} {mg : Str → Option Value} {base : Heap}
theorem hu1 {k : Nat} {A : Around} (r : Room k A) : A.units + 1 < cLine := by have := r.un; omega
abbrev kG : Key := .inr "great"
abbrev kS : Key := .inr "small"
abbrev kT : Key := .inr "turn"
theorem kGS : ¬ ("great" : Str) = "small" := by decide +kernel
theorem kGT : ¬ ("great" : Str) = "turn" := by decide +kernel
theorem kST : ¬ ("small" : Str) = "turn" := by decide +kernel
abbrev bxL (g sm : Addr) (n : Int) : List (Key × V) := [(kG, .ref g), (kS, .ref sm), (kT, .int n)]
theorem bx_g {g sm : Addr} {n : Int} : valV (bxL g sm n) kG = some (.ref g) := valV_pos rfl
theorem bx_s {g sm : Addr} {n : Int} : valV (bxL g sm n) kS = some (.ref sm) := by simp [valV, kGS]
theorem bx_t {g sm : Addr} {n : Int} : valV (bxL g sm n) kT = some (.int n) := by simp [valV, kGT, kST]
theorem bx_put {g sm : Addr} {n m : Int} : putK (bxL g sm n) kT (.int m) = bxL g sm m := by simp [putK, kGT, kST]
structure BoxAt (H : Hp) (B g sm : Addr) : Prop where
  ex : ∃ (gs ss : List Int) (n : Int), H B = some (.dK (bxL g sm n)) ∧ H g = some (.lst (gs.map V.int)) ∧ H sm = some (.lst (ss.map V.int)) ∧ (∀ x ∈ gs, 0 ≤ x) ∧ (∀ x ∈ ss, 0 ≤ x ∧ x < 10 ^ 18) ∧ ss ≠ [] ∧ ss.length ≤ 1000 ∧ 0 ≤ n
  ne : g ≠ sm
theorem BoxAt.s {H H' : Hp} {B g sm : Addr} (h : BoxAt H B g sm) (s : Same H H') : BoxAt H' B g sm := by
  obtain ⟨gs, ss, n, h1, h2, h3, r⟩ := h.ex
  exact ⟨⟨gs, ss, n, s _ _ h1, s _ _ h2, s _ _ h3, r⟩, h.ne⟩
theorem BoxAt.k {H H' : Hp} {B g sm : Addr} {S : List Addr} (h : BoxAt H B g sm) (k : KX S H H') (h1 : B ∉ S) (h2 : g ∉ S) (h3 : sm ∉ S) : BoxAt H' B g sm := by
  obtain ⟨gs, ss, n, e1, e2, e3, r⟩ := h.ex
  exact ⟨⟨gs, ss, n, k _ _ h1 e1, k _ _ h2 e2, k _ _ h3 e3, r⟩, h.ne⟩
theorem lst_ints {ns : List Int} : SeqAt.shaped (.list (ns.map .int)) = true := shaped_of (by simp [PyData.canLay0, lay_ints]) (by simp [PyData.depth, dep_ints])
theorem eqv_inil (ws : List Int) : PyData.eqv (.list (ws.map .int)) (.list []) = decide (ws = []) := by
  cases ws with
  | nil => rfl
  | cons a l => simp [PyData.eqv, PyData.eqvAll]
theorem TD.ofInts {H : Hp} {a : Addr} {ns : List Int} (h : H a = some (.lst (ns.map V.int))) : TD H (.ref a) (.list (ns.map .int)) := .lst h (TDs.ofInts ns)
theorem rd_int {i : Int} : RDc (fun xs H Q => (∃ i, xs = [V.int i] ∧ Q (.int i) H) ∨ ∃ k, xs = [V.bl k] ∧ Q (.int (if k then 1 else 0)) H) [.int i] (.int i) := fun xs H h Q q => by
  obtain ⟨v, rfl, tv⟩ := h.one
  exact .inl ⟨i, by rw [tv.i], q _ H (Same.refl H) (.int _)⟩
theorem rd_intB {b : Bool} : RDc (fun xs H Q => (∃ i, xs = [V.int i] ∧ Q (.int i) H) ∨ ∃ k, xs = [V.bl k] ∧ Q (.int (if k then 1 else 0)) H) [.bool b] (.int (if b then 1 else 0)) := fun xs H h Q q => by
  obtain ⟨v, rfl, tv⟩ := h.one
  exact .inr ⟨b, by rw [tv.b], q _ H (Same.refl H) (.int _)⟩
theorem atI_lastI {ns : List Int} {x : Int} : L2.atI ((ns ++ [x]).map PyData.int) (-1) = some (.int x) := by
  rw [atI_last (by simp)]
  simp
theorem CDivW_ok {j : Int} (h : 0 < j) (h2 : j < 2 ^ 64) {i : Int} : CDivW i j := by
  refine ⟨h, ?_⟩
  have h0 : j.natAbs ≠ 0 := by omega
  have : j.natAbs.log2 < 64 := (Nat.log2_lt h0).mpr (by omega)
  omega
/-- a draw: one of many, whatever the script; the box stands, the rest is as it was -/
def spDraw : Sp := fun vs H Q _ => vs.length = 2 ∧ ∃ (B g sm : Addr) (m : Int), vs = [.ref B, .int m] ∧ 1 ≤ m ∧ m ≤ 1000 ∧ BoxAt H B g sm ∧ ∀ (n : Int) (H' : Hp), 0 ≤ n → n < m → KX [B, g] H H' → BoxAt H' B g sm → Q (.int n) H'
abbrev N_law_draw : List Str := ["_law_box_here", "_law_many", "_law_great", "_law_cell", "_law_mixed", "_law_digit"]
abbrev P_law_draw : List Str := ["_law_box_here", "_law_many"]
theorem sc_law_draw : FnScope N_law_draw P_law_draw (defScope s_law_draw) := ⟨rfl, rfl, rfl, by decide +kernel, rfl, by decide +kernel, by decide +kernel⟩
theorem D_law_draw (T : Tx K mg) : DefP P w K mg base CX0 1 ("_law_draw", none) P_law_draw spDraw := by
  refine mk_def T 43 d_law_draw rfl rfl rfl sc_law_draw (fun vs H Q E h => h.1) (fun _ _ _ _ _ _ us hl => match us, hl with | [_, _], _ => rfl) (fun cdv A outer s H vs Q E hr h => ?_)
  obtain ⟨_, B, g, sm, m, rfl, hm1, hm2, hbx, q⟩ := h
  obtain ⟨gs0, ss, n0, hB, hg, hsm, hgs, hss, hsne, hsl, hn0⟩ := hbx.ex
  have hgs' := hbx.ne
  have hBg : B ≠ g := fun e => by rw [e, hg] at hB; cases hB
  have hBs : B ≠ sm := fun e => by rw [e, hsm] at hB; cases hB
  refine ⟨_, (pss_cons (ps_set (i := 2) sc_law_draw.nd rfl (by first | exact Or.inl rfl | exact Or.inr rfl) (pe_dget (hu1 hr) (pv 0) pe_str (fun _ _ => rfl))) (pss_cons (ps_while PassesOwn.never (pt_cmpR (kop_neD K hr.units) (pv 2) (pe_lst pa_nil) (nomark _)) (pss_cons (ps_if (pt_cmpR op_gt (pe_ix (kix_list K) (pv 2) (pe_un un_neg pe_int) (fun _ _ => rfl)) pe_int (nomark _)) (pss_cons (ps_set (i := 5) sc_law_draw.nd rfl (by first | exact Or.inl rfl | exact Or.inr rfl) (pe_op op_mod (pe_callTy call_int1 (by rfl) T.f_int (by decide +kernel) (pa_cons (pe_ix (kix_list K) (pv 2) (pe_un un_neg pe_int) (fun _ _ => rfl)) pa_nil)) (pv 1))) (pss_cons (ps_asg (pe_op op_fdivW (pe_callTy call_int1 (by rfl) T.f_int (by decide +kernel) (pa_cons (pe_ix (kix_list K) (pv 2) (pe_un un_neg pe_int) (fun _ _ => rfl)) pa_nil)) (pv 1)) (pg_sub (pv 2) (pe_un un_neg pe_int) set_list)) (pss_one (ps_ret (pv 5))))) pss_nil) (pss_one (ps_expr (pe_bm0 PySem.F.plainAttrs_list PySem.F.slot_list_pop PySem.F.type_list_pop mt_pop (pv 2)))))) (pss_cons (ps_dput (hu1 hr) (pv 0) pe_str (pe_op op_add (pe_dget (hu1 hr) (pv 0) pe_str (fun _ _ => rfl)) pe_int) rfl) (pss_cons (ps_set (i := 3) sc_law_draw.nd rfl (by first | exact Or.inl rfl | exact Or.inr rfl) (pe_ix (kix_list K) (pe_dget (hu1 hr) (pv 0) pe_str (fun _ _ => rfl)) (pe_op op_mod (pe_callTy call_int1 (by rfl) T.f_int (by decide +kernel) (pa_cons (pe_dget (hu1 hr) (pv 0) pe_str (fun _ _ => rfl)) pa_nil)) (pe_callB (kcall_len K) (by rfl) T.f_len boot_len (pa_cons (pe_dget (hu1 hr) (pv 0) pe_str (fun _ _ => rfl)) pa_nil))) (fun _ _ => rfl))) (pss_cons (ps_set (i := 4) sc_law_draw.nd rfl (by first | exact Or.inl rfl | exact Or.inr rfl) (pe_op op_add (pe_op op_mul (pv 3) pe_int) (pe_op op_mul (pe_dget (hu1 hr) (pv 0) pe_str (fun _ _ => rfl)) pe_int))) (pss_cons (ps_set (i := 4) sc_law_draw.nd rfl (by first | exact Or.inl rfl | exact Or.inr rfl) (pe_op op_mod (pe_callTy call_int1 (by rfl) T.f_int (by decide +kernel) (pa_cons (pv 4) pa_nil)) pe_int)) (pss_cons (ps_set (i := 4) sc_law_draw.nd rfl (by first | exact Or.inl rfl | exact Or.inr rfl) (pe_op op_mod (pe_callTy call_int1 (by rfl) T.f_int (by decide +kernel) (pa_cons (pe_op op_mul (pv 4) (pe_op op_add (pe_op op_fdivW (pv 4) pe_int) pe_int)) pa_nil)) pe_int)) (pss_one (ps_ret (pe_op op_mod (pe_callTy call_int1 (by rfl) T.f_int (by decide +kernel) (pa_cons (pe_op op_fdivW (pv 4) pe_int) pa_nil)) (pv 1))))))))))), ?_⟩
  refine q_asg ⟨.ref B, rfl, B, .ref g, rfl, .inl ⟨_, kG, .inl hB, rfl, bx_g.symm⟩, ?_⟩
  refine q_seq (s_while (fun k σ' H' => ∃ gs, σ' = [some (.ref B), some (.int m), some (.ref g), none, none, none] ∧ k = gs.length ∧ KX [g] H H' ∧ H' g = some (.lst (gs.map V.int)) ∧ ∀ x ∈ gs, 0 ≤ x) (m0 := gs0.length) ⟨gs0, rfl, rfl, KX.of (Same.refl H), hg, hgs⟩ ?_)
  rintro k σ' H' ⟨gs, rfl, rfl, kx, hg', hpos⟩
  have tg : TD H' (.ref g) (.list (gs.map .int)) := TD.ofInts hg'
  refine ⟨!decide (gs = []), ?_, ?_, ?_⟩
  · have h1 := dn_neD (K := K) (σ := [some (V.ref B), some (V.int m), some (V.ref g), none, none, none]) (ta := tVar 2) (tb := tLst tNil) (dn_var rfl tg) (dn_lst da_nil (by decide)) lst_ints (lst_ints (ns := []))
    have e : PyData.eqv (.list (gs.map .int)) (.list []) = decide (gs = []) := eqv_inil gs
    rw [e] at h1
    exact dt_test h1
  · intro hb H1 s1 N hN
    have hne : gs ≠ [] := by simpa using hb
    obtain ⟨gs', x, rfl⟩ : ∃ gs' x, gs = gs' ++ [x] := ⟨gs.dropLast, gs.getLast hne, (List.dropLast_concat_getLast hne).symm⟩
    have hg1 := s1 _ _ hg'
    have kx1 : KX [g] H H1 := kx.step s1
    have tg := tg.s s1
    have hx0 := hpos x (List.mem_append_right _ (List.mem_singleton.mpr rfl))
    have hla : ∀ {σ : L2.St} {H2 : Hp}, σ[2]? = some (some (V.ref g)) → Same H1 H2 → Dn (tOp (rIxL K) (tVar 2) (tUn (rU fun i => .int (-i)) (tC (.int 1)))) σ H2 (.int x) := fun h2 s2 => dn_ixL (dn_var h2 (tg.s s2)) (dn_neg dn_int) atI_lastI
    refine q_if0 (b := decide (0 < x)) (dt_test (dn_gt (hla rfl (Same.refl H1)) dn_int)) ?_ ?_
    · intro hx H2 s2
      have hx : 0 < x := by simpa using hx
      refine q_set (dn_op (dn_cb (da_cons (hla rfl s2) da_nil) rd_int) (dn_var (i := 1) rfl (.int m)) (rd_I (show 0 < m by omega) fun _ => .int _)) fun vd H3 s3 td => ?_
      have td' := td.i
      subst td'
      refine q_seq ((dn_op (dn_cb (da_cons (hla rfl (s2.trans s3)) da_nil) rd_int) (dn_var (i := 1) rfl (.int m)) (rd_I (CDivW_ok (by omega) (by omega)) fun _ => .int _)).go fun vq H4 s4 tq => ?_)
      have tq' := tq.i
      subst tq'
      have s14 := (s2.trans s3).trans s4
      have hg4 := s14 _ _ hg1
      refine ⟨.ref g, rfl, ?_⟩
      refine ⟨1, rfl, g, _, -1, gs'.length, rfl, rfl, hg4, ?_, ?_⟩
      · rw [List.length_map, List.length_append, List.length_singleton]
        unfold L2.ixN
        rw [if_neg (by omega), if_pos (by omega)]
        congr 1
        omega
      · have e : ((gs' ++ [x]).map V.int).set gs'.length (.int (x / m)) = (gs' ++ [x / m]).map V.int := by
          rw [← List.map_set, List.set_append_right _ _ (Nat.le_refl _)]
          simp
        rw [e]
        refine ⟨.int (x % m), rfl, q (x % m) _ (Int.emod_nonneg _ (by omega)) (Int.emod_lt_of_pos _ (by omega)) ?_ ⟨⟨gs' ++ [x / m], ss, n0, ?_, upd_same, ?_, ?_, hss, hsne, hsl, hn0⟩, hbx.ne⟩⟩
        · have k4 : KX [g] H (upd H4 g (.lst ((gs' ++ [x / m]).map V.int))) := (kx1.step s14).mut (List.mem_singleton.mpr rfl)
          intro b u hb hu
          exact k4 b u (by simp at hb; simp [hb]) hu
        · rw [upd_ne hBg]
          exact s14 _ _ (kx1 B _ (by simpa using hBg) hB)
        · rw [upd_ne (Ne.symm hgs')]
          exact s14 _ _ (kx1 sm _ (by simpa using Ne.symm hgs') hsm)
        · intro y hy
          rcases List.mem_append.mp hy with hy | hy
          · exact hpos y (List.mem_append_left _ hy)
          · rw [List.mem_singleton.mp hy]
            exact Int.ediv_nonneg hx0 (by omega)
    · intro hx H2 s2
      refine ⟨.ref g, rfl, .inl ⟨rfl, _, SqL.of (s2 _ _ hg1)⟩, g, (gs' ++ [x]).map V.int, .int x, rfl, rfl, s2 _ _ hg1, by simp, ?_⟩
      have e : ((gs' ++ [x]).map V.int).dropLast = gs'.map V.int := by rw [List.map_append]; simp
      rw [e]
      refine hN gs'.length _ _ (by simp) ⟨gs', rfl, rfl, (kx1.step s2).mut (List.mem_singleton.mpr rfl), upd_same, fun y hy => hpos y (List.mem_append_left _ hy)⟩
  · intro hb H1 s1
    have hgn : gs = [] := by simpa using hb
    subst hgn
    have kx1 : KX [g] H H1 := kx.step s1
    have hB1 : H1 B = some (.dK (bxL g sm n0)) := kx1 B _ (by simpa using hBg) hB
    have hs1 := kx1 sm _ (by simpa using Ne.symm hgs') hsm
    have hg1 := s1 _ _ hg'
    -- turn
    refine q_seq ⟨.ref B, rfl, B, .int n0, rfl, .inl ⟨_, kT, .inl hB1, rfl, bx_t.symm⟩, n0, 1, rfl, rfl, .ref B, rfl, B, _, rfl, .inl ⟨_, kT, hB1, rfl, by simp [sizeLine_eq], rfl⟩, ?_⟩
    rw [bx_put]
    generalize hH2 : upd H1 B (.dK (bxL g sm (n0 + 1))) = H2
    have hB2 : H2 B = some (.dK (bxL g sm (n0 + 1))) := by rw [← hH2]; exact upd_same
    have hs2 : H2 sm = some (.lst (ss.map V.int)) := by rw [← hH2, upd_ne (Ne.symm hBs)]; exact hs1
    have hg2 : H2 g = some (.lst (([] : List Int).map V.int)) := by rw [← hH2, upd_ne (Ne.symm hBg)]; exact hg1
    have k2 : KX [B, g] H H2 := by
      intro b u hb hu
      simp at hb
      rw [← hH2, upd_ne hb.1]
      exact kx1 b u (by simpa using hb.2) hu
    have dT : ∀ {σ : L2.St} {H3 : Hp}, σ[0]? = some (some (V.ref B)) → Same H2 H3 → Dn (tDGet (tVar 0) (tC (.str "turn"))) σ H3 (.int (n0 + 1)) := fun h s3 H4 s4 Q q => ⟨.ref B, h, B, .int (n0 + 1), rfl, .inl ⟨_, kT, .inl (s4 _ _ (s3 _ _ hB2)), rfl, bx_t.symm⟩, q _ H4 (Same.refl H4) (.int _)⟩
    have dS : ∀ {σ : L2.St} {H3 : Hp}, σ[0]? = some (some (V.ref B)) → Same H2 H3 → Dn (tDGet (tVar 0) (tC (.str "small"))) σ H3 (.list (ss.map .int)) := fun h s3 H4 s4 Q q => ⟨.ref B, h, B, .ref sm, rfl, .inl ⟨_, kS, .inl (s4 _ _ (s3 _ _ hB2)), rfl, bx_s.symm⟩, q _ H4 (Same.refl H4) (TD.ofInts (s4 _ _ (s3 _ _ hs2)))⟩
    have hspos : 0 < ss.length := List.length_pos_iff.mpr hsne
    have hmod : 0 ≤ (n0 + 1) % (((ss.map PyData.int).length : Nat) : Int) ∧ (n0 + 1) % (((ss.map PyData.int).length : Nat) : Int) < (ss.length : Int) := by
      rw [List.length_map]
      exact ⟨Int.emod_nonneg _ (by omega), Int.emod_lt_of_pos _ (by omega)⟩
    obtain ⟨c, hc, hcm⟩ : ∃ c, L2.atI (ss.map PyData.int) ((n0 + 1) % (((ss.map PyData.int).length : Nat) : Int)) = some (.int c) ∧ c ∈ ss := by
      obtain ⟨j, hj⟩ := Int.eq_ofNat_of_zero_le hmod.1
      rw [hj, atI_nat]
      have hlt : j < ss.length := by omega
      exact ⟨ss[j], by simp [hlt], List.getElem_mem hlt⟩
    obtain ⟨hc0, hc1⟩ := hss c hcm
    refine q_set (d := .int c) (dn_ixL (dS rfl (Same.refl H2)) (dn_op (dn_cb (da_cons (dT rfl (Same.refl H2)) da_nil) rd_int) (dn_cb (da_cons (dS rfl (Same.refl H2)) da_nil) (rd_lenL (K := K))) (rd_I (show (0 : Int) < (((ss.map PyData.int).length : Nat) : Int) by rw [List.length_map]; omega) fun _ => .int _)) hc) fun vc H3 s3 tc => ?_
    have tc' := tc.i
    subst tc'
    refine q_set (dn_add (dn_mul (dn_var (i := 3) rfl (.int c)) dn_int (.inl (by omega))) (dn_mul (dT rfl s3) dn_int (.inr (by decide)))) fun vm H4 s4 tm => ?_
    have tm' := tm.i
    subst tm'
    generalize c * 6364136223846793005 + (n0 + 1) * 1442695040888963407 = mx
    refine q_set (dn_op (dn_cb (da_cons (dn_var (i := 4) rfl (.int mx)) da_nil) rd_int) dn_int (rd_I (show (0 : Int) < 18446744073709551557 by decide) fun _ => .int _)) fun vm2 H5 s5 tm2 => ?_
    have tm2' := tm2.i
    subst tm2'
    have hy0 : 0 ≤ mx % 18446744073709551557 := Int.emod_nonneg _ (by decide)
    have hy1 : mx % 18446744073709551557 < 18446744073709551557 := Int.emod_lt_of_pos _ (by decide)
    generalize mx % 18446744073709551557 = y at hy0 hy1
    refine q_set (dn_op (dn_cb (da_cons (dn_mul (dn_var (i := 4) rfl (.int y)) (dn_add (dn_op (dn_var (i := 4) rfl (.int y)) dn_int (rd_I (CDivW_ok (show (0 : Int) < 4294967296 by decide) (by decide)) fun _ => .int _)) dn_int) (.inl ⟨by omega, by omega⟩)) da_nil) rd_int) dn_int (rd_I (show (0 : Int) < 18446744073709551557 by decide) fun _ => .int _)) fun vm3 H6 s6 tm3 => ?_
    have tm3' := tm3.i
    subst tm3'
    generalize y * (y / 4294967296 + 17) % 18446744073709551557 = zz
    refine s_ret (dn_op (dn_cb (da_cons (dn_op (dn_var (i := 4) rfl (.int zz)) dn_int (rd_I (CDivW_ok (show (0 : Int) < 65536 by decide) (by decide)) fun _ => .int _)) da_nil) rd_int) (dn_var (i := 1) rfl (.int m)) (rd_I (show 0 < m by omega) fun _ => .int _)) fun vr H7 s7 tr => ?_
    rw [tr.i]
    have s27 := (((s3.trans s4).trans s5).trans s6).trans s7
    exact q _ H7 (Int.emod_nonneg _ (by omega)) (Int.emod_lt_of_pos _ (by omega)) (k2.step s27) ⟨⟨[], ss, n0 + 1, s27 _ _ hB2, s27 _ _ hg2, s27 _ _ hs2, (fun _ h => nomatch h), hss, hsne, hsl, by omega⟩, hbx.ne⟩
end K32
/-! R16 -/
set_option Elab.async false
set_option linter.all false
set_option maxRecDepth 100000
set_option maxHeartbeats 400000
namespace K32
open PySem PySem.Spec PyProof.Rows L2
local macro_rules | `(tactic| walk_at "dn") => `(tactic| first
  | with_reducible exact dn_int | with_reducible exact dn_str | with_reducible exact dn_bl | with_reducible exact dn_non | with_reducible exact da_nil | with_reducible exact do_none
  | ((with_reducible refine' dn_var ?h ?k); (case h => rfl); (case k => assumption))
  | ((with_reducible refine' da_cons ?_ ?_) <;> try walk_at "dn")
  | ((with_reducible refine' dn_add ?_ ?_) <;> try walk_at "dn")
  | ((with_reducible refine' dn_sub ?_ ?_) <;> try walk_at "dn")
  | ((with_reducible refine' dn_mul ?_ ?_ ?_) <;> try walk_at "dn")
  | ((with_reducible refine' dn_lt ?_ ?_) <;> try walk_at "dn")
  | ((with_reducible refine' dn_le ?_ ?_) <;> try walk_at "dn")
  | ((with_reducible refine' dn_gt ?_ ?_) <;> try walk_at "dn")
  | ((with_reducible refine' dn_ge ?_ ?_) <;> try walk_at "dn")
  | ((with_reducible refine' dn_neg ?_) <;> try walk_at "dn")
  | ((with_reducible refine' dn_chain ?_ ?_ ?_ rd_le rd_le) <;> try walk_at "dn")
  | ((with_reducible refine' dn_chain ?_ ?_ ?_ rd_le rd_lt) <;> try walk_at "dn")
  | ((with_reducible refine' dn_isI ?h ?k); (case h => walk_at "dn"); (case k => first | with_reducible exact kb_int_int | with_reducible exact kb_int_tuple | with_reducible exact kb_int_str | with_reducible exact kb_int_bool))
  | ((with_reducible refine' dn_isT ?h ?k); (case h => walk_at "dn"); (case k => first | with_reducible exact kb_tuple_int | with_reducible exact kb_tuple_tuple | with_reducible exact kb_tuple_str | with_reducible exact kb_tuple_bool))
  | ((with_reducible refine' dn_isS ?h ?k); (case h => walk_at "dn"); (case k => first | with_reducible exact kb_str_int | with_reducible exact kb_str_tuple | with_reducible exact kb_str_str | with_reducible exact kb_str_bool))
  | ((with_reducible refine' dn_isL ?h ?k); (case h => walk_at "dn"); (case k => first | with_reducible exact kb_list_int | with_reducible exact kb_list_tuple | with_reducible exact kb_list_str | with_reducible exact kb_list_bool))
  | ((with_reducible refine' dn_isB ?h ?k); (case h => walk_at "dn"); (case k => first | with_reducible exact kb_bool_int | with_reducible exact kb_bool_tuple | with_reducible exact kb_bool_str | with_reducible exact kb_bool_bool))
  | ((with_reducible refine' dn_ixT ?h ?t ?k); (case h => walk_at "dn"); (case t => walk_at "dn"); try (case k => rfl))
  | ((with_reducible refine' dn_ixL ?h ?t ?k); (case h => walk_at "dn"); (case t => walk_at "dn"); try (case k => rfl))
  | ((with_reducible refine' dn_cb ?h ?k); (case h => walk_at "dn"); try (case k => first | exact rd_lenT | exact rd_lenL | exact rd_tupL | exact rd_lstT | exact rd_lstL | exact rc_all | exact rc_sum | exact rc_max2 | exact rc_min2))
  | ((with_reducible refine' dn_call ?h ?t ?k); (case h => walk_at "dn"); (case t => rfl))
  | ((with_reducible refine' dt_test ?_) <;> try walk_at "dn")
  | ((with_reducible refine' dt_B ?_) <;> try walk_at "dn")
  | ((with_reducible refine' dn_eqI ?h ?k); (case h => walk_at "dn"); (case k => walk_at "dn"))
  | ((with_reducible refine' dn_neI ?h ?k); (case h => walk_at "dn"); (case k => walk_at "dn"))
  | ((with_reducible refine' dn_eqS ?h ?k); (case h => walk_at "dn"); (case k => walk_at "dn"))
  | ((with_reducible refine' dn_neS ?h ?k); (case h => walk_at "dn"); (case k => walk_at "dn"))
  | ((with_reducible refine' dt_or ?_ (fun _ => ?_)) <;> try walk_at "dn")
  | ((with_reducible refine' dt_and ?_ (fun _ => ?_)) <;> try walk_at "dn")
  | ((with_reducible refine' dn_orV ?_ (fun _ => ?_)) <;> try walk_at "dn")
  | ((with_reducible refine' dn_andV ?_ (fun _ => ?_)) <;> try walk_at "dn")
  | ((with_reducible refine' dt_not ?_) <;> try walk_at "dn")
  | ((with_reducible refine' dn_notV ?_) <;> try walk_at "dn")
  | ((with_reducible refine' da_star ?_ ?_) <;> try walk_at "dn")
  | ((with_reducible refine' dn_tup ?_ ?_) <;> try walk_at "dn")
  | ((with_reducible refine' dn_lst ?_ ?_) <;> try walk_at "dn")
  | ((with_reducible refine' do_some ?_) <;> try walk_at "dn"))
variable {P : Program} {w : World} {K : PySem.W.Frag} {mg : Str → Option Value} {base : Heap}
theorem BoxAt.isB {H : Hp} {B g sm : Addr} (h : BoxAt H B g sm) : (∃ kvs, H B = some (.dK kvs)) ∧ (∃ us, H g = some (.lst us)) ∧ ∃ us, H sm = some (.lst us) :=
  let ⟨gs, ss, n, h1, h2, h3, _⟩ := h.ex; ⟨⟨_, h1⟩, ⟨_, h2⟩, ⟨_, h3⟩⟩
theorem KX.ktB {H H' : Hp} {B g sm : Addr} (k : KX [B, g] H H') (h : BoxAt H B g sm) : KT H H' := fun a xs ha => by
  obtain ⟨⟨_, h1⟩, ⟨_, h2⟩, _⟩ := h.isB
  refine k a _ ?_ ha
  simp only [List.mem_cons, List.not_mem_nil, or_false, not_or]
  exact ⟨fun e => (by rw [e, h1] at ha; cases ha), fun e => by rw [e, h2] at ha; cases ha⟩
theorem KX.lst {H H' H0 : Hp} {B g : Addr} {p : Addr} {u : HO} (k : KX [B, g] H H') (h : p ≠ B ∧ p ≠ g) (hp : H p = some u) : H' p = some u := k p u (by simp [h.1, h.2]) hp
/-- gives one of S, drawing -/
def Dw (B g sm : Addr) (te : TE) (σ : L2.St) (H : Hp) (S : Dt → Prop) : Prop := ∀ Q : VK, (∀ v d H2, S d → flat d = true → KX [B, g] H H2 → BoxAt H2 B g sm → TD H2 v d → Q v H2) → te σ H Q
section
variable {B g sm : Addr} {σ : L2.St} {H : Hp} {te tm : TE} {d : Dt}
theorem dw_dn (h : Dn te σ H d) (hb : BoxAt H B g sm) (hf : flat d = true) : Dw B g sm te σ H (fun z => z = d) := fun Q q => h.go fun v H2 s2 t2 => q v d H2 rfl hf (KX.of s2) (hb.s s2) t2
theorem Dw.imp {S S' : Dt → Prop} (h : Dw B g sm te σ H S) (i : ∀ d, S d → S' d) : Dw B g sm te σ H S' := fun Q q => h Q fun v d H2 hs => q v d H2 (i d hs)
theorem dw_draw {i : Nat} {m : Int} (hv : σ[i]? = some (some (.ref B))) (hm : Dn tm σ H (.int m)) (hb : BoxAt H B g sm) (h1 : 1 ≤ m) (h2 : m ≤ 1000) :
    Dw B g sm (tCall spDraw [] E0 (tCons (tVar i) (tCons tm tNil))) σ H (fun z => ∃ n, z = .int n ∧ 0 ≤ n ∧ n < m) := fun Q q => ⟨.ref B, hv, hm.go fun v H1 s1 t1 => ⟨rfl, B, g, sm, m, by rw [t1.i]; rfl, h1, h2, hb.s s1, fun n H' a b k bx => q _ (.int n) H' ⟨n, rfl, a, b⟩ rfl ((KX.of s1).trans k) bx (.int n)⟩⟩
/-- a comprehension over a range, each item drawn -/
theorem dw_lcr {i : Nat} {ta : TA} {n : Nat} {vs : List Nat} {S : Dt → Prop} (hn : DnA ta σ H [.int (n : Int)]) (hl : n ≤ 1000) (hb : BoxAt H B g sm) (hvs : wipe ((wipe σ vs).set i (some (.int 0))) vs = wipe σ vs)
    (hw : ∀ v, wipe ((wipe σ vs).set i (some v)) vs = wipe σ vs)
    (turn : ∀ (k : Nat) (H1 : Hp), k < n → KX [B, g] H H1 → BoxAt H1 B g sm → Dw B g sm te ((wipe σ vs).set i (some (.int (k : Int)))) H1 S) {Q : VK}
    (q : ∀ p us ds H2, H p = none → KX [B, g] H H2 → BoxAt H2 B g sm → H2 p = some (.lst us) → TDs H2 us ds → ds.length = n → (∀ d ∈ ds, S d) → flats ds = true → Q (.ref p) H2) : tLc (iRng1 ta) (gName i) tYes te vs σ H Q :=
  hn.go fun ws H1 s1 t1 => by
    obtain ⟨v, rfl, tv⟩ := t1.one
    refine ⟨(n : Int), by rw [tv.i], by omega, by omega, fun D hD => ?_⟩
    have hB1 := hb.s s1
    obtain ⟨⟨_, i1⟩, ⟨_, i2⟩, ⟨_, i3⟩⟩ := hB1.isB
    have nD : D ≠ B ∧ D ≠ g ∧ D ≠ sm := ⟨fun e => (by rw [e, i1] at hD; cases hD), fun e => (by rw [e, i2] at hD; cases hD), fun e => by rw [e, i3] at hD; cases hD⟩
    have wk := walk_range (lo := 0) (n := n)
    rw [Int.toNat_natCast]
    refine lc_it wk (fun k H' => ∃ us ds, H' D = some (.lst us) ∧ TDs H' us ds ∧ ds.length = k ∧ (∀ d ∈ ds, S d) ∧ flats ds = true ∧ KX [B, g] H1 H' ∧ BoxAt H' B g sm) ⟨[], [], upd_same, .nil, rfl, (fun _ h => nomatch h), rfl, (KX.of (Same.refl H1)).new hD, hB1.k ((KX.of (Same.refl H1)).mut (List.mem_singleton.mpr rfl) : KX [D] H1 _) (by simpa using nD.1.symm) (by simpa using nD.2.1.symm) (by simpa using nD.2.2.symm)⟩ (fun _ _ _ _ => trivial) ?_ ?_
    · rintro k x Ha Hb hk ⟨us, ds, h1, h2, h3, h4, h5, h6, h7⟩ ⟨rfl, rfl⟩
      show _ ∧ _
      have e0 : (fun i : Nat => V.int (0 + (i : Int))) k = V.int (k : Int) := by
        show V.int (0 + (k : Int)) = _
        rw [Int.zero_add]
      rw [e0]
      refine ⟨hw _, ?_⟩
      show te _ Hb _
      refine turn k Hb hk ((KX.of s1).trans h6) h7 _ fun v d H2 hS hf k2 b2 t2 => ⟨us, k2 D _ (by simp [nD.1, nD.2.1]) h1, szl (by rw [h2.len]; omega), ?_⟩
      have hD2 := k2 D _ (by simp [nD.1, nD.2.1]) h1
      have kt3 : KT H2 (upd H2 D (.lst (us ++ [v]))) := KT.mut hD2 (fun _ z => nomatch z)
      refine ⟨us ++ [v], ds ++ [d], upd_same, (((h2.k (k2.ktB h7) h5).k kt3 h5)).snoc (t2.k kt3 hf), by rw [List.length_append, h3]; rfl, ?_, ?_, ?_, ?_⟩
      · intro d' hd'
        rcases List.mem_append.mp hd' with hd' | hd'
        · exact h4 d' hd'
        · rw [List.mem_singleton.mp hd']; exact hS
      · rw [flats_all, List.all_append, ← flats_all, h5]
        simp [hf]
      · exact (h6.trans k2).new hD
      · exact b2.k ((KX.of (Same.refl H2)).mut (List.mem_singleton.mpr rfl) : KX [D] H2 _) (by simpa using nD.1.symm) (by simpa using nD.2.1.symm) (by simpa using nD.2.2.symm)
    · rintro H' ⟨us, ds, h1, h2, h3, h4, h5, h6, h7⟩
      exact q D us ds H' (Same.none s1 hD) ((KX.of s1).trans h6) h7 h1 h2 h3 h4 h5
/-- tuple of such a list -/
theorem dw_tuple {tl : TE} {S : Dt → Prop} (h : ∀ Q : VK, (∀ p us ds H2, H p = none → KX [B, g] H H2 → BoxAt H2 B g sm → H2 p = some (.lst us) → TDs H2 us ds → S (.tuple ds) → flats ds = true → Q (.ref p) H2) → tl σ H Q) : Dw B g sm (tCB (rTuple K) (tCons tl tNil)) σ H S := fun Q q =>
  h _ fun p us ds H2 hp k b e t s f => ⟨p, us, rfl, .inl ⟨SqL.of e, fun l hl => q _ (.tuple ds) _ s f (k.new (by
    cases e2 : H l with
    | none => rfl
    | some u =>
      by_cases hB : l = B
      · obtain ⟨⟨_, i1⟩, _⟩ := b.isB
        rw [hB, i1] at hl; cases hl
      · by_cases hg : l = g
        · obtain ⟨_, ⟨_, i1⟩, _⟩ := b.isB
          rw [hg, i1] at hl; cases hl
        · rw [k l u (by simp [hB, hg]) e2] at hl; cases hl)) (b.s (Same.new hl)) (.tup upd_same (t.s (Same.new hl)))⟩⟩
end
theorem ints_of {ds : List Dt} {Pn : Int → Prop} (h : ∀ d ∈ ds, ∃ n, d = .int n ∧ Pn n) : ∃ ns : List Int, ds = ns.map .int ∧ ∀ n ∈ ns, Pn n := by
  induction ds with
  | nil => exact ⟨[], rfl, fun _ h => nomatch h⟩
  | cons d ds ih =>
    obtain ⟨ns, rfl, h2⟩ := ih fun d hd => h d (List.mem_cons_of_mem _ hd)
    obtain ⟨n, rfl, hn⟩ := h d (List.mem_cons_self ..)
    refine ⟨n :: ns, rfl, fun m hm => ?_⟩
    rcases List.mem_cons.mp hm with rfl | hm
    · exact hn
    · exact h2 m hm
/-- a def that draws -/
def spDw (n : Nat) (f : List Dt → (Dt → Prop) → Prop) : Sp := fun vs H Q _ => vs.length = n + 1 ∧ ∃ (B g sm : Addr) (ws : List V) (ds : List Dt) (S : Dt → Prop), vs = .ref B :: ws ∧ BoxAt H B g sm ∧ TDs H ws ds ∧ f ds S ∧ ∀ v d H', S d → flat d = true → KX [B, g] H H' → BoxAt H' B g sm → TD H' v d → Q v H'
theorem dw_call {B g sm : Addr} {σ : L2.St} {H : Hp} {n i : Nat} {f : List Dt → (Dt → Prop) → Prop} {ta : TA} {ds : List Dt} {S : Dt → Prop} (hv : σ[i]? = some (some (.ref B))) (ha : DnA ta σ H ds) (hb : BoxAt H B g sm) (hn : ds.length = n) (hf : f ds S) :
    Dw B g sm (tCall (spDw n f) [] E0 (tCons (tVar i) ta)) σ H S := fun Q q => ⟨.ref B, hv, ha.go fun vs H1 s1 t1 => ⟨by rw [List.append_nil, List.length_cons, t1.len, hn], B, g, sm, vs, ds, S, by rw [List.append_nil], hb.s s1, t1, hf, fun v d H' hs hf k b t => q v d H' hs hf ((KX.of s1).trans k) b t⟩⟩
def vecIs (n : Nat) (m : Int) (d : Dt) : Prop := ∃ x : Vec, d = dV x ∧ x.length = n ∧ ∀ y ∈ x, -m ≤ y ∧ y ≤ m
def fVector (ds : List Dt) (S : Dt → Prop) : Prop := ∃ (n : Nat) (m : Int), ds = [.int (n : Int), .int m] ∧ n ≤ 3 ∧ 0 ≤ m ∧ m ≤ 100 ∧ S = vecIs n m
abbrev N_law_vector : List Str := ["_law_box_here", "_law_dims", "_law_most", "_law_k"]
abbrev P_law_vector : List Str := ["_law_box_here", "_law_dims", "_law_most"]
theorem sc_law_vector : FnScope N_law_vector P_law_vector (defScope s_law_vector) := ⟨rfl, rfl, rfl, by decide +kernel, rfl, by decide +kernel, by decide +kernel⟩
theorem D_law_vector (T : Tx K mg) : DefP P w K mg base CX0 2 ("_law_vector", none) P_law_vector (spDw 2 fVector) := by
  refine mk_def T 47 d_law_vector rfl rfl rfl sc_law_vector (fun vs H Q E h => h.1) (fun _ _ _ _ _ _ us hl => match us, hl with | [_, _, _], _ => rfl) (fun cdv A outer s H vs Q E hr h => ?_)
  obtain ⟨_, B, g, sm, ws, ds, S, rfl, hb, hd, ⟨n, m, rfl, hn, hm0, hm1, rfl⟩, q⟩ := h
  obtain ⟨y, z, rfl, t1, t2⟩ := hd.two
  refine ⟨_, (pss_one (ps_ret (pe_callTy (kcall_tuple K) (by rfl) T.f_tuple (by decide +kernel) (pa_cons (pe_lc (own := [("_law_k", 3)]) rfl sc_law_vector.nd (pi_range1 rfl T.f_range (pa_cons (pv 1) pa_nil)) (blkOk_by (N := N_law_vector) (sc := defScope s_law_vector) (by decide +kernel)) (fun _ _ _ _ _ => (pg_name (i := 3) sc_law_vector.nd rfl (by first | exact Or.inl rfl | exact Or.inr rfl))) (fun _ _ _ _ _ => pts_nil) (fun _ _ _ _ _ => (pe_op op_sub (pe_cd (D_law_draw T) (hr.mono (by decide)) T.g_law_draw pass0 (pa_cons (pv 0) (pa_cons (pe_op op_add (pe_op op_mul pe_int (pv 2)) pe_int) pa_nil))) (pv 2)))) pa_nil)))), ?_⟩
  refine dw_tuple (B := B) (g := g) (sm := sm) (S := vecIs n m) (fun Q2 q2 => ?_) _ fun v d H2 hs hf k b t => q v d H2 hs hf k b t
  refine dw_lcr (B := B) (g := g) (sm := sm) (n := n) (S := fun d => ∃ j, d = .int j ∧ -m ≤ j ∧ j ≤ m) (by walk_at "dn") (by omega) hb rfl (fun _ => rfl) (fun k H1 hk k1 b1 => ?_) fun p us ds H2 hp k2 b2 e t hl hS hf => ?_
  · intro Q3 q3
    have t2 := t2.k (k1.ktB hb) rfl
    refine dw_draw (B := B) (g := g) (sm := sm) (m := 2 * m + 1) rfl (dn_add (dn_mul dn_int (dn_var rfl t2) (.inl (by omega))) dn_int) b1 (by omega) (by omega) _ fun v d H3 hs hf k3 b3 t3 => ?_
    obtain ⟨j, rfl, hj0, hj1⟩ := hs
    refine (dn_var (i := 2) (σ := _) rfl (t2.k (k3.ktB b1) rfl)).go fun v2 H4 s4 t4 => ⟨j, m, t3.i, t4.i, q3 _ (.int (j - m)) H4 ⟨j - m, rfl, by omega, by omega⟩ rfl (k3.step s4) (b3.s s4) (.int _)⟩
  · obtain ⟨ns, rfl, hns⟩ := ints_of hS
    exact q2 p us _ H2 hp k2 b2 e t ⟨ns, rfl, by simpa using hl, hns⟩ hf
abbrev N_law_box : List Str := ["_law_box_here", "_law_dims", "_law_k"]
abbrev P_law_box : List Str := ["_law_box_here", "_law_dims"]
theorem sc_law_box : FnScope N_law_box P_law_box (defScope s_law_box) := ⟨rfl, rfl, rfl, by decide +kernel, rfl, by decide +kernel, by decide +kernel⟩
def boxIs (n : Nat) (d : Dt) : Prop := ∃ b : Vec, d = dV b ∧ b.length = n ∧ ∀ s ∈ b, 1 ≤ s ∧ s ≤ (if n = 2 then 6 else 3)
def fBox (ds : List Dt) (S : Dt → Prop) : Prop := ∃ n : Nat, ds = [.int (n : Int)] ∧ (n = 2 ∨ n = 3) ∧ S = boxIs n
theorem D_law_box (T : Tx K mg) : DefP P w K mg base CX0 2 ("_law_box", none) P_law_box (spDw 1 fBox) := by
  refine mk_def T 52 d_law_box rfl rfl rfl sc_law_box (fun vs H Q E h => h.1) (fun _ _ _ _ _ _ us hl => match us, hl with | [_, _], _ => rfl) (fun cdv A outer s H vs Q E hr h => ?_)
  obtain ⟨_, B, g, sm, ws, ds, S, rfl, hb, hd, ⟨n, rfl, hn, rfl⟩, q⟩ := h
  obtain ⟨y, rfl, t1⟩ := hd.one
  refine ⟨_, (pss_one (ps_ret (pe_callTy (kcall_tuple K) (by rfl) T.f_tuple (by decide +kernel) (pa_cons (pe_lc (own := [("_law_k", 2)]) rfl sc_law_box.nd (pi_range1 rfl T.f_range (pa_cons (pv 1) pa_nil)) (blkOk_by (N := N_law_box) (sc := defScope s_law_box) (by decide +kernel)) (fun _ _ _ _ _ => (pg_name (i := 2) sc_law_box.nd rfl (by first | exact Or.inl rfl | exact Or.inr rfl))) (fun _ _ _ _ _ => pts_nil) (fun _ _ _ _ _ => (pe_op op_add pe_int (pe_cd (D_law_draw T) (hr.mono (by decide)) T.g_law_draw pass0 (pa_cons (pv 0) (pa_cons (pe_ix (kix_list K) (pe_lst (pa_cons pe_int (pa_cons pe_int pa_nil))) (pe_op op_sub (pv 1) pe_int) (fun _ _ => rfl)) pa_nil)))))) pa_nil)))), ?_⟩
  refine dw_tuple (B := B) (g := g) (sm := sm) (S := boxIs n) (fun Q2 q2 => ?_) _ fun v d H2 hs hf k b t => q v d H2 hs hf k b t
  refine dw_lcr (B := B) (g := g) (sm := sm) (n := n) (S := fun d => ∃ j, d = .int j ∧ 1 ≤ j ∧ j ≤ (if n = 2 then 6 else 3)) (by walk_at "dn") (by omega) hb rfl (fun _ => rfl) (fun k H1 hk k1 b1 => ?_) fun p us ds H2 hp k2 b2 e t hl hS hf => ?_
  · intro Q3 q3
    have t1 := t1.k (k1.ktB hb) rfl
    have hix : L2.atI [PyData.int 6, .int 3] ((n : Int) - 2) = some (.int (if n = 2 then 6 else 3)) := by
      rcases hn with rfl | rfl <;> rfl
    refine dw_draw (B := B) (g := g) (sm := sm) (m := if n = 2 then 6 else 3) rfl (dn_ixL (dn_lst (da_cons dn_int (da_cons dn_int da_nil)) (by simp)) (dn_sub (dn_var rfl t1) dn_int) hix) b1 (by split <;> omega) (by split <;> omega) _ fun v d H3 hs hf k3 b3 t3 => ?_
    obtain ⟨j, rfl, hj0, hj1⟩ := hs
    exact ⟨1, j, rfl, t3.i, q3 _ (.int (1 + j)) H3 ⟨1 + j, rfl, by omega, by omega⟩ rfl k3 b3 (.int _)⟩
  · obtain ⟨ns, rfl, hns⟩ := ints_of hS
    exact q2 p us _ H2 hp k2 b2 e t ⟨ns, rfl, by simpa using hl, hns⟩ hf
end K32
/-! R17 -/
set_option Elab.async false
set_option linter.all false
set_option maxRecDepth 100000
set_option maxHeartbeats 400000
namespace K32
open PySem PySem.Spec PyProof.Rows L2
local macro_rules | `(tactic| walk_at "dn") => `(tactic| first
  | with_reducible exact dn_int | with_reducible exact dn_str | with_reducible exact dn_bl | with_reducible exact dn_non | with_reducible exact da_nil | with_reducible exact do_none
  | ((with_reducible refine' dn_var ?h ?k); (case h => rfl); (case k => assumption))
  | ((with_reducible refine' da_cons ?_ ?_) <;> try walk_at "dn")
  | ((with_reducible refine' dn_add ?_ ?_) <;> try walk_at "dn")
  | ((with_reducible refine' dn_sub ?_ ?_) <;> try walk_at "dn")
  | ((with_reducible refine' dn_mul ?_ ?_ ?_) <;> try walk_at "dn")
  | ((with_reducible refine' dn_lt ?_ ?_) <;> try walk_at "dn")
  | ((with_reducible refine' dn_le ?_ ?_) <;> try walk_at "dn")
  | ((with_reducible refine' dn_gt ?_ ?_) <;> try walk_at "dn")
  | ((with_reducible refine' dn_ge ?_ ?_) <;> try walk_at "dn")
  | ((with_reducible refine' dn_neg ?_) <;> try walk_at "dn")
  | ((with_reducible refine' dn_chain ?_ ?_ ?_ rd_le rd_le) <;> try walk_at "dn")
  | ((with_reducible refine' dn_chain ?_ ?_ ?_ rd_le rd_lt) <;> try walk_at "dn")
  | ((with_reducible refine' dn_isI ?h ?k); (case h => walk_at "dn"); (case k => first | with_reducible exact kb_int_int | with_reducible exact kb_int_tuple | with_reducible exact kb_int_str | with_reducible exact kb_int_bool))
  | ((with_reducible refine' dn_isT ?h ?k); (case h => walk_at "dn"); (case k => first | with_reducible exact kb_tuple_int | with_reducible exact kb_tuple_tuple | with_reducible exact kb_tuple_str | with_reducible exact kb_tuple_bool))
  | ((with_reducible refine' dn_isS ?h ?k); (case h => walk_at "dn"); (case k => first | with_reducible exact kb_str_int | with_reducible exact kb_str_tuple | with_reducible exact kb_str_str | with_reducible exact kb_str_bool))
  | ((with_reducible refine' dn_isL ?h ?k); (case h => walk_at "dn"); (case k => first | with_reducible exact kb_list_int | with_reducible exact kb_list_tuple | with_reducible exact kb_list_str | with_reducible exact kb_list_bool))
  | ((with_reducible refine' dn_isB ?h ?k); (case h => walk_at "dn"); (case k => first | with_reducible exact kb_bool_int | with_reducible exact kb_bool_tuple | with_reducible exact kb_bool_str | with_reducible exact kb_bool_bool))
  | ((with_reducible refine' dn_ixT ?h ?t ?k); (case h => walk_at "dn"); (case t => walk_at "dn"); try (case k => rfl))
  | ((with_reducible refine' dn_ixL ?h ?t ?k); (case h => walk_at "dn"); (case t => walk_at "dn"); try (case k => rfl))
  | ((with_reducible refine' dn_cb ?h ?k); (case h => walk_at "dn"); try (case k => first | exact rd_lenT | exact rd_lenL | exact rd_tupL | exact rd_lstT | exact rd_lstL | exact rc_all | exact rc_sum | exact rc_max2 | exact rc_min2))
  | ((with_reducible refine' dn_call ?h ?t ?k); (case h => walk_at "dn"); (case t => rfl))
  | ((with_reducible refine' dt_test ?_) <;> try walk_at "dn")
  | ((with_reducible refine' dt_B ?_) <;> try walk_at "dn")
  | ((with_reducible refine' dn_eqI ?h ?k); (case h => walk_at "dn"); (case k => walk_at "dn"))
  | ((with_reducible refine' dn_neI ?h ?k); (case h => walk_at "dn"); (case k => walk_at "dn"))
  | ((with_reducible refine' dn_eqS ?h ?k); (case h => walk_at "dn"); (case k => walk_at "dn"))
  | ((with_reducible refine' dn_neS ?h ?k); (case h => walk_at "dn"); (case k => walk_at "dn"))
  | ((with_reducible refine' dt_or ?_ (fun _ => ?_)) <;> try walk_at "dn")
  | ((with_reducible refine' dt_and ?_ (fun _ => ?_)) <;> try walk_at "dn")
  | ((with_reducible refine' dn_orV ?_ (fun _ => ?_)) <;> try walk_at "dn")
  | ((with_reducible refine' dn_andV ?_ (fun _ => ?_)) <;> try walk_at "dn")
  | ((with_reducible refine' dt_not ?_) <;> try walk_at "dn")
  | ((with_reducible refine' dn_notV ?_) <;> try walk_at "dn")
  | ((with_reducible refine' da_star ?_ ?_) <;> try walk_at "dn")
  | ((with_reducible refine' dn_tup ?_ ?_) <;> try walk_at "dn")
  | ((with_reducible refine' dn_lst ?_ ?_) <;> try walk_at "dn")
  | ((with_reducible refine' do_some ?_) <;> try walk_at "dn"))
variable {P : Program} {w : World} {K : PySem.W.Frag} {mg : Str → Option Value} {base : Heap}
def spOne : Sp := fun vs H Q _ => vs.length = 2 ∧ ∃ (B g sm it : Addr) (us : List V), vs = [.ref B, .ref it] ∧ BoxAt H B g sm ∧ H it = some (.lst us) ∧ it ≠ B ∧ it ≠ g ∧ 1 ≤ us.length ∧ us.length ≤ 100 ∧ ∀ (j : Nat) (x : V) (H' : Hp), us[j]? = some x → KX [B, g] H H' → BoxAt H' B g sm → Q x H'
abbrev N_law_one : List Str := ["_law_box_here", "_law_items"]
abbrev P_law_one : List Str := ["_law_box_here", "_law_items"]
theorem sc_law_one : FnScope N_law_one P_law_one (defScope s_law_one) := ⟨rfl, rfl, rfl, by decide +kernel, rfl, by decide +kernel, by decide +kernel⟩
theorem D_law_one (T : Tx K mg) : DefP P w K mg base CX0 2 ("_law_one", none) P_law_one spOne := by
  refine mk_def T 44 d_law_one rfl rfl rfl sc_law_one (fun vs H Q E h => h.1) (fun _ _ _ _ _ _ us hl => match us, hl with | [_, _], _ => rfl) (fun cdv A outer s H vs Q E hr h => ?_)
  obtain ⟨_, B, g, sm, it, us, rfl, hb, hit, n1, n2, l1, l2, q⟩ := h
  refine ⟨_, (pss_one (ps_ret (pe_ix (kix_list K) (pv 1) (pe_cd (D_law_draw T) (hr.mono (by decide)) T.g_law_draw pass0 (pa_cons (pv 0) (pa_cons (pe_callB (kcall_len K) (by rfl) T.f_len boot_len (pa_cons (pv 1) pa_nil)) pa_nil))) (fun _ _ => rfl)))), ?_⟩
  refine ⟨.ref it, rfl, ?_⟩
  refine dw_draw (B := B) (g := g) (sm := sm) (i := 0) (m := (us.length : Int)) (tm := tCB (rLen K) (tCons (tVar 1) tNil)) rfl (fun H1 s1 Q1 q1 => ⟨.ref it, rfl, it, us, rfl, .inl (SqL.of (s1 _ _ hit)), q1 _ H1 (Same.refl H1) (.int _)⟩) hb (by omega) (by omega) _ fun v d H2 hs hf k b t => ?_
  obtain ⟨j, rfl, hj0, hj1⟩ := hs
  obtain ⟨n, rfl⟩ := Int.eq_ofNat_of_zero_le hj0
  have hlt : n < us.length := by omega
  refine ⟨it, us, (n : Int), us[n], rfl, t.i, SqL.of (k _ _ (by simp [n1, n2]) hit), by rw [atI_nat]; exact List.getElem?_eq_getElem hlt, ?_⟩
  exact q n _ H2 (List.getElem?_eq_getElem hlt) k b
def kindsL : List (Key × V) := [(.inr "copy", .int 1), (.inr "neg", .int 1), (.inr "add", .int 2), (.inr "sub", .int 2), (.inr "mul", .int 2), (.inr "least", .int 2), (.inr "most", .int 2), (.inr "madd", .int 3)]
def kindsN : List Str := ["copy", "neg", "add", "sub", "mul", "least", "most", "madd"]
theorem kinds_merge : mergeK [] kindsL = kindsL := by decide +kernel
theorem kinds_has : ∀ x ∈ kindsN, valV kindsL (.inr x) = some (.int 1) ∨ valV kindsL (.inr x) = some (.int 2) ∨ valV kindsL (.inr x) = some (.int 3) := by decide +kernel
def spKinds : Sp := fun vs H Q _ => vs.length = 0 ∧ ∀ (d : Addr) (H' : Hp), Same H H' → H d = none → H' d = some (.dK kindsL) → Q (.ref d) H'
abbrev N_law_kinds : List Str := []
abbrev P_law_kinds : List Str := []
theorem sc_law_kinds : FnScope N_law_kinds P_law_kinds (defScope s_law_kinds) := ⟨rfl, rfl, rfl, by decide +kernel, rfl, by decide +kernel, by decide +kernel⟩
theorem D_law_kinds (T : Tx K mg) : DefP P w K mg base CX0 1 ("_law_kinds", none) P_law_kinds spKinds := by
  refine mk_def T 46 d_law_kinds rfl rfl rfl sc_law_kinds (fun vs H Q E h => h.1) (fun _ _ _ _ _ _ us hl => match us, hl with | [], _ => rfl) (fun cdv A outer s H vs Q E hr h => ?_)
  obtain ⟨_, q⟩ := h
  refine ⟨_, (pss_one (ps_ret (pe_disp (pps_cons pe_str pe_int (pps_cons pe_str pe_int (pps_cons pe_str pe_int (pps_cons pe_str pe_int (pps_cons pe_str pe_int (pps_cons pe_str pe_int (pps_cons pe_str pe_int (pps_cons pe_str pe_int pps_nil)))))))) rfl rfl (by simp) (by decide)))), ?_⟩
  intro p hp
  refine ⟨upd_same, kindsL, rfl, by decide, ?_⟩
  rw [kinds_merge]
  refine q p _ (fun a u ha => ?_) hp upd_same
  rw [upd_ne (ne_of_none ha hp), upd_ne (ne_of_none ha hp)]
  exact ha
def spOpened (K : PySem.W.Frag) : Sp := fun vs H Q _ => vs.length = 1 ∧ ∃ (a : Addr) (ns : List Int), vs = [.ref a] ∧ SqL K H a (ns.map V.int) ∧ ns.length ≤ 63 ∧ ∀ (B g sm : Addr) (H' : Hp), BoxAt H' B g sm → Q (.ref B) H'
def tenE : Int := 10 ^ (18 : Int).toNat
theorem tenE_is : tenE = 10 ^ 18 := rfl
abbrev N_law_opened : List Str := ["_law_script", "_law_cells", "_law_small", "_law_great", "_law_cell"]
abbrev P_law_opened : List Str := ["_law_script"]
theorem sc_law_opened : FnScope N_law_opened P_law_opened (defScope s_law_opened) := ⟨rfl, rfl, rfl, by decide +kernel, rfl, by decide +kernel, by decide +kernel⟩
theorem D_law_opened (T : Tx K mg) : DefP P w K mg base CX0 1 ("_law_opened", none) P_law_opened (spOpened K) := by
  refine mk_def T 42 d_law_opened rfl rfl rfl sc_law_opened (fun vs H Q E h => h.1) (fun _ _ _ _ _ _ us hl => match us, hl with | [_], _ => rfl) (fun cdv A outer s H vs Q E hr h => ?_)
  obtain ⟨_, a, ns, rfl, hS, hl, q⟩ := h
  refine ⟨_, (pss_cons (ps_setLc (i := 1) (own := [("_law_cell", 4)]) rfl sc_law_opened.nd rfl rfl (sw_true rfl rfl rfl (by decide +kernel)) (kpi_list K (pe_slice (ksl_list K) (pv 0) po_none (po_some pe_int))) (blkOk_by (N := N_law_opened) (sc := defScope s_law_opened) (by decide +kernel)) (fun _ _ _ _ _ => (pg_name (i := 4) sc_law_opened.nd rfl (by first | exact Or.inl rfl | exact Or.inr rfl))) (fun _ _ _ _ _ => pts_nil) (fun _ _ _ _ _ => (pe_callB call_abs (by rfl) T.f_abs (by decide +kernel) (pa_cons (pv 4) pa_nil)))) (pss_cons (ps_setLc (i := 2) (own := [("_law_cell", 4)]) rfl sc_law_opened.nd rfl rfl (sw_true rfl rfl rfl (by decide +kernel)) (kpi_list K (pv 1)) (blkOk_by (N := N_law_opened) (sc := defScope s_law_opened) (by decide +kernel)) (fun _ _ _ _ _ => (pg_name (i := 4) sc_law_opened.nd rfl (by first | exact Or.inl rfl | exact Or.inr rfl))) (fun _ _ _ _ _ => pts_one (pt_cmpR op_lt (pv 4) (pe_op op_pow pe_int pe_int) (nomark _))) (fun _ _ _ _ _ => (pv 4))) (pss_cons (ps_setLc (i := 3) (own := [("_law_cell", 4)]) rfl sc_law_opened.nd rfl rfl (sw_true rfl rfl rfl (by decide +kernel)) (kpi_list K (pv 1)) (blkOk_by (N := N_law_opened) (sc := defScope s_law_opened) (by decide +kernel)) (fun _ _ _ _ _ => (pg_name (i := 4) sc_law_opened.nd rfl (by first | exact Or.inl rfl | exact Or.inr rfl))) (fun _ _ _ _ _ => pts_one (pt_cmpR op_ge (pv 4) (pe_op op_pow pe_int pe_int) (nomark _))) (fun _ _ _ _ _ => (pv 4))) (pss_one (ps_ret (pe_disp (pps_cons pe_str (pv 3) (pps_cons pe_str (pe_op op_cat (pv 2) (pe_op op_rep (pe_lst (pa_cons pe_int pa_nil)) (pe_callTy call_int1 (by rfl) T.f_int (by decide +kernel) (pa_cons (pe_cmpR (kop_eqD K hr.units) (pv 2) (pe_lst pa_nil) (nomark _)) pa_nil)))) (pps_cons pe_str pe_int pps_nil))) rfl rfl (by simp) (by decide))))))), ?_⟩
  -- cells
  let ab : Int → Int := fun i => if i < 0 then -i else i
  have hcut : cutV (ns.map V.int) none (some 61) = (ns.take 61).map V.int := by
    unfold cutV
    rw [show HT.sIx (ns.map V.int).length 0 none = 0 from rfl]
    have e := HT.sIx_nat (ns.map V.int).length (ns.map V.int).length 61
    rw [show ((61 : Nat) : Int) = 61 from rfl] at e
    rw [e, List.length_map, List.drop_zero, Nat.sub_zero, ← List.map_take]
    congr 1
    by_cases h : ns.length ≤ 61
    · rw [List.take_of_length_le (by omega), List.take_of_length_le (by omega)]
    · congr 1
      omega
  have hsrc : Src (iList K (tSl (rSlL K) (tVar 0) tNoPart (tPart (tC (.int 61))))) (L2.start N_law_opened [.ref a]) H ((ns.take 61).map .int) := by
    refine src_lst fun H1 s1 Q1 q1 => ⟨.ref a, rfl, 61, rfl, a, _, rfl, s1.seq hS, fun p hp => ?_⟩
    rw [hcut]
    exact q1 _ _ (Same.new hp) (TD.ofInts upd_same)
  have habs : ∀ i, ab i = (if i < 0 then -i else i) := fun _ => rfl
  refine q_set (d := .list (((ns.take 61).map ab).map .int)) ?_ fun vc H1 s1 tc => ?_
  · rw [List.map_map]
    refine dn_lcm (α := Int) .int (ns.take 61) (fun i => .int (ab i)) hsrc (by rw [List.length_take]; omega) (fun _ _ => rfl) fun i hi x H2 s2 tx => ⟨_, sto_name, rfl, dn_cb (da_cons (dn_var rfl tx) da_nil) fun xs H3 h3 Q3 q3 => ?_⟩
    obtain ⟨v, rfl, tv⟩ := h3.one
    exact ⟨i, by rw [tv.i], q3 _ H3 (Same.refl H3) (.int _)⟩
  have hapos : ∀ x ∈ (ns.take 61).map ab, 0 ≤ x := fun x hx => by
    obtain ⟨i, _, rfl⟩ := List.mem_map.mp hx
    rw [habs]
    split <;> omega
  have hcl : ((ns.take 61).map ab).length ≤ 61 := by rw [List.length_map, List.length_take]; omega
  generalize (ns.take 61).map ab = cs at tc hapos hcl
  refine q_set (d := .list ((cs.filter fun x => decide (x < tenE)).map .int)) ?_ fun vs2 H2 s2 ts => ?_
  · refine dn_lcF (α := Int) .int cs _ .int (src_lst (dn_var rfl tc)) (by omega) (fun _ _ => rfl) fun i hi x H3 s3 tx => ⟨_, sto_name, rfl, dt_test (dn_lt (dn_var rfl tx) (dn_pow dn_int dn_int (by unfold CPow; decide))), fun _ => by walk_at "dn"⟩
  have tc := tc.s s2
  refine q_set (d := .list ((cs.filter fun x => decide (tenE ≤ x)).map .int)) ?_ fun vg H3 s3 tg => ?_
  · refine dn_lcF (α := Int) .int cs _ .int (src_lst (dn_var rfl tc)) (by omega) (fun _ _ => rfl) fun i hi x H3 s3 tx => ⟨_, sto_name, rfl, dt_test (dn_ge (dn_var rfl tx) (dn_pow dn_int dn_int (by unfold CPow; decide))), fun _ => by walk_at "dn"⟩
  have ts := ts.s s3
  have hsl : (cs.filter fun x => decide (x < tenE)).length ≤ 61 := Nat.le_trans (List.length_filter_le ..) hcl
  have hsp : ∀ x ∈ cs.filter fun x => decide (x < tenE), 0 ≤ x ∧ x < 10 ^ 18 := fun x hx => by
    obtain ⟨h1, h2⟩ := List.mem_filter.mp hx
    exact ⟨hapos x h1, by rw [← tenE_is]; simpa using h2⟩
  have hgp : ∀ x ∈ cs.filter fun x => decide (tenE ≤ x), 0 ≤ x := fun x hx => hapos x (List.mem_filter.mp hx).1
  generalize (cs.filter fun x => decide (x < tenE)) = ss at ts hsl hsp
  generalize (cs.filter fun x => decide (tenE ≤ x)) = gs at tg hgp
  obtain ⟨pg, ug, rfl, hpg, tug⟩ := tg.l
  obtain ⟨ps, us, rfl, hps, tus⟩ := ts.l
  have eug := tug.ints
  subst eug
  have eus := tus.ints
  subst eus
  -- the box
  refine fun p hp => ⟨.ref pg, rfl, ?_⟩
  have hpg4 : (upd H3 p (.dK [])) pg = some (.lst (gs.map V.int)) := by rw [upd_ne (ne_of_none hpg hp)]; exact hpg
  have hps4 : (upd H3 p (.dK [])) ps = some (.lst (ss.map V.int)) := by rw [upd_ne (ne_of_none hps hp)]; exact hps
  refine ⟨.ref ps, rfl, sz (by simp), fun l89 hl89 => ?_⟩
  have s5 : Same (upd H3 p (.dK [])) (upd (upd H3 p (.dK [])) l89 (.lst [.int 89])) := Same.new hl89
  have ts5 : TD (upd (upd H3 p (.dK [])) l89 (.lst [.int 89])) (.ref ps) (.list (ss.map .int)) := TD.ofInts (s5 _ _ hps4)
  have heq := dn_eqD (K := K) (σ := (((L2.start N_law_opened [V.ref a]).set 1 (some vc)).set 2 (some (V.ref ps))).set 3 (some (V.ref pg))) (ta := tVar 2) (tb := tLst tNil) (dn_var rfl ts5) (dn_lst da_nil (by decide)) lst_ints (lst_ints (ns := []))
  have e0 : PyData.eqv (.list (ss.map .int)) (.list []) = decide (ss = []) := eqv_inil ss
  rw [e0] at heq
  refine (dn_cb (da_cons heq da_nil) rd_intB).go fun vi H6 s6 ti => ?_
  refine ⟨l89, if decide (ss = []) = true then 1 else 0, [.int 89], rfl, ti.i, s6 _ _ upd_same, by split <;> decide, by split <;> decide, by split <;> simp [sizeLine_eq], fun lr hlr => ?_⟩
  have s7 : Same H6 (upd H6 lr (.lst (List.replicate (if decide (ss = []) = true then (1 : Int) else 0).toNat [V.int 89]).flatten)) := Same.new hlr
  have s47 := (s5.trans s6).trans s7
  refine ⟨ps, lr, _, _, rfl, rfl, s47 _ _ hps4, upd_same, ?_, fun lf hlf => ?_⟩
  · rw [List.length_map]
    split <;> simp [sizeLine_eq] <;> omega
  have erep : (List.replicate (if decide (ss = []) = true then (1 : Int) else 0).toNat [V.int 89]).flatten = (if ss = [] then [(89 : Int)] else []).map V.int := by
    by_cases h : ss = [] <;> simp [h]
  rw [erep] at hlf s47 s7 ⊢
  have s8 := s47.trans (Same.new (o := .lst (ss.map V.int ++ (if ss = [] then [(89 : Int)] else []).map V.int)) hlf)
  have hpp : (upd H3 p (.dK [])) p = some (.dK []) := upd_same
  refine ⟨s8 _ _ hpp, [(kG, .ref pg), (kS, .ref lf), (kT, .int 0)], rfl, by simp, ?_⟩
  have hm : mergeK [] [(kG, V.ref pg), (kS, V.ref lf), (kT, V.int 0)] = bxL pg lf 0 := by simp [mergeK, putK, kGS, kGT, kST]
  rw [hm]
  have hgne : pg ≠ p := ne_of_none hpg hp
  have hlp : lf ≠ p := fun e => by rw [e, s47 _ _ hpp] at hlf; cases hlf
  have hgl : pg ≠ lf := fun e => by rw [← e, s47 _ _ hpg4] at hlf; cases hlf
  refine q p pg lf _ ⟨⟨gs, ss ++ (if ss = [] then [(89 : Int)] else []), 0, upd_same, ?_, ?_, hgp, ?_, ?_, ?_, Int.le_refl _⟩, hgl⟩
  · rw [upd_ne hgne]
    exact s8 _ _ hpg4
  · rw [upd_ne hlp, upd_same, List.map_append]
  · intro x hx
    rcases List.mem_append.mp hx with hx | hx
    · exact hsp x hx
    · split at hx
      · rw [List.mem_singleton.mp hx]; decide
      · exact nomatch hx
  · by_cases h : ss = [] <;> simp [h]
  · rw [List.length_append]
    split <;> simp <;> omega
end K32
/-! R18 -/
set_option Elab.async false
set_option linter.all false
set_option maxRecDepth 100000
set_option maxHeartbeats 400000
namespace K32
open PySem PySem.Spec PyProof.Rows L2
local macro_rules | `(tactic| walk_at "dn") => `(tactic| first
  | with_reducible exact dn_int | with_reducible exact dn_str | with_reducible exact dn_bl | with_reducible exact dn_non | with_reducible exact da_nil | with_reducible exact do_none
  | ((with_reducible refine' dn_var ?h ?k); (case h => rfl); (case k => assumption))
  | ((with_reducible refine' da_cons ?_ ?_) <;> try walk_at "dn")
  | ((with_reducible refine' dn_add ?_ ?_) <;> try walk_at "dn")
  | ((with_reducible refine' dn_sub ?_ ?_) <;> try walk_at "dn")
  | ((with_reducible refine' dn_mul ?_ ?_ ?_) <;> try walk_at "dn")
  | ((with_reducible refine' dn_lt ?_ ?_) <;> try walk_at "dn")
  | ((with_reducible refine' dn_le ?_ ?_) <;> try walk_at "dn")
  | ((with_reducible refine' dn_gt ?_ ?_) <;> try walk_at "dn")
  | ((with_reducible refine' dn_ge ?_ ?_) <;> try walk_at "dn")
  | ((with_reducible refine' dn_neg ?_) <;> try walk_at "dn")
  | ((with_reducible refine' dn_chain ?_ ?_ ?_ rd_le rd_le) <;> try walk_at "dn")
  | ((with_reducible refine' dn_chain ?_ ?_ ?_ rd_le rd_lt) <;> try walk_at "dn")
  | ((with_reducible refine' dn_isI ?h ?k); (case h => walk_at "dn"); (case k => first | with_reducible exact kb_int_int | with_reducible exact kb_int_tuple | with_reducible exact kb_int_str | with_reducible exact kb_int_bool))
  | ((with_reducible refine' dn_isT ?h ?k); (case h => walk_at "dn"); (case k => first | with_reducible exact kb_tuple_int | with_reducible exact kb_tuple_tuple | with_reducible exact kb_tuple_str | with_reducible exact kb_tuple_bool))
  | ((with_reducible refine' dn_isS ?h ?k); (case h => walk_at "dn"); (case k => first | with_reducible exact kb_str_int | with_reducible exact kb_str_tuple | with_reducible exact kb_str_str | with_reducible exact kb_str_bool))
  | ((with_reducible refine' dn_isL ?h ?k); (case h => walk_at "dn"); (case k => first | with_reducible exact kb_list_int | with_reducible exact kb_list_tuple | with_reducible exact kb_list_str | with_reducible exact kb_list_bool))
  | ((with_reducible refine' dn_isB ?h ?k); (case h => walk_at "dn"); (case k => first | with_reducible exact kb_bool_int | with_reducible exact kb_bool_tuple | with_reducible exact kb_bool_str | with_reducible exact kb_bool_bool))
  | ((with_reducible refine' dn_ixT ?h ?t ?k); (case h => walk_at "dn"); (case t => walk_at "dn"); try (case k => rfl))
  | ((with_reducible refine' dn_ixL ?h ?t ?k); (case h => walk_at "dn"); (case t => walk_at "dn"); try (case k => rfl))
  | ((with_reducible refine' dn_cb ?h ?k); (case h => walk_at "dn"); try (case k => first | exact rd_lenT | exact rd_lenL | exact rd_tupL | exact rd_lstT | exact rd_lstL | exact rc_all | exact rc_sum | exact rc_max2 | exact rc_min2))
  | ((with_reducible refine' dn_call ?h ?t ?k); (case h => walk_at "dn"); (case t => rfl))
  | ((with_reducible refine' dt_test ?_) <;> try walk_at "dn")
  | ((with_reducible refine' dt_B ?_) <;> try walk_at "dn")
  | ((with_reducible refine' dn_eqI ?h ?k); (case h => walk_at "dn"); (case k => walk_at "dn"))
  | ((with_reducible refine' dn_neI ?h ?k); (case h => walk_at "dn"); (case k => walk_at "dn"))
  | ((with_reducible refine' dn_eqS ?h ?k); (case h => walk_at "dn"); (case k => walk_at "dn"))
  | ((with_reducible refine' dn_neS ?h ?k); (case h => walk_at "dn"); (case k => walk_at "dn"))
  | ((with_reducible refine' dt_or ?_ (fun _ => ?_)) <;> try walk_at "dn")
  | ((with_reducible refine' dt_and ?_ (fun _ => ?_)) <;> try walk_at "dn")
  | ((with_reducible refine' dn_orV ?_ (fun _ => ?_)) <;> try walk_at "dn")
  | ((with_reducible refine' dn_andV ?_ (fun _ => ?_)) <;> try walk_at "dn")
  | ((with_reducible refine' dt_not ?_) <;> try walk_at "dn")
  | ((with_reducible refine' dn_notV ?_) <;> try walk_at "dn")
  | ((with_reducible refine' da_star ?_ ?_) <;> try walk_at "dn")
  | ((with_reducible refine' dn_tup ?_ ?_) <;> try walk_at "dn")
  | ((with_reducible refine' dn_lst ?_ ?_) <;> try walk_at "dn")
  | ((with_reducible refine' do_some ?_) <;> try walk_at "dn"))
variable {P : Program} {w : World} {K : PySem.W.Frag} {mg : Str → Option Value} {base : Heap}
theorem kx_lst {H H' : Hp} {B g p : Addr} {u : HO} (k : KX [B, g] H H') (h : p ≠ B ∧ p ≠ g) (hp : H p = some u) : H' p = some u := k p u (by simp [h.1, h.2]) hp
theorem s_forR {σ : L2.St} {H : Hp} {ta : TA} {g : TG} {tu : TS} {D : Ends} {n : Nat} (hn : DnA ta σ H [.int (n : Int)]) (hl : n ≤ 1000000) (Pv : Nat → L2.St → Hp → Prop) (h0 : ∀ H1, Same H H1 → Pv 0 σ H1)
    (turn : ∀ i σ' H', i < n → Pv i σ' H' → ∃ σ2, Sto g (.int (i : Int)) σ' H' σ2 ∧ tu { D with nx := Pv (i + 1), ct := Pv (i + 1), bk := D.nx } σ2 H') (hd : ∀ σ' H', Pv n σ' H' → D.nx σ' H') : tFor (iRng1 ta) g tu D σ H :=
  hn.go fun ws H1 s1 t1 => by
    obtain ⟨v, rfl, tv⟩ := t1.one
    refine ⟨(n : Int), by rw [tv.i], by omega, by omega, ?_⟩
    have wk := walk_range (lo := 0) (n := n)
    rw [Int.toNat_natCast]
    refine for_it wk Pv (h0 H1 s1) (fun _ _ _ _ _ => trivial) ?_ hd
    rintro i x σ' Ha Hb hi p ⟨rfl, rfl⟩
    have e0 : (fun i : Nat => V.int (0 + (i : Int))) i = V.int (i : Int) := by
      show V.int (0 + (i : Int)) = _
      rw [Int.zero_add]
    rw [e0]
    obtain ⟨σ2, st, ht⟩ := turn i σ' Hb hi p
    exact st _ ht
theorem kindsN_len : (kindsN.map V.str).length = 8 := rfl
theorem kinds_nat : ∀ x ∈ kindsN, ∃ n : Nat, valV kindsL (.inr x) = some (.int (n : Int)) ∧ 1 ≤ n ∧ n ≤ 3 := fun x hx => by
  rcases kinds_has x hx with h | h | h
  · exact ⟨1, h, by decide, by decide⟩
  · exact ⟨2, h, by decide, by decide⟩
  · exact ⟨3, h, by decide, by decide⟩
/-- how many reads a kind has -/
theorem dn_kinds {σ : L2.St} {H : Hp} {i : Nat} {kd : Str} {n : Nat} (h : σ[i]? = some (some (.str kd))) (hk : valV kindsL (.inr kd) = some (.int (n : Int))) : Dn (tDGet (tCall spKinds [] E0 tNil) (tVar i)) σ H (.int (n : Int)) :=
  fun H1 s1 Q q => ⟨rfl, fun d H' s' hd hk' => ⟨.str kd, h, d, .int (n : Int), rfl, .inl ⟨kindsL, .inr kd, .inl hk', rfl, hk.symm⟩, q _ H' s' (.int _)⟩⟩
abbrev taStrs : TA := tCons (tC (.str "copy")) (tCons (tC (.str "neg")) (tCons (tC (.str "add")) (tCons (tC (.str "sub")) (tCons (tC (.str "mul")) (tCons (tC (.str "least")) (tCons (tC (.str "most")) (tCons (tC (.str "madd")) tNil)))))))
theorem BoxAt.free {H : Hp} {B g sm p : Addr} (h : BoxAt H B g sm) (hp : H p = none) : p ≠ B ∧ p ≠ g ∧ p ≠ sm := by
  obtain ⟨⟨_, i1⟩, ⟨_, i2⟩, ⟨_, i3⟩⟩ := h.isB
  exact ⟨fun e => (by rw [e, i1] at hp; cases hp), fun e => (by rw [e, i2] at hp; cases hp), fun e => by rw [e, i3] at hp; cases hp⟩
theorem BoxAt.lst {H : Hp} {B g sm p : Addr} {u : HO} (h : BoxAt H B g sm) (n : p ≠ B ∧ p ≠ g ∧ p ≠ sm) : BoxAt (upd H p u) B g sm := by
  obtain ⟨gs, ss, m, e1, e2, e3, r⟩ := h.ex
  exact ⟨⟨gs, ss, m, by rw [upd_ne n.1.symm]; exact e1, by rw [upd_ne n.2.1.symm]; exact e2, by rw [upd_ne n.2.2.symm]; exact e3, r⟩, h.ne⟩
/-- one of the kinds -/
theorem one_kind {B g sm : Addr} {σ : L2.St} {H : Hp} (hv : σ[0]? = some (some (.ref B))) (hb : BoxAt H B g sm) {Q : VK} (q : ∀ kd H2, kd ∈ kindsN → KX [B, g] H H2 → BoxAt H2 B g sm → Q (.str kd) H2) :
    tCall spOne [] E0 (tCons (tVar 0) (tCons (tLst taStrs) tNil)) σ H Q := by
  refine ⟨.ref B, hv, sz (by simp), fun p hp => ?_⟩
  have n := hb.free hp
  refine ⟨rfl, B, g, sm, p, kindsN.map V.str, rfl, hb.lst n, upd_same, n.1, n.2.1, by decide, by decide, fun j x H' hx k b => ?_⟩
  rw [List.getElem?_map] at hx
  obtain ⟨kd, hkd, rfl⟩ := Option.map_eq_some_iff.mp hx
  exact q kd H' (List.mem_of_getElem? hkd) (((KX.of (Same.refl H)).new hp).trans k) b
def readIs (n m : Nat) (c : Int) (d : Dt) : Prop := ∃ q : Wd, d = dW q ∧ 0 ≤ q.1 ∧ q.1 < (m : Int) ∧ q.2.length = n ∧ ∀ y ∈ q.2, -c ≤ y ∧ y ≤ c
theorem reads_of_ds {n m : Nat} {c : Int} : ∀ {ds : List Dt}, (∀ d ∈ ds, readIs n m c d) → ∃ qs : List Wd, ds = qs.map dW ∧ ∀ q ∈ qs, 0 ≤ q.1 ∧ q.1 < (m : Int) ∧ q.2.length = n ∧ ∀ y ∈ q.2, -c ≤ y ∧ y ≤ c
  | [], _ => ⟨[], rfl, fun _ h => nomatch h⟩
  | d :: ds, h => by
    obtain ⟨qs, rfl, h2⟩ := reads_of_ds fun d hd => h d (List.mem_cons_of_mem _ hd)
    obtain ⟨q, rfl, hq⟩ := h d (List.mem_cons_self ..)
    refine ⟨q :: qs, rfl, fun q' hq' => ?_⟩
    rcases List.mem_cons.mp hq' with rfl | hq'
    · exact hq
    · exact h2 q' hq'
structure RuleIs (n m : Nat) (c : Int) (r : Str × List Wd) : Prop where
  l1 : 1 ≤ r.2.length
  l3 : r.2.length ≤ 3
  qs : ∀ q ∈ r.2, 0 ≤ q.1 ∧ q.1 < (m : Int) ∧ q.2.length = n ∧ ∀ y ∈ q.2, -c ≤ y ∧ y ≤ c
theorem flow_ok {n m : Nat} {c : Int} {rs : List (Str × List Wd)} (h : ∀ r ∈ rs, RuleIs n m c r) (hl : rs.length = m) (hm1 : 1 ≤ m) (hm6 : m ≤ 6) (hc : c ≤ 1000) : FlowOk ⟨(n : Int), rs⟩ := by
  refine ⟨by show 1 ≤ rs.length; omega, by show rs.length ≤ 6; omega, fun r hr => ⟨(h r hr).l1, (h r hr).l3⟩, fun r hr q hq => ?_, fun r hr q hq => ?_⟩
  · obtain ⟨a, b, _, _⟩ := (h r hr).qs q hq
    show _ ∧ q.1 < ((rs.length : Nat) : Int)
    exact ⟨a, by omega⟩
  · obtain ⟨_, _, a, b⟩ := (h r hr).qs q hq
    refine ⟨by show _ = (n : Int); omega, fun x hx => ?_⟩
    have := b x hx
    omega
def nearIs (n m : Nat) (d : Dt) : Prop := ∃ rs : List (Str × List Wd), d = dFlow ⟨(n : Int), rs⟩ ∧ rs.length = m ∧ ∀ r ∈ rs, RuleIs n m 1 r
def fNear (ds : List Dt) (S : Dt → Prop) : Prop := ∃ n m : Nat, ds = [.int (n : Int), .int (m : Int), .int 1] ∧ n ≤ 3 ∧ 1 ≤ m ∧ m ≤ 3 ∧ S = nearIs n m
abbrev N_law_near : List Str := ["_law_box_here", "_law_dims", "_law_many", "_law_most", "_law_rules", "_law_k", "_law_kind", "_law_reads", "_law_j"]
abbrev P_law_near : List Str := ["_law_box_here", "_law_dims", "_law_many", "_law_most"]
theorem sc_law_near : FnScope N_law_near P_law_near (defScope s_law_near) := ⟨rfl, rfl, rfl, by decide +kernel, rfl, by decide +kernel, by decide +kernel⟩
theorem D_law_near (T : Tx K mg) : DefP P w K mg base CX0 3 ("_law_near", none) P_law_near (spDw 3 fNear) := by
  refine mk_def T 48 d_law_near rfl rfl rfl sc_law_near (fun vs H Q E h => h.1) (fun _ _ _ _ _ _ us hl => match us, hl with | [_, _, _, _], _ => rfl) (fun cdv A outer s H vs Q E hr h => ?_)
  obtain ⟨_, B, g, sm, ws, ds, S, rfl, hb, hd, ⟨n, m, rfl, hn, hm1, hm3, rfl⟩, q⟩ := h
  obtain ⟨v1, v2, v3, rfl, t1, t2, t3⟩ := hd.three
  have e1 := t1.i
  have e2 := t2.i
  have e3 := t3.i
  subst e1 e2 e3
  refine ⟨_, (pss_cons (ps_set (i := 4) sc_law_near.nd rfl (by first | exact Or.inl rfl | exact Or.inr rfl) (pe_lst pa_nil)) (pss_cons (ps_for PassesOwn.never rfl (pi_range1 rfl T.f_range (pa_cons (pv 2) pa_nil)) (pg_name (i := 5) sc_law_near.nd rfl (by first | exact Or.inl rfl | exact Or.inr rfl)) (pss_cons (ps_set (i := 6) sc_law_near.nd rfl (by first | exact Or.inl rfl | exact Or.inr rfl) (pe_cd (D_law_one T) (hr.mono (by decide)) T.g_law_one pass0 (pa_cons (pv 0) (pa_cons (pe_lst (pa_cons pe_str (pa_cons pe_str (pa_cons pe_str (pa_cons pe_str (pa_cons pe_str (pa_cons pe_str (pa_cons pe_str (pa_cons pe_str pa_nil))))))))) pa_nil)))) (pss_cons (ps_setLc (i := 7) (own := [("_law_j", 8)]) rfl sc_law_near.nd rfl rfl (sw_true rfl rfl rfl (by decide +kernel)) (pi_range1 rfl T.f_range (pa_cons (pe_dget (hu1 hr) (pe_cd0 (D_law_kinds T) (hr.mono (by decide)) T.g_law_kinds pass0) (pv 6) (fun _ _ => rfl)) pa_nil)) (blkOk_by (N := N_law_near) (sc := defScope s_law_near) (by decide +kernel)) (fun _ _ _ _ _ => (pg_name (i := 8) sc_law_near.nd rfl (by first | exact Or.inl rfl | exact Or.inr rfl))) (fun _ _ _ _ _ => pts_nil) (fun _ _ _ _ _ => (pe_tup (pa_cons (pe_cd (D_law_draw T) (hr.mono (by decide)) T.g_law_draw pass0 (pa_cons (pv 0) (pa_cons (pv 2) pa_nil))) (pa_cons (pe_cd (D_law_vector T) (hr.mono (by decide)) T.g_law_vector pass0 (pa_cons (pv 0) (pa_cons (pv 1) (pa_cons (pv 3) pa_nil)))) pa_nil))))) (pss_one (ps_expr (pe_bm PySem.F.plainAttrs_list PySem.F.slot_list_append PySem.F.type_list_append mt_append (pv 4) (pa_cons (pe_op (kop_catA K) (pe_tup (pa_cons (pv 6) pa_nil)) (pe_callTy (kcall_tuple K) (by rfl) T.f_tuple (by decide +kernel) (pa_cons (pv 7) pa_nil))) pa_nil))))))) (pss_one (ps_ret (pe_tup (pa_cons (pv 1) (pa_cons (pe_callTy (kcall_tuple K) (by rfl) T.f_tuple (by decide +kernel) (pa_cons (pv 4) pa_nil)) pa_nil))))))), ?_⟩
  refine q_lst0 fun pr hpr => ?_
  have npr := hb.free hpr
  refine q_seq (s_forR (n := m) (da_cons (dn_var rfl (.int _)) da_nil) (by omega) (fun i σ' H' => ∃ (o5 o6 o7 : Option V) (us : List V) (rs : List (Str × List Wd)), σ' = [some (.ref B), some (.int (n : Int)), some (.int (m : Int)), some (.int 1), some (.ref pr), o5, o6, o7, none] ∧ KX [B, g] H H' ∧ BoxAt H' B g sm ∧ H' pr = some (.lst us) ∧ TDs H' us (rs.map dRule) ∧ rs.length = i ∧ ∀ r ∈ rs, RuleIs n m 1 r) ?_ ?_ ?_)
  · intro H1 s1
    exact ⟨none, none, none, [], [], rfl, (KX.new (KX.of (Same.refl H)) hpr).step s1, (hb.lst npr).s s1, s1 _ _ upd_same, .nil, rfl, fun _ h => nomatch h⟩
  · rintro i σ' H1 hi ⟨o5, o6, o7, us, rs, rfl, k1, b1, e1, td1, hl1, hr1⟩
    refine ⟨_, sto_name, ?_⟩
    refine q_asg (one_kind rfl b1 fun kd H2 hkd k2 b2 => ?_)
    obtain ⟨c, hc, hc1, hc3⟩ := kinds_nat kd hkd
    refine q_asg (dw_lcr (B := B) (g := g) (sm := sm) (n := c) (S := readIs n m 1) (da_cons (dn_kinds rfl hc) da_nil) (by omega) b2 rfl (fun _ => rfl) (fun j H3 hj k3 b3 => ?_) fun pq uq dq H3 hpq k3 b3 eq tq hlq hSq hfq => ?_)
    · intro Q3 q3
      refine dw_draw (B := B) (g := g) (sm := sm) (m := (m : Int)) rfl (dn_var rfl (.int _)) b3 (by omega) (by omega) _ fun v4 d4 H4 hs4 hf4 k4 b4 t4 => ?_
      obtain ⟨a, rfl, ha0, ha1⟩ := hs4
      refine dw_call (B := B) (g := g) (sm := sm) (i := 0) rfl (da_cons (dn_var rfl (.int (n : Int))) (da_cons (dn_var rfl (.int 1)) da_nil)) b4 (by rfl) ⟨n, 1, rfl, hn, by decide, by decide, rfl⟩ _ fun v5 d5 H5 hs5 hf5 k5 b5 t5 => ?_
      obtain ⟨x, rfl, hx1, hx2⟩ := hs5
      refine ⟨sz (by simp), fun p hp => q3 _ (dW (a, x)) _ ⟨(a, x), rfl, ha0, ha1, hx1, hx2⟩ (flat_dW _) ((k4.trans k5).step (Same.new hp)) (b5.s (Same.new hp)) ?_⟩
      rw [t4.i]
      exact .tup upd_same (.cons (.int a) (.cons (t5.s (Same.new hp)) .nil))
    · obtain ⟨qs, rfl, hqs⟩ := reads_of_ds hSq
      have k12 := k2.trans k3
      have e13 := kx_lst k12 ⟨npr.1, npr.2.1⟩ e1
      have td13 := td1.k (k12.ktB b1) (flats_map flat_dRule _)
      have hql : qs.length = c := by simpa using hlq
      have hul : us.length = rs.length := by rw [td1.len, List.length_map]
      refine s_appE (d := dRule (kd, qs)) (l := pr) (xs := us) (dv_var rfl) e13 (dn_catT (ds := [.str kd]) (dn_tup (da_cons (dn_var rfl (.str kd)) da_nil) (by simp)) (dn_cb (da_cons (dn_var (i := 7) rfl (TD.lst eq tq)) da_nil) (rd_tupL (K := K))) (by simp; omega)) (by omega) fun v6 H6 s6 t6 => ?_
      have kt6 : KT H6 (upd H6 pr (.lst (us ++ [v6]))) := KT.mut (s6 _ _ e13) (fun _ z => nomatch z)
      refine ⟨_, _, _, us ++ [v6], rs ++ [(kd, qs)], rfl, ((k1.trans k12).step s6).new hpr, (b3.s s6).lst npr, upd_same, ?_, by rw [List.length_append, hl1]; rfl, ?_⟩
      · rw [List.map_append]
        exact ((td13.s s6).k kt6 (flats_map flat_dRule _)).snoc (t6.k kt6 (flat_dRule _))
      · intro r hr
        rcases List.mem_append.mp hr with hr | hr
        · exact hr1 r hr
        · rw [List.mem_singleton.mp hr]
          exact ⟨by show 1 ≤ qs.length; omega, by show qs.length ≤ 3; omega, hqs⟩
  · rintro σ' H1 ⟨o5, o6, o7, us, rs, rfl, k1, b1, e1, td1, hl1, hr1⟩
    refine (dn_tup (da_cons (dn_var (i := 1) rfl (.int (n : Int))) (da_cons (dn_cb (da_cons (dn_var (i := 4) rfl (TD.lst e1 td1)) da_nil) (rd_tupL (K := K))) da_nil)) (by simp)).go fun v2 H2 s2 t2 => ?_
    exact q v2 _ H2 ⟨rs, rfl, hl1, hr1⟩ (flat_dFlow _) (k1.step s2) (b1.s s2) t2
end K32
/-! R19 -/
set_option Elab.async false
set_option linter.all false
set_option maxRecDepth 100000
set_option maxHeartbeats 400000
namespace K32
open PySem PySem.Spec PyProof.Rows L2
local macro_rules | `(tactic| walk_at "dn") => `(tactic| first
  | with_reducible exact dn_int | with_reducible exact dn_str | with_reducible exact dn_bl | with_reducible exact dn_non | with_reducible exact da_nil | with_reducible exact do_none
  | ((with_reducible refine' dn_var ?h ?k); (case h => rfl); (case k => assumption))
  | ((with_reducible refine' da_cons ?_ ?_) <;> try walk_at "dn")
  | ((with_reducible refine' dn_add ?_ ?_) <;> try walk_at "dn")
  | ((with_reducible refine' dn_sub ?_ ?_) <;> try walk_at "dn")
  | ((with_reducible refine' dn_mul ?_ ?_ ?_) <;> try walk_at "dn")
  | ((with_reducible refine' dn_lt ?_ ?_) <;> try walk_at "dn")
  | ((with_reducible refine' dn_le ?_ ?_) <;> try walk_at "dn")
  | ((with_reducible refine' dn_gt ?_ ?_) <;> try walk_at "dn")
  | ((with_reducible refine' dn_ge ?_ ?_) <;> try walk_at "dn")
  | ((with_reducible refine' dn_neg ?_) <;> try walk_at "dn")
  | ((with_reducible refine' dn_chain ?_ ?_ ?_ rd_le rd_le) <;> try walk_at "dn")
  | ((with_reducible refine' dn_chain ?_ ?_ ?_ rd_le rd_lt) <;> try walk_at "dn")
  | ((with_reducible refine' dn_isI ?h ?k); (case h => walk_at "dn"); (case k => first | with_reducible exact kb_int_int | with_reducible exact kb_int_tuple | with_reducible exact kb_int_str | with_reducible exact kb_int_bool))
  | ((with_reducible refine' dn_isT ?h ?k); (case h => walk_at "dn"); (case k => first | with_reducible exact kb_tuple_int | with_reducible exact kb_tuple_tuple | with_reducible exact kb_tuple_str | with_reducible exact kb_tuple_bool))
  | ((with_reducible refine' dn_isS ?h ?k); (case h => walk_at "dn"); (case k => first | with_reducible exact kb_str_int | with_reducible exact kb_str_tuple | with_reducible exact kb_str_str | with_reducible exact kb_str_bool))
  | ((with_reducible refine' dn_isL ?h ?k); (case h => walk_at "dn"); (case k => first | with_reducible exact kb_list_int | with_reducible exact kb_list_tuple | with_reducible exact kb_list_str | with_reducible exact kb_list_bool))
  | ((with_reducible refine' dn_isB ?h ?k); (case h => walk_at "dn"); (case k => first | with_reducible exact kb_bool_int | with_reducible exact kb_bool_tuple | with_reducible exact kb_bool_str | with_reducible exact kb_bool_bool))
  | ((with_reducible refine' dn_ixT ?h ?t ?k); (case h => walk_at "dn"); (case t => walk_at "dn"); try (case k => rfl))
  | ((with_reducible refine' dn_ixL ?h ?t ?k); (case h => walk_at "dn"); (case t => walk_at "dn"); try (case k => rfl))
  | ((with_reducible refine' dn_cb ?h ?k); (case h => walk_at "dn"); try (case k => first | exact rd_lenT | exact rd_lenL | exact rd_tupL | exact rd_lstT | exact rd_lstL | exact rc_all | exact rc_sum | exact rc_max2 | exact rc_min2))
  | ((with_reducible refine' dn_call ?h ?t ?k); (case h => walk_at "dn"); (case t => rfl))
  | ((with_reducible refine' dt_test ?_) <;> try walk_at "dn")
  | ((with_reducible refine' dt_B ?_) <;> try walk_at "dn")
  | ((with_reducible refine' dn_eqI ?h ?k); (case h => walk_at "dn"); (case k => walk_at "dn"))
  | ((with_reducible refine' dn_neI ?h ?k); (case h => walk_at "dn"); (case k => walk_at "dn"))
  | ((with_reducible refine' dn_eqS ?h ?k); (case h => walk_at "dn"); (case k => walk_at "dn"))
  | ((with_reducible refine' dn_neS ?h ?k); (case h => walk_at "dn"); (case k => walk_at "dn"))
  | ((with_reducible refine' dt_or ?_ (fun _ => ?_)) <;> try walk_at "dn")
  | ((with_reducible refine' dt_and ?_ (fun _ => ?_)) <;> try walk_at "dn")
  | ((with_reducible refine' dn_orV ?_ (fun _ => ?_)) <;> try walk_at "dn")
  | ((with_reducible refine' dn_andV ?_ (fun _ => ?_)) <;> try walk_at "dn")
  | ((with_reducible refine' dt_not ?_) <;> try walk_at "dn")
  | ((with_reducible refine' dn_notV ?_) <;> try walk_at "dn")
  | ((with_reducible refine' da_star ?_ ?_) <;> try walk_at "dn")
  | ((with_reducible refine' dn_tup ?_ ?_) <;> try walk_at "dn")
  | ((with_reducible refine' dn_lst ?_ ?_) <;> try walk_at "dn")
  | ((with_reducible refine' do_some ?_) <;> try walk_at "dn"))
variable {P : Program} {w : World} {K : PySem.W.Frag} {mg : Str → Option Value} {base : Heap}
theorem q_par0 {i j : Nat} {ta tb : TE} {tz : TS} {D : Ends} {σ : L2.St} {H : Hp} (h : ta σ H fun v H1 => tb σ H1 fun u H2 => ∃ v' w', [v, u] = [v', w'] ∧ tz D ((σ.set i (some v')).set j (some w')) H2) : tSeq (tPar i j (tCons ta (tCons tb tNil))) tz D σ H := h
abbrev tNeg (j : Int) : TE := tUn (rU fun i => .int (-i)) (tC (.int j))
abbrev taW : TA := tCons (tNeg 3) (tCons (tNeg 2) (tCons (tNeg 1) (tCons (tC (.int 1)) (tCons (tC (.int 2)) (tCons (tC (.int 3)) tNil)))))
def wVals : List Int := [-3, -2, -1, 1, 2, 3]
theorem wVals_ok : ∀ x ∈ wVals, (-3 ≤ x ∧ x ≤ -1) ∨ (1 ≤ x ∧ x ≤ 3) := by decide
theorem one_w {B g sm : Addr} {σ : L2.St} {H : Hp} (hv : σ[0]? = some (some (.ref B))) (hb : BoxAt H B g sm) {Q : VK} (q : ∀ x H2, x ∈ wVals → KX [B, g] H H2 → BoxAt H2 B g sm → Q (.int x) H2) :
    tCall spOne [] E0 (tCons (tVar 0) (tCons (tLst taW) tNil)) σ H Q := by
  refine ⟨.ref B, hv, 3, rfl, 2, rfl, 1, rfl, sz (by simp), fun p hp => ?_⟩
  have n := hb.free hp
  refine ⟨rfl, B, g, sm, p, wVals.map V.int, rfl, hb.lst n, upd_same, n.1, n.2.1, by decide, by decide, fun j x H' hx k b => ?_⟩
  rw [List.getElem?_map] at hx
  obtain ⟨kd, hkd, rfl⟩ := Option.map_eq_some_iff.mp hx
  exact q kd H' (List.mem_of_getElem? hkd) (((KX.of (Same.refl H)).new hp).trans k) b
def far (ws : Vec) : Vec := ws.map fun x => if 0 < x then 4 else -4
theorem dotp_cons (a b : Int) (x y : Vec) : dotp (a :: x) (b :: y) = a * b + dotp x y := by
  unfold dotp
  rw [List.zip_cons_cons, List.map_cons, List.sum_cons]
theorem dotp_far : ∀ (ws : Vec), (∀ x ∈ ws, (-3 ≤ x ∧ x ≤ -1) ∨ (1 ≤ x ∧ x ≤ 3)) → 4 * (ws.length : Int) ≤ dotp ws (far ws)
  | [], _ => by simp [dotp, far]
  | x :: ws, h => by
    have ih := dotp_far ws fun y hy => h y (List.mem_cons_of_mem _ hy)
    have hx := h x (List.mem_cons_self ..)
    show _ ≤ dotp (x :: ws) ((if 0 < x then 4 else -4) :: far ws)
    rw [dotp_cons, List.length_cons]
    split <;> omega
structure SvR (n m : Nat) (ws ss : Vec) (i : Nat) (q : Wd) : Prop where
  s0 : 0 ≤ q.1
  s1 : q.1 < (m : Int)
  l : q.2.length = n
  b : ∀ y ∈ q.2, -4 ≤ y ∧ y ≤ 4
  sv : 1 ≤ dotp ws q.2 + ss.getD i 0 - ss.getD q.1.toNat 0
structure SvF (n m : Nat) (ws ss : Vec) (rs : List (Str × List Wd)) : Prop where
  wl : ws.length = n
  wb : ∀ x ∈ ws, (-3 ≤ x ∧ x ≤ -1) ∨ (1 ≤ x ∧ x ≤ 3)
  sl : ss.length = m
  sb : ∀ x ∈ ss, 0 ≤ x ∧ x ≤ 6
  rl : rs.length = m
  rr : ∀ i r, rs[i]? = some r → 1 ≤ r.2.length ∧ r.2.length ≤ 3 ∧ ∀ q ∈ r.2, SvR n m ws ss i q
def servedIs (n m : Nat) (d : Dt) : Prop := ∃ (ws ss : Vec) (rs : List (Str × List Wd)), d = .tuple [dFlow ⟨(n : Int), rs⟩, dV ws, dV ss] ∧ SvF n m ws ss rs
def fServed (ds : List Dt) (S : Dt → Prop) : Prop := ∃ n m : Nat, ds = [.int (n : Int), .int (m : Int)] ∧ 2 ≤ n ∧ n ≤ 3 ∧ 1 ≤ m ∧ m ≤ 3 ∧ S = servedIs n m
theorem getD_at {ss : Vec} {i : Nat} (h : i < ss.length) : L2.atI (ss.map PyData.int) (i : Int) = some (.int (ss.getD i 0)) := by
  rw [atI_nat, List.getElem?_map, List.getElem?_eq_getElem h]
  simp [List.getD, h]
structure SvI (H : Hp) (B g sm ps pr : Addr) (vw : V) (ws ss : Vec) (us : List V) (rs : List (Str × List Wd)) (H' : Hp) : Prop where
  k : KX [B, g] H H'
  b : BoxAt H' B g sm
  s : H' ps = some (.lst (ss.map V.int))
  r : H' pr = some (.lst us)
  rt : TDs H' us (rs.map dRule)
  w : TD H' vw (dV ws)
theorem SvI.kx {H H1 H2 : Hp} {B g sm ps pr : Addr} {vw : V} {ws ss : Vec} {us : List V} {rs : List (Str × List Wd)} (h : SvI H B g sm ps pr vw ws ss us rs H1) (k : KX [B, g] H1 H2) (b : BoxAt H2 B g sm) (n1 : ps ≠ B ∧ ps ≠ g) (n2 : pr ≠ B ∧ pr ≠ g) : SvI H B g sm ps pr vw ws ss us rs H2 :=
  ⟨h.k.trans k, b, kx_lst k n1 h.s, kx_lst k n2 h.r, h.rt.k (k.ktB h.b) (flats_map flat_dRule _), h.w.k (k.ktB h.b) (flat_dV _)⟩
theorem SvI.same {H H1 H2 : Hp} {B g sm ps pr : Addr} {vw : V} {ws ss : Vec} {us : List V} {rs : List (Str × List Wd)} (h : SvI H B g sm ps pr vw ws ss us rs H1) (s : Same H1 H2) : SvI H B g sm ps pr vw ws ss us rs H2 :=
  ⟨h.k.step s, h.b.s s, s _ _ h.s, s _ _ h.r, h.rt.s s, h.w.s s⟩
/-- a further list, new, is written -/
theorem SvI.lst {H H1 : Hp} {B g sm ps pr p : Addr} {vw : V} {ws ss : Vec} {us : List V} {rs : List (Str × List Wd)} {u : HO} (h : SvI H B g sm ps pr vw ws ss us rs H1) (hp : H p = none) (n : p ≠ B ∧ p ≠ g ∧ p ≠ sm) (n1 : p ≠ ps) (n2 : p ≠ pr) (hx : ∀ xs, H1 p ≠ some (.tup xs)) : SvI H B g sm ps pr vw ws ss us rs (upd H1 p u) := by
  have kt : KT H1 (upd H1 p u) := fun a xs ha => by
    rw [upd_ne fun e : a = p => hx xs (by rw [← e]; exact ha)]
    exact ha
  exact ⟨h.k.new hp, h.b.lst n, by rw [upd_ne n1.symm]; exact h.s, by rw [upd_ne n2.symm]; exact h.r, h.rt.k kt (flats_map flat_dRule _), h.w.k kt (flat_dV _)⟩
abbrev N_law_served : List Str := ["_law_box_here", "_law_dims", "_law_many", "_law_weights", "_law_plane", "_law_starts", "_law_rules", "_law_j", "_law_kind", "_law_reads", "_law_k", "_law_source", "_law_distance", "_law_item"]
abbrev P_law_served : List Str := ["_law_box_here", "_law_dims", "_law_many"]
theorem sc_law_served : FnScope N_law_served P_law_served (defScope s_law_served) := ⟨rfl, rfl, rfl, by decide +kernel, rfl, by decide +kernel, by decide +kernel⟩
theorem D_law_served (T : Tx K mg) : DefP P w K mg base CX0 3 ("_law_served", none) P_law_served (spDw 2 fServed) := by
  refine mk_def T 50 d_law_served rfl rfl rfl sc_law_served (fun vs H Q E h => h.1) (fun _ _ _ _ _ _ us hl => match us, hl with | [_, _, _], _ => rfl) (fun cdv A outer s H vs Q E hr h => ?_)
  obtain ⟨_, B, g, sm, vs0, ds, S, rfl, hb, hd, ⟨n, m, rfl, hn2, hn, hm1, hm3, rfl⟩, q⟩ := h
  obtain ⟨v1, v2, rfl, t1, t2⟩ := hd.two
  have e1 := t1.i
  have e2 := t2.i
  subst e1 e2
  refine ⟨_, (pss_cons (ps_set (i := 3) sc_law_served.nd rfl (by first | exact Or.inl rfl | exact Or.inr rfl) (pe_callTy (kcall_tuple K) (by rfl) T.f_tuple (by decide +kernel) (pa_cons (pe_lc (own := [("_law_k", 10)]) rfl sc_law_served.nd (pi_range1 rfl T.f_range (pa_cons (pv 1) pa_nil)) (blkOk_by (N := N_law_served) (sc := defScope s_law_served) (by decide +kernel)) (fun _ _ _ _ _ => (pg_name (i := 10) sc_law_served.nd rfl (by first | exact Or.inl rfl | exact Or.inr rfl))) (fun _ _ _ _ _ => pts_nil) (fun _ _ _ _ _ => (pe_cd (D_law_one T) (hr.mono (by decide)) T.g_law_one pass0 (pa_cons (pv 0) (pa_cons (pe_lst (pa_cons (pe_un un_neg pe_int) (pa_cons (pe_un un_neg pe_int) (pa_cons (pe_un un_neg pe_int) (pa_cons pe_int (pa_cons pe_int (pa_cons pe_int pa_nil))))))) pa_nil))))) pa_nil))) (pss_cons (ps_par (i := 5) (j := 6) (by rfl) sc_law_served.nd rfl rfl (by decide) rfl rfl (pa_cons (pe_lc (own := [("_law_k", 10)]) rfl sc_law_served.nd (pi_range1 rfl T.f_range (pa_cons (pv 2) pa_nil)) (blkOk_by (N := N_law_served) (sc := defScope s_law_served) (by decide +kernel)) (fun _ _ _ _ _ => (pg_name (i := 10) sc_law_served.nd rfl (by first | exact Or.inl rfl | exact Or.inr rfl))) (fun _ _ _ _ _ => pts_nil) (fun _ _ _ _ _ => (pe_cd (D_law_draw T) (hr.mono (by decide)) T.g_law_draw pass0 (pa_cons (pv 0) (pa_cons pe_int pa_nil))))) (pa_cons (pe_lst pa_nil) pa_nil)) (by kernel_rfl)) (pss_cons (ps_for PassesOwn.never rfl (pi_range1 rfl T.f_range (pa_cons (pv 2) pa_nil)) (pg_name (i := 4) sc_law_served.nd rfl (by first | exact Or.inl rfl | exact Or.inr rfl)) (pss_cons (ps_par (i := 8) (j := 9) (by rfl) sc_law_served.nd rfl rfl (by decide) rfl rfl (pa_cons (pe_cd (D_law_one T) (hr.mono (by decide)) T.g_law_one pass0 (pa_cons (pv 0) (pa_cons (pe_lst (pa_cons pe_str (pa_cons pe_str (pa_cons pe_str (pa_cons pe_str (pa_cons pe_str (pa_cons pe_str (pa_cons pe_str (pa_cons pe_str pa_nil))))))))) pa_nil))) (pa_cons (pe_lst pa_nil) pa_nil)) (by kernel_rfl)) (pss_cons (ps_for PassesOwn.never rfl (pi_range1 rfl T.f_range (pa_cons (pe_dget (hu1 hr) (pe_cd0 (D_law_kinds T) (hr.mono (by decide)) T.g_law_kinds pass0) (pv 8) (fun _ _ => rfl)) pa_nil)) (pg_name (i := 7) sc_law_served.nd rfl (by first | exact Or.inl rfl | exact Or.inr rfl)) (pss_cons (ps_par (i := 11) (j := 12) (by rfl) sc_law_served.nd rfl rfl (by decide) rfl rfl (pa_cons (pe_cd (D_law_draw T) (hr.mono (by decide)) T.g_law_draw pass0 (pa_cons (pv 0) (pa_cons (pv 2) pa_nil))) (pa_cons (pe_cd (D_law_vector T) (hr.mono (by decide)) T.g_law_vector pass0 (pa_cons (pv 0) (pa_cons (pv 1) (pa_cons pe_int pa_nil)))) pa_nil)) (by kernel_rfl)) (pss_cons (ps_if (pt_cmpR op_lt (pe_op op_sub (pe_op op_add (pe_cd (D_law_dot T) (hr.mono (by decide)) T.g_law_dot pass0 (pa_cons (pv 3) (pa_cons (pv 12) pa_nil))) (pe_ix (kix_list K) (pv 5) (pv 4) (fun _ _ => rfl))) (pe_ix (kix_list K) (pv 5) (pv 11) (fun _ _ => rfl))) pe_int (nomark _)) (pss_one (ps_set (i := 12) sc_law_served.nd rfl (by first | exact Or.inl rfl | exact Or.inr rfl) (pe_callTy (kcall_tuple K) (by rfl) T.f_tuple (by decide +kernel) (pa_cons (pe_lc (own := [("_law_item", 13)]) rfl sc_law_served.nd (kpi_tup K (pv 3)) (blkOk_by (N := N_law_served) (sc := defScope s_law_served) (by decide +kernel)) (fun _ _ _ _ _ => (pg_name (i := 13) sc_law_served.nd rfl (by first | exact Or.inl rfl | exact Or.inr rfl))) (fun _ _ _ _ _ => pts_nil) (fun _ _ _ _ _ => (pe_ix (kix_list K) (pe_lst (pa_cons (pe_un un_neg pe_int) (pa_cons pe_int pa_nil))) (pe_callTy call_int1 (by rfl) T.f_int (by decide +kernel) (pa_cons (pe_cmpR op_gt (pv 13) pe_int (nomark _)) pa_nil)) (fun _ _ => rfl)))) pa_nil)))) pss_nil) (pss_one (ps_expr (pe_bm PySem.F.plainAttrs_list PySem.F.slot_list_append PySem.F.type_list_append mt_append (pv 9) (pa_cons (pe_tup (pa_cons (pv 11) (pa_cons (pv 12) pa_nil))) pa_nil))))))) (pss_one (ps_expr (pe_bm PySem.F.plainAttrs_list PySem.F.slot_list_append PySem.F.type_list_append mt_append (pv 6) (pa_cons (pe_op (kop_catA K) (pe_tup (pa_cons (pv 8) pa_nil)) (pe_callTy (kcall_tuple K) (by rfl) T.f_tuple (by decide +kernel) (pa_cons (pv 9) pa_nil))) pa_nil))))))) (pss_one (ps_ret (pe_tup (pa_cons (pe_tup (pa_cons (pv 1) (pa_cons (pe_callTy (kcall_tuple K) (by rfl) T.f_tuple (by decide +kernel) (pa_cons (pv 6) pa_nil)) pa_nil))) (pa_cons (pv 3) (pa_cons (pe_callTy (kcall_tuple K) (by rfl) T.f_tuple (by decide +kernel) (pa_cons (pv 5) pa_nil)) pa_nil))))))))), ?_⟩
  -- weights
  refine q_asg (dw_tuple (B := B) (g := g) (sm := sm) (S := fun d => ∃ ws : Vec, d = dV ws ∧ ws.length = n ∧ ∀ x ∈ ws, (-3 ≤ x ∧ x ≤ -1) ∨ (1 ≤ x ∧ x ≤ 3)) (fun Q2 q2 => ?_) _ fun vw dw H1 hs hf k1 b1 tw => ?_)
  · refine dw_lcr (B := B) (g := g) (sm := sm) (n := n) (S := fun d => ∃ j, d = .int j ∧ ((-3 ≤ j ∧ j ≤ -1) ∨ (1 ≤ j ∧ j ≤ 3))) (da_cons (dn_var rfl (.int _)) da_nil) (by omega) hb rfl (fun _ => rfl) (fun k H1 hk k1 b1 => ?_) fun p us ds H2 hp k2 b2 e t hl hS hf => ?_
    · intro Q3 q3
      exact one_w rfl b1 fun x H2 hx k b => q3 _ (.int x) H2 ⟨x, rfl, wVals_ok x hx⟩ rfl k b (.int x)
    · obtain ⟨ns, rfl, hns⟩ := ints_of hS
      exact q2 p us _ H2 hp k2 b2 e t ⟨ns, rfl, by simpa using hl, hns⟩ hf
  obtain ⟨ws, rfl, hwl, hwb⟩ := hs
  have hwsm : small ws := fun x hx => by
    have := hwb x hx
    omega
  -- starts, rules
  refine q_par0 (dw_lcr (B := B) (g := g) (sm := sm) (n := m) (S := fun d => ∃ j, d = .int j ∧ 0 ≤ j ∧ j ≤ 6) (da_cons (dn_var rfl (.int _)) da_nil) (by omega) b1 rfl (fun _ => rfl) (fun k H2 hk k2 b2 => ?_) fun ps us0 ds0 H2 hps k2 b2 es ts hl0 hS0 hf0 => ?_)
  · intro Q3 q3
    refine dw_draw (B := B) (g := g) (sm := sm) (m := 7) rfl dn_int b2 (by decide) (by decide) _ fun v d H3 hs hf k3 b3 t3 => ?_
    obtain ⟨j, rfl, hj0, hj1⟩ := hs
    exact q3 v (.int j) H3 ⟨j, rfl, hj0, by omega⟩ rfl k3 b3 t3
  obtain ⟨ss, rfl, hsb⟩ := ints_of hS0
  have eus := ts.ints
  subst eus
  have hsl : ss.length = m := by simpa using hl0
  refine ⟨sz (by simp), fun pr hpr => ⟨_, _, rfl, ?_⟩⟩
  have npr := b2.free hpr
  have hpsr : ps ≠ pr := fun e => by rw [e, hpr] at es; cases es
  have hps' : H ps = none := by
    cases e : H ps with
    | none => rfl
    | some u =>
      have h1 := b1.free hps
      rw [k1 ps u (by simp [h1.1, h1.2.1]) e] at hps; cases hps
  have nps := b1.free hps
  have hpr' : H pr = none := by
    cases e : H pr with
    | none => rfl
    | some u => rw [(k1.trans k2) pr u (by simp [npr.1, npr.2.1]) e] at hpr; cases hpr
  have I0 : SvI H B g sm ps pr vw ws ss [] [] (upd H2 pr (.lst [])) :=
    ⟨(k1.trans k2).new hpr', b2.lst npr, by rw [upd_ne hpsr]; exact es, upd_same, .nil, (tw.k (k2.ktB b1) (flat_dV _)).s (Same.new hpr)⟩
  refine q_seq (s_forR (n := m) (da_cons (dn_var rfl (.int _)) da_nil) (by omega) (fun i σ' H' => ∃ (o4 o7 o8 o9 o11 o12 : Option V) (us : List V) (rs : List (Str × List Wd)), σ' = [some (.ref B), some (.int (n : Int)), some (.int (m : Int)), some vw, o4, some (.ref ps), some (.ref pr), o7, o8, o9, none, o11, o12, none] ∧ SvI H B g sm ps pr vw ws ss us rs H' ∧ rs.length = i ∧ ∀ i r, rs[i]? = some r → 1 ≤ r.2.length ∧ r.2.length ≤ 3 ∧ ∀ q ∈ r.2, SvR n m ws ss i q) ?_ ?_ ?_)
  · intro H3 s3
    exact ⟨none, none, none, none, none, none, [], [], rfl, I0.same s3, rfl, fun i r h => by simp at h⟩
  · rintro i σ' H3 hi ⟨o4, o7, o8, o9, o11, o12, us, rs, rfl, I3, hrl, hrr⟩
    refine ⟨_, sto_name, ?_⟩
    -- kind, reads
    refine q_par0 (one_kind rfl I3.b fun kd H4 hkd k4 b4 => ⟨sz (by simp), fun pq hpq => ⟨_, _, rfl, ?_⟩⟩)
    obtain ⟨c, hc, hc1, hc3⟩ := kinds_nat kd hkd
    have I4 := I3.kx k4 b4 ⟨nps.1, nps.2.1⟩ ⟨npr.1, npr.2.1⟩
    have npq := b4.free hpq
    have hqs' : pq ≠ ps := fun e => by rw [e, I4.s] at hpq; cases hpq
    have hqr' : pq ≠ pr := fun e => by rw [e, I4.r] at hpq; cases hpq
    have hpq' : H pq = none := by
      cases e : H pq with
      | none => rfl
      | some u => rw [I4.k pq u (by simp [npq.1, npq.2.1]) e] at hpq; cases hpq
    have I5 : SvI H B g sm ps pr vw ws ss us rs (upd H4 pq (.lst [])) := I4.lst hpq' npq hqs' hqr' fun xs => by rw [hpq]; exact fun h => nomatch h
    refine q_seq (s_forR (n := c) (da_cons (dn_kinds (kd := kd) rfl hc) da_nil) (by omega) (fun j σ' H' => ∃ (o7 o11 o12 : Option V) (uq : List V) (qs : List Wd), σ' = [some (.ref B), some (.int (n : Int)), some (.int (m : Int)), some vw, some (.int (i : Int)), some (.ref ps), some (.ref pr), o7, some (.str kd), some (.ref pq), none, o11, o12, none] ∧ SvI H B g sm ps pr vw ws ss us rs H' ∧ H' pq = some (.lst uq) ∧ TDs H' uq (qs.map dW) ∧ qs.length = j ∧ ∀ q ∈ qs, SvR n m ws ss i q) ?_ ?_ ?_)
    · intro H6 s6
      exact ⟨o7, o11, o12, [], [], rfl, I5.same s6, s6 _ _ upd_same, .nil, rfl, fun _ h => nomatch h⟩
    · rintro j σ' H6 hj ⟨o7, o11, o12, uq, qs, rfl, I6, hq6, tq6, hql, hqq⟩
      refine ⟨_, sto_name, ?_⟩
      -- source, distance
      refine q_par0 (dw_draw (B := B) (g := g) (sm := sm) (m := (m : Int)) rfl (dn_var rfl (.int _)) I6.b (by omega) (by omega) _ fun v7 d7 H7 hs7 hf7 k7 b7 t7 => ?_)
      obtain ⟨a, rfl, ha0, ha1⟩ := hs7
      refine dw_call (B := B) (g := g) (sm := sm) (i := 0) rfl (da_cons (dn_var rfl (.int (n : Int))) (da_cons dn_int da_nil)) b7 (by rfl) ⟨n, 2, rfl, hn, by decide, by decide, rfl⟩ _ fun v8 d8 H8 hs8 hf8 k8 b8 t8 => ⟨_, _, rfl, ?_⟩
      obtain ⟨x, rfl, hx1, hx2⟩ := hs8
      have et7 := t7.i
      subst et7
      have k68 := k7.trans k8
      have I8 := I6.kx k68 b8 ⟨nps.1, nps.2.1⟩ ⟨npr.1, npr.2.1⟩
      have hq8 := kx_lst k68 ⟨npq.1, npq.2.1⟩ hq6
      have tq8 := tq6.k (k68.ktB I6.b) (flats_map flat_dW _)
      have hilt : i < ss.length := by omega
      have halt : a.toNat < ss.length := by omega
      have hata : L2.atI (ss.map PyData.int) a = some (.int (ss.getD a.toNat 0)) := by
        have := getD_at (ss := ss) halt
        rwa [Int.toNat_of_nonneg ha0] at this
      -- the rest, whichever distance
      have fin : ∀ (vd : V) (x : Vec) (H9 : Hp), Same H8 H9 → TD H9 vd (dV x) → SvR n m ws ss i (a, x) → ∀ D : Ends, (∀ σ' H', (∃ (o7 o11 o12 : Option V) (uq : List V) (qs : List Wd), σ' = [some (.ref B), some (.int (n : Int)), some (.int (m : Int)), some vw, some (.int (i : Int)), some (.ref ps), some (.ref pr), o7, some (.str kd), some (.ref pq), none, o11, o12, none] ∧ SvI H B g sm ps pr vw ws ss us rs H' ∧ H' pq = some (.lst uq) ∧ TDs H' uq (qs.map dW) ∧ qs.length = j + 1 ∧ ∀ q ∈ qs, SvR n m ws ss i q) → D.nx σ' H') →
          tDrop (tBM K "list" rAppend (tVar 9) (tCons (tTup (tCons (tVar 11) (tCons (tVar 12) tNil))) tNil)) D [some (.ref B), some (.int (n : Int)), some (.int (m : Int)), some vw, some (.int (i : Int)), some (.ref ps), some (.ref pr), some (.int (j : Int)), some (.str kd), some (.ref pq), none, some (.int a), some vd, none] H9 := by
        intro vd x H9 s9 td hsv D hD
        have hul : uq.length = qs.length := by rw [tq6.len, List.length_map]
        refine s_appE (d := dW (a, x)) (l := pq) (xs := uq) (dv_var rfl) (s9 _ _ hq8) (dn_tup (da_cons (dn_var rfl (.int a)) (da_cons (dn_var rfl td) da_nil)) (by simp)) (by omega) fun v10 H10 s10 t10 => ?_
        have hq10 := s10 _ _ (s9 _ _ hq8)
        have kt10 : KT H10 (upd H10 pq (.lst (uq ++ [v10]))) := KT.mut hq10 (fun _ z => nomatch z)
        refine hD _ _ ⟨_, _, _, uq ++ [v10], qs ++ [(a, x)], rfl, (I8.same (s9.trans s10)).lst hpq' npq hqs' hqr' (fun xs => by rw [hq10]; exact fun h => nomatch h), upd_same, ?_, by rw [List.length_append, hql]; rfl, ?_⟩
        · rw [List.map_append]
          exact ((tq8.s (s9.trans s10)).k kt10 (flats_map flat_dW _)).snoc (t10.k kt10 (flat_dW _))
        · intro q hq
          rcases List.mem_append.mp hq with hq | hq
          · exact hqq q hq
          · rw [List.mem_singleton.mp hq]; exact hsv
      have hxs : x.length ≤ 1000 := by omega
      have hcond : Dn (tOp (rI0 fun i j => .bl (decide (i < j))) (tOp (rI0 fun i j => .int (i - j)) (tOp (rI0 fun i j => .int (i + j)) (tCall (Pu 2 fDot) [] E0 (tCons (tVar 3) (tCons (tVar 12) tNil))) (tOp (rIxL K) (tVar 5) (tVar 4))) (tOp (rIxL K) (tVar 5) (tVar 11))) (tC (.int 1))) [some (.ref B), some (.int (n : Int)), some (.int (m : Int)), some vw, some (.int (i : Int)), some (.ref ps), some (.ref pr), some (.int (j : Int)), some (.str kd), some (.ref pq), none, some (.int a), some v8, none] H8 (.bool (decide (dotp ws x + ss.getD i 0 - ss.getD a.toNat 0 < 1))) :=
        dn_lt (dn_sub (dn_add (dn_call (da_cons (dn_var rfl I8.w) (da_cons (dn_var rfl t8) da_nil)) (by rfl) ⟨ws, x, rfl, hwsm, by omega, rfl⟩) (dn_ixL (dn_var rfl (TD.ofInts I8.s)) (dn_var rfl (.int (i : Int))) (getD_at hilt))) (dn_ixL (dn_var rfl (TD.ofInts I8.s)) (dn_var rfl (.int a)) hata)) dn_int
      refine q_if0 (dt_test hcond) ?_ ?_
      · intro hlt H9 s9
        refine s_set (d := dV (far ws)) (dn_cb (da_cons (dn_lcm (α := Int) .int ws (fun y => .int (if 0 < y then 4 else -4)) (src_tup (dn_var rfl (I8.w.s s9))) (by omega) (fun _ _ => rfl) fun y hy u H10 s10 tu => ⟨_, sto_name, rfl, ?_⟩) da_nil) ?_) fun vd H10 s10 td => ?_
        · refine dn_ixL (dn_lst (da_cons (dn_neg dn_int) (da_cons dn_int da_nil)) (by simp)) (dn_cb (da_cons (dn_gt (dn_var rfl tu) dn_int) da_nil) rd_intB) ?_
          by_cases h : 0 < y
          · simp only [h, decide_true, if_true]; rfl
          · simp only [h, decide_false, if_false]; rfl
        · have e : (ws.map fun y => PyData.int (if 0 < y then 4 else -4)) = (far ws).map .int := by unfold far; rw [List.map_map]; rfl
          rw [e]
          exact rd_tupL (K := K)
        · refine fin vd (far ws) H10 (s9.trans s10) td ⟨ha0, ha1, by unfold far; rw [List.length_map]; exact hwl, ?_, ?_⟩ _ fun _ _ h => h
          · intro y hy
            obtain ⟨z, _, rfl⟩ := List.mem_map.mp (show y ∈ ws.map _ from hy)
            split <;> omega
          · have h1 := dotp_far ws hwb
            have h2 : 0 ≤ ss.getD i 0 := by
              rw [List.getD_eq_getElem?_getD, List.getElem?_eq_getElem hilt]
              exact (hsb _ (List.getElem_mem hilt)).1
            have h3 : ss.getD a.toNat 0 ≤ 6 := by
              rw [List.getD_eq_getElem?_getD, List.getElem?_eq_getElem halt]
              exact (hsb _ (List.getElem_mem halt)).2
            show 1 ≤ dotp ws (far ws) + ss.getD i 0 - ss.getD a.toNat 0
            omega
      · intro hlt H9 s9
        have hlt : ¬ (dotp ws x + ss.getD i 0 - ss.getD a.toNat 0 < 1) := by simpa using hlt
        refine fin v8 x H9 s9 (t8.s s9) ⟨ha0, ha1, hx1, fun y hy => ?_, ?_⟩ _ fun _ _ h => h
        · have := hx2 y hy
          omega
        · show 1 ≤ dotp ws x + ss.getD i 0 - ss.getD a.toNat 0
          omega
    · rintro σ' H6 ⟨o7, o11, o12, uq, qs, rfl, I6, hq6, tq6, hql, hqq⟩
      have hul : us.length = rs.length := by rw [I6.rt.len, List.length_map]
      show tDrop (tBM K "list" rAppend (tVar 6) (tCons _ tNil)) _ _ _
      refine s_appE (d := dRule (kd, qs)) (l := pr) (xs := us) (dv_var rfl) I6.r (dn_catT (ds := [.str kd]) (dn_tup (da_cons (dn_var rfl (.str kd)) da_nil) (by simp)) (dn_cb (da_cons (dn_var (i := 9) rfl (TD.lst hq6 tq6)) da_nil) (rd_tupL (K := K))) (by simp; omega)) (by omega) fun v7 H7 s7 t7 => ?_
      have I7 := I6.same s7
      have kt7 : KT H7 (upd H7 pr (.lst (us ++ [v7]))) := KT.mut I7.r (fun _ z => nomatch z)
      refine ⟨_, _, _, _, _, _, us ++ [v7], rs ++ [(kd, qs)], rfl, ⟨I7.k.new hpr', I7.b.lst npr, by rw [upd_ne hpsr]; exact I7.s, upd_same, ?_, I7.w.k kt7 (flat_dV _)⟩, by rw [List.length_append, hrl]; rfl, ?_⟩
      · rw [List.map_append]
        exact (I7.rt.k kt7 (flats_map flat_dRule _)).snoc (t7.k kt7 (flat_dRule _))
      · intro i' r hr
        by_cases hlt : i' < rs.length
        · rw [List.getElem?_append_left hlt] at hr
          exact hrr i' r hr
        · have hl := (List.getElem?_eq_some_iff.mp hr).1
          rw [List.length_append, List.length_singleton] at hl
          have ei : i' = i := by omega
          subst ei
          rw [List.getElem?_append_right (by omega), hrl, Nat.sub_self] at hr
          have er : r = (kd, qs) := by simpa using hr.symm
          subst er
          exact ⟨by show 1 ≤ qs.length; omega, by show qs.length ≤ 3; omega, hqq⟩
  · rintro σ' H3 ⟨o4, o7, o8, o9, o11, o12, us, rs, rfl, I3, hrl, hrr⟩
    refine (dn_tup (da_cons (dn_tup (da_cons (dn_var (i := 1) rfl (.int (n : Int))) (da_cons (dn_cb (da_cons (dn_var (i := 6) rfl (TD.lst I3.r I3.rt)) da_nil) (rd_tupL (K := K))) da_nil)) (by simp)) (da_cons (dn_var (i := 3) rfl I3.w) (da_cons (dn_cb (da_cons (dn_var (i := 5) rfl (TD.ofInts I3.s)) da_nil) (rd_tupL (K := K))) da_nil))) (by simp)).go fun v2 H4 s4 t4 => ?_
    refine q v2 _ H4 ⟨ws, ss, rs, rfl, hwl, hwb, hsl, hsb, hrl, hrr⟩ ?_ (I3.k.step s4) (I3.b.s s4) t4
    simp [flat, flats, flat_dFlow, flat_dV]
end K32
/-! R20 -/
set_option Elab.async false
set_option linter.all false
set_option maxRecDepth 100000
set_option maxHeartbeats 400000
namespace K32
open PySem PySem.Spec PyProof.Rows L2
local macro_rules | `(tactic| walk_at "dn") => `(tactic| first
  | with_reducible exact dn_int | with_reducible exact dn_str | with_reducible exact dn_bl | with_reducible exact dn_non | with_reducible exact da_nil | with_reducible exact do_none
  | ((with_reducible refine' dn_var ?h ?k); (case h => rfl); (case k => assumption))
  | ((with_reducible refine' da_cons ?_ ?_) <;> try walk_at "dn")
  | ((with_reducible refine' dn_add ?_ ?_) <;> try walk_at "dn")
  | ((with_reducible refine' dn_sub ?_ ?_) <;> try walk_at "dn")
  | ((with_reducible refine' dn_mul ?_ ?_ ?_) <;> try walk_at "dn")
  | ((with_reducible refine' dn_lt ?_ ?_) <;> try walk_at "dn")
  | ((with_reducible refine' dn_le ?_ ?_) <;> try walk_at "dn")
  | ((with_reducible refine' dn_gt ?_ ?_) <;> try walk_at "dn")
  | ((with_reducible refine' dn_ge ?_ ?_) <;> try walk_at "dn")
  | ((with_reducible refine' dn_neg ?_) <;> try walk_at "dn")
  | ((with_reducible refine' dn_chain ?_ ?_ ?_ rd_le rd_le) <;> try walk_at "dn")
  | ((with_reducible refine' dn_chain ?_ ?_ ?_ rd_le rd_lt) <;> try walk_at "dn")
  | ((with_reducible refine' dn_isI ?h ?k); (case h => walk_at "dn"); (case k => first | with_reducible exact kb_int_int | with_reducible exact kb_int_tuple | with_reducible exact kb_int_str | with_reducible exact kb_int_bool))
  | ((with_reducible refine' dn_isT ?h ?k); (case h => walk_at "dn"); (case k => first | with_reducible exact kb_tuple_int | with_reducible exact kb_tuple_tuple | with_reducible exact kb_tuple_str | with_reducible exact kb_tuple_bool))
  | ((with_reducible refine' dn_isS ?h ?k); (case h => walk_at "dn"); (case k => first | with_reducible exact kb_str_int | with_reducible exact kb_str_tuple | with_reducible exact kb_str_str | with_reducible exact kb_str_bool))
  | ((with_reducible refine' dn_isL ?h ?k); (case h => walk_at "dn"); (case k => first | with_reducible exact kb_list_int | with_reducible exact kb_list_tuple | with_reducible exact kb_list_str | with_reducible exact kb_list_bool))
  | ((with_reducible refine' dn_isB ?h ?k); (case h => walk_at "dn"); (case k => first | with_reducible exact kb_bool_int | with_reducible exact kb_bool_tuple | with_reducible exact kb_bool_str | with_reducible exact kb_bool_bool))
  | ((with_reducible refine' dn_ixT ?h ?t ?k); (case h => walk_at "dn"); (case t => walk_at "dn"); try (case k => rfl))
  | ((with_reducible refine' dn_ixL ?h ?t ?k); (case h => walk_at "dn"); (case t => walk_at "dn"); try (case k => rfl))
  | ((with_reducible refine' dn_cb ?h ?k); (case h => walk_at "dn"); try (case k => first | exact rd_lenT | exact rd_lenL | exact rd_tupL | exact rd_lstT | exact rd_lstL | exact rc_all | exact rc_sum | exact rc_max2 | exact rc_min2))
  | ((with_reducible refine' dn_call ?h ?t ?k); (case h => walk_at "dn"); (case t => rfl))
  | ((with_reducible refine' dt_test ?_) <;> try walk_at "dn")
  | ((with_reducible refine' dt_B ?_) <;> try walk_at "dn")
  | ((with_reducible refine' dn_eqI ?h ?k); (case h => walk_at "dn"); (case k => walk_at "dn"))
  | ((with_reducible refine' dn_neI ?h ?k); (case h => walk_at "dn"); (case k => walk_at "dn"))
  | ((with_reducible refine' dn_eqS ?h ?k); (case h => walk_at "dn"); (case k => walk_at "dn"))
  | ((with_reducible refine' dn_neS ?h ?k); (case h => walk_at "dn"); (case k => walk_at "dn"))
  | ((with_reducible refine' dt_or ?_ (fun _ => ?_)) <;> try walk_at "dn")
  | ((with_reducible refine' dt_and ?_ (fun _ => ?_)) <;> try walk_at "dn")
  | ((with_reducible refine' dn_orV ?_ (fun _ => ?_)) <;> try walk_at "dn")
  | ((with_reducible refine' dn_andV ?_ (fun _ => ?_)) <;> try walk_at "dn")
  | ((with_reducible refine' dt_not ?_) <;> try walk_at "dn")
  | ((with_reducible refine' dn_notV ?_) <;> try walk_at "dn")
  | ((with_reducible refine' da_star ?_ ?_) <;> try walk_at "dn")
  | ((with_reducible refine' dn_tup ?_ ?_) <;> try walk_at "dn")
  | ((with_reducible refine' dn_lst ?_ ?_) <;> try walk_at "dn")
  | ((with_reducible refine' do_some ?_) <;> try walk_at "dn"))
variable {P : Program} {w : World} {K : PySem.W.Frag} {mg : Str → Option Value} {base : Heap}
def mnS : List Int → Int
  | [] => 0
  | a :: l => l.foldl min a
def mxS : List Int → Int
  | [] => 0
  | a :: l => l.foldl max a
theorem foldl_min : ∀ (l : List Int) (a : Int), (l.foldl min a = a ∨ l.foldl min a ∈ l) ∧ l.foldl min a ≤ a ∧ ∀ y ∈ l, l.foldl min a ≤ y
  | [], a => ⟨.inl rfl, Int.le_refl _, fun _ h => nomatch h⟩
  | b :: l, a => by
    obtain ⟨h1, h2, h3⟩ := foldl_min l (min a b)
    rw [List.foldl_cons]
    refine ⟨?_, by omega, fun y hy => ?_⟩
    · rcases h1 with h | h
      · by_cases hab : a ≤ b
        · exact .inl (by omega)
        · exact .inr (by rw [h]; rw [show min a b = b by omega]; exact List.mem_cons_self ..)
      · exact .inr (List.mem_cons_of_mem _ h)
    · rcases List.mem_cons.mp hy with rfl | hy
      · omega
      · exact h3 y hy
theorem foldl_max : ∀ (l : List Int) (a : Int), (l.foldl max a = a ∨ l.foldl max a ∈ l) ∧ a ≤ l.foldl max a ∧ ∀ y ∈ l, y ≤ l.foldl max a
  | [], a => ⟨.inl rfl, Int.le_refl _, fun _ h => nomatch h⟩
  | b :: l, a => by
    obtain ⟨h1, h2, h3⟩ := foldl_max l (max a b)
    rw [List.foldl_cons]
    refine ⟨?_, by omega, fun y hy => ?_⟩
    · rcases h1 with h | h
      · by_cases hab : b ≤ a
        · exact .inl (by omega)
        · exact .inr (by rw [h]; rw [show max a b = b by omega]; exact List.mem_cons_self ..)
      · exact .inr (List.mem_cons_of_mem _ h)
    · rcases List.mem_cons.mp hy with rfl | hy
      · omega
      · exact h3 y hy
theorem mnS_ok {ss : List Int} (h : ss ≠ []) : mnS ss ∈ ss ∧ ∀ y ∈ ss, mnS ss ≤ y := by
  cases ss with
  | nil => exact absurd rfl h
  | cons a l =>
    obtain ⟨h1, h2, h3⟩ := foldl_min l a
    refine ⟨?_, fun y hy => ?_⟩
    · rcases h1 with h | h
      · show l.foldl min a ∈ _
        rw [h]; exact List.mem_cons_self ..
      · exact List.mem_cons_of_mem _ h
    · rcases List.mem_cons.mp hy with rfl | hy
      · exact h2
      · exact h3 y hy
theorem mxS_ok {ss : List Int} (h : ss ≠ []) : mxS ss ∈ ss ∧ ∀ y ∈ ss, y ≤ mxS ss := by
  cases ss with
  | nil => exact absurd rfl h
  | cons a l =>
    obtain ⟨h1, h2, h3⟩ := foldl_max l a
    refine ⟨?_, fun y hy => ?_⟩
    · rcases h1 with h | h
      · show l.foldl max a ∈ _
        rw [h]; exact List.mem_cons_self ..
      · exact List.mem_cons_of_mem _ h
    · rcases List.mem_cons.mp hy with rfl | hy
      · exact h2
      · exact h3 y hy
def loE (e : Int) : Int := if e < 0 then e else 0
def hiE (e : Int) : Int := if e > 0 then e else 0
def endsV (ws b : Vec) : List Int := (ws.zip b).map fun p => p.1 * (p.2 - 1)
def reachLo (ws b : Vec) : Int := ((endsV ws b).map loE).sum
def reachHi (ws b : Vec) : Int := ((endsV ws b).map hiE).sum
abbrev N_reach_of : List Str := ["weights", "box", "ends", "weight", "size", "end"]
abbrev P_reach_of : List Str := ["weights", "box"]
theorem sc_reach_of : FnScope N_reach_of P_reach_of (defScope s_reach_of) := ⟨rfl, rfl, rfl, by decide +kernel, rfl, by decide +kernel, by decide +kernel⟩
def fReach (ds : List Dt) (r : Dt) : Prop := ∃ ws b : Vec, ds = [dV ws, dV b] ∧ small ws ∧ ws.length ≤ 1000 ∧ r = .tuple [.int (reachLo ws b), .int (reachHi ws b)]
theorem D_reach_of (T : Tx K mg) : DefP P w K mg base CX0 1 ("reach_of", none) P_reach_of (Pu 2 fReach) := by
  refine mk_def T 30 d_reach_of rfl rfl rfl sc_reach_of (fun vs H Q E h => h.1) (fun _ _ _ _ _ _ us hl => match us, hl with | [_, _], _ => rfl) (fun cdv A outer s H vs Q E hr h => ?_)
  obtain ⟨_, ds, r, hd, ⟨ws, b, rfl, hs, hl, rfl⟩, q⟩ := h
  obtain ⟨x, y, rfl, t1, t2⟩ := hd.two
  refine ⟨_, (pss_cons (ps_setLc (i := 2) (own := [("weight", 3), ("size", 4)]) rfl sc_reach_of.nd rfl rfl (sw_true rfl rfl rfl (by decide +kernel)) (kpi_zip K T.f_zip (pa_cons (pv 0) (pa_cons (pv 1) pa_nil))) (blkOk_by (N := N_reach_of) (sc := defScope s_reach_of) (by decide +kernel)) (fun _ _ _ _ _ => (kpg_tup K 2 (pgs_cons (pg_name (i := 3) sc_reach_of.nd rfl (by first | exact Or.inl rfl | exact Or.inr rfl)) (pgs_cons (pg_name (i := 4) sc_reach_of.nd rfl (by first | exact Or.inl rfl | exact Or.inr rfl)) pgs_nil)))) (fun _ _ _ _ _ => pts_nil) (fun _ _ _ _ _ => (pe_op op_mul (pv 3) (pe_op op_sub (pv 4) pe_int)))) (pss_one (ps_ret (pe_tup (pa_cons (pe_callB (kcr_sum K) (by rfl) T.f_sum (by decide +kernel) (pa_cons (pe_lc (own := [("end", 5)]) rfl sc_reach_of.nd (kpi_list K (pv 2)) (blkOk_by (N := N_reach_of) (sc := defScope s_reach_of) (by decide +kernel)) (fun _ _ _ _ _ => (pg_name (i := 5) sc_reach_of.nd rfl (by first | exact Or.inl rfl | exact Or.inr rfl))) (fun _ _ _ _ _ => pts_nil) (fun _ _ _ _ _ => (pe_callB (call_min2 rfl) (by rfl) T.f_min (by decide +kernel) (pa_cons pe_int (pa_cons (pv 5) pa_nil))))) pa_nil)) (pa_cons (pe_callB (kcr_sum K) (by rfl) T.f_sum (by decide +kernel) (pa_cons (pe_lc (own := [("end", 5)]) rfl sc_reach_of.nd (kpi_list K (pv 2)) (blkOk_by (N := N_reach_of) (sc := defScope s_reach_of) (by decide +kernel)) (fun _ _ _ _ _ => (pg_name (i := 5) sc_reach_of.nd rfl (by first | exact Or.inl rfl | exact Or.inr rfl))) (fun _ _ _ _ _ => pts_nil) (fun _ _ _ _ _ => (pe_callB (call_max2 rfl) (by rfl) T.f_max (by decide +kernel) (pa_cons pe_int (pa_cons (pv 5) pa_nil))))) pa_nil)) pa_nil)))))), ?_⟩
  have hel : (endsV ws b).length ≤ 1000 := by unfold endsV; rw [List.length_map, List.length_zip]; omega
  refine q_set (d := .list ((endsV ws b).map .int)) ?_ fun v H1 s1 t3 => ?_
  · have e : ((endsV ws b).map PyData.int) = (ws.zip b).map fun p => .int (p.1 * (p.2 - 1)) := by unfold endsV; rw [List.map_map]; rfl
    rw [e]
    refine dn_lcm (α := Int × Int) (fun p => .tuple [.int p.1, .int p.2]) (ws.zip b) (fun p => .int (p.1 * (p.2 - 1))) (by rw [zip_dV]; exact src_zip (by walk_at "dn")) (by rw [List.length_zip]; omega) (fun _ _ => rfl) ?_
    rintro p hp u H1 s1 td
    obtain ⟨u1, u2, tu, tv, st⟩ := sto_two (K := K) (σ := wipe _ _) (i := 3) (j := 4) td
    refine ⟨_, st, rfl, dn_mul (by walk_at "dn") (by walk_at "dn") (.inl ?_)⟩
    have := hs _ (List.of_mem_zip hp).1
    omega
  · refine s_ret (dn_tup (da_cons (dn_cb (da_cons (dn_lcm (α := Int) .int (endsV ws b) (fun e => .int (loE e)) (src_lst (dn_var rfl t3)) (by omega) (fun _ _ => rfl) fun e he u H2 s2 tu => ⟨_, sto_name, rfl, dn_cb (da_cons dn_int (da_cons (dn_var rfl tu) da_nil)) rc_min2⟩) da_nil) (z := .int (reachLo ws b)) ?_) (da_cons (dn_cb (da_cons (dn_lcm (α := Int) .int (endsV ws b) (fun e => .int (hiE e)) (src_lst (dn_var rfl t3)) (by omega) (fun _ _ => rfl) fun e he u H2 s2 tu => ⟨_, sto_name, rfl, dn_cb (da_cons dn_int (da_cons (dn_var rfl tu) da_nil)) rc_max2⟩) da_nil) (z := .int (reachHi ws b)) ?_) da_nil)) (by simp)) fun v H2 s2 t2 => q v H2 (s1.trans s2) t2
    · have e : (endsV ws b).map (fun e => PyData.int (loE e)) = ((endsV ws b).map loE).map .int := by rw [List.map_map]; rfl
      rw [e]
      exact rc_sum (K := K)
    · have e : (endsV ws b).map (fun e => PyData.int (hiE e)) = ((endsV ws b).map hiE).map .int := by rw [List.map_map]; rfl
      rw [e]
      exact rc_sum (K := K)
abbrev N_is_vector : List Str := ["dims", "value", "item"]
abbrev P_is_vector : List Str := ["dims", "value"]
theorem sc_is_vector : FnScope N_is_vector P_is_vector (defScope s_is_vector) := ⟨rfl, rfl, rfl, by decide +kernel, rfl, by decide +kernel, by decide +kernel⟩
def fIsVec (ds : List Dt) (r : Dt) : Prop := ∃ (n : Int) (v : Vec), ds = [.int n, dV v] ∧ (v.length : Int) = n ∧ v.length ≤ 1000 ∧ r = .bool true
theorem D_is_vector (T : Tx K mg) : DefP P w K mg base CX0 1 ("is_vector", none) P_is_vector (Pu 2 fIsVec) := by
  refine mk_def T 28 d_is_vector rfl rfl rfl sc_is_vector (fun vs H Q E h => h.1) (fun _ _ _ _ _ _ us hl => match us, hl with | [_, _], _ => rfl) (fun cdv A outer s H vs Q E hr h => ?_)
  obtain ⟨_, ds, r, hd, ⟨n, v, rfl, hn, hl, rfl⟩, q⟩ := h
  obtain ⟨x, y, rfl, t1, t2⟩ := hd.two
  refine ⟨_, (pss_cons (ps_if (PW.pt (pw_or (pt_not (pt_val (pe_callB (kcall_isi K) (by rfl) T.f_isinstance (by decide +kernel) (pa_cons (pv 1) (pa_cons (pe_bltn (v := .ty "tuple") rfl T.f_tuple (by decide +kernel) rfl) pa_nil))))) (pw_or1 (pt_cmpR op_ne (pe_callB (kcall_len K) (by rfl) T.f_len boot_len (pa_cons (pv 1) pa_nil)) (pv 0) (nomark _))))) (pss_one (ps_ret pe_bl)) pss_nil) (pss_one (ps_ret (pe_callB (kcr_all K) (by rfl) T.f_all (by decide +kernel) (pa_cons (pe_lc (own := [("item", 2)]) rfl sc_is_vector.nd (kpi_tup K (pv 1)) (blkOk_by (N := N_is_vector) (sc := defScope s_is_vector) (by decide +kernel)) (fun _ _ _ _ _ => (pg_name (i := 2) sc_is_vector.nd rfl (by first | exact Or.inl rfl | exact Or.inr rfl))) (fun _ _ _ _ _ => pts_nil) (fun _ _ _ _ _ => (pe_and (pe_callB (kcall_isi K) (by rfl) T.f_isinstance (by decide +kernel) (pa_cons (pv 2) (pa_cons (pe_bltn (v := .ty "int") rfl T.f_int (by decide +kernel) rfl) pa_nil))) (pe_one (pe_not (pe_callB (kcall_isi K) (by rfl) T.f_isinstance (by decide +kernel) (pa_cons (pv 2) (pa_cons (pe_bltn (v := .ty "bool") rfl T.f_bool (by decide +kernel) rfl) pa_nil)))))))) pa_nil))))), ?_⟩
  refine q_ifno (DnT.is (b := !true || !decide (((v.map PyData.int).length : Int) = n)) (by walk_at "dn") (by rw [List.length_map]; simp [hn])) fun H1 s1 => ?_
  have t2 := t2.s s1
  have h1 : Dn (tLc (iTup K (tVar 1)) (gName 2) tYes (tAndV (tCB (rIsi K) (tCons (tVar 2) (tCons (tC (.ty "int")) tNil))) (tNotV (tCB (rIsi K) (tCons (tVar 2) (tCons (tC (.ty "bool")) tNil))))) [2]) (L2.start N_is_vector [x, y]) H1 (.list (v.map fun _ => .bool (true && !false))) :=
    dn_lcm (α := Int) .int v (fun _ => .bool (true && !false)) (src_tup (by walk_at "dn")) (by omega) (fun _ _ => rfl) fun e he u H2 s2 tu => ⟨_, sto_name, rfl, by walk_at "dn"⟩
  have e1 : (v.map fun _ => PyData.bool (true && !false)) = (v.map fun _ => true).map .bool := by rw [List.map_map]; rfl
  rw [e1] at h1
  refine s_ret (dn_cb (da_cons h1 da_nil) (rc_all (K := K))) fun v2 H2 s2 t3 => q v2 H2 (s1.trans s2) ?_
  have : (v.map fun _ => true).all id = true := by rw [List.all_map, List.all_eq_true]; exact fun _ _ => rfl
  rw [this] at t3
  exact t3
def dTm (ws ss : Vec) : Dt := .tuple [dV ws, dV ss]
def beat (ws ss : Vec) (x : Wd) : Int := dotp ws x.2 + ss.getD x.1.toNat 0
abbrev N_beat_of : List Str := ["flow", "timing", "plane", "point"]
abbrev P_beat_of : List Str := ["flow", "timing", "plane", "point"]
theorem sc_beat_of : FnScope N_beat_of P_beat_of (defScope s_beat_of) := ⟨rfl, rfl, rfl, by decide +kernel, rfl, by decide +kernel, by decide +kernel⟩
def fBeat (ds : List Dt) (r : Dt) : Prop := ∃ (f : Flow) (ws ss : Vec) (x : Wd), ds = [dFlow f, dTm ws ss, .int x.1, dV x.2] ∧ 0 ≤ x.1 ∧ x.1 < (f.rules.length : Int) ∧ (x.2.length : Int) = f.dims ∧ x.2.length ≤ 1000 ∧ small ws ∧ ws.length ≤ 1000 ∧ ss.length = f.rules.length ∧ r = .int (beat ws ss x)
theorem D_beat_of (T : Tx K mg) : DefP P w K mg base CX0 3 ("beat_of", none) P_beat_of (Pu 4 fBeat) := by
  refine mk_def T 29 d_beat_of rfl rfl rfl sc_beat_of (fun vs H Q E h => h.1) (fun _ _ _ _ _ _ us hl => match us, hl with | [_, _, _, _], _ => rfl) (fun cdv A outer s H vs Q E hr h => ?_)
  obtain ⟨_, ds, r, hd, ⟨f, ws, ss, x0, rfl, h0, h1, hx, hxl, hs, hwl, hsl, rfl⟩, q⟩ := h
  obtain ⟨x, y, z, u, rfl, t1, t2, t3, t4⟩ := hd.four
  refine ⟨_, (pss_cons (ps_expr (pe_cd (D_require_plane T) (hr.mono (by decide)) T.g_require_plane pass0 (pa_cons (pv 0) (pa_cons (pv 2) pa_nil)))) (pss_cons (ps_if (pt_not (pt_val (pe_cd (D_is_vector T) (hr.mono (by decide)) T.g_is_vector pass0 (pa_cons (pe_ix (kix_tup K) (pv 0) pe_int (fun _ _ => rfl)) (pa_cons (pv 3) pa_nil))))) (pss_one ps_never) pss_nil) (pss_one (ps_ret (pe_op op_add (pe_cd (D_dot T) (hr.mono (by decide)) T.g_dot pass0 (pa_cons (pe_ix (kix_tup K) (pv 1) pe_int (fun _ _ => rfl)) (pa_cons (pv 3) pa_nil))) (pe_ix (kix_tup K) (pe_ix (kix_tup K) (pv 1) pe_int (fun _ _ => rfl)) (pv 2) (fun _ _ => rfl))))))), ?_⟩
  refine q_drop (dn_call (by walk_at "dn") (by rfl) ⟨f, x0.1, rfl, h0, h1, rfl⟩) fun H1 s1 => ?_
  have t1 := t1.s s1
  have t2 := t2.s s1
  have t3 := t3.s s1
  have t4 := t4.s s1
  refine q_ifno (DnT.is (b := !true) (dt_not (dt_B (dn_call (z := .bool true) (da_cons (dn_ixT (ds := [.int f.dims, .tuple (f.rules.map dRule)]) (dn_var rfl t1) dn_int rfl) (da_cons (dn_var rfl t4) da_nil)) (by rfl) ⟨f.dims, x0.2, rfl, hx, hxl, rfl⟩))) rfl) fun H2 s2 => ?_
  have hat : L2.atI (ss.map PyData.int) x0.1 = some (.int (ss.getD x0.1.toNat 0)) := by
    have := getD_at (ss := ss) (i := x0.1.toNat) (by omega)
    rwa [Int.toNat_of_nonneg h0] at this
  refine s_ret (d := .int (dotp ws x0.2 + ss.getD x0.1.toNat 0)) (dn_add (dn_call (da_cons (dn_ixT (ds := [dV ws, dV ss]) (dn_var rfl (t2.s s2)) dn_int rfl) (da_cons (dn_var rfl (t4.s s2)) da_nil)) (by rfl) ⟨ws, x0.2, rfl, hs, hwl, rfl⟩) (dn_ixT (ds := ss.map .int) (dn_ixT (ds := [dV ws, dV ss]) (dn_var rfl (t2.s s2)) dn_int rfl) (dn_var rfl (t3.s s2)) hat)) fun v3 H3 s3 t3 => q v3 H3 ((s1.trans s2).trans s3) t3
end K32
/-! R21 -/
set_option Elab.async false
set_option linter.all false
set_option maxRecDepth 100000
set_option maxHeartbeats 400000
namespace K32
open PySem PySem.Spec PyProof.Rows L2
local macro_rules | `(tactic| walk_at "dn") => `(tactic| first
  | with_reducible exact dn_int | with_reducible exact dn_str | with_reducible exact dn_bl | with_reducible exact dn_non | with_reducible exact da_nil | with_reducible exact do_none
  | ((with_reducible refine' dn_var ?h ?k); (case h => rfl); (case k => assumption))
  | ((with_reducible refine' da_cons ?_ ?_) <;> try walk_at "dn")
  | ((with_reducible refine' dn_add ?_ ?_) <;> try walk_at "dn")
  | ((with_reducible refine' dn_sub ?_ ?_) <;> try walk_at "dn")
  | ((with_reducible refine' dn_mul ?_ ?_ ?_) <;> try walk_at "dn")
  | ((with_reducible refine' dn_lt ?_ ?_) <;> try walk_at "dn")
  | ((with_reducible refine' dn_le ?_ ?_) <;> try walk_at "dn")
  | ((with_reducible refine' dn_gt ?_ ?_) <;> try walk_at "dn")
  | ((with_reducible refine' dn_ge ?_ ?_) <;> try walk_at "dn")
  | ((with_reducible refine' dn_neg ?_) <;> try walk_at "dn")
  | ((with_reducible refine' dn_chain ?_ ?_ ?_ rd_le rd_le) <;> try walk_at "dn")
  | ((with_reducible refine' dn_chain ?_ ?_ ?_ rd_le rd_lt) <;> try walk_at "dn")
  | ((with_reducible refine' dn_isI ?h ?k); (case h => walk_at "dn"); (case k => first | with_reducible exact kb_int_int | with_reducible exact kb_int_tuple | with_reducible exact kb_int_str | with_reducible exact kb_int_bool))
  | ((with_reducible refine' dn_isT ?h ?k); (case h => walk_at "dn"); (case k => first | with_reducible exact kb_tuple_int | with_reducible exact kb_tuple_tuple | with_reducible exact kb_tuple_str | with_reducible exact kb_tuple_bool))
  | ((with_reducible refine' dn_isS ?h ?k); (case h => walk_at "dn"); (case k => first | with_reducible exact kb_str_int | with_reducible exact kb_str_tuple | with_reducible exact kb_str_str | with_reducible exact kb_str_bool))
  | ((with_reducible refine' dn_isL ?h ?k); (case h => walk_at "dn"); (case k => first | with_reducible exact kb_list_int | with_reducible exact kb_list_tuple | with_reducible exact kb_list_str | with_reducible exact kb_list_bool))
  | ((with_reducible refine' dn_isB ?h ?k); (case h => walk_at "dn"); (case k => first | with_reducible exact kb_bool_int | with_reducible exact kb_bool_tuple | with_reducible exact kb_bool_str | with_reducible exact kb_bool_bool))
  | ((with_reducible refine' dn_ixT ?h ?t ?k); (case h => walk_at "dn"); (case t => walk_at "dn"); try (case k => rfl))
  | ((with_reducible refine' dn_ixL ?h ?t ?k); (case h => walk_at "dn"); (case t => walk_at "dn"); try (case k => rfl))
  | ((with_reducible refine' dn_cb ?h ?k); (case h => walk_at "dn"); try (case k => first | exact rd_lenT | exact rd_lenL | exact rd_tupL | exact rd_lstT | exact rd_lstL | exact rc_all | exact rc_sum | exact rc_max2 | exact rc_min2))
  | ((with_reducible refine' dn_call ?h ?t ?k); (case h => walk_at "dn"); (case t => rfl))
  | ((with_reducible refine' dt_test ?_) <;> try walk_at "dn")
  | ((with_reducible refine' dt_B ?_) <;> try walk_at "dn")
  | ((with_reducible refine' dn_eqI ?h ?k); (case h => walk_at "dn"); (case k => walk_at "dn"))
  | ((with_reducible refine' dn_neI ?h ?k); (case h => walk_at "dn"); (case k => walk_at "dn"))
  | ((with_reducible refine' dn_eqS ?h ?k); (case h => walk_at "dn"); (case k => walk_at "dn"))
  | ((with_reducible refine' dn_neS ?h ?k); (case h => walk_at "dn"); (case k => walk_at "dn"))
  | ((with_reducible refine' dt_or ?_ (fun _ => ?_)) <;> try walk_at "dn")
  | ((with_reducible refine' dt_and ?_ (fun _ => ?_)) <;> try walk_at "dn")
  | ((with_reducible refine' dn_orV ?_ (fun _ => ?_)) <;> try walk_at "dn")
  | ((with_reducible refine' dn_andV ?_ (fun _ => ?_)) <;> try walk_at "dn")
  | ((with_reducible refine' dt_not ?_) <;> try walk_at "dn")
  | ((with_reducible refine' dn_notV ?_) <;> try walk_at "dn")
  | ((with_reducible refine' da_star ?_ ?_) <;> try walk_at "dn")
  | ((with_reducible refine' dn_tup ?_ ?_) <;> try walk_at "dn")
  | ((with_reducible refine' dn_lst ?_ ?_) <;> try walk_at "dn")
  | ((with_reducible refine' do_some ?_) <;> try walk_at "dn"))
variable {P : Program} {w : World} {K : PySem.W.Frag} {mg : Str → Option Value} {base : Heap}
theorem q_asg' {te : TE} {g : TG} {tz : TS} {D : Ends} {σ : L2.St} {H : Hp} (h : te σ H fun v H1 => g v σ H1 fun σ2 H2 => tz D σ2 H2) : tSeq (tAsg te g) tz D σ H := h
/-- a def with a star parameter, called with none left over -/
structure DefR (P : Program) (w : World) (K : PySem.W.Frag) (mg : Str → Option Value) (base : Heap) (CX : CXT) (k : Nat) (at_ : Str × Option Str) (sp : Sp) : Prop where
  ok : FnR P w K mg base CX k (He.fAd K at_) sp ∧ PySem.W.keepIn K (.ref (He.fAd K at_)) = true
theorem pe_cdR {X : Cx} {CX : CXT} {k : Nat} {x : Str} {sp : Sp} {E : XK} {p pos : Pos} {e : Expr} {es : List Expr} {t : TA} (D : DefR X.prog X.w X.K X.mg X.base CX k (x, none) sp) (hr : Room k X.A) (hm : X.mg x = some (.ref (He.ga X.K x))) (hx : Passes CX X E) (ha : PA X (e :: es) t)
    (hg : Gl X x := by rfl) (hdb : (x == ("__debug__" : Str)) = false := by decide) (he : starEach (e :: es) X.env = (false, eval e X.env) :: starEach es X.env := by rfl) (hpl : (backTo pos (starEach es X.env)).any (·.1) = false := by rfl) :
    PE X (.Call (.Name x p) (e :: es) [] pos) (tCall sp [] E t) := by
  obtain ⟨F, kp⟩ := D.ok
  refine ⟨fun pins s σ H Q I h => ?_⟩
  refine wpAny_Call_Name_kw (ld_glob I hg hm ?_ hdb)
  refine PySem.W.callWith_K (h₀ := X.base) I.ok.mod.kin kp (thn (ha.run pos pins s σ H _ I h) fun us s1 ⟨vs, H1, I1, r, q⟩ => ⟨I1.kIn, ?_⟩) he hpl
  have q : sp vs H1 Q E := by
    have q' : sp (vs ++ []) H1 Q E := q
    rwa [List.append_nil] at q'
  exact wpAny_call (run_fnR F hr hx I1 r q)
def spanLo (ws ss b : Vec) : Int := mnS ss + reachLo ws b
def spanHi (ws ss b : Vec) : Int := mxS ss + reachHi ws b
def fSpan (ds : List Dt) (r : Dt) : Prop := ∃ (f : Flow) (ws ss b : Vec), ds = [dFlow f, dTm ws ss, dV b] ∧ small ws ∧ ws.length ≤ 1000 ∧ ss ≠ [] ∧ ss.length ≤ 1000 ∧ r = .tuple [.int (spanLo ws ss b), .int (spanHi ws ss b), .int (spanHi ws ss b - spanLo ws ss b + 1)]
abbrev N_span_of : List Str := ["flow", "timing", "box", "planes", "plane", "starts", "low", "high", "first", "last"]
abbrev P_span_of : List Str := ["flow", "timing", "box", "planes"]
theorem sc_span_of : FnScope N_span_of P_span_of (defScope s_span_of) := ⟨rfl, rfl, rfl, by decide +kernel, rfl, by decide +kernel, by decide +kernel⟩
def spSpanIn : Sp := fun vs H Q _ => vs.length = 4 ∧ ∃ (vf vt vb : V) (p : Addr) (ds : List Dt) (r : Dt), vs = [vf, vt, vb, .ref p] ∧ H p = some (.tup []) ∧ TDs H [vf, vt, vb] ds ∧ fSpan ds r ∧ ∀ v H', Same H H' → TD H' v r → Q v H'
theorem D_span_of (T : Tx K mg) : DefR P w K mg base CX0 3 ("span_of", none) (Pu 3 fSpan) := by
  obtain ⟨fd, F⟩ := T.says.def_ 31 (d := d_span_of) rfl
  have e1 : d_span_of.dvs K = [] := rfl
  have e2 : d_span_of.kws K = [] := rfl
  rw [e1, e2] at F
  refine ⟨?_, F.kp⟩
  obtain ⟨oc, od, dV', kV, doc, pm, an, cdv, ct, osl, e, lk, hcd, hD, _⟩ := F.ex
  subst e
  have hdV : dV' = .none := by
    rcases hD with ⟨_, e⟩ | ⟨e, _⟩
    · exact e
    · exact absurd rfl e
  subst hdV
  have main := StX.fn_star (P := P) (w := w) (mg := mg) (base := base) (CX := CX0) (k := 2) (N := N_span_of) (ps := ["flow", "timing", "box"]) (pv := "planes") (sp := spSpanIn) lk hcd sc_span_of (fun _ _ _ _ _ _ _ _ _ _ _ h => h)
    (fun us rest hl => match us, rest, hl with
      | [_, _, _], [], _ => rfl
      | [_, _, _], _ :: _, _ => rfl)
    (fun A outer s H vs Q E hr h => ?_)
  · refine fun A outer s H us vs Q E hr e0 r h => main A outer s H us vs Q E hr e0 r ?_
    obtain ⟨hl, ds, r', hd, hf, q⟩ := h
    obtain ⟨f, ws, ss, b, rfl, h1⟩ := id hf
    obtain ⟨vf, vt, vb, rfl, t1, t2, t3⟩ := hd.three
    refine ⟨[vf, vt, vb], [], rfl, rfl, Nat.zero_le _, fun p hp => ⟨rfl, vf, vt, vb, p, _, r', rfl, upd_same, hd.s (Same.new hp), hf, fun v H' s' t' => q v H' ((Same.new hp).trans s') t'⟩⟩
  · obtain ⟨_, vf, vt, vb, p, ds, r, rfl, hp, hd, ⟨f, ws, ss, b, rfl, hs, hwl, hsne, hsl, rfl⟩, q⟩ := h
    obtain ⟨x, y, z, e, t1, t2, t3⟩ := hd.three
    cases e
    have tp : TD H (.ref p) (.tuple []) := .tup hp .nil
    suffices hh : ∃ t, PSs (cxOf CX0 P w K mg base N_span_of d_span_of.qual d_span_of.scope (He.fAd K d_span_of.at_) cdv A outer s H E).nox d_span_of.body t ∧ t { nx := fun _ H' => Q .non H', rt := Q } (start N_span_of [vf, vt, vb, .ref p]) H by
      obtain ⟨t, p1, p2⟩ := hh
      exact ⟨t, p1.nox, p2⟩
    refine ⟨_, (pss_cons (ps_for PassesOwn.never rfl (kpi_tup K (pv 3)) (pg_name (i := 4) sc_span_of.nd rfl (by first | exact Or.inl rfl | exact Or.inr rfl)) (pss_one (ps_expr (pe_cd (D_require_plane T) (hr.mono (by decide)) T.g_require_plane pass0 (pa_cons (pv 0) (pa_cons (pv 4) pa_nil)))))) (pss_cons (ps_set (i := 5) sc_span_of.nd rfl (by first | exact Or.inl rfl | exact Or.inr rfl) (pe_ifExp (pt_cmpR (kop_neD K hr.units) (pv 3) (pe_tup pa_nil) (nomark _)) (pe_lc (own := [("plane", 4)]) rfl sc_span_of.nd (kpi_tup K (pv 3)) (blkOk_by (N := N_span_of) (sc := defScope s_span_of) (by decide +kernel)) (fun _ _ _ _ _ => (pg_name (i := 4) sc_span_of.nd rfl (by first | exact Or.inl rfl | exact Or.inr rfl))) (fun _ _ _ _ _ => pts_nil) (fun _ _ _ _ _ => (pe_ix (kix_tup K) (pe_ix (kix_tup K) (pv 1) pe_int (fun _ _ => rfl)) (pv 4) (fun _ _ => rfl)))) (pe_callTy (kcall_list K) (by rfl) T.f_list (by decide +kernel) (pa_cons (pe_ix (kix_tup K) (pv 1) pe_int (fun _ _ => rfl)) pa_nil)))) (pss_cons (ps_asg (pe_cd (D_reach_of T) (hr.mono (by decide)) T.g_reach_of pass0 (pa_cons (pe_ix (kix_tup K) (pv 1) pe_int (fun _ _ => rfl)) (pa_cons (pv 2) pa_nil))) (kpg_tup K 2 (pgs_cons (pg_name (i := 6) sc_span_of.nd rfl (by first | exact Or.inl rfl | exact Or.inr rfl)) (pgs_cons (pg_name (i := 7) sc_span_of.nd rfl (by first | exact Or.inl rfl | exact Or.inr rfl)) pgs_nil)))) (pss_cons (ps_par (i := 8) (j := 9) (by rfl) sc_span_of.nd rfl rfl (by decide) rfl rfl (pa_cons (pe_op op_add (pe_callB (kcr_min K) (by rfl) T.f_min (by decide +kernel) (pa_cons (pv 5) pa_nil)) (pv 6)) (pa_cons (pe_op op_add (pe_callB (kcr_max K) (by rfl) T.f_max (by decide +kernel) (pa_cons (pv 5) pa_nil)) (pv 7)) pa_nil)) (by kernel_rfl)) (pss_one (ps_ret (pe_tup (pa_cons (pv 8) (pa_cons (pv 9) (pa_cons (pe_op op_add (pe_op op_sub (pv 9) (pv 8)) pe_int) pa_nil)))))))))), ?_⟩
    refine q_forK (α := Dt) id [] (srcK_tup (ds := []) (dn_var (i := 3) rfl tp) rfl) (fun i σ' H' => σ' = start N_span_of [vf, vt, vb, .ref p] ∧ Same H H') (fun i σ' Ha Hb sab h => ⟨h.1, h.2.trans sab⟩) (fun H1 s1 => ⟨rfl, s1⟩) (fun i a x σ' H1 h => by simp at h) ?_
    rintro σ' H1 kt ⟨rfl, s1⟩
    have t1 := t1.s s1
    have t2 := t2.s s1
    have t3 := t3.s s1
    have tp := tp.s s1
    have hst : ∀ {te : TE}, Dn (tIf (tTest (tOp (rNeD K) (tVar 3) (tTup tNil))) te (tCB (rList K) (tCons (tOp (rIxT K) (tVar 1) (tC (.int 1))) tNil))) (start N_span_of [vf, vt, vb, .ref p]) H1 (.list (ss.map .int)) := fun {te} => by
      refine dn_if (b := false) ?_ (fun h => nomatch h) fun _ => dn_cb (da_cons (dn_ixT (ds := [dV ws, dV ss]) (dn_var rfl t2) dn_int rfl) da_nil) (rd_lstT (K := K))
      have h1 := dn_neD (K := K) (dn_var (σ := start N_span_of [vf, vt, vb, .ref p]) (i := 3) rfl tp) (dn_tup (σ := start N_span_of [vf, vt, vb, .ref p]) (H := H1) da_nil (by decide)) (shaped_tW []) (shaped_tW [])
      have e0 : PyData.eqv (.tuple []) (.tuple []) = true := by simp [PyData.eqv, PyData.eqvAll]
      rw [e0] at h1
      exact dt_test h1
    refine q_set hst fun vs H2 s2 ts => ?_
    have t2 := t2.s s2
    have t3 := t3.s s2
    refine q_asg' ((dn_call (da_cons (dn_ixT (ds := [dV ws, dV ss]) (dn_var (i := 1) rfl t2) dn_int rfl) (da_cons (dn_var (i := 2) rfl t3) da_nil)) (by rfl) ⟨ws, b, rfl, hs, hwl, rfl⟩).go fun vr H3 s3 tr => ?_)
    obtain ⟨u1, u2, tu1, tu2, st⟩ := sto_two (K := K) (σ := (start N_span_of [vf, vt, vb, .ref p]).set 5 (some vs)) (i := 6) (j := 7) tr
    refine st _ ?_
    have ts := ts.s s3
    obtain ⟨m1, m2⟩ := mnS_ok hsne
    obtain ⟨x1, x2⟩ := mxS_ok hsne
    refine q_par (d := .int (spanLo ws ss b)) (e := .int (spanHi ws ss b)) (dn_add (dn_cb (da_cons (dn_var (i := 5) rfl ts) da_nil) (rd_minL m1 m2)) (dn_var (i := 6) rfl tu1)) (dn_add (dn_cb (da_cons (dn_var (i := 5) rfl ts) da_nil) (rd_maxL x1 x2)) (dn_var (i := 7) rfl tu2)) fun v8 v9 H4 s4 t8 t9 => ?_
    exact s_ret (dn_tup (da_cons (dn_var (i := 8) rfl t8) (da_cons (dn_var (i := 9) rfl t9) (da_cons (dn_add (dn_sub (dn_var (i := 9) rfl t9) (dn_var (i := 8) rfl t8)) dn_int) da_nil))) (by simp)) fun v H5 s5 t5 => q v H5 ((((s1.trans s2).trans s3).trans s4).trans s5) t5
end K32
/-! R22 -/
set_option Elab.async false
set_option linter.all false
set_option maxRecDepth 100000
set_option maxHeartbeats 400000
namespace K32
open PySem PySem.Spec PyProof.Rows L2
local macro_rules | `(tactic| walk_at "dn") => `(tactic| first
  | with_reducible exact dn_int | with_reducible exact dn_str | with_reducible exact dn_bl | with_reducible exact dn_non | with_reducible exact da_nil | with_reducible exact do_none
  | ((with_reducible refine' dn_var ?h ?k); (case h => rfl); (case k => assumption))
  | ((with_reducible refine' da_cons ?_ ?_) <;> try walk_at "dn")
  | ((with_reducible refine' dn_add ?_ ?_) <;> try walk_at "dn")
  | ((with_reducible refine' dn_sub ?_ ?_) <;> try walk_at "dn")
  | ((with_reducible refine' dn_mul ?_ ?_ ?_) <;> try walk_at "dn")
  | ((with_reducible refine' dn_lt ?_ ?_) <;> try walk_at "dn")
  | ((with_reducible refine' dn_le ?_ ?_) <;> try walk_at "dn")
  | ((with_reducible refine' dn_gt ?_ ?_) <;> try walk_at "dn")
  | ((with_reducible refine' dn_ge ?_ ?_) <;> try walk_at "dn")
  | ((with_reducible refine' dn_neg ?_) <;> try walk_at "dn")
  | ((with_reducible refine' dn_chain ?_ ?_ ?_ rd_le rd_le) <;> try walk_at "dn")
  | ((with_reducible refine' dn_chain ?_ ?_ ?_ rd_le rd_lt) <;> try walk_at "dn")
  | ((with_reducible refine' dn_isI ?h ?k); (case h => walk_at "dn"); (case k => first | with_reducible exact kb_int_int | with_reducible exact kb_int_tuple | with_reducible exact kb_int_str | with_reducible exact kb_int_bool))
  | ((with_reducible refine' dn_isT ?h ?k); (case h => walk_at "dn"); (case k => first | with_reducible exact kb_tuple_int | with_reducible exact kb_tuple_tuple | with_reducible exact kb_tuple_str | with_reducible exact kb_tuple_bool))
  | ((with_reducible refine' dn_isS ?h ?k); (case h => walk_at "dn"); (case k => first | with_reducible exact kb_str_int | with_reducible exact kb_str_tuple | with_reducible exact kb_str_str | with_reducible exact kb_str_bool))
  | ((with_reducible refine' dn_isL ?h ?k); (case h => walk_at "dn"); (case k => first | with_reducible exact kb_list_int | with_reducible exact kb_list_tuple | with_reducible exact kb_list_str | with_reducible exact kb_list_bool))
  | ((with_reducible refine' dn_isB ?h ?k); (case h => walk_at "dn"); (case k => first | with_reducible exact kb_bool_int | with_reducible exact kb_bool_tuple | with_reducible exact kb_bool_str | with_reducible exact kb_bool_bool))
  | ((with_reducible refine' dn_ixT ?h ?t ?k); (case h => walk_at "dn"); (case t => walk_at "dn"); try (case k => rfl))
  | ((with_reducible refine' dn_ixL ?h ?t ?k); (case h => walk_at "dn"); (case t => walk_at "dn"); try (case k => rfl))
  | ((with_reducible refine' dn_cb ?h ?k); (case h => walk_at "dn"); try (case k => first | exact rd_lenT | exact rd_lenL | exact rd_tupL | exact rd_lstT | exact rd_lstL | exact rc_all | exact rc_sum | exact rc_max2 | exact rc_min2))
  | ((with_reducible refine' dn_call ?h ?t ?k); (case h => walk_at "dn"); (case t => rfl))
  | ((with_reducible refine' dt_test ?_) <;> try walk_at "dn")
  | ((with_reducible refine' dt_B ?_) <;> try walk_at "dn")
  | ((with_reducible refine' dn_eqI ?h ?k); (case h => walk_at "dn"); (case k => walk_at "dn"))
  | ((with_reducible refine' dn_neI ?h ?k); (case h => walk_at "dn"); (case k => walk_at "dn"))
  | ((with_reducible refine' dn_eqS ?h ?k); (case h => walk_at "dn"); (case k => walk_at "dn"))
  | ((with_reducible refine' dn_neS ?h ?k); (case h => walk_at "dn"); (case k => walk_at "dn"))
  | ((with_reducible refine' dt_or ?_ (fun _ => ?_)) <;> try walk_at "dn")
  | ((with_reducible refine' dt_and ?_ (fun _ => ?_)) <;> try walk_at "dn")
  | ((with_reducible refine' dn_orV ?_ (fun _ => ?_)) <;> try walk_at "dn")
  | ((with_reducible refine' dn_andV ?_ (fun _ => ?_)) <;> try walk_at "dn")
  | ((with_reducible refine' dt_not ?_) <;> try walk_at "dn")
  | ((with_reducible refine' dn_notV ?_) <;> try walk_at "dn")
  | ((with_reducible refine' da_star ?_ ?_) <;> try walk_at "dn")
  | ((with_reducible refine' dn_tup ?_ ?_) <;> try walk_at "dn")
  | ((with_reducible refine' dn_lst ?_ ?_) <;> try walk_at "dn")
  | ((with_reducible refine' do_some ?_) <;> try walk_at "dn"))
variable {P : Program} {w : World} {K : PySem.W.Frag} {mg : Str → Option Value} {base : Heap}
abbrev N_is_weights : List Str := ["dims", "value"]
abbrev P_is_weights : List Str := ["dims", "value"]
theorem sc_is_weights : FnScope N_is_weights P_is_weights (defScope s_is_weights) := ⟨rfl, rfl, rfl, by decide +kernel, rfl, by decide +kernel, by decide +kernel⟩
def fIsW (ds : List Dt) (r : Dt) : Prop := ∃ (n : Int) (v : Vec), ds = [.int n, dV v] ∧ (v.length : Int) = n ∧ v.length ≤ 1000 ∧ (∀ x ∈ v, -60 ≤ x ∧ x ≤ 60) ∧ r = .bool true
theorem allIn_true {v : Vec} {n lo hi : Int} (h : (v.length : Int) = n) (hb : ∀ x ∈ v, lo ≤ x ∧ x ≤ hi) : allIn v n lo hi = true := by
  unfold allIn
  rw [if_pos h, List.all_map, List.all_eq_true]
  intro x hx
  have := hb x hx
  simp [this.1, this.2]
theorem D_is_weights (T : Tx K mg) : DefP P w K mg base CX0 3 ("is_weights", none) P_is_weights (Pu 2 fIsW) := by
  refine mk_def T 26 d_is_weights rfl rfl rfl sc_is_weights (fun vs H Q E h => h.1) (fun _ _ _ _ _ _ us hl => match us, hl with | [_, _], _ => rfl) (fun cdv A outer s H vs Q E hr h => ?_)
  obtain ⟨_, ds, r, hd, ⟨n, v, rfl, hn, hl, hb, rfl⟩, q⟩ := h
  obtain ⟨x, y, rfl, t1, t2⟩ := hd.two
  obtain ⟨tkW, mMAX_WEIGHT⟩ := T.i_MAX_WEIGHT
  refine ⟨_, (pss_one (ps_ret (pe_cd (D_are_integers T) (hr.mono (by decide)) T.g_are_integers pass0 (pa_cons (pv 1) (pa_cons (pv 0) (pa_cons (pe_un un_neg (pe_glob (v := .int 60) rfl mMAX_WEIGHT ⟨_, rfl⟩)) (pa_cons (pe_glob (v := .int 60) rfl mMAX_WEIGHT ⟨_, rfl⟩) pa_nil))))))), ?_⟩
  refine s_ret (dn_call (z := .bool true) (da_cons (dn_var rfl t2) (da_cons (dn_var rfl t1) (da_cons (dn_neg dn_int) (da_cons dn_int da_nil)))) (by rfl) ⟨v, n, -60, 60, rfl, hl, by rw [allIn_true hn hb]⟩) q
abbrev N_require_weights : List Str := ["flow", "weights"]
abbrev P_require_weights : List Str := ["flow", "weights"]
theorem sc_require_weights : FnScope N_require_weights P_require_weights (defScope s_require_weights) := ⟨rfl, rfl, rfl, by decide +kernel, rfl, by decide +kernel, by decide +kernel⟩
def fReqW (ds : List Dt) (r : Dt) : Prop := ∃ (f : Flow) (v : Vec), ds = [dFlow f, dV v] ∧ (v.length : Int) = f.dims ∧ v.length ≤ 1000 ∧ (∀ x ∈ v, -60 ≤ x ∧ x ≤ 60) ∧ r = .none
theorem D_require_weights (T : Tx K mg) : DefP P w K mg base CX0 4 ("require_weights", none) P_require_weights (Pu 2 fReqW) := by
  refine mk_def T 27 d_require_weights rfl rfl rfl sc_require_weights (fun vs H Q E h => h.1) (fun _ _ _ _ _ _ us hl => match us, hl with | [_, _], _ => rfl) (fun cdv A outer s H vs Q E hr h => ?_)
  obtain ⟨_, ds, r, hd, ⟨f, v, rfl, hn, hl, hb, rfl⟩, q⟩ := h
  obtain ⟨x, y, rfl, t1, t2⟩ := hd.two
  refine ⟨_, (pss_one (ps_if (pt_not (pt_val (pe_cd (D_is_weights T) (hr.mono (by decide)) T.g_is_weights pass0 (pa_cons (pe_ix (kix_tup K) (pv 0) pe_int (fun _ _ => rfl)) (pa_cons (pv 1) pa_nil))))) (pss_one ps_never) pss_nil)), ?_⟩
  exact s_ifno (DnT.is (b := !true) (dt_not (dt_B (dn_call (z := .bool true) (da_cons (dn_ixT (ds := [.int f.dims, .tuple (f.rules.map dRule)]) (dn_var rfl t1) dn_int rfl) (da_cons (dn_var rfl t2) da_nil)) (by rfl) ⟨f.dims, v, rfl, hn, hl, hb, rfl⟩))) rfl) fun H2 s2 => q _ H2 s2 .non
/-! ### a read by its place -/
theorem rule_at {f : Flow} {i : Nat} {r : Str × List Wd} (h : f.rules[i]? = some r) : L2.atI (f.rules.map dRule) (i : Int) = some (.tuple (.str r.1 :: r.2.map dW)) := by
  rw [atI_nat, List.getElem?_map, h]; rfl
theorem read_at {r : Str × List Wd} {j : Nat} {q : Wd} (h : r.2[j]? = some q) : L2.atI (.str r.1 :: r.2.map dW) ((j : Int) + 1) = some (.tuple [.int q.1, dV q.2]) := by
  rw [show (j : Int) + 1 = ((j + 1 : Nat) : Int) by omega, atI_nat, List.getElem?_cons_succ, List.getElem?_map, h]; rfl
def dPr (p : Int × Int) : Dt := .tuple [.int p.1, .int p.2]
abbrev N_source_of : List Str := ["flow", "read"]
abbrev P_source_of : List Str := ["flow", "read"]
theorem sc_source_of : FnScope N_source_of P_source_of (defScope s_source_of) := ⟨rfl, rfl, rfl, by decide +kernel, rfl, by decide +kernel, by decide +kernel⟩
def fSource (ds : List Dt) (r : Dt) : Prop := ∃ (f : Flow) (i j : Nat) (rule : Str × List Wd) (q : Wd), ds = [dFlow f, dPr ((i : Int), (j : Int))] ∧ f.rules[i]? = some rule ∧ rule.2[j]? = some q ∧ r = .int q.1
theorem D_source_of (T : Tx K mg) : DefP P w K mg base CX0 1 ("source_of", none) P_source_of (Pu 2 fSource) := by
  refine mk_def T 32 d_source_of rfl rfl rfl sc_source_of (fun vs H Q E h => h.1) (fun _ _ _ _ _ _ us hl => match us, hl with | [_, _], _ => rfl) (fun cdv A outer s H vs Q E hr h => ?_)
  obtain ⟨_, ds, r, hd, ⟨f, i, j, rule, q0, rfl, h1, h2, rfl⟩, q⟩ := h
  obtain ⟨x, y, rfl, t1, t2⟩ := hd.two
  refine ⟨_, (pss_one (ps_ret (pe_ix (kix_tup K) (pe_ix (kix_tup K) (pe_ix (kix_tup K) (pe_ix (kix_tup K) (pv 0) pe_int (fun _ _ => rfl)) (pe_ix (kix_tup K) (pv 1) pe_int (fun _ _ => rfl)) (fun _ _ => rfl)) (pe_op op_add (pe_ix (kix_tup K) (pv 1) pe_int (fun _ _ => rfl)) pe_int) (fun _ _ => rfl)) pe_int (fun _ _ => rfl)))), ?_⟩
  exact s_ret (dn_ixT (ds := [.int q0.1, dV q0.2]) (dn_ixT (ds := .str rule.1 :: rule.2.map dW) (dn_ixT (ds := f.rules.map dRule) (dn_ixT (ds := [.int f.dims, .tuple (f.rules.map dRule)]) (dn_var rfl t1) dn_int rfl) (dn_ixT (ds := [.int (i : Int), .int (j : Int)]) (dn_var rfl t2) dn_int rfl) (rule_at h1)) (dn_add (dn_ixT (ds := [.int (i : Int), .int (j : Int)]) (dn_var rfl t2) dn_int rfl) dn_int) (read_at h2)) dn_int rfl) q
abbrev N_gain_of : List Str := ["flow", "weights", "read"]
abbrev P_gain_of : List Str := ["flow", "weights", "read"]
theorem sc_gain_of : FnScope N_gain_of P_gain_of (defScope s_gain_of) := ⟨rfl, rfl, rfl, by decide +kernel, rfl, by decide +kernel, by decide +kernel⟩
def fGain (ds : List Dt) (r : Dt) : Prop := ∃ (f : Flow) (ws : Vec) (i j : Nat) (rule : Str × List Wd) (q : Wd), ds = [dFlow f, dV ws, dPr ((i : Int), (j : Int))] ∧ f.rules[i]? = some rule ∧ rule.2[j]? = some q ∧ small ws ∧ ws.length ≤ 1000 ∧ r = .int (dotp ws q.2)
theorem D_gain_of (T : Tx K mg) : DefP P w K mg base CX0 2 ("gain_of", none) P_gain_of (Pu 3 fGain) := by
  refine mk_def T 33 d_gain_of rfl rfl rfl sc_gain_of (fun vs H Q E h => h.1) (fun _ _ _ _ _ _ us hl => match us, hl with | [_, _, _], _ => rfl) (fun cdv A outer s H vs Q E hr h => ?_)
  obtain ⟨_, ds, r, hd, ⟨f, ws, i, j, rule, q0, rfl, h1, h2, hs, hl, rfl⟩, q⟩ := h
  obtain ⟨x, y, z, rfl, t1, t2, t3⟩ := hd.three
  refine ⟨_, (pss_one (ps_ret (pe_cd (D_dot T) (hr.mono (by decide)) T.g_dot pass0 (pa_cons (pv 1) (pa_cons (pe_ix (kix_tup K) (pe_ix (kix_tup K) (pe_ix (kix_tup K) (pe_ix (kix_tup K) (pv 0) pe_int (fun _ _ => rfl)) (pe_ix (kix_tup K) (pv 2) pe_int (fun _ _ => rfl)) (fun _ _ => rfl)) (pe_op op_add (pe_ix (kix_tup K) (pv 2) pe_int (fun _ _ => rfl)) pe_int) (fun _ _ => rfl)) pe_int (fun _ _ => rfl)) pa_nil))))), ?_⟩
  exact s_ret (dn_call (da_cons (dn_var rfl t2) (da_cons (dn_ixT (ds := [.int q0.1, dV q0.2]) (dn_ixT (ds := .str rule.1 :: rule.2.map dW) (dn_ixT (ds := f.rules.map dRule) (dn_ixT (ds := [.int f.dims, .tuple (f.rules.map dRule)]) (dn_var rfl t1) dn_int rfl) (dn_ixT (ds := [.int (i : Int), .int (j : Int)]) (dn_var rfl t3) dn_int rfl) (rule_at h1)) (dn_add (dn_ixT (ds := [.int (i : Int), .int (j : Int)]) (dn_var rfl t3) dn_int rfl) dn_int) (read_at h2)) dn_int rfl) da_nil)) (by rfl) ⟨ws, q0.2, rfl, hs, hl, rfl⟩) q
/-! ### arcs -/
abbrev Arc := Int × Int × Int
def dArc (a : Arc) : Dt := .tuple [.int a.1, .int a.2.1, .int a.2.2]
/-- the places of all reads -/
def rpl (f : Flow) : List (Int × Int) := f.rules.zipIdx.flatMap fun p => (List.range p.1.2.length).map fun j : Nat => ((p.2 : Int), (j : Int))
def arcAt (f : Flow) (ws : Vec) (p : Int × Int) : Arc :=
  let q := (((f.rules[p.1.toNat]?).getD ("", [])).2[p.2.toNat]?).getD w0
  (q.1, p.1, 1 - dotp ws q.2)
def arcsL (f : Flow) (ws : Vec) : List Arc := (rpl f).map (arcAt f ws)
theorem mem_rpl {f : Flow} {p : Int × Int} (h : p ∈ rpl f) : ∃ (i j : Nat) (rule : Str × List Wd) (q : Wd), p = ((i : Int), (j : Int)) ∧ f.rules[i]? = some rule ∧ rule.2[j]? = some q := by
  obtain ⟨⟨rule, i⟩, hp, h⟩ := List.mem_flatMap.mp h
  obtain ⟨j, hj, rfl⟩ := List.mem_map.mp h
  have hj := List.mem_range.mp hj
  exact ⟨i, j, rule, rule.2[j], rfl, List.mem_zipIdx_iff_getElem?.mp hp, List.getElem?_eq_getElem hj⟩
theorem arcAt_is {f : Flow} {ws : Vec} {i j : Nat} {rule : Str × List Wd} {q : Wd} (h1 : f.rules[i]? = some rule) (h2 : rule.2[j]? = some q) : arcAt f ws ((i : Int), (j : Int)) = (q.1, (i : Int), 1 - dotp ws q.2) := by
  unfold arcAt
  simp [h1, h2]
theorem rpl_len {f : Flow} (h : FlowOk f) : (rpl f).length ≤ 18 := by
  unfold rpl
  have key : ∀ (l : List ((Str × List Wd) × Nat)), (∀ p ∈ l, p.1.2.length ≤ 3) → (l.flatMap fun p => (List.range p.1.2.length).map fun j : Nat => ((p.2 : Int), (j : Int))).length ≤ 3 * l.length := by
    intro l
    induction l with
    | nil => intro _; simp
    | cons a l ih =>
      intro hl
      have h1 := hl a (List.mem_cons_self ..)
      have h2 := ih fun p hp => hl p (List.mem_cons_of_mem _ hp)
      rw [List.flatMap_cons, List.length_append, List.length_map, List.length_range, List.length_cons]
      omega
  have h1 := key f.rules.zipIdx (fun p hp => (h.r1 p.1 (List.fst_mem_of_mem_zipIdx hp)).2)
  rw [List.length_zipIdx] at h1
  have := h.n6
  omega
abbrev N_arcs_of : List Str := ["flow", "weights", "reads", "arcs", "operand", "read", "plane", "rule"]
abbrev P_arcs_of : List Str := ["flow", "weights"]
theorem sc_arcs_of : FnScope N_arcs_of P_arcs_of (defScope s_arcs_of) := ⟨rfl, rfl, rfl, by decide +kernel, rfl, by decide +kernel, by decide +kernel⟩
def fArcs (ds : List Dt) (r : Dt) : Prop := ∃ (f : Flow) (ws : Vec), ds = [dFlow f, dV ws] ∧ FlowOk f ∧ small ws ∧ ws.length ≤ 1000 ∧ r = .tuple [.list ((arcsL f ws).map dArc), .list ((rpl f).map dPr)]
theorem flat_dPr (p : Int × Int) : flat (dPr p) = true := rfl
theorem flat_dArc (p : Arc) : flat (dArc p) = true := rfl
theorem D_arcs_of (T : Tx K mg) : DefP P w K mg base CX0 3 ("arcs_of", none) P_arcs_of (Pu 2 fArcs) := by
  refine mk_def T 35 d_arcs_of rfl rfl rfl sc_arcs_of (fun vs H Q E h => h.1) (fun _ _ _ _ _ _ us hl => match us, hl with | [_, _], _ => rfl) (fun cdv A outer s H vs Q E hr h => ?_)
  obtain ⟨_, ds, r, hd, ⟨f, ws, rfl, hf, hs, hwl, rfl⟩, q⟩ := h
  obtain ⟨x, y, rfl, t1, t2⟩ := hd.two
  refine ⟨_, (pss_cons (ps_setLc2 (i := 2) (own := [("plane", 6), ("rule", 7), ("operand", 4)]) (vs1 := [4]) rfl sc_arcs_of.nd rfl rfl (sw_true rfl rfl rfl (by decide +kernel)) (kpi_enumT K T.f_enumerate (pa_cons (pe_ix (kix_tup K) (pv 0) pe_int (fun _ _ => rfl)) pa_nil)) (blkOk_by (N := N_arcs_of) (sc := defScope s_arcs_of) (by decide +kernel)) (by decide) (fun _ _ _ _ _ => (kpg_tup K 2 (pgs_cons (pg_name (i := 6) sc_arcs_of.nd rfl (by first | exact Or.inl rfl | exact Or.inr rfl)) (pgs_cons (pg_name (i := 7) sc_arcs_of.nd rfl (by first | exact Or.inl rfl | exact Or.inr rfl)) pgs_nil)))) (fun _ _ _ _ _ => pts_nil) (fun _ _ _ _ _ => (pi_range1 rfl T.f_range (pa_cons (pe_op op_sub (pe_callB (kcall_len K) (by rfl) T.f_len boot_len (pa_cons (pv 7) pa_nil)) pe_int) pa_nil))) (fun _ _ _ _ _ => (pg_name (i := 4) sc_arcs_of.nd rfl (by first | exact Or.inl rfl | exact Or.inr rfl))) (fun _ _ _ _ _ => pts_nil) (fun _ _ _ _ _ => (pe_tup (pa_cons (pv 6) (pa_cons (pv 4) pa_nil))))) (pss_cons (ps_setLc (i := 3) (own := [("read", 5)]) rfl sc_arcs_of.nd rfl rfl (sw_true rfl rfl rfl (by decide +kernel)) (kpi_list K (pv 2)) (blkOk_by (N := N_arcs_of) (sc := defScope s_arcs_of) (by decide +kernel)) (fun _ _ _ _ _ => (pg_name (i := 5) sc_arcs_of.nd rfl (by first | exact Or.inl rfl | exact Or.inr rfl))) (fun _ _ _ _ _ => pts_nil) (fun _ _ _ _ _ => (pe_tup (pa_cons (pe_cd (D_source_of T) (hr.mono (by decide)) T.g_source_of pass0 (pa_cons (pv 0) (pa_cons (pv 5) pa_nil))) (pa_cons (pe_ix (kix_tup K) (pv 5) pe_int (fun _ _ => rfl)) (pa_cons (pe_op op_sub pe_int (pe_cd (D_gain_of T) (hr.mono (by decide)) T.g_gain_of pass0 (pa_cons (pv 0) (pa_cons (pv 1) (pa_cons (pv 5) pa_nil))))) pa_nil)))))) (pss_one (ps_ret (pe_tup (pa_cons (pv 3) (pa_cons (pv 2) pa_nil))))))), ?_⟩
  have hrl := rpl_len hf
  have e : (rpl f).map dPr = f.rules.zipIdx.flatMap fun p => (List.range p.1.2.length).map fun j : Nat => dPr ((p.2 : Int), (j : Int)) := by
    unfold rpl
    rw [List.map_flatMap]
    simp only [List.map_map]
    rfl
  refine q_set (d := .list ((rpl f).map dPr)) ?_ fun v H1 s1 t3 => ?_
  · rw [e]
    have hsx : ((f.rules.map dRule).zipIdx.map fun p => PyData.tuple [.int (p.2 : Nat), p.1]) = f.rules.zipIdx.map fun p => PyData.tuple [.int (p.2 : Nat), dRule p.1] := by
      rw [List.zipIdx_map, List.map_map]; rfl
    refine dn_lc2 (fun p : (Str × List Wd) × Nat => PyData.tuple [.int (p.2 : Nat), dRule p.1]) f.rules.zipIdx (fun _ j => .int ((j : Nat) : Int)) (fun p => List.range p.1.2.length) (fun p j => dPr ((p.2 : Int), (j : Int))) ?_ ?_ (fun _ _ _ _ => flat_dPr _) ?_
    · rw [← hsx]
      exact src_enumT (da_cons (dn_ixT (ds := [.int f.dims, .tuple (f.rules.map dRule)]) (dn_var rfl t1) dn_int rfl) da_nil)
    · rw [← e, List.length_map]; omega
    · rintro ⟨⟨kd, rs⟩, i⟩ hp z H1 s1 tz
      have hr3 := (hf.r1 (kd, rs) (List.fst_mem_of_mem_zipIdx hp)).2
      obtain ⟨u, v, tu, tv, st⟩ := sto_two (K := K) (σ := wipe _ _) (i := 6) (j := 7) tz
      refine ⟨_, st, rfl, ?_, ?_⟩
      · have h3 := srcK_rng1 (σ := ((wipe (L2.start N_arcs_of [x, y]) [6, 7, 4]).set 6 (some u)).set 7 (some v)) (H := H1) (ta := tCons (tOp (rI0 fun i j => .int (i - j)) (tCB (rLen K) (tCons (tVar 7) tNil)) (tC (.int 1))) tNil) (n := (((PyData.str kd :: rs.map dW).length : Nat) : Int) - 1) (da_cons (dn_sub (dn_cb (da_cons (dn_var (d := .tuple (.str kd :: rs.map dW)) rfl tv) da_nil) (rd_lenT (K := K))) dn_int) da_nil) (by simp at hr3 ⊢; omega) (by simp)
        have en : ((((PyData.str kd :: rs.map dW).length : Nat) : Int) - 1).toNat = rs.length := by simp
        rw [en] at h3
        exact h3
      · intro j hj y2 H2 s2 kt ty
        exact ⟨_, sto_name, rfl, dn_tup (da_cons (dn_var rfl (tu.k kt rfl)) (da_cons (dn_var rfl ty) da_nil)) (by simp)⟩
  · have t1 := t1.s s1
    have t2 := t2.s s1
    refine q_set (d := .list ((arcsL f ws).map dArc)) ?_ fun v2 H2 s2 t4 => s_ret (dn_tup (da_cons (dn_var rfl t4) (da_cons (dn_var rfl (t3.s s2)) da_nil)) (by simp)) fun v3 H3 s3 t5 => q v3 H3 ((s1.trans s2).trans s3) t5
    have e2 : (arcsL f ws).map dArc = (rpl f).map fun p => dArc (arcAt f ws p) := by unfold arcsL; rw [List.map_map]; rfl
    rw [e2]
    refine dn_lcm dPr (rpl f) _ (src_lst (dn_var rfl t3)) (by omega) (fun _ _ => flat_dArc _) fun p hp u H2 s2 tu => ⟨_, sto_name, rfl, ?_⟩
    obtain ⟨i, j, rule, q0, rfl, h1, h2⟩ := mem_rpl hp
    rw [arcAt_is h1 h2]
    have t1 := t1.s s2
    have t2 := t2.s s2
    exact dn_tup (da_cons (dn_call (da_cons (dn_var rfl t1) (da_cons (dn_var rfl tu) da_nil)) (by rfl) ⟨f, i, j, rule, q0, rfl, h1, h2, rfl⟩) (da_cons (dn_ixT (ds := [.int (i : Int), .int (j : Int)]) (dn_var rfl tu) dn_int rfl) (da_cons (dn_sub dn_int (dn_call (da_cons (dn_var rfl t1) (da_cons (dn_var rfl t2) (da_cons (dn_var rfl tu) da_nil))) (by rfl) ⟨f, ws, i, j, rule, q0, rfl, h1, h2, hs, hwl, rfl⟩)) da_nil))) (by simp)
end K32
/-! M5 -/
set_option Elab.async false
set_option linter.all false
set_option maxRecDepth 100000
set_option maxHeartbeats 400000
namespace K32
open PySem PySem.Spec PyProof.Rows L2
local macro_rules | `(tactic| walk_at "dn") => `(tactic| first
  | with_reducible exact dn_int | with_reducible exact dn_str | with_reducible exact dn_bl | with_reducible exact dn_non | with_reducible exact da_nil | with_reducible exact do_none
  | ((with_reducible refine' dn_var ?h ?k); (case h => rfl); (case k => assumption))
  | ((with_reducible refine' da_cons ?_ ?_) <;> try walk_at "dn")
  | ((with_reducible refine' dn_add ?_ ?_) <;> try walk_at "dn")
  | ((with_reducible refine' dn_sub ?_ ?_) <;> try walk_at "dn")
  | ((with_reducible refine' dn_mul ?_ ?_ ?_) <;> try walk_at "dn")
  | ((with_reducible refine' dn_lt ?_ ?_) <;> try walk_at "dn")
  | ((with_reducible refine' dn_le ?_ ?_) <;> try walk_at "dn")
  | ((with_reducible refine' dn_gt ?_ ?_) <;> try walk_at "dn")
  | ((with_reducible refine' dn_ge ?_ ?_) <;> try walk_at "dn")
  | ((with_reducible refine' dn_neg ?_) <;> try walk_at "dn")
  | ((with_reducible refine' dn_chain ?_ ?_ ?_ rd_le rd_le) <;> try walk_at "dn")
  | ((with_reducible refine' dn_chain ?_ ?_ ?_ rd_le rd_lt) <;> try walk_at "dn")
  | ((with_reducible refine' dn_isI ?h ?k); (case h => walk_at "dn"); (case k => first | with_reducible exact kb_int_int | with_reducible exact kb_int_tuple | with_reducible exact kb_int_str | with_reducible exact kb_int_bool))
  | ((with_reducible refine' dn_isT ?h ?k); (case h => walk_at "dn"); (case k => first | with_reducible exact kb_tuple_int | with_reducible exact kb_tuple_tuple | with_reducible exact kb_tuple_str | with_reducible exact kb_tuple_bool))
  | ((with_reducible refine' dn_isS ?h ?k); (case h => walk_at "dn"); (case k => first | with_reducible exact kb_str_int | with_reducible exact kb_str_tuple | with_reducible exact kb_str_str | with_reducible exact kb_str_bool))
  | ((with_reducible refine' dn_isL ?h ?k); (case h => walk_at "dn"); (case k => first | with_reducible exact kb_list_int | with_reducible exact kb_list_tuple | with_reducible exact kb_list_str | with_reducible exact kb_list_bool))
  | ((with_reducible refine' dn_isB ?h ?k); (case h => walk_at "dn"); (case k => first | with_reducible exact kb_bool_int | with_reducible exact kb_bool_tuple | with_reducible exact kb_bool_str | with_reducible exact kb_bool_bool))
  | ((with_reducible refine' dn_ixT ?h ?t ?k); (case h => walk_at "dn"); (case t => walk_at "dn"); try (case k => rfl))
  | ((with_reducible refine' dn_ixL ?h ?t ?k); (case h => walk_at "dn"); (case t => walk_at "dn"); try (case k => rfl))
  | ((with_reducible refine' dn_cb ?h ?k); (case h => walk_at "dn"); try (case k => first | exact rd_lenT | exact rd_lenL | exact rd_tupL | exact rd_lstT | exact rd_lstL | exact rc_all | exact rc_sum | exact rc_max2 | exact rc_min2))
  | ((with_reducible refine' dn_call ?h ?t ?k); (case h => walk_at "dn"); (case t => rfl))
  | ((with_reducible refine' dt_test ?_) <;> try walk_at "dn")
  | ((with_reducible refine' dt_B ?_) <;> try walk_at "dn")
  | ((with_reducible refine' dn_eqI ?h ?k); (case h => walk_at "dn"); (case k => walk_at "dn"))
  | ((with_reducible refine' dn_neI ?h ?k); (case h => walk_at "dn"); (case k => walk_at "dn"))
  | ((with_reducible refine' dn_eqS ?h ?k); (case h => walk_at "dn"); (case k => walk_at "dn"))
  | ((with_reducible refine' dn_neS ?h ?k); (case h => walk_at "dn"); (case k => walk_at "dn"))
  | ((with_reducible refine' dt_or ?_ (fun _ => ?_)) <;> try walk_at "dn")
  | ((with_reducible refine' dt_and ?_ (fun _ => ?_)) <;> try walk_at "dn")
  | ((with_reducible refine' dn_orV ?_ (fun _ => ?_)) <;> try walk_at "dn")
  | ((with_reducible refine' dn_andV ?_ (fun _ => ?_)) <;> try walk_at "dn")
  | ((with_reducible refine' dt_not ?_) <;> try walk_at "dn")
  | ((with_reducible refine' dn_notV ?_) <;> try walk_at "dn")
  | ((with_reducible refine' da_star ?_ ?_) <;> try walk_at "dn")
  | ((with_reducible refine' dn_tup ?_ ?_) <;> try walk_at "dn")
  | ((with_reducible refine' dn_lst ?_ ?_) <;> try walk_at "dn")
  | ((with_reducible refine' do_some ?_) <;> try walk_at "dn"))
variable {P : Program} {w : World} {K : PySem.W.Frag} {mg : Str → Option Value} {base : Heap}
/-! ### numbers that grow, in plain Lean -/
structure Ns where
  h : Nat → Int
  pb : Nat → Option Nat
  g : Option Nat
  lp : Nat → Nat
def ab (a : Arc) : Nat := a.1.toNat
def ae (a : Arc) : Nat := a.2.1.toNat
def an (a : Arc) : Int := a.2.2
def upF {α : Type} (f : Nat → α) (e : Nat) (x : α) : Nat → α := fun v => if v = e then x else f v
theorem upF_e {α : Type} {f : Nat → α} {e : Nat} {x : α} : upF f e x e = x := if_pos rfl
theorem upF_n {α : Type} {f : Nat → α} {e v : Nat} {x : α} (h : v ≠ e) : upF f e x v = f v := if_neg h
def grN (p : Nat) (s : Ns) (a : Arc) (k : Nat) : Ns := ⟨upF s.h (ae a) (s.h (ab a) + an a), upF s.pb (ae a) (some k), some (ae a), upF s.lp (ae a) p⟩
def stepN (p : Nat) (s : Ns) (a : Arc) (k : Nat) : Ns := if s.h (ae a) < s.h (ab a) + an a then grN p s a k else s
def runK (arcs : List Arc) (p : Nat) (s : Ns) : Nat → Ns
  | 0 => { s with g := none }
  | k + 1 => match arcs[k]? with
    | some a => stepN p (runK arcs p s k) a k
    | none => runK arcs p s k
def passN (arcs : List Arc) (p : Nat) (s : Ns) : Ns := runK arcs p s arcs.length
def ns0 : Ns := ⟨fun _ => 0, fun _ => none, none, fun _ => 0⟩
def stN (arcs : List Arc) : Nat → Ns
  | 0 => ns0
  | k + 1 => passN arcs (k + 1) (stN arcs k)
theorem runK_s {arcs : List Arc} {p : Nat} {s : Ns} {k : Nat} {a : Arc} (h : arcs[k]? = some a) : runK arcs p s (k + 1) = stepN p (runK arcs p s k) a k := by
  show (match arcs[k]? with | some a => stepN p (runK arcs p s k) a k | none => runK arcs p s k) = _
  rw [h]
structure Iv (arcs : List Arc) (p k : Nat) (s : Ns) : Prop where
  pa : ∀ (i : Nat) (a : Arc), arcs[i]? = some a → i < k → s.h (ab a) + an a ≤ s.h (ae a) ∨ p ≤ s.lp (ab a)
  pb : ∀ (i : Nat) (a : Arc), arcs[i]? = some a → k ≤ i → s.h (ab a) + an a ≤ s.h (ae a) ∨ p ≤ s.lp (ab a) + 1
  par : ∀ v, 1 ≤ s.lp v → ∃ (i : Nat) (a : Arc), s.pb v = some i ∧ arcs[i]? = some a ∧ ae a = v ∧ s.lp v ≤ s.lp (ab a) + 1
  le : ∀ v, s.lp v ≤ p
structure Ig (arcs : List Arc) (p k : Nat) (s : Ns) : Prop where
  gn : s.g = none → ∀ (i : Nat) (a : Arc), arcs[i]? = some a → i < k → s.h (ab a) + an a ≤ s.h (ae a)
  gs : ∀ v, s.g = some v → s.lp v = p ∧ ∃ a ∈ arcs, ae a = v
theorem Iv.step {arcs : List Arc} {p k : Nat} {s : Ns} {a : Arc} (h : Iv arcs p k s) (g : Ig arcs p k s) (ha : arcs[k]? = some a) : Iv arcs p (k + 1) (stepN p s a k) ∧ Ig arcs p (k + 1) (stepN p s a k) := by
  unfold stepN
  by_cases hg : s.h (ae a) < s.h (ab a) + an a
  · rw [if_pos hg]
    have hm : ∀ v, s.h v ≤ (grN p s a k).h v := fun v => by
      show _ ≤ upF _ _ _ v
      by_cases e : v = ae a
      · subst e; rw [upF_e]; omega
      · rw [upF_n e]; exact Int.le_refl _
    have hlm : ∀ v, s.lp v ≤ (grN p s a k).lp v := fun v => by
      show _ ≤ upF _ _ _ v
      by_cases e : v = ae a
      · subst e; rw [upF_e]; exact h.le _
      · rw [upF_n e]; exact Nat.le_refl _
    have hb : p ≤ s.lp (ab a) + 1 := by
      rcases h.pb k a ha (Nat.le_refl _) with h1 | h1
      · omega
      · exact h1
    have hold : ∀ (i : Nat) (a' : Arc), arcs[i]? = some a' → (s.h (ab a') + an a' ≤ s.h (ae a') ∨ p ≤ s.lp (ab a')) → (grN p s a k).h (ab a') + an a' ≤ (grN p s a k).h (ae a') ∨ p ≤ (grN p s a k).lp (ab a') := by
      intro i a' hi h1
      by_cases e : ab a' = ae a
      · right; show p ≤ upF _ _ _ _; rw [e, upF_e]; exact Nat.le_refl _
      · rcases h1 with h1 | h1
        · left
          have h2 := hm (ae a')
          show upF _ _ _ _ + _ ≤ _
          rw [upF_n e]
          omega
        · exact .inr (Nat.le_trans h1 (hlm _))
    refine ⟨⟨?_, ?_, ?_, ?_⟩, ⟨fun h1 => (nomatch h1), ?_⟩⟩
    · intro i a' hi hik
      rcases Nat.lt_succ_iff_lt_or_eq.mp hik with h1 | rfl
      · exact hold i a' hi (h.pa i a' hi h1)
      · rw [ha] at hi; cases hi
        by_cases e : ab a = ae a
        · right; show p ≤ upF _ _ _ _; rw [e, upF_e]; exact Nat.le_refl _
        · left
          show upF _ _ _ _ + _ ≤ upF _ _ _ _
          rw [upF_n e, upF_e]; exact Int.le_refl _
    · intro i a' hi hik
      by_cases e : ab a' = ae a
      · right; show p ≤ upF _ _ _ _ + 1; rw [e, upF_e]; omega
      · rcases h.pb i a' hi (by omega) with h1 | h1
        · left
          have h2 := hm (ae a')
          show upF _ _ _ _ + _ ≤ _
          rw [upF_n e]
          omega
        · exact .inr (Nat.le_trans h1 (Nat.add_le_add_right (hlm _) 1))
    · intro v hv
      by_cases e : v = ae a
      · subst e
        refine ⟨k, a, upF_e, ha, rfl, ?_⟩
        show upF _ _ _ _ ≤ _
        rw [upF_e]
        have := hlm (ab a)
        omega
      · have hv' : 1 ≤ s.lp v := by
          have : (grN p s a k).lp v = s.lp v := upF_n e
          omega
        obtain ⟨i, a', h1, h2, h3, h4⟩ := h.par v hv'
        refine ⟨i, a', (upF_n e).trans h1, h2, h3, ?_⟩
        have h5 := hlm (ab a')
        show upF _ _ _ _ ≤ _
        rw [upF_n e]
        omega
    · intro v
      show upF _ _ _ _ ≤ _
      by_cases e : v = ae a
      · subst e; rw [upF_e]; exact Nat.le_refl _
      · rw [upF_n e]; exact h.le v
    · intro v hv
      cases hv
      exact ⟨upF_e, a, List.mem_of_getElem? ha, rfl⟩
  · rw [if_neg hg]
    refine ⟨⟨?_, ?_, h.par, h.le⟩, ⟨?_, g.gs⟩⟩
    · intro i a' hi hik
      rcases Nat.lt_succ_iff_lt_or_eq.mp hik with h1 | rfl
      · exact h.pa i a' hi h1
      · rw [ha] at hi; cases hi; exact .inl (by omega)
    · intro i a' hi hik
      exact h.pb i a' hi (by omega)
    · intro h0 i a' hi hik
      rcases Nat.lt_succ_iff_lt_or_eq.mp hik with h1 | rfl
      · exact g.gn h0 i a' hi h1
      · rw [ha] at hi; cases hi; omega
theorem Iv.run {arcs : List Arc} {p : Nat} {s : Ns} (h : Iv arcs p arcs.length s) : ∀ k, k ≤ arcs.length → Iv arcs (p + 1) k (runK arcs (p + 1) s k) ∧ Ig arcs (p + 1) k (runK arcs (p + 1) s k)
  | 0, _ => ⟨⟨fun _ _ _ hk => absurd hk (Nat.not_lt_zero _), fun i a hi _ => (h.pa i a hi (List.getElem?_eq_some_iff.mp hi).1).imp id fun h1 => Nat.add_le_add_right h1 1, h.par, fun v => Nat.le_succ_of_le (h.le v)⟩, ⟨fun _ _ _ _ hk => absurd hk (Nat.not_lt_zero _), fun v hv => by cases hv⟩⟩
  | k + 1, hk => by
    have ih := Iv.run h k (by omega)
    have ha : arcs[k]? = some arcs[k] := List.getElem?_eq_getElem hk
    rw [runK_s ha]
    exact ih.1.step ih.2 ha
theorem iv_0 (arcs : List Arc) : Iv arcs 0 arcs.length ns0 := ⟨fun _ _ _ _ => .inr (Nat.zero_le _), fun _ _ _ _ => .inr (Nat.zero_le _), fun _ h => absurd h (by show ¬ 1 ≤ 0; omega), fun _ => Nat.le_refl _⟩
theorem iv_st (arcs : List Arc) : ∀ k, Iv arcs k arcs.length (stN arcs k)
  | 0 => iv_0 arcs
  | k + 1 => (Iv.run (iv_st arcs k) arcs.length (Nat.le_refl _)).1
theorem ig_st (arcs : List Arc) (k : Nat) : Ig arcs (k + 1) arcs.length (stN arcs (k + 1)) := (Iv.run (iv_st arcs k) arcs.length (Nat.le_refl _)).2
/-- what nothing grows any more says -/
theorem still {arcs : List Arc} {k : Nat} (h : (stN arcs (k + 1)).g = none) : ∀ a ∈ arcs, (stN arcs (k + 1)).h (ab a) + an a ≤ (stN arcs (k + 1)).h (ae a) := fun a ha => by
  obtain ⟨i, hi⟩ := List.getElem?_of_mem ha
  exact (ig_st arcs k).gn h i a hi (List.getElem?_eq_some_iff.mp hi).1
/-! behind: from a plane to the one that made it grow -/
def prN (arcs : List Arc) (s : Ns) (v : Nat) : Nat := match s.pb v with
  | some i => match arcs[i]? with
    | some a => ab a
    | none => 0
  | none => 0
theorem prN_at {arcs : List Arc} {s : Ns} {v i : Nat} {a : Arc} (h1 : s.pb v = some i) (h2 : arcs[i]? = some a) : prN arcs s v = ab a := by unfold prN; rw [h1]; simp only [h2]
def itN (arcs : List Arc) (s : Ns) (v : Nat) : Nat → Nat
  | 0 => v
  | k + 1 => prN arcs s (itN arcs s v k)
def Par (arcs : List Arc) (s : Ns) (v : Nat) : Prop := ∃ (i : Nat) (a : Arc), s.pb v = some i ∧ arcs[i]? = some a
theorem it_lp {arcs : List Arc} {n v : Nat} {s : Ns} (h : Iv arcs n arcs.length s) (hv : s.lp v = n) : ∀ k, k ≤ n → n ≤ s.lp (itN arcs s v k) + k
  | 0, _ => by show n ≤ s.lp v + 0; omega
  | k + 1, hk => by
    have ih := it_lp h hv k (by omega)
    obtain ⟨i, a, h1, h2, h3, h4⟩ := h.par (itN arcs s v k) (by omega)
    show n ≤ s.lp (prN arcs s (itN arcs s v k)) + (k + 1)
    rw [prN_at h1 h2]
    omega
theorem it_par {arcs : List Arc} {n v : Nat} {s : Ns} (h : Iv arcs n arcs.length s) (hv : s.lp v = n) {k : Nat} (hk : k < n) : Par arcs s (itN arcs s v k) := by
  have h1 := it_lp h hv k (by omega)
  obtain ⟨i, a, h1, h2, _⟩ := h.par (itN arcs s v k) (by omega)
  exact ⟨i, a, h1, h2⟩
theorem it_add {arcs : List Arc} {s : Ns} {v a : Nat} : ∀ b, itN arcs s v (a + b) = itN arcs s (itN arcs s v a) b
  | 0 => rfl
  | b + 1 => by show prN arcs s (itN arcs s v (a + b)) = prN arcs s (itN arcs s (itN arcs s v a) b); rw [it_add b]
theorem it_lt {arcs : List Arc} {n v : Nat} {s : Ns} (hn : ∀ a ∈ arcs, ab a < n) (h0 : v < n) : ∀ k, itN arcs s v k < n
  | 0 => h0
  | k + 1 => by
    show prN arcs s _ < n
    unfold prN
    split
    · split
      · rename_i a ha
        exact hn a (List.mem_of_getElem? ha)
      · omega
    · omega
/-- a hole: n + 1 numbers below n, two are the same -/
theorem hole {n : Nat} (f : Nat → Nat) (h : ∀ k, k ≤ n → f k < n) : ∃ i j, i < j ∧ j ≤ n ∧ f i = f j := by
  refine Classical.byContradiction fun hc => ?_
  have hnd : ((List.range (n + 1)).map f).Nodup := by
    rw [List.nodup_iff_pairwise_ne, List.pairwise_map]
    refine List.Pairwise.imp_of_mem ?_ (List.pairwise_lt_range (n := n + 1))
    intro a b ha hb hab e
    exact hc ⟨a, b, hab, by have := List.mem_range.mp hb; omega, e⟩
  have hl := nodup_len hnd (m := List.range n) fun x hx => by
    obtain ⟨k, hk, rfl⟩ := List.mem_map.mp hx
    exact List.mem_range.mpr (h k (by have := List.mem_range.mp hk; omega))
  simp at hl
  omega
/-- behind a plane that grew in turn n there is a ring -/
theorem ring_is {arcs : List Arc} {n v : Nat} {s : Ns} (h : Iv arcs n arcs.length s) (hv : s.lp v = n) (hn : ∀ a ∈ arcs, ab a < n) (h0 : v < n) :
    (∀ k, Par arcs s (itN arcs s v k)) ∧ ∃ c, 1 ≤ c ∧ c ≤ n ∧ itN arcs s (itN arcs s v n) c = itN arcs s v n := by
  obtain ⟨i, j, hij, hj, e⟩ := hole (fun k => itN arcs s v k) fun k _ => it_lt hn h0 k
  have e : itN arcs s v i = itN arcs s v j := e
  have per : ∀ t, itN arcs s v (i + t) = itN arcs s v (j + t) := fun t => by rw [it_add, it_add, e]
  constructor
  · intro k
    induction k using Nat.strongRecOn with
    | _ k ih =>
      by_cases hk : k < n
      · exact it_par h hv hk
      · have := per (k - j)
        rw [show j + (k - j) = k by omega] at this
        rw [← this]
        exact ih _ (by omega)
  · refine ⟨j - i, by omega, by omega, ?_⟩
    rw [← it_add]
    have := per (n - i)
    rw [show i + (n - i) = n by omega, show j + (n - i) = n + (j - i) by omega] at this
    exact this.symm
/-! with numbers that fit the arcs, all comes to rest -/
inductive Dsc (arcs : List Arc) (s : Ns) (e : Nat) : Nat → Prop where
  | self : Dsc arcs s e e
  | up {x i : Nat} {a : Arc} : s.pb x = some i → arcs[i]? = some a → Dsc arcs s e (ab a) → Dsc arcs s e x
structure Pt (arcs : List Arc) (π : Nat → Int) (s : Ns) : Prop where
  lo : ∀ v, 0 ≤ s.h v
  hi : ∀ v, s.h v ≤ π v
  par : ∀ (v i : Nat) (a : Arc), s.pb v = some i → arcs[i]? = some a → ae a = v ∧ s.h v ≤ s.h (ab a) + an a
  dep : ∃ dep : Nat → Nat, ∀ (v i : Nat) (a : Arc), s.pb v = some i → arcs[i]? = some a → dep (ab a) < dep v
theorem Pt.dsc {arcs : List Arc} {π : Nat → Int} {s : Ns} (h : Pt arcs π s) (hp : ∀ a ∈ arcs, π (ab a) + an a ≤ π (ae a)) {e x : Nat} (d : Dsc arcs s e x) : s.h x - π x ≤ s.h e - π e := by
  induction d with
  | self => exact Int.le_refl _
  | up h1 h2 _ ih =>
    obtain ⟨h3, h4⟩ := h.par _ _ _ h1 h2
    have h5 := hp _ (List.mem_of_getElem? h2)
    rw [h3] at h5
    omega
theorem Pt.step {arcs : List Arc} {π : Nat → Int} {s : Ns} {p k : Nat} {a : Arc} (h : Pt arcs π s) (hp : ∀ a ∈ arcs, π (ab a) + an a ≤ π (ae a)) (ha : arcs[k]? = some a) : Pt arcs π (stepN p s a k) := by
  unfold stepN
  by_cases hg : s.h (ae a) < s.h (ab a) + an a
  · rw [if_pos hg]
    have hpa := hp a (List.mem_of_getElem? ha)
    have hnd : ¬ Dsc arcs s (ae a) (ab a) := fun d => by have := h.dsc hp d; omega
    have hne : ab a ≠ ae a := fun e => hnd (e ▸ .self)
    have hm : ∀ v, s.h v ≤ (grN p s a k).h v := fun v => by
      show _ ≤ upF _ _ _ v
      by_cases e : v = ae a
      · subst e; rw [upF_e]; omega
      · rw [upF_n e]; exact Int.le_refl _
    refine ⟨fun v => Int.le_trans (h.lo v) (hm v), ?_, ?_, ?_⟩
    · intro v
      show upF _ _ _ v ≤ _
      by_cases e : v = ae a
      · subst e; rw [upF_e]; have := h.hi (ab a); omega
      · rw [upF_n e]; exact h.hi v
    · intro v i a' h1 h2
      have h1 : upF s.pb (ae a) (some k) v = some i := h1
      by_cases e : v = ae a
      · subst e
        rw [upF_e] at h1
        cases h1
        rw [ha] at h2; cases h2
        refine ⟨rfl, ?_⟩
        show upF _ _ _ _ ≤ upF _ _ _ _ + _
        rw [upF_e, upF_n hne]; exact Int.le_refl _
      · rw [upF_n e] at h1
        obtain ⟨h3, h4⟩ := h.par v i a' h1 h2
        refine ⟨h3, ?_⟩
        have h5 := hm (ab a')
        show upF _ _ _ _ ≤ _
        rw [upF_n e]
        omega
    · obtain ⟨dep, hd⟩ := h.dep
      refine ⟨fun x => by classical exact if Dsc arcs s (ae a) x then dep x + dep (ab a) + 1 else dep x, ?_⟩
      intro v i a' h1 h2
      have h1 : upF s.pb (ae a) (some k) v = some i := h1
      dsimp only
      by_cases e : v = ae a
      · subst e
        rw [upF_e] at h1
        cases h1
        rw [ha] at h2; cases h2
        rw [if_neg hnd, if_pos Dsc.self]
        omega
      · rw [upF_n e] at h1
        have h3 := hd v i a' h1 h2
        by_cases hy : Dsc arcs s (ae a) (ab a')
        · rw [if_pos hy, if_pos (Dsc.up h1 h2 hy)]
          omega
        · rw [if_neg hy]
          split <;> omega
  · rw [if_neg hg]; exact h
theorem pt_st {arcs : List Arc} {π : Nat → Int} (h0 : ∀ v, 0 ≤ π v) (hp : ∀ a ∈ arcs, π (ab a) + an a ≤ π (ae a)) : ∀ k, Pt arcs π (stN arcs k)
  | 0 => ⟨fun _ => Int.le_refl _, h0, fun _ _ _ h => (nomatch h), ⟨fun _ => 0, fun _ _ _ h => (nomatch h)⟩⟩
  | k + 1 => by
    have ih := pt_st h0 hp k
    show Pt arcs π (runK arcs (k + 1) (stN arcs k) arcs.length)
    have key : ∀ j, j ≤ arcs.length → Pt arcs π (runK arcs (k + 1) (stN arcs k) j) := by
      intro j
      induction j with
      | zero => intro _; exact ⟨ih.lo, ih.hi, ih.par, ih.dep⟩
      | succ j ihj =>
        intro hj
        have ha : arcs[j]? = some arcs[j] := List.getElem?_eq_getElem hj
        rw [runK_s ha]
        exact (ihj (by omega)).step hp ha
    exact key _ (Nat.le_refl _)
theorem no_ring {arcs : List Arc} {π : Nat → Int} (h0 : ∀ v, 0 ≤ π v) (hp : ∀ a ∈ arcs, π (ab a) + an a ≤ π (ae a)) {n : Nat} (hn : ∀ a ∈ arcs, ab a < n ∧ ae a < n) (h1 : 1 ≤ n) : (stN arcs n).g = none := by
  obtain ⟨m, rfl⟩ : ∃ m, n = m + 1 := ⟨n - 1, by omega⟩
  cases hg : (stN arcs (m + 1)).g with
  | none => rfl
  | some v =>
    exfalso
    obtain ⟨hv, a, ha, rfl⟩ := (ig_st arcs m).gs v hg
    obtain ⟨dep, hd⟩ := (pt_st h0 hp (m + 1)).dep
    obtain ⟨hpar, c, hc, _, e⟩ := ring_is (iv_st arcs (m + 1)) hv (fun a ha => (hn a ha).1) (hn a ha).2
    have dl : ∀ k, dep (itN arcs (stN arcs (m + 1)) (ae a) (m + 1 + (k + 1))) + k < dep (itN arcs (stN arcs (m + 1)) (ae a) (m + 1)) := by
      intro k
      have st : ∀ k, dep (itN arcs (stN arcs (m + 1)) (ae a) (k + 1)) < dep (itN arcs (stN arcs (m + 1)) (ae a) k) := fun k => by
        obtain ⟨i, b, h1, h2⟩ := hpar k
        show dep (prN _ _ _) < _
        rw [prN_at h1 h2]
        exact hd _ _ _ h1 h2
      induction k with
      | zero => exact st (m + 1)
      | succ k ih => have := st (m + 1 + (k + 1)); show dep (itN _ _ _ (m + 1 + (k + 1) + 1)) + _ < _; omega
    have := dl (c - 1)
    rw [show m + 1 + (c - 1 + 1) = m + 1 + c by omega, it_add, e] at this
    omega
end K32
/-! R23 -/
set_option Elab.async false
set_option linter.all false
set_option maxRecDepth 100000
set_option maxHeartbeats 400000
namespace K32
open PySem PySem.Spec PyProof.Rows L2
local macro_rules | `(tactic| walk_at "dn") => `(tactic| first
  | with_reducible exact dn_int | with_reducible exact dn_str | with_reducible exact dn_bl | with_reducible exact dn_non | with_reducible exact da_nil | with_reducible exact do_none
  | ((with_reducible refine' dn_var ?h ?k); (case h => rfl); (case k => assumption))
  | ((with_reducible refine' da_cons ?_ ?_) <;> try walk_at "dn")
  | ((with_reducible refine' dn_add ?_ ?_) <;> try walk_at "dn")
  | ((with_reducible refine' dn_sub ?_ ?_) <;> try walk_at "dn")
  | ((with_reducible refine' dn_mul ?_ ?_ ?_) <;> try walk_at "dn")
  | ((with_reducible refine' dn_lt ?_ ?_) <;> try walk_at "dn")
  | ((with_reducible refine' dn_le ?_ ?_) <;> try walk_at "dn")
  | ((with_reducible refine' dn_gt ?_ ?_) <;> try walk_at "dn")
  | ((with_reducible refine' dn_ge ?_ ?_) <;> try walk_at "dn")
  | ((with_reducible refine' dn_neg ?_) <;> try walk_at "dn")
  | ((with_reducible refine' dn_chain ?_ ?_ ?_ rd_le rd_le) <;> try walk_at "dn")
  | ((with_reducible refine' dn_chain ?_ ?_ ?_ rd_le rd_lt) <;> try walk_at "dn")
  | ((with_reducible refine' dn_isI ?h ?k); (case h => walk_at "dn"); (case k => first | with_reducible exact kb_int_int | with_reducible exact kb_int_tuple | with_reducible exact kb_int_str | with_reducible exact kb_int_bool))
  | ((with_reducible refine' dn_isT ?h ?k); (case h => walk_at "dn"); (case k => first | with_reducible exact kb_tuple_int | with_reducible exact kb_tuple_tuple | with_reducible exact kb_tuple_str | with_reducible exact kb_tuple_bool))
  | ((with_reducible refine' dn_isS ?h ?k); (case h => walk_at "dn"); (case k => first | with_reducible exact kb_str_int | with_reducible exact kb_str_tuple | with_reducible exact kb_str_str | with_reducible exact kb_str_bool))
  | ((with_reducible refine' dn_isL ?h ?k); (case h => walk_at "dn"); (case k => first | with_reducible exact kb_list_int | with_reducible exact kb_list_tuple | with_reducible exact kb_list_str | with_reducible exact kb_list_bool))
  | ((with_reducible refine' dn_isB ?h ?k); (case h => walk_at "dn"); (case k => first | with_reducible exact kb_bool_int | with_reducible exact kb_bool_tuple | with_reducible exact kb_bool_str | with_reducible exact kb_bool_bool))
  | ((with_reducible refine' dn_ixT ?h ?t ?k); (case h => walk_at "dn"); (case t => walk_at "dn"); try (case k => rfl))
  | ((with_reducible refine' dn_ixL ?h ?t ?k); (case h => walk_at "dn"); (case t => walk_at "dn"); try (case k => rfl))
  | ((with_reducible refine' dn_cb ?h ?k); (case h => walk_at "dn"); try (case k => first | exact rd_lenT | exact rd_lenL | exact rd_tupL | exact rd_lstT | exact rd_lstL | exact rc_all | exact rc_sum | exact rc_max2 | exact rc_min2))
  | ((with_reducible refine' dn_call ?h ?t ?k); (case h => walk_at "dn"); (case t => rfl))
  | ((with_reducible refine' dt_test ?_) <;> try walk_at "dn")
  | ((with_reducible refine' dt_B ?_) <;> try walk_at "dn")
  | ((with_reducible refine' dn_eqI ?h ?k); (case h => walk_at "dn"); (case k => walk_at "dn"))
  | ((with_reducible refine' dn_neI ?h ?k); (case h => walk_at "dn"); (case k => walk_at "dn"))
  | ((with_reducible refine' dn_eqS ?h ?k); (case h => walk_at "dn"); (case k => walk_at "dn"))
  | ((with_reducible refine' dn_neS ?h ?k); (case h => walk_at "dn"); (case k => walk_at "dn"))
  | ((with_reducible refine' dt_or ?_ (fun _ => ?_)) <;> try walk_at "dn")
  | ((with_reducible refine' dt_and ?_ (fun _ => ?_)) <;> try walk_at "dn")
  | ((with_reducible refine' dn_orV ?_ (fun _ => ?_)) <;> try walk_at "dn")
  | ((with_reducible refine' dn_andV ?_ (fun _ => ?_)) <;> try walk_at "dn")
  | ((with_reducible refine' dt_not ?_) <;> try walk_at "dn")
  | ((with_reducible refine' dn_notV ?_) <;> try walk_at "dn")
  | ((with_reducible refine' da_star ?_ ?_) <;> try walk_at "dn")
  | ((with_reducible refine' dn_tup ?_ ?_) <;> try walk_at "dn")
  | ((with_reducible refine' dn_lst ?_ ?_) <;> try walk_at "dn")
  | ((with_reducible refine' do_some ?_) <;> try walk_at "dn"))
variable {P : Program} {w : World} {K : PySem.W.Frag} {mg : Str → Option Value} {base : Heap}
/-! ### Numbers: the object -/
def oV : Option Nat → V
  | none => .non
  | some i => .int (i : Int)
def oD : Option Nat → Dt
  | none => .none
  | some i => .int (i : Int)
theorem td_o {H : Hp} : ∀ x : Option Nat, TD H (oV x) (oD x)
  | none => .non
  | some _ => .int _
theorem tds_map {α : Type} {H : Hp} {f : α → V} {g : α → Dt} (h : ∀ x, TD H (f x) (g x)) : ∀ l : List α, TDs H (l.map f) (l.map g)
  | [] => .nil
  | a :: l => .cons (h a) (tds_map h l)
def hL (n : Nat) (s : Ns) : List Int := (List.range n).map s.h
structure NmAt (K : PySem.W.Frag) (H : Hp) (a dx ph pa pb : Addr) (n : Nat) (arcs : List Arc) (us : List V) (s : Ns) : Prop where
  ob : H a = some (.ins (He.ga K "Numbers") dx [("heights", .ref ph), ("arcs", .ref pa), ("by", .ref pb), ("grown", oV s.g)])
  hh : H ph = some (.lst ((hL n s).map V.int))
  hb : H pb = some (.lst ((List.range n).map fun v => oV (s.pb v)))
  ha : H pa = some (.lst us)
  ht : TDs H us (arcs.map dArc)
  n1 : ph ≠ pb
  n2 : ph ≠ pa
  n3 : pb ≠ pa
section
variable {H H' : Hp} {a dx ph pa pb : Addr} {n : Nat} {arcs : List Arc} {us : List V} {s : Ns}
theorem NmAt.sm (h : NmAt K H a dx ph pa pb n arcs us s) (q : Same H H') : NmAt K H' a dx ph pa pb n arcs us s := ⟨q _ _ h.ob, q _ _ h.hh, q _ _ h.hb, q _ _ h.ha, h.ht.s q, h.n1, h.n2, h.n3⟩
theorem flats_arc (l : List Arc) : flats (l.map dArc) = true := flats_of fun d hd => by
  obtain ⟨x, _, rfl⟩ := List.mem_map.mp hd
  rfl
theorem NmAt.neh (h : NmAt K H a dx ph pa pb n arcs us s) : a ≠ ph ∧ a ≠ pb ∧ a ≠ pa :=
  by
  refine ⟨fun e => ?_, fun e => ?_, fun e => ?_⟩
  · have h1 := h.ob; rw [e, h.hh] at h1; cases h1
  · have h1 := h.ob; rw [e, h.hb] at h1; cases h1
  · have h1 := h.ob; rw [e, h.ha] at h1; cases h1
theorem NmAt.wH (h : NmAt K H a dx ph pa pb n arcs us s) (f : Nat → Int) {xs : List V} (hx : xs = ((List.range n).map f).map V.int) : NmAt K (upd H ph (.lst xs)) a dx ph pa pb n arcs us { s with h := f } := by
  subst hx
  have hn := h.neh
  exact ⟨(upd_ne hn.1).trans h.ob, upd_same, (upd_ne (Ne.symm h.n1)).trans h.hb, (upd_ne (Ne.symm h.n2)).trans h.ha, h.ht.k (KT.mut h.hh fun _ e => by cases e) (flats_arc _), h.n1, h.n2, h.n3⟩
theorem NmAt.wB (h : NmAt K H a dx ph pa pb n arcs us s) (f : Nat → Option Nat) {xs : List V} (hx : xs = (List.range n).map fun v => oV (f v)) : NmAt K (upd H pb (.lst xs)) a dx ph pa pb n arcs us { s with pb := f } := by
  subst hx
  have hn := h.neh
  exact ⟨(upd_ne hn.2.1).trans h.ob, (upd_ne h.n1).trans h.hh, upd_same, (upd_ne (Ne.symm h.n3)).trans h.ha, h.ht.k (KT.mut h.hb fun _ e => by cases e) (flats_arc _), h.n1, h.n2, h.n3⟩
theorem NmAt.wG (h : NmAt K H a dx ph pa pb n arcs us s) (g : Option Nat) {v : V} (hv : v = oV g) : NmAt K (upd H a (.ins (He.ga K "Numbers") dx (putF "grown" v [("heights", .ref ph), ("arcs", .ref pa), ("by", .ref pb), ("grown", oV s.g)]))) a dx ph pa pb n arcs us { s with g := g } := by
  subst hv
  have hn := h.neh
  exact ⟨by rw [upd_same]; rfl, (upd_ne (Ne.symm hn.1)).trans h.hh, (upd_ne (Ne.symm hn.2.1)).trans h.hb, (upd_ne (Ne.symm hn.2.2)).trans h.ha, h.ht.k (KT.mut h.ob fun _ e => by cases e) (flats_arc _), h.n1, h.n2, h.n3⟩
theorem NmAt.tH (h : NmAt K H a dx ph pa pb n arcs us s) : TD H (.ref ph) (.list ((hL n s).map .int)) := TD.ofInts h.hh
theorem NmAt.tB (h : NmAt K H a dx ph pa pb n arcs us s) : TD H (.ref pb) (.list ((List.range n).map fun v => oD (s.pb v))) := .lst h.hb (tds_map (fun v => td_o _) _)
theorem NmAt.tA (h : NmAt K H a dx ph pa pb n arcs us s) : TD H (.ref pa) (.list (arcs.map dArc)) := .lst h.ha h.ht
theorem hL_at {v : Nat} (hv : v < n) : L2.atI ((hL n s).map PyData.int) (v : Int) = some (.int (s.h v)) := by
  unfold hL
  rw [atI_nat, List.getElem?_map, List.getElem?_map, List.getElem?_range hv]; rfl
theorem pB_at {v : Nat} (hv : v < n) : L2.atI ((List.range n).map fun v => oD (s.pb v)) (v : Int) = some (oD (s.pb v)) := by
  rw [atI_nat, List.getElem?_map, List.getElem?_range hv]; rfl
theorem set_upF {α β : Type} {f : Nat → α} {e : Nat} {x : α} (c : α → β) : ((List.range n).map fun v => c (f v)).set e (c x) = (List.range n).map fun v => c (upF f e x v) := by
  apply List.ext_getElem?
  intro i
  rw [List.getElem?_set, List.getElem?_map, List.getElem?_map]
  by_cases hi : i < n
  · rw [List.getElem?_range hi]
    by_cases e1 : e = i
    · subst e1; simp [hi, upF_e]
    · simp only [e1, if_false, Option.map_some]
      rw [upF_n (Ne.symm e1)]
  · have : (List.range n)[i]? = none := by simp; omega
    rw [this]
    by_cases e1 : e = i
    · subst e1; simp [hi]
    · simp [e1]
end
structure AOK (arcs : List Arc) (n : Nat) : Prop where
  r : ∀ a ∈ arcs, (0 ≤ a.1 ∧ a.1 < n) ∧ 0 ≤ a.2.1 ∧ a.2.1 < n
  l : arcs.length ≤ 1000
  n : n ≤ 1000
/-- a for with numbers over the list at p, which the loop leaves -/
theorem s_forE {σ : L2.St} {H : Hp} {te : TE} {g : TG} {tu : TS} {D : Ends} {p : Addr} {xs : List V} (hv : Dv te σ H (.ref p)) (hp : H p = some (.lst xs)) (Pv : Nat → L2.St → Hp → Prop) (hk : ∀ i σ' H', Pv i σ' H' → H' p = some (.lst xs)) (h0 : Pv 0 σ H)
    (turn : ∀ i x σ' H' T, xs[i]? = some x → Pv i σ' H' → H' T = none → ∃ σ2, Sto g (.ref T) σ' (upd H' T (.tup [.int (i : Int), x])) σ2 ∧ tu { D with nx := Pv (i + 1), ct := Pv (i + 1), bk := D.nx } σ2 (upd H' T (.tup [.int (i : Int), x]))) (hd : ∀ σ' H', Pv xs.length σ' H' → D.nx σ' H') : tFor (iEnum K (tCons te tNil)) g tu D σ H :=
  hv H (Same.refl H) _ ⟨p, xs, rfl, SqL.of hp, for_it walk_enum Pv h0 (fun i σ' H' _ q => SqL.of (hk i σ' H' q)) (fun i x σ' Ha Hb hi q y => by
    obtain ⟨T, x1, z, rfl, hT, rfl, e1, e2⟩ := y
    cases e1
    obtain ⟨σ2, st, ht⟩ := turn i z σ' Ha T e2 q hT
    exact st _ ht) hd⟩
theorem sto_arc {σ : L2.St} {H : Hp} {i j k l : Nat} {T : Addr} {x : V} {c : Int} {a : Arc} (hT : H T = some (.tup [.int c, x])) (t : TD H x (dArc a)) : Sto (gTup K 2 (gCons (gName i) (gCons (gTup K 3 (gCons (gName j) (gCons (gName k) (gCons (gName l) gNil)))) gNil))) (.ref T) σ H ((((σ.set i (some (.int c))).set j (some (.int a.1))).set k (some (.int a.2.1))).set l (some (.int a.2.2))) := fun Q q => by
  obtain ⟨q1, xs, rfl, h1, h2⟩ := t.t
  obtain ⟨v1, v2, v3, rfl, t1, t2, t3⟩ := h2.three
  rw [t1.i, t2.i, t3.i] at h1
  exact ⟨T, _, rfl, SqT.of hT, rfl, _, _, rfl, _, _, rfl, ⟨q1, _, rfl, SqT.of h1, rfl, _, _, rfl, _, _, rfl, _, _, rfl, rfl, ⟨rfl, q⟩⟩⟩
theorem dn_isN {σ : L2.St} {H : Hp} {ta : TE} {d : Dt} (ha : Dn ta σ H d) : Dn (tOp (fun x y H Q => y = .non ∧ Q (.bl (decide (x = .non))) H) ta (tC .non)) σ H (.bool (isNo d)) := dn_op ha dn_non fun x y H tx ty Q q => by
  cases ty
  refine ⟨rfl, ?_⟩
  rw [tx.no]
  exact q _ H (Same.refl H) (.bl _)
theorem dv_op_set {σ : L2.St} {H : Hp} {tv to ti : TE} {D : Ends} {p : Addr} {xs : List V} {i : Nat} {x : V} (hv : Dv tv σ H x) (ho : Dv to σ H (.ref p)) (hi : Dv ti σ H (.int (i : Int))) (hp : H p = some (.lst xs)) (hl : i < xs.length) (k : D.nx σ (upd H p (.lst (xs.set i x)))) : tAsg tv (gSub to ti rSetL) D σ H :=
  hv H (Same.refl H) _ (ho H (Same.refl H) _ (hi H (Same.refl H) _ ⟨p, xs, i, i, rfl, rfl, hp, by unfold L2.ixN; rw [if_pos (by omega), if_pos (by omega)]; simp, k⟩))
abbrev N_Numbers_grow : List Str := ["self", "number", "here", "begin", "end", "need"]
abbrev P_Numbers_grow : List Str := ["self"]
theorem sc_Numbers_grow : FnScope N_Numbers_grow P_Numbers_grow (defScope s_Numbers_grow) := ⟨rfl, rfl, rfl, by decide +kernel, rfl, by decide +kernel, by decide +kernel⟩
def spGrow (K : PySem.W.Frag) : Sp := fun vs H Q _ => vs.length = 1 ∧ ∃ (a dx ph pa pb : Addr) (n : Nat) (arcs : List Arc) (us : List V) (s : Ns) (p : Nat), vs = [.ref a] ∧ NmAt K H a dx ph pa pb n arcs us s ∧ AOK arcs n ∧
  ∀ H', KX [a, ph, pb] H H' → NmAt K H' a dx ph pa pb n arcs us (passN arcs p s) → Q (.bl (passN arcs p s).g.isSome) H'
theorem isNo_o (x : Option Nat) : (!isNo (oD x)) = x.isSome := by cases x <;> rfl
theorem D_Numbers_grow (T : Tx K mg) : DefP P w K mg base CX0 1 ("Numbers", some "grow") P_Numbers_grow (spGrow K) := by
  refine mk_def T 37 d_Numbers_grow rfl rfl rfl sc_Numbers_grow (fun vs H Q E h => h.1) (fun _ _ _ _ _ _ us hl => match us, hl with | [_], _ => rfl) (fun cdv A outer s H vs Q E hr h => ?_)
  obtain ⟨_, a, dx, ph, pa, pb, n, arcs, us, s0, p, rfl, hN, ok, q⟩ := h
  refine ⟨_, (pss_cons (kps_fld K (pv 0) pe_non) (pss_cons (ps_for PassesOwn.never rfl (kpi_enumL K T.f_enumerate (pa_cons (kpe_fld K (pv 0)) pa_nil)) (kpg_tup K 2 (pgs_cons (pg_name (i := 1) sc_Numbers_grow.nd rfl (by first | exact Or.inl rfl | exact Or.inr rfl)) (pgs_cons (kpg_tup K 3 (pgs_cons (pg_name (i := 3) sc_Numbers_grow.nd rfl (by first | exact Or.inl rfl | exact Or.inr rfl)) (pgs_cons (pg_name (i := 4) sc_Numbers_grow.nd rfl (by first | exact Or.inl rfl | exact Or.inr rfl)) (pgs_cons (pg_name (i := 5) sc_Numbers_grow.nd rfl (by first | exact Or.inl rfl | exact Or.inr rfl)) pgs_nil)))) pgs_nil))) (pss_cons (ps_set (i := 2) sc_Numbers_grow.nd rfl (by first | exact Or.inl rfl | exact Or.inr rfl) (pe_ix (kix_list K) (kpe_fld K (pv 0)) (pv 3) (fun _ _ => rfl))) (pss_one (ps_if (PW.pt (pw_and (pt_cmpR op_notN (pv 2) pe_non (nomark _)) (pw_and1 (PW.pt (pw_or (pt_cmpR op_isN (pe_ix (kix_list K) (kpe_fld K (pv 0)) (pv 4) (fun _ _ => rfl)) pe_non (nomark _)) (pw_or1 (pt_cmpR op_gt (pe_op op_add (pv 2) (pv 5)) (pe_ix (kix_list K) (kpe_fld K (pv 0)) (pv 4) (fun _ _ => rfl)) (nomark _)))))))) (pss_cons (ps_asg (pe_op op_add (pv 2) (pv 5)) (pg_sub (kpe_fld K (pv 0)) (pv 4) set_list)) (pss_cons (ps_asg (pv 1) (pg_sub (kpe_fld K (pv 0)) (pv 4) set_list)) (pss_one (kps_fld K (pv 0) (pv 4))))) pss_nil)))) (pss_one (ps_ret (pe_cmpR op_notN (kpe_fld K (pv 0)) pe_non (nomark _)))))), ?_⟩
  refine q_seq (s_fld dn_non (dv_var rfl) hN.ob T.c_Numbers T.n_Numbers_grown (by simp) fun v H1 s1 tv => ?_)
  have hv : v = .non := by cases tv; rfl
  subst hv
  have hN1 := (hN.sm s1).wG none (v := .non) rfl
  have kx1 : KX [a, ph, pb] H (upd H1 a (.ins (He.ga K "Numbers") dx (putF "grown" .non [("heights", .ref ph), ("arcs", .ref pa), ("by", .ref pb), ("grown", oV s0.g)]))) := (KX.of s1).mut (by simp)
  generalize (upd H1 a (.ins (He.ga K "Numbers") dx (putF "grown" .non [("heights", .ref ph), ("arcs", .ref pa), ("by", .ref pb), ("grown", oV s0.g)]))) = H2 at *
  have hul : us.length = arcs.length := by rw [hN.ht.len, List.length_map]
  show tSeq _ _ _ _ _
  refine q_seq (s_forE (p := pa) (xs := us) (dv_fld (dv_var rfl) hN1.ob T.c_Numbers T.n_Numbers_arcs rfl) hN1.ha (fun i σ' H' => ∃ o1 o2 o3 o4 o5, σ' = [some (.ref a), o1, o2, o3, o4, o5] ∧ NmAt K H' a dx ph pa pb n arcs us (runK arcs p s0 i) ∧ KX [a, ph, pb] H H') (fun i σ' H' hp => ?_) ?_ ?_ ?_)
  · obtain ⟨o1, o2, o3, o4, o5, _, h1, _⟩ := hp
    exact h1.ha
  · exact ⟨none, none, none, none, none, rfl, hN1, kx1⟩
  · rintro i x σ' H3 Tt hx ⟨o1, o2, o3, o4, o5, rfl, hN3, kx3⟩ hT
    obtain ⟨d, hd, td⟩ := hN3.ht.at hx
    rw [List.getElem?_map] at hd
    obtain ⟨arc, harc, rfl⟩ := Option.map_eq_some_iff.mp hd
    have sT : Same H3 (upd H3 Tt (.tup [.int (i : Int), x])) := Same.new hT
    refine ⟨_, sto_arc upd_same (td.s sT), ?_⟩
    have hN4 := hN3.sm sT
    have kx4 := kx3.step sT
    generalize upd H3 Tt (.tup [.int (i : Int), x]) = H4 at *
    obtain ⟨⟨hb0, hb1⟩, he0, he1⟩ := ok.r arc (List.mem_of_getElem? harc)
    have eb : arc.1 = ((ab arc : Nat) : Int) := by unfold ab; omega
    have ee : arc.2.1 = ((ae arc : Nat) : Int) := by unfold ae; omega
    have hbn : ab arc < n := by omega
    have hen : ae arc < n := by omega
    rw [eb, ee]
    show tSeq _ _ _ [some (.ref a), some (.int (i : Int)), o2, some (.int ((ab arc : Nat) : Int)), some (.int ((ae arc : Nat) : Int)), some (.int arc.2.2)] H4
    refine q_set (dn_ixL (dn_fld (dv_var rfl) hN4.ob T.c_Numbers T.n_Numbers_heights rfl hN4.tH) (dn_var (i := 3) rfl (.int _)) (hL_at hbn)) fun v5 H5 s5 t5 => ?_
    have e5 := t5.i
    subst e5
    have hN5 := hN4.sm s5
    have kx5 := kx4.step s5
    show tIfS _ _ _ _ [some (.ref a), some (.int (i : Int)), some (.int ((runK arcs p s0 i).h (ab arc))), some (.int ((ab arc : Nat) : Int)), some (.int ((ae arc : Nat) : Int)), some (.int arc.2.2)] H5
    refine s_if0 (b := decide ((runK arcs p s0 i).h (ae arc) < (runK arcs p s0 i).h (ab arc) + an arc)) (DnT.is (b := (!isNo (.int ((runK arcs p s0 i).h (ab arc)))) && (isNo (.int ((runK arcs p s0 i).h (ae arc))) || decide ((runK arcs p s0 i).h (ae arc) < (runK arcs p s0 i).h (ab arc) + arc.2.2))) (dt_and (dt_test (dn_notN (dn_var rfl (.int _)))) fun _ => dt_or (dt_test (dn_isN (dn_ixL (dn_fld (dv_var rfl) hN5.ob T.c_Numbers T.n_Numbers_heights rfl hN5.tH) (dn_var (i := 4) rfl (.int _)) (hL_at hen)))) fun _ => dt_test (dn_gt (dn_add (dn_var rfl (.int _)) (dn_var rfl (.int _))) (dn_ixL (dn_fld (dv_var rfl) hN5.ob T.c_Numbers T.n_Numbers_heights rfl hN5.tH) (dn_var (i := 4) rfl (.int _)) (hL_at hen)))) rfl) ?_ ?_
    · intro hgt H6 s6
      have hgt : (runK arcs p s0 i).h (ae arc) < (runK arcs p s0 i).h (ab arc) + an arc := by simpa using hgt
      have hN6 := hN5.sm s6
      have kx6 := kx5.step s6
      refine q_seq (dv_op_set (p := ph) (x := .int ((runK arcs p s0 i).h (ab arc) + an arc)) (fun H7 s7 Q q7 => ⟨_, rfl, _, rfl, _, _, rfl, rfl, q7⟩) (dv_fld (dv_var rfl) hN6.ob T.c_Numbers T.n_Numbers_heights rfl) (dv_var rfl) hN6.hh (by rw [List.length_map]; unfold hL; rw [List.length_map, List.length_range]; exact hen) ?_)
      have hN7 := hN6.wH (upF (runK arcs p s0 i).h (ae arc) ((runK arcs p s0 i).h (ab arc) + an arc)) (xs := ((hL n (runK arcs p s0 i)).map V.int).set (ae arc) (.int ((runK arcs p s0 i).h (ab arc) + an arc))) (by
        unfold hL
        rw [List.map_map, List.map_map]
        exact set_upF V.int)
      have kx7 : KX [a, ph, pb] H (upd H6 ph (.lst (((hL n (runK arcs p s0 i)).map V.int).set (ae arc) (.int ((runK arcs p s0 i).h (ab arc) + an arc))))) := kx6.mut (by simp)
      generalize upd H6 ph (.lst (((hL n (runK arcs p s0 i)).map V.int).set (ae arc) (.int ((runK arcs p s0 i).h (ab arc) + an arc)))) = H7 at *
      refine q_seq (dv_op_set (p := pb) (x := oV (some i)) (dv_var rfl) (dv_fld (dv_var rfl) hN7.ob T.c_Numbers T.n_Numbers_by rfl) (dv_var rfl) hN7.hb (by rw [List.length_map, List.length_range]; exact hen) ?_)
      have hN8 := hN7.wB (upF (runK arcs p s0 i).pb (ae arc) (some i)) (set_upF oV)
      have kx8 := kx7.mut (p := pb) (o := .lst (((List.range n).map fun v => oV ((runK arcs p s0 i).pb v)).set (ae arc) (oV (some i)))) (by simp)
      generalize upd H7 pb (.lst (((List.range n).map fun v => oV ((runK arcs p s0 i).pb v)).set (ae arc) (oV (some i)))) = H8 at *
      refine s_fld (dn_var (i := 4) rfl (.int _)) (dv_var rfl) hN8.ob T.c_Numbers T.n_Numbers_grown (by simp) fun v9 H9 s9 t9 => ?_
      have e9 := t9.i
      subst e9
      have hN9 := (hN8.sm s9).wG (some (ae arc)) rfl
      refine ⟨_, _, _, _, _, rfl, ?_, (kx8.step s9).mut (by simp)⟩
      rw [runK_s harc]
      unfold stepN
      rw [if_pos hgt]
      exact ⟨hN9.ob, hN9.hh, hN9.hb, hN9.ha, hN9.ht, hN9.n1, hN9.n2, hN9.n3⟩
    · intro hle H6 s6
      have hle : ¬ (runK arcs p s0 i).h (ae arc) < (runK arcs p s0 i).h (ab arc) + an arc := by simpa using hle
      refine ⟨_, _, _, _, _, rfl, ?_, kx5.step s6⟩
      rw [runK_s harc]
      unfold stepN
      rw [if_neg hle]
      exact hN5.sm s6
  · rintro σ' H3 ⟨o1, o2, o3, o4, o5, rfl, hN3, kx3⟩
    rw [hul] at hN3
    refine s_ret (dn_notN (dn_fld (dv_var rfl) hN3.ob T.c_Numbers T.n_Numbers_grown rfl (td_o _))) fun v H4 s4 t4 => ?_
    rw [isNo_o] at t4
    rw [t4.b]
    exact q _ (kx3.step s4) (hN3.sm s4)
end K32
/-! R24 -/
set_option Elab.async false
set_option linter.all false
set_option maxRecDepth 100000
set_option maxHeartbeats 400000
namespace K32
open PySem PySem.Spec PyProof.Rows L2
local macro_rules | `(tactic| walk_at "dn") => `(tactic| first
  | with_reducible exact dn_int | with_reducible exact dn_str | with_reducible exact dn_bl | with_reducible exact dn_non | with_reducible exact da_nil | with_reducible exact do_none
  | ((with_reducible refine' dn_var ?h ?k); (case h => rfl); (case k => assumption))
  | ((with_reducible refine' da_cons ?_ ?_) <;> try walk_at "dn")
  | ((with_reducible refine' dn_add ?_ ?_) <;> try walk_at "dn")
  | ((with_reducible refine' dn_sub ?_ ?_) <;> try walk_at "dn")
  | ((with_reducible refine' dn_mul ?_ ?_ ?_) <;> try walk_at "dn")
  | ((with_reducible refine' dn_lt ?_ ?_) <;> try walk_at "dn")
  | ((with_reducible refine' dn_le ?_ ?_) <;> try walk_at "dn")
  | ((with_reducible refine' dn_gt ?_ ?_) <;> try walk_at "dn")
  | ((with_reducible refine' dn_ge ?_ ?_) <;> try walk_at "dn")
  | ((with_reducible refine' dn_neg ?_) <;> try walk_at "dn")
  | ((with_reducible refine' dn_chain ?_ ?_ ?_ rd_le rd_le) <;> try walk_at "dn")
  | ((with_reducible refine' dn_chain ?_ ?_ ?_ rd_le rd_lt) <;> try walk_at "dn")
  | ((with_reducible refine' dn_isI ?h ?k); (case h => walk_at "dn"); (case k => first | with_reducible exact kb_int_int | with_reducible exact kb_int_tuple | with_reducible exact kb_int_str | with_reducible exact kb_int_bool))
  | ((with_reducible refine' dn_isT ?h ?k); (case h => walk_at "dn"); (case k => first | with_reducible exact kb_tuple_int | with_reducible exact kb_tuple_tuple | with_reducible exact kb_tuple_str | with_reducible exact kb_tuple_bool))
  | ((with_reducible refine' dn_isS ?h ?k); (case h => walk_at "dn"); (case k => first | with_reducible exact kb_str_int | with_reducible exact kb_str_tuple | with_reducible exact kb_str_str | with_reducible exact kb_str_bool))
  | ((with_reducible refine' dn_isL ?h ?k); (case h => walk_at "dn"); (case k => first | with_reducible exact kb_list_int | with_reducible exact kb_list_tuple | with_reducible exact kb_list_str | with_reducible exact kb_list_bool))
  | ((with_reducible refine' dn_isB ?h ?k); (case h => walk_at "dn"); (case k => first | with_reducible exact kb_bool_int | with_reducible exact kb_bool_tuple | with_reducible exact kb_bool_str | with_reducible exact kb_bool_bool))
  | ((with_reducible refine' dn_ixT ?h ?t ?k); (case h => walk_at "dn"); (case t => walk_at "dn"); try (case k => rfl))
  | ((with_reducible refine' dn_ixL ?h ?t ?k); (case h => walk_at "dn"); (case t => walk_at "dn"); try (case k => rfl))
  | ((with_reducible refine' dn_cb ?h ?k); (case h => walk_at "dn"); try (case k => first | exact rd_lenT | exact rd_lenL | exact rd_tupL | exact rd_lstT | exact rd_lstL | exact rc_all | exact rc_sum | exact rc_max2 | exact rc_min2))
  | ((with_reducible refine' dn_call ?h ?t ?k); (case h => walk_at "dn"); (case t => rfl))
  | ((with_reducible refine' dt_test ?_) <;> try walk_at "dn")
  | ((with_reducible refine' dt_B ?_) <;> try walk_at "dn")
  | ((with_reducible refine' dn_eqI ?h ?k); (case h => walk_at "dn"); (case k => walk_at "dn"))
  | ((with_reducible refine' dn_neI ?h ?k); (case h => walk_at "dn"); (case k => walk_at "dn"))
  | ((with_reducible refine' dn_eqS ?h ?k); (case h => walk_at "dn"); (case k => walk_at "dn"))
  | ((with_reducible refine' dn_neS ?h ?k); (case h => walk_at "dn"); (case k => walk_at "dn"))
  | ((with_reducible refine' dt_or ?_ (fun _ => ?_)) <;> try walk_at "dn")
  | ((with_reducible refine' dt_and ?_ (fun _ => ?_)) <;> try walk_at "dn")
  | ((with_reducible refine' dn_orV ?_ (fun _ => ?_)) <;> try walk_at "dn")
  | ((with_reducible refine' dn_andV ?_ (fun _ => ?_)) <;> try walk_at "dn")
  | ((with_reducible refine' dt_not ?_) <;> try walk_at "dn")
  | ((with_reducible refine' dn_notV ?_) <;> try walk_at "dn")
  | ((with_reducible refine' da_star ?_ ?_) <;> try walk_at "dn")
  | ((with_reducible refine' dn_tup ?_ ?_) <;> try walk_at "dn")
  | ((with_reducible refine' dn_lst ?_ ?_) <;> try walk_at "dn")
  | ((with_reducible refine' do_some ?_) <;> try walk_at "dn"))
variable {P : Program} {w : World} {K : PySem.W.Frag} {mg : Str → Option Value} {base : Heap}
/-! ### Numbers: made, settled, the ring behind -/
theorem s_fldV {σ : L2.St} {H : Hp} {ta tv : TE} {D : Ends} {a C dx : Addr} {fs : List (Str × V)} {f : Str} {y : V} (h : Dv tv σ H y) (hv : Dv ta σ H (.ref a)) (ha : H a = some (.ins C dx fs)) (c : Cls K C) (n : NoAttr K C f) (hl : fs.length < 1000)
    (k : D.nx σ (upd H a (.ins C dx (putF f y fs)))) : sFld K ta tv f D σ H := h H (Same.refl H) _ (hv H (Same.refl H) _ ⟨a, C, dx, fs, rfl, ha, c, n, hl, k⟩)
theorem flat_rep {α : Type} (n : Nat) (x : α) : (List.replicate n [x]).flatten = List.replicate n x := by
  induction n with
  | zero => rfl
  | succ n ih => rw [List.replicate_succ, List.flatten_cons, ih, List.replicate_succ]; rfl
theorem map_rng_c {α : Type} (n : Nat) (x : α) : ((List.range n).map fun _ => x) = List.replicate n x := by
  rw [List.map_const', List.length_range]
abbrev N_Numbers_init : List Str := ["self", "values", "arcs"]
abbrev P_Numbers_init : List Str := ["self", "values", "arcs"]
theorem sc_Numbers_init : FnScope N_Numbers_init P_Numbers_init (defScope s_Numbers_init) := ⟨rfl, rfl, rfl, by decide +kernel, rfl, by decide +kernel, by decide +kernel⟩
def spNmInit (K : PySem.W.Frag) : Sp := fun vs H Q _ => vs.length = 3 ∧ ∃ (a dx pa : Addr) (va : V) (n : Nat) (arcs : List Arc) (us : List V), vs = [.ref a, va, .ref pa] ∧ H a = some (.ins (He.ga K "Numbers") dx []) ∧ TD H va (.list (List.replicate n (.int 0))) ∧ H pa = some (.lst us) ∧ TDs H us (arcs.map dArc) ∧ n ≤ 1000 ∧
  ∀ H' ph pb, KX [a] H H' → H ph = none → H pb = none → NmAt K H' a dx ph pa pb n arcs us ns0 → Q .non H'
theorem vals_rep {H : Hp} {n : Nat} : ∀ {ys : List V}, TDs H ys (List.replicate n (.int 0)) → ys = List.replicate n (.int 0) := by
  induction n with
  | zero => intro ys h; cases h; rfl
  | succ n ih =>
    intro ys h
    cases h with
    | cons h1 h2 => rw [h1.i, ih h2]; rfl
theorem D_Numbers_init (T : Tx K mg) : DefP P w K mg base CX0 1 ("Numbers", some "__init__") P_Numbers_init (spNmInit K) := by
  refine mk_def T 36 d_Numbers_init rfl rfl rfl sc_Numbers_init (fun vs H Q E h => h.1) (fun _ _ _ _ _ _ us hl => match us, hl with | [_, _, _], _ => rfl) (fun cdv A outer s H vs Q E hr h => ?_)
  obtain ⟨_, a, dx, pa, va, n, arcs, us, rfl, ha, tv, hpa, hus, hn, q⟩ := h
  obtain ⟨pv0, ys, rfl, hp0, hys⟩ := tv.l
  have ey := vals_rep hys
  subst ey
  have hapa : a ≠ pa := fun e => by rw [e, hpa] at ha; cases ha
  have hav : a ≠ pv0 := fun e => by rw [e, hp0] at ha; cases ha
  refine ⟨_, (pss_cons (kps_fld K (pv 0) (pe_callTy (kcall_list K) (by rfl) T.f_list (by decide +kernel) (pa_cons (pv 1) pa_nil))) (pss_cons (kps_fld K (pv 0) (pv 2)) (pss_cons (kps_fld K (pv 0) (pe_op op_rep (pe_lst (pa_cons pe_non pa_nil)) (pe_callB (kcall_len K) (by rfl) T.f_len boot_len (pa_cons (pv 1) pa_nil)))) (pss_one (kps_fld K (pv 0) pe_non))))), ?_⟩
  refine q_seq ⟨_, rfl, pv0, _, rfl, .inl (SqL.of hp0), fun ph hph => ⟨.ref a, rfl, a, _, dx, [], rfl, Same.new hph _ _ ha, T.c_Numbers, T.n_Numbers_heights, by simp, ?_⟩⟩
  show tSeq _ _ _ _ _
  have hnea : ph ≠ a := fun e => by rw [e, ha] at hph; cases hph
  have hnepa : ph ≠ pa := fun e => by rw [e, hpa] at hph; cases hph
  have hnepv : ph ≠ pv0 := fun e => by rw [e, hp0] at hph; cases hph
  have k1 : KX [a] H (upd (upd H ph (.lst (List.replicate n (.int 0)))) a (.ins (He.ga K "Numbers") dx [("heights", .ref ph)])) := (KX.of (Same.new hph)).mut (by simp)
  have o1 : (upd (upd H ph (.lst (List.replicate n (.int 0)))) a (.ins (He.ga K "Numbers") dx [("heights", .ref ph)])) a = some (.ins (He.ga K "Numbers") dx [("heights", .ref ph)]) := upd_same
  have h1 : (upd (upd H ph (.lst (List.replicate n (V.int 0)))) a (.ins (He.ga K "Numbers") dx [("heights", .ref ph)])) ph = some (.lst (List.replicate n (.int 0))) := (upd_ne hnea).trans upd_same
  show tSeq _ _ _ _ (upd (upd H ph (.lst (List.replicate n (.int 0)))) a (.ins (He.ga K "Numbers") dx [("heights", .ref ph)]))
  generalize upd (upd H ph (.lst (List.replicate n (V.int 0)))) a (.ins (He.ga K "Numbers") dx [("heights", .ref ph)]) = H1 at *
  refine q_seq (s_fldV (y := .ref pa) (dv_var rfl) (dv_var (v := .ref a) rfl) o1 T.c_Numbers T.n_Numbers_arcs (by simp) ?_)
  have k2 : KX [a] H (upd H1 a (.ins (He.ga K "Numbers") dx [("heights", .ref ph), ("arcs", .ref pa)])) := k1.mut (by simp)
  have h2 : (upd H1 a (.ins (He.ga K "Numbers") dx [("heights", .ref ph), ("arcs", .ref pa)])) ph = some (.lst (List.replicate n (.int 0))) := (upd_ne hnea).trans h1
  have o2 : (upd H1 a (.ins (He.ga K "Numbers") dx [("heights", .ref ph), ("arcs", .ref pa)])) a = some (.ins (He.ga K "Numbers") dx [("heights", .ref ph), ("arcs", .ref pa)]) := upd_same
  show tSeq _ _ _ _ (upd H1 a (.ins (He.ga K "Numbers") dx [("heights", .ref ph), ("arcs", .ref pa)]))
  generalize upd H1 a (.ins (He.ga K "Numbers") dx [("heights", .ref ph), ("arcs", .ref pa)]) = H2 at *
  have hv2 : H2 pv0 = some (.lst (List.replicate n (.int 0))) := k2 _ _ (by simpa using Ne.symm hav) hp0
  refine q_seq ⟨by rw [sizeLine_eq]; decide, fun l hl => ?_⟩
  have sl : Same H2 (upd H2 l (.lst [V.non])) := Same.new hl
  have tv3 : TD (upd H2 l (.lst [V.non])) (.ref pv0) (.list (List.replicate n (.int 0))) := .lst (sl _ _ hv2) (by
    rw [← List.map_replicate (f := V.int), ← List.map_replicate (f := PyData.int)]
    exact TDs.ofInts _)
  refine (dn_cb (da_cons (dn_var (i := 1) rfl tv3) da_nil) (rd_lenL (K := K))).go fun vn H3 s3 tn => ?_
  have en := tn.i
  rw [List.length_replicate] at en
  subst en
  refine ⟨l, (n : Int), [.non], rfl, rfl, s3 _ _ upd_same, by omega, by omega, by rw [sizeLine_eq]; simp; omega, fun pb hpb => ?_⟩
  rw [Int.toNat_natCast, flat_rep]
  have s23 : Same H2 H3 := sl.trans s3
  have hnb : pb ≠ a ∧ pb ≠ pa ∧ pb ≠ ph := by
    refine ⟨fun e => ?_, fun e => ?_, fun e => ?_⟩
    · rw [e, s23 _ _ o2] at hpb; cases hpb
    · rw [e, s23 _ _ (k2 _ _ (by simpa using Ne.symm hapa) hpa)] at hpb; cases hpb
    · rw [e, s23 _ _ h2] at hpb; cases hpb
  have k4 : KX [a] H (upd H3 pb (.lst (List.replicate n .non))) := (k2.step s23).step (Same.new hpb)
  have hpbH : H pb = none := by
    cases e : H pb with
    | none => rfl
    | some u =>
      have := (k2.step s23) pb u (by simpa using hnb.1) e
      rw [hpb] at this; cases this
  have h4 : (upd H3 pb (.lst (List.replicate n V.non))) ph = some (.lst (List.replicate n (.int 0))) := Same.new hpb _ _ (s23 _ _ h2)
  have o4 : (upd H3 pb (.lst (List.replicate n V.non))) a = some (.ins (He.ga K "Numbers") dx [("heights", .ref ph), ("arcs", .ref pa)]) := Same.new hpb _ _ (s23 _ _ o2)
  have b4 : (upd H3 pb (.lst (List.replicate n V.non))) pb = some (.lst (List.replicate n .non)) := upd_same
  generalize upd H3 pb (.lst (List.replicate n V.non)) = H4 at *
  refine ⟨.ref a, rfl, a, _, dx, _, rfl, o4, T.c_Numbers, T.n_Numbers_by, by simp, ?_⟩
  have k5 : KX [a] H (upd H4 a (.ins (He.ga K "Numbers") dx (putF "by" (.ref pb) [("heights", .ref ph), ("arcs", .ref pa)]))) := k4.mut (by simp)
  have o5 : (upd H4 a (.ins (He.ga K "Numbers") dx (putF "by" (.ref pb) [("heights", .ref ph), ("arcs", .ref pa)]))) a = some (.ins (He.ga K "Numbers") dx [("heights", .ref ph), ("arcs", .ref pa), ("by", .ref pb)]) := upd_same
  have h5 : (upd H4 a (.ins (He.ga K "Numbers") dx (putF "by" (.ref pb) [("heights", .ref ph), ("arcs", .ref pa)]))) ph = some (.lst (List.replicate n (.int 0))) := (upd_ne hnea).trans h4
  have b5 : (upd H4 a (.ins (He.ga K "Numbers") dx (putF "by" (.ref pb) [("heights", .ref ph), ("arcs", .ref pa)]))) pb = some (.lst (List.replicate n .non)) := (upd_ne hnb.1).trans b4
  generalize upd H4 a (.ins (He.ga K "Numbers") dx (putF "by" (.ref pb) [("heights", .ref ph), ("arcs", .ref pa)])) = H5 at *
  dsimp only
  refine s_fldV (y := .non) (fun _ _ _ q => q) (dv_var (v := .ref a) rfl) o5 T.c_Numbers T.n_Numbers_grown (by simp) ?_
  have k6 : KX [a] H (upd H5 a (.ins (He.ga K "Numbers") dx [("heights", .ref ph), ("arcs", .ref pa), ("by", .ref pb), ("grown", .non)])) := k5.mut (by simp)
  refine q _ ph pb k6 hph hpbH ⟨upd_same, ?_, ?_, k6 _ _ (by simpa using Ne.symm hapa) hpa, ?_, Ne.symm hnb.2.2, hnepa, hnb.2.1⟩
  · refine (upd_ne hnea).trans (h5.trans ?_)
    unfold hL
    rw [List.map_map, show (V.int ∘ ns0.h) = fun _ => V.int 0 from rfl, map_rng_c]
  · refine (upd_ne hnb.1).trans (b5.trans ?_)
    rw [show (fun v => oV (ns0.pb v)) = fun _ => V.non from rfl, map_rng_c]
  · refine hus.k (fun b xs hb => k6 b _ ?_ hb) (flats_arc _)
    simp only [List.mem_singleton]
    exact fun e => by rw [e, ha] at hb; cases hb
abbrev N_Numbers_settle : List Str := ["self", "turn"]
abbrev P_Numbers_settle : List Str := ["self"]
theorem sc_Numbers_settle : FnScope N_Numbers_settle P_Numbers_settle (defScope s_Numbers_settle) := ⟨rfl, rfl, rfl, by decide +kernel, rfl, by decide +kernel, by decide +kernel⟩
def spSettle (K : PySem.W.Frag) : Sp := fun vs H Q _ => vs.length = 1 ∧ ∃ (a dx ph pa pb : Addr) (n : Nat) (arcs : List Arc) (us : List V), vs = [.ref a] ∧ NmAt K H a dx ph pa pb n arcs us ns0 ∧ AOK arcs n ∧
  ∀ (b : Bool) (k : Nat) H', KX [a, ph, pb] H H' → NmAt K H' a dx ph pa pb n arcs us (stN arcs k) → (b = true → 1 ≤ k ∧ (stN arcs k).g = none) → (b = false → k = n ∧ (1 ≤ n → ∃ v, (stN arcs n).g = some v)) → Q (.bl b) H'
theorem hL_len {n : Nat} {s : Ns} : ((hL n s).map PyData.int).length = n := by unfold hL; simp
theorem dn_lenH {σ : L2.St} {H : Hp} {a dx ph pa pb : Addr} {n : Nat} {arcs : List Arc} {us : List V} {s : Ns} (T : Tx K mg) (hN : NmAt K H a dx ph pa pb n arcs us s) (h : σ[0]? = some (some (.ref a))) : Dn (tCB (rLen K) (tCons (tFld K (tVar 0) "heights") tNil)) σ H (.int (n : Int)) := by
  have h1 := dn_cb (da_cons (dn_fld (dv_var h) hN.ob T.c_Numbers T.n_Numbers_heights rfl hN.tH) da_nil) (rd_lenL (K := K))
  rw [hL_len] at h1
  exact h1
theorem D_Numbers_settle (T : Tx K mg) : DefP P w K mg base CX0 2 ("Numbers", some "settle") P_Numbers_settle (spSettle K) := by
  refine mk_def T 38 d_Numbers_settle rfl rfl rfl sc_Numbers_settle (fun vs H Q E h => h.1) (fun _ _ _ _ _ _ us hl => match us, hl with | [_], _ => rfl) (fun cdv A outer s H vs Q E hr h => ?_)
  obtain ⟨_, a, dx, ph, pa, pb, n, arcs, us, rfl, hN, ok, q⟩ := h
  have hn := ok.n
  refine ⟨_, (pss_cons (ps_for PassesOwn.never rfl (pi_range1 rfl T.f_range (pa_cons (pe_callB (kcall_len K) (by rfl) T.f_len boot_len (pa_cons (kpe_fld K (pv 0)) pa_nil)) pa_nil)) (pg_name (i := 1) sc_Numbers_settle.nd rfl (by first | exact Or.inl rfl | exact Or.inr rfl)) (pss_one (ps_if (pt_not (pt_val (pe_md0 (D_Numbers_grow T) T.c_Numbers T.m_Numbers_grow (hr.mono (by decide)) pass0 (pv 0)))) (pss_one (ps_ret pe_bl)) pss_nil))) (pss_one (ps_ret pe_bl))), ?_⟩
  refine q_seq (s_forR (n := n) (da_cons (dn_lenH T hN rfl) da_nil) (by omega) (fun i σ' H' => ∃ o1, σ' = [some (.ref a), o1] ∧ KX [a, ph, pb] H H' ∧ NmAt K H' a dx ph pa pb n arcs us (stN arcs i) ∧ (1 ≤ i → ∃ v, (stN arcs i).g = some v)) ?_ ?_ ?_)
  · intro H1 s1
    exact ⟨none, rfl, KX.of s1, hN.sm s1, fun h => absurd h (by omega)⟩
  · rintro i σ' H1 hi ⟨o1, rfl, k1, hN1, hg⟩
    refine ⟨_, sto_name, ?_⟩
    refine ⟨.ref a, rfl, a, dx, _, rfl, hN1.ob, rfl, rfl, a, dx, ph, pa, pb, n, arcs, us, stN arcs i, i + 1, rfl, hN1, ok, fun H2 k2 hN2 => ⟨_, rfl, ?_⟩⟩
    have hN2 : NmAt K H2 a dx ph pa pb n arcs us (stN arcs (i + 1)) := hN2
    show if (!(stN arcs (i + 1)).g.isSome) = true then _ else _
    cases hgi : (stN arcs (i + 1)).g with
    | none =>
      simp only [Option.isSome_none, Bool.not_false, if_true]
      exact q true (i + 1) H2 (k1.trans k2) hN2 (fun _ => ⟨by omega, hgi⟩) (fun h => (nomatch h))
    | some v =>
      simp only [Option.isSome_some, Bool.not_true, Bool.false_eq_true, if_false]
      exact ⟨_, rfl, k1.trans k2, hN2, fun _ => ⟨v, by first | exact hgi | rfl⟩⟩
  · rintro σ' H1 ⟨o1, rfl, k1, hN1, hg⟩
    exact q false n H1 k1 hN1 (fun h => (nomatch h)) (fun _ => ⟨rfl, hg⟩)
abbrev N_Numbers_ring_behind : List Str := ["self", "plane", "turn", "found", "here"]
abbrev P_Numbers_ring_behind : List Str := ["self"]
theorem sc_Numbers_ring_behind : FnScope N_Numbers_ring_behind P_Numbers_ring_behind (defScope s_Numbers_ring_behind) := ⟨rfl, rfl, rfl, by decide +kernel, rfl, by decide +kernel, by decide +kernel⟩
def spRing (K : PySem.W.Frag) : Sp := fun vs H Q _ => vs.length = 1 ∧ ∃ (a dx ph pa pb : Addr) (n : Nat) (arcs : List Arc) (us : List V), vs = [.ref a] ∧ NmAt K H a dx ph pa pb n arcs us (stN arcs n) ∧ AOK arcs n ∧ 1 ≤ n ∧ (∃ v, (stN arcs n).g = some v) ∧
  ∀ v (js : List Nat) H', Same H H' → TD H' v (.list (js.map fun j : Nat => .int (j : Int))) → js ≠ [] → js.length ≤ n → (∀ j ∈ js, j < arcs.length) → Q v H'
theorem dn_next {σ : L2.St} {H : Hp} {a dx ph pa pb : Addr} {n : Nat} {arcs : List Arc} {us : List V} {s : Ns} {j x : Nat} (T : Tx K mg) (hN : NmAt K H a dx ph pa pb n arcs us s) (ok : AOK arcs n) (hx : x < n) (hp : Par arcs s x) (h0 : σ[0]? = some (some (.ref a))) (hj : σ[j]? = some (some (.int (x : Int)))) :
    Dn (tOp (rIxT K) (tOp (rIxL K) (tFld K (tVar 0) "arcs") (tOp (rIxL K) (tFld K (tVar 0) "by") (tVar j))) (tC (.int 0))) σ H (.int ((prN arcs s x : Nat) : Int)) := by
  obtain ⟨i, arc, h1, h2⟩ := hp
  obtain ⟨⟨hb0, hb1⟩, _⟩ := ok.r arc (List.mem_of_getElem? h2)
  have eb : arc.1 = ((prN arcs s x : Nat) : Int) := by rw [prN_at h1 h2]; unfold ab; omega
  have hby := pB_at (s := s) hx
  rw [h1] at hby
  have har : L2.atI (arcs.map dArc) (i : Int) = some (dArc arc) := by rw [atI_nat, List.getElem?_map, h2]; rfl
  rw [← eb]
  exact dn_ixT (ds := [.int arc.1, .int arc.2.1, .int arc.2.2]) (dn_ixL (dn_fld (dv_var h0) hN.ob T.c_Numbers T.n_Numbers_arcs rfl hN.tA) (dn_ixL (dn_fld (dv_var h0) hN.ob T.c_Numbers T.n_Numbers_by rfl hN.tB) (dn_var hj (.int _)) hby) har) dn_int rfl
theorem D_Numbers_ring_behind (T : Tx K mg) : DefP P w K mg base CX0 1 ("Numbers", some "ring_behind") P_Numbers_ring_behind (spRing K) := by
  refine mk_def T 39 d_Numbers_ring_behind rfl rfl rfl sc_Numbers_ring_behind (fun vs H Q E h => h.1) (fun _ _ _ _ _ _ us hl => match us, hl with | [_], _ => rfl) (fun cdv A outer s H vs Q E hr h => ?_)
  obtain ⟨_, a, dx, ph, pa, pb, n, arcs, us, rfl, hN, ok, hn1, ⟨v0, hg⟩, q⟩ := h
  have hn := ok.n
  obtain ⟨m, rfl⟩ : ∃ m, n = m + 1 := ⟨n - 1, by omega⟩
  obtain ⟨hlp, a0, ha0, hv0⟩ := (ig_st arcs m).gs v0 hg
  have hv0n : v0 < m + 1 := by have := ok.r a0 ha0; rw [← hv0]; unfold ae; omega
  have habn : ∀ a ∈ arcs, ab a < m + 1 := fun b hb => by have := ok.r b hb; unfold ab; omega
  obtain ⟨hpar, c, hc1, hcn, hc⟩ := ring_is (iv_st arcs (m + 1)) hlp habn hv0n
  have hlt := fun k => it_lt (s := stN arcs (m + 1)) habn hv0n k
  generalize hs : stN arcs (m + 1) = s0 at *
  refine ⟨_, (pss_cons (ps_set (i := 1) sc_Numbers_ring_behind.nd rfl (by first | exact Or.inl rfl | exact Or.inr rfl) (kpe_fld K (pv 0))) (pss_cons (ps_for PassesOwn.never rfl (pi_range1 rfl T.f_range (pa_cons (pe_callB (kcall_len K) (by rfl) T.f_len boot_len (pa_cons (kpe_fld K (pv 0)) pa_nil)) pa_nil)) (pg_name (i := 2) sc_Numbers_ring_behind.nd rfl (by first | exact Or.inl rfl | exact Or.inr rfl)) (pss_one (ps_set (i := 1) sc_Numbers_ring_behind.nd rfl (by first | exact Or.inl rfl | exact Or.inr rfl) (pe_ix (kix_tup K) (pe_ix (kix_list K) (kpe_fld K (pv 0)) (pe_ix (kix_list K) (kpe_fld K (pv 0)) (pv 1) (fun _ _ => rfl)) (fun _ _ => rfl)) pe_int (fun _ _ => rfl))))) (pss_cons (ps_par (i := 3) (j := 4) (by rfl) sc_Numbers_ring_behind.nd rfl rfl (by decide) rfl rfl (pa_cons (pe_lst pa_nil) (pa_cons (pv 1) pa_nil)) (by kernel_rfl)) (pss_cons (ps_while PassesOwn.never (PW.pt (pw_or (pt_cmpR (kop_eqD K hr.units) (pv 3) (pe_lst pa_nil) (nomark _)) (pw_or1 (pt_cmpR op_ne (pv 4) (pv 1) (nomark _))))) (pss_cons (ps_expr (pe_bm PySem.F.plainAttrs_list PySem.F.slot_list_append PySem.F.type_list_append mt_append (pv 3) (pa_cons (pe_ix (kix_list K) (kpe_fld K (pv 0)) (pv 4) (fun _ _ => rfl)) pa_nil))) (pss_one (ps_set (i := 4) sc_Numbers_ring_behind.nd rfl (by first | exact Or.inl rfl | exact Or.inr rfl) (pe_ix (kix_tup K) (pe_ix (kix_list K) (kpe_fld K (pv 0)) (pe_ix (kix_list K) (kpe_fld K (pv 0)) (pv 4) (fun _ _ => rfl)) (fun _ _ => rfl)) pe_int (fun _ _ => rfl)))))) (pss_one (ps_ret (kpe_revL K (pv 3)))))))), ?_⟩
  have tg : TD H (oV s0.g) (.int (v0 : Int)) := by rw [hg]; exact .int _
  refine q_set (dn_fld (dv_var rfl) hN.ob T.c_Numbers T.n_Numbers_grown rfl tg) fun v1 H1 s1 t1 => ?_
  have e1 := t1.i
  subst e1
  have hN1 := hN.sm s1
  refine q_seq (s_forR (n := m + 1) (da_cons (dn_lenH T hN1 rfl) da_nil) (by omega) (fun i σ' H' => ∃ o2, σ' = [some (.ref a), some (.int ((itN arcs s0 v0 i : Nat) : Int)), o2, none, none] ∧ Same H H') ?_ ?_ ?_)
  · intro H2 s2
    exact ⟨none, rfl, s1.trans s2⟩
  · rintro i σ' H2 hi ⟨o2, rfl, s2⟩
    refine ⟨_, sto_name, ?_⟩
    refine (dn_next (j := 1) T (hN.sm s2) ok (hlt i) (hpar i) rfl rfl).go fun v3 H3 s3 t3 => ?_
    have e3 := t3.i
    subst e3
    exact ⟨_, rfl, s2.trans s3⟩
  · rintro σ' H2 ⟨o2, rfl, s2⟩
    have hN2 := hN.sm s2
    have hP := hlt (m + 1)
    have hparP : ∀ k, Par arcs s0 (itN arcs s0 (itN arcs s0 v0 (m + 1)) k) := fun k => by rw [← it_add]; exact hpar _
    have hltP : ∀ k, itN arcs s0 (itN arcs s0 v0 (m + 1)) k < m + 1 := fun k => by rw [← it_add]; exact hlt _
    generalize itN arcs s0 v0 (m + 1) = pp at *
    dsimp only
    refine q_par0 ?_
    refine ⟨Nat.zero_le _, fun pf hpf => ⟨_, rfl, _, _, rfl, ?_⟩⟩
    have hpfH : H pf = none := by
      cases e : H pf with
      | none => rfl
      | some u => have := s2 _ _ e; rw [hpf] at this; cases this
    refine q_seq (s_while (fun k σ' H' => ∃ (o2 : Option V) (js : List Nat), σ' = [some (.ref a), some (.int (pp : Int)), o2, some (.ref pf), some (.int ((itN arcs s0 pp js.length : Nat) : Int))] ∧ k + js.length = c ∧ KX [pf] H H' ∧ H' pf = some (.lst ((js.map fun j : Nat => (j : Int)).map V.int)) ∧ ∀ j ∈ js, j < arcs.length) (m0 := c) ⟨_, [], rfl, rfl, (KX.of s2).step (Same.new hpf), upd_same, fun _ h => (nomatch h)⟩ ?_)
    rintro k σ' H3 ⟨o3, js, rfl, hk, k3, hf3, hjs⟩
    have hN3 : NmAt K H3 a dx ph pa pb (m + 1) arcs us s0 := hN.sm fun b u hb => k3 b u (by simp only [List.mem_singleton]; exact fun e => by rw [e, hpfH] at hb; cases hb) hb
    refine ⟨decide (js = []) || !decide (((itN arcs s0 pp js.length : Nat) : Int) = (pp : Int)), ?_, ?_, ?_⟩
    · refine dt_or ?_ fun _ => dt_test (dn_neI (dn_var rfl (.int _)) (dn_var rfl (.int _)))
      have h1 := dn_eqD (K := K) (σ := [some (V.ref a), some (.int (pp : Int)), o3, some (.ref pf), some (.int ((itN arcs s0 pp js.length : Nat) : Int))]) (ta := tVar 3) (tb := tLst tNil) (dn_var rfl (TD.ofInts hf3)) (dn_lst da_nil (by decide)) lst_ints (lst_ints (ns := []))
      have e : PyData.eqv (.list ((js.map fun j : Nat => (j : Int)).map .int)) (.list []) = decide (js = []) := by rw [eqv_inil]; cases js <;> simp
      rw [e] at h1
      exact dt_test h1
    · intro hb H4 s4 N hN'
      have hlc : js.length < c := by
        rcases Nat.lt_or_ge js.length c with h1 | h1
        · exact h1
        · have h2 : js.length = c := by omega
          have h3 : js ≠ [] := fun e => by rw [e] at h2; simp at h2; omega
          rw [h2, hc] at hb
          simp [h3] at hb
      have hN4 := hN3.sm s4
      obtain ⟨i, arc, hi1, hi2⟩ := hparP js.length
      have hby := pB_at (s := s0) (hltP js.length)
      rw [hi1] at hby
      refine q_seq (s_appE (d := oD (some i)) (dv_var rfl) (s4 _ _ hf3) (dn_ixL (dn_fld (dv_var rfl) hN4.ob T.c_Numbers T.n_Numbers_by rfl hN4.tB) (dn_var (i := 4) rfl (.int _)) hby) (by simp; omega) fun v5 H5 s5 t5 => ?_)
      have e5 : v5 = .int (i : Int) := t5.i
      subst e5
      have k5 : KX [pf] H (upd H5 pf (.lst ((js.map fun j : Nat => (j : Int)).map V.int ++ [.int (i : Int)]))) := ((k3.step s4).step s5).mut (by simp)
      have hf5 : (upd H5 pf (.lst ((js.map fun j : Nat => (j : Int)).map V.int ++ [.int (i : Int)]))) pf = some (.lst (((js ++ [i]).map fun j : Nat => (j : Int)).map V.int)) := by rw [upd_same]; simp
      generalize upd H5 pf (.lst ((js.map fun j : Nat => (j : Int)).map V.int ++ [.int (i : Int)])) = H6 at *
      have hN6 : NmAt K H6 a dx ph pa pb (m + 1) arcs us s0 := hN.sm fun b u hb => k5 b u (by simp only [List.mem_singleton]; exact fun e => by rw [e, hpfH] at hb; cases hb) hb
      refine (dn_next (j := 4) T hN6 ok (hltP js.length) ⟨i, arc, hi1, hi2⟩ rfl rfl).go fun v7 H7 s7 t7 => ?_
      have e7 := t7.i
      subst e7
      refine hN' (k - 1) _ _ (by omega) ⟨o3, js ++ [i], ?_, ?_, k5.step s7, s7 _ _ hf5, ?_⟩
      · rw [List.length_append]; rfl
      · rw [List.length_append, List.length_singleton]; omega
      · intro j hj
        rcases List.mem_append.mp hj with hj | hj
        · exact hjs j hj
        · rw [List.mem_singleton.mp hj]; exact (List.getElem?_eq_some_iff.mp hi2).1
    · intro hb H4 s4
      have hne : js ≠ [] := fun e => by simp [e] at hb
      have tf := (TD.ofInts hf3).s s4
      refine s_ret (dn_revL (K := K) (dn_var (i := 3) rfl tf)) fun v5 H5 s5 t5 => ?_
      refine q v5 js.reverse H5 (fun b u hb => s5 _ _ (s4 _ _ (k3 b u (by simp only [List.mem_singleton]; exact fun e => by rw [e, hpfH] at hb; cases hb) hb))) ?_ (by simpa using hne) (by rw [List.length_reverse]; omega) (fun j hj => hjs j (List.mem_reverse.mp hj))
      rw [← List.map_reverse, ← List.map_reverse, List.map_map] at t5
      exact t5
end K32
/-! R25 -/
set_option Elab.async false
set_option linter.all false
set_option maxRecDepth 100000
set_option maxHeartbeats 400000
namespace K32
open PySem PySem.Spec PyProof.Rows L2
local macro_rules | `(tactic| walk_at "dn") => `(tactic| first
  | with_reducible exact dn_int | with_reducible exact dn_str | with_reducible exact dn_bl | with_reducible exact dn_non | with_reducible exact da_nil | with_reducible exact do_none
  | ((with_reducible refine' dn_var ?h ?k); (case h => rfl); (case k => assumption))
  | ((with_reducible refine' da_cons ?_ ?_) <;> try walk_at "dn")
  | ((with_reducible refine' dn_add ?_ ?_) <;> try walk_at "dn")
  | ((with_reducible refine' dn_sub ?_ ?_) <;> try walk_at "dn")
  | ((with_reducible refine' dn_mul ?_ ?_ ?_) <;> try walk_at "dn")
  | ((with_reducible refine' dn_lt ?_ ?_) <;> try walk_at "dn")
  | ((with_reducible refine' dn_le ?_ ?_) <;> try walk_at "dn")
  | ((with_reducible refine' dn_gt ?_ ?_) <;> try walk_at "dn")
  | ((with_reducible refine' dn_ge ?_ ?_) <;> try walk_at "dn")
  | ((with_reducible refine' dn_neg ?_) <;> try walk_at "dn")
  | ((with_reducible refine' dn_chain ?_ ?_ ?_ rd_le rd_le) <;> try walk_at "dn")
  | ((with_reducible refine' dn_chain ?_ ?_ ?_ rd_le rd_lt) <;> try walk_at "dn")
  | ((with_reducible refine' dn_isI ?h ?k); (case h => walk_at "dn"); (case k => first | with_reducible exact kb_int_int | with_reducible exact kb_int_tuple | with_reducible exact kb_int_str | with_reducible exact kb_int_bool))
  | ((with_reducible refine' dn_isT ?h ?k); (case h => walk_at "dn"); (case k => first | with_reducible exact kb_tuple_int | with_reducible exact kb_tuple_tuple | with_reducible exact kb_tuple_str | with_reducible exact kb_tuple_bool))
  | ((with_reducible refine' dn_isS ?h ?k); (case h => walk_at "dn"); (case k => first | with_reducible exact kb_str_int | with_reducible exact kb_str_tuple | with_reducible exact kb_str_str | with_reducible exact kb_str_bool))
  | ((with_reducible refine' dn_isL ?h ?k); (case h => walk_at "dn"); (case k => first | with_reducible exact kb_list_int | with_reducible exact kb_list_tuple | with_reducible exact kb_list_str | with_reducible exact kb_list_bool))
  | ((with_reducible refine' dn_isB ?h ?k); (case h => walk_at "dn"); (case k => first | with_reducible exact kb_bool_int | with_reducible exact kb_bool_tuple | with_reducible exact kb_bool_str | with_reducible exact kb_bool_bool))
  | ((with_reducible refine' dn_ixT ?h ?t ?k); (case h => walk_at "dn"); (case t => walk_at "dn"); try (case k => rfl))
  | ((with_reducible refine' dn_ixL ?h ?t ?k); (case h => walk_at "dn"); (case t => walk_at "dn"); try (case k => rfl))
  | ((with_reducible refine' dn_cb ?h ?k); (case h => walk_at "dn"); try (case k => first | exact rd_lenT | exact rd_lenL | exact rd_tupL | exact rd_lstT | exact rd_lstL | exact rc_all | exact rc_sum | exact rc_max2 | exact rc_min2))
  | ((with_reducible refine' dn_call ?h ?t ?k); (case h => walk_at "dn"); (case t => rfl))
  | ((with_reducible refine' dt_test ?_) <;> try walk_at "dn")
  | ((with_reducible refine' dt_B ?_) <;> try walk_at "dn")
  | ((with_reducible refine' dn_eqI ?h ?k); (case h => walk_at "dn"); (case k => walk_at "dn"))
  | ((with_reducible refine' dn_neI ?h ?k); (case h => walk_at "dn"); (case k => walk_at "dn"))
  | ((with_reducible refine' dn_eqS ?h ?k); (case h => walk_at "dn"); (case k => walk_at "dn"))
  | ((with_reducible refine' dn_neS ?h ?k); (case h => walk_at "dn"); (case k => walk_at "dn"))
  | ((with_reducible refine' dt_or ?_ (fun _ => ?_)) <;> try walk_at "dn")
  | ((with_reducible refine' dt_and ?_ (fun _ => ?_)) <;> try walk_at "dn")
  | ((with_reducible refine' dn_orV ?_ (fun _ => ?_)) <;> try walk_at "dn")
  | ((with_reducible refine' dn_andV ?_ (fun _ => ?_)) <;> try walk_at "dn")
  | ((with_reducible refine' dt_not ?_) <;> try walk_at "dn")
  | ((with_reducible refine' dn_notV ?_) <;> try walk_at "dn")
  | ((with_reducible refine' da_star ?_ ?_) <;> try walk_at "dn")
  | ((with_reducible refine' dn_tup ?_ ?_) <;> try walk_at "dn")
  | ((with_reducible refine' dn_lst ?_ ?_) <;> try walk_at "dn")
  | ((with_reducible refine' do_some ?_) <;> try walk_at "dn"))
variable {P : Program} {w : World} {K : PySem.W.Frag} {mg : Str → Option Value} {base : Heap}
/-! ### plain_from, starts_or_ring, find_starts -/
/-- a promise that tells of the answer what it is like -/
def spS (n : Nat) (f : List Dt → (Dt → Prop) → Prop) : Sp := fun vs H Q _ => vs.length = n ∧ ∃ (ds : List Dt) (S : Dt → Prop), TDs H vs ds ∧ f ds S ∧ ∀ v d H', S d → Same H H' → TD H' v d → Q v H'
def Dns (te : TE) (σ : L2.St) (H : Hp) (S : Dt → Prop) : Prop := ∀ H1, Same H H1 → ∀ Q : VK, (∀ v d H2, S d → Same H1 H2 → TD H2 v d → Q v H2) → te σ H1 Q
theorem dns_call {σ : L2.St} {H : Hp} {n : Nat} {f : List Dt → (Dt → Prop) → Prop} {ta : TA} {ds : List Dt} {S : Dt → Prop} (h : DnA ta σ H ds) (hn : ds.length = n) (hf : f ds S) : Dns (tCall (spS n f) [] E0 ta) σ H S := fun H1 s Q q =>
  h H1 s _ fun vs H2 s2 t2 => by
    rw [List.append_nil]
    exact ⟨t2.len.trans hn, ds, S, t2, hf, fun v d H3 hs s3 t3 => q v d H3 hs (s2.trans s3) t3⟩
theorem Dns.dn {te : TE} {σ : L2.St} {H : Hp} {d : Dt} (h : Dns te σ H (fun z => z = d)) : Dn te σ H d := fun H1 s Q q => h H1 s Q fun v z H2 e s2 t2 => q v H2 s2 (e ▸ t2)
theorem KX.same {S : List Addr} {H H' : Hp} (k : KX S H H') (h : ∀ a ∈ S, H a = none) : Same H H' := fun b u hb => k b u (fun m => by rw [h b m] at hb; cases hb) hb
theorem lay_dPr (p : Int × Int) : (dPr p).canLay0 = true := by unfold dPr; simp [PyData.canLay0, PyData.canLayAll0]
theorem dep_dPr (p : Int × Int) : (dPr p).depth = 1 := by unfold dPr; simp [PyData.depth, PyData.depthAll]
theorem shaped_lPr (ps : List (Int × Int)) : SeqAt.shaped (.list (ps.map dPr)) = true := shaped_of (by simp [PyData.canLay0, lays_map lay_dPr]) (by
  simp only [PyData.depth]
  have := deps_map (e := dPr) (n := 1) (fun a => Nat.le_of_eq (dep_dPr a)) ps
  omega)
abbrev N_plain_from : List Str := ["ring", "first"]
abbrev P_plain_from : List Str := ["ring"]
theorem sc_plain_from : FnScope N_plain_from P_plain_from (defScope s_plain_from) := ⟨rfl, rfl, rfl, by decide +kernel, rfl, by decide +kernel, by decide +kernel⟩
def fPlain (ds : List Dt) (S : Dt → Prop) : Prop := ∃ ps : List (Int × Int), ds = [.list (ps.map dPr)] ∧ ps ≠ [] ∧ ps.length ≤ 1000 ∧ S = fun d => ∃ es, d = .tuple es
theorem eqv_dPr (p q : Int × Int) : PyData.eqv (dPr p) (dPr q) = decide (p = q) := by
  obtain ⟨a, b⟩ := p
  obtain ⟨c, d⟩ := q
  unfold dPr
  simp only [PyData.eqv, PyData.eqvAll, Prod.mk.injEq]
  by_cases h1 : a = c <;> by_cases h2 : b = d <;> simp [h1, h2]
theorem first_eq {α : Type} (f : α → Bool) : ∀ (l : List α) (i : Nat) (x : α), l[i]? = some x → f x = true → ∃ j z, l[j]? = some z ∧ f z = true ∧ ∀ (m : Nat) z', m < j → l[m]? = some z' → f z' = false
  | [], i, x, h, _ => by simp at h
  | a :: l, i, x, h, hf => by
    by_cases ha : f a = true
    · exact ⟨0, a, rfl, ha, fun m z' hm => absurd hm (Nat.not_lt_zero _)⟩
    · cases i with
      | zero => simp at h; subst h; exact absurd hf ha
      | succ i =>
        obtain ⟨j, z, h1, h2, h3⟩ := first_eq f l i x (by simpa using h) hf
        refine ⟨j + 1, z, by simpa using h1, h2, fun m z' hm hz => ?_⟩
        cases m with
        | zero => simp at hz; subst hz; simpa using ha
        | succ m => exact h3 m z' (by omega) (by simpa using hz)
theorem D_plain_from (T : Tx K mg) : DefP P w K mg base CX0 1 ("plain_from", none) P_plain_from (spS 1 fPlain) := by
  refine mk_def T 34 d_plain_from rfl rfl rfl sc_plain_from (fun vs H Q E h => h.1) (fun _ _ _ _ _ _ us hl => match us, hl with | [_], _ => rfl) (fun cdv A outer s H vs Q E hr h => ?_)
  obtain ⟨_, ds, S, hd, ⟨ps, rfl, hne, hl, rfl⟩, q⟩ := h
  obtain ⟨x, rfl, t1⟩ := hd.one
  refine ⟨_, (pss_cons (ps_set (i := 1) sc_plain_from.nd rfl (by first | exact Or.inl rfl | exact Or.inr rfl) (pe_bm PySem.F.plainAttrs_list PySem.F.slot_list_index PySem.F.type_list_index (kmt_indexD K (hu65 hr)) (pv 0) (pa_cons (pe_callB (kcr_minP K (hu9 hr)) (by rfl) T.f_min (by decide +kernel) (pa_cons (pv 0) pa_nil)) pa_nil))) (pss_one (ps_ret (pe_callTy (kcall_tuple K) (by rfl) T.f_tuple (by decide +kernel) (pa_cons (pe_op op_cat (pe_slice (ksl_list K) (pv 0) (po_some (pv 1)) po_none) (pe_slice (ksl_list K) (pv 0) po_none (po_some (pv 1)))) pa_nil))))), ?_⟩
  have hix : ∀ Q : VK, (∀ (j : Nat) H2, j < ps.length → Same H H2 → Q (.int (j : Int)) H2) → tBM K "list" (rIndexD K) (tVar 0) (tCons (tCB (rMinP K) (tCons (tVar 0) tNil)) tNil) (L2.start N_plain_from [x]) H Q := by
    intro Q1 q1
    obtain ⟨a, xs, rfl, e1, e2⟩ := id t1.l
    refine ⟨.ref a, rfl, tyL t1, .ref a, rfl, a, xs, ps, rfl, SqL.of e1, e2, hne, fun i v hv => ?_⟩
    obtain ⟨d, hd, td⟩ := e2.at hv
    rw [List.getElem?_map] at hd
    obtain ⟨p, hp, rfl⟩ := Option.map_eq_some_iff.mp hd
    obtain ⟨j, z, h1, h2, h3⟩ := first_eq (fun z => PyData.eqv z (dPr p)) (ps.map dPr) i (dPr p) (by rw [List.getElem?_map, hp]; rfl) (by rw [eqv_dPr]; simp)
    have hj : j < ps.length := by have := (List.getElem?_eq_some_iff.mp h1).1; simpa using this
    exact ⟨a, v, dPr p, ps.map dPr, j, z, rfl, rfl, t1.dp, td.dp, shaped_lPr ps, shaped_of (lay_dPr p) (by rw [dep_dPr]; decide), h1, h2, h3, q1 j H hj (Same.refl H)⟩
  refine q_asg (hix _ fun j H2 hj s2 => ?_)
  have t1 := t1.s s2
  refine s_ret (dn_cb (da_cons (dn_catL (dn_slL (dn_var (i := 0) rfl t1) (do_some (dn_var (i := 1) rfl (.int _))) do_none) (dn_slL (dn_var (i := 0) rfl t1) do_none (do_some (dn_var (i := 1) rfl (.int _)))) (by simp; omega)) da_nil) (rd_tupL (K := K))) fun v3 H3 s3 t3 => q v3 _ H3 ⟨_, rfl⟩ (s2.trans s3) t3
abbrev N_starts_or_ring : List Str := ["flow", "weights", "numbers", "arcs", "reads", "number"]
abbrev P_starts_or_ring : List Str := ["flow", "weights"]
theorem sc_starts_or_ring : FnScope N_starts_or_ring P_starts_or_ring (defScope s_starts_or_ring) := ⟨rfl, rfl, rfl, by decide +kernel, rfl, by decide +kernel, by decide +kernel⟩
def stOK (f : Flow) (ws : Vec) (d : Dt) : Prop := ∃ k, 1 ≤ k ∧ (stN (arcsL f ws) k).g = none ∧ d = .tuple [.str "starts", .tuple ((hL f.rules.length (stN (arcsL f ws) k)).map .int)]
def rgOK (f : Flow) (ws : Vec) (d : Dt) : Prop := (∃ v, (stN (arcsL f ws) f.rules.length).g = some v) ∧ ∃ es, d = .tuple [.str "ring", .tuple es]
def fSOR (ds : List Dt) (S : Dt → Prop) : Prop := ∃ (f : Flow) (ws : Vec), ds = [dFlow f, dV ws] ∧ FlowOk f ∧ small ws ∧ ws.length ≤ 1000 ∧ S = fun d => stOK f ws d ∨ rgOK f ws d
theorem aok_arcs {f : Flow} (h : FlowOk f) (ws : Vec) : AOK (arcsL f ws) f.rules.length := by
  refine ⟨fun a ha => ?_, by unfold arcsL; rw [List.length_map]; have := rpl_len h; omega, by have := h.n6; omega⟩
  obtain ⟨p, hp, rfl⟩ := List.mem_map.mp ha
  obtain ⟨i, j, rule, q0, rfl, h1, h2⟩ := mem_rpl hp
  rw [arcAt_is h1 h2]
  have hq := h.src rule (List.mem_of_getElem? h1) q0 (List.mem_of_getElem? h2)
  have hi := (List.getElem?_eq_some_iff.mp h1).1
  exact ⟨⟨by show (0 : Int) ≤ q0.1; omega, by show q0.1 < _; omega⟩, by show (0 : Int) ≤ (i : Int); omega, by show (i : Int) < _; omega⟩
theorem D_starts_or_ring (T : Tx K mg) : DefP P w K mg base CX0 4 ("starts_or_ring", none) P_starts_or_ring (spS 2 fSOR) := by
  refine mk_def T 40 d_starts_or_ring rfl rfl rfl sc_starts_or_ring (fun vs H Q E h => h.1) (fun _ _ _ _ _ _ us hl => match us, hl with | [_, _], _ => rfl) (fun cdv A outer s H vs Q E hr h => ?_)
  obtain ⟨_, ds, S, hd, ⟨f, ws, rfl, hf, hs, hl, rfl⟩, q⟩ := h
  obtain ⟨x, y, rfl, t1, t2⟩ := hd.two
  have ok := aok_arcs hf ws
  have hn := ok.n
  have hn2 := hf.n1
  refine ⟨_, (pss_cons (ps_asg (pe_cd (D_arcs_of T) (hr.mono (by decide)) T.g_arcs_of pass0 (pa_cons (pv 0) (pa_cons (pv 1) pa_nil))) (kpg_tup K 2 (pgs_cons (pg_name (i := 3) sc_starts_or_ring.nd rfl (by first | exact Or.inl rfl | exact Or.inr rfl)) (pgs_cons (pg_name (i := 4) sc_starts_or_ring.nd rfl (by first | exact Or.inl rfl | exact Or.inr rfl)) pgs_nil)))) (pss_cons (ps_set (i := 2) sc_starts_or_ring.nd rfl (by first | exact Or.inl rfl | exact Or.inr rfl) (pe_mk (D_Numbers_init T) T.k_Numbers (hr.mono (by decide)) T.g_Numbers pass0 (pa_cons (pe_op op_rep (pe_lst (pa_cons pe_int pa_nil)) (pe_callB (kcall_len K) (by rfl) T.f_len boot_len (pa_cons (pe_ix (kix_tup K) (pv 0) pe_int (fun _ _ => rfl)) pa_nil))) (pa_cons (pv 3) pa_nil)))) (pss_cons (ps_if (pt_val (pe_md0 (D_Numbers_settle T) T.c_Numbers T.m_Numbers_settle (hr.mono (by decide)) pass0 (pv 2))) (pss_one (ps_ret (pe_tup (pa_cons pe_str (pa_cons (pe_callTy (kcall_tuple K) (by rfl) T.f_tuple (by decide +kernel) (pa_cons (kpe_fld K (pv 2)) pa_nil)) pa_nil))))) pss_nil) (pss_one (ps_ret (pe_tup (pa_cons pe_str (pa_cons (pe_cd (D_plain_from T) (hr.mono (by decide)) T.g_plain_from pass0 (pa_cons (pe_lc (own := [("number", 5)]) rfl sc_starts_or_ring.nd (kpi_list K (pe_md0 (D_Numbers_ring_behind T) T.c_Numbers T.m_Numbers_ring_behind (hr.mono (by decide)) pass0 (pv 2))) (blkOk_by (N := N_starts_or_ring) (sc := defScope s_starts_or_ring) (by decide +kernel)) (fun _ _ _ _ _ => (pg_name (i := 5) sc_starts_or_ring.nd rfl (by first | exact Or.inl rfl | exact Or.inr rfl))) (fun _ _ _ _ _ => pts_nil) (fun _ _ _ _ _ => (pe_ix (kix_list K) (pv 4) (pv 5) (fun _ _ => rfl)))) pa_nil)) pa_nil)))))))), ?_⟩
  refine q_asg' ((dn_call (ds := [dFlow f, dV ws]) (da_cons (dn_var rfl t1) (da_cons (dn_var rfl t2) da_nil)) (by rfl) ⟨f, ws, rfl, hf, hs, hl, rfl⟩).go fun v H1 s1 tv => ?_)
  obtain ⟨va, vr, ta, tr, st⟩ := sto_two (K := K) (σ := L2.start N_starts_or_ring [x, y]) (i := 3) (j := 4) tv
  refine st _ ?_
  have t1 := t1.s s1
  obtain ⟨pa, us, rfl, hpa, hus⟩ := ta.l
  -- Numbers
  refine q_asg ?_
  refine ⟨by rw [sizeLine_eq]; decide, fun l hl0 => ?_⟩
  have sl : Same H1 (upd H1 l (.lst [V.int 0])) := Same.new hl0
  refine (dn_cb (da_cons (dn_ixT (ds := [.int f.dims, .tuple (f.rules.map dRule)]) (dn_var (i := 0) rfl (t1.s sl)) dn_int rfl) da_nil) (rd_lenT (K := K))).go fun vn H2 s2 tn => ?_
  have en := tn.i
  rw [List.length_map] at en
  subst en
  refine ⟨l, ((f.rules.length : Nat) : Int), [.int 0], rfl, rfl, s2 _ _ upd_same, by omega, by omega, by rw [sizeLine_eq]; simp; omega, fun pz hpz => ⟨_, rfl, ?_⟩⟩
  rw [Int.toNat_natCast, flat_rep]
  intro a dx ha hdx hne
  have s12 : Same H1 (upd H2 pz (.lst (List.replicate f.rules.length (V.int 0)))) := (sl.trans s2).trans (Same.new hpz)
  have hz3 : (upd H2 pz (.lst (List.replicate f.rules.length (V.int 0)))) pz = some (.lst (List.replicate f.rules.length (V.int 0))) := upd_same
  generalize upd H2 pz (.lst (List.replicate f.rules.length (V.int 0))) = H3 at *
  have s34 : Same H3 (upd (upd H3 dx (.own a)) a (.ins (He.ga K "Numbers") dx [])) := (Same.new hdx).trans (Same.new (by rw [upd_ne (Ne.symm hne)]; exact ha))
  have hoa : (upd (upd H3 dx (.own a)) a (.ins (He.ga K "Numbers") dx [])) a = some (.ins (He.ga K "Numbers") dx []) := upd_same
  show spNmInit K _ (upd (upd H3 dx (.own a)) a (.ins (He.ga K "Numbers") dx [])) _ _
  generalize upd (upd H3 dx (.own a)) a (.ins (He.ga K "Numbers") dx []) = H4 at *
  have s14 : Same H1 H4 := s12.trans s34
  have haH1 : H1 a = none := by
    cases e : H1 a with
    | none => rfl
    | some u => have := s12 _ _ e; rw [ha] at this; cases this
  refine ⟨rfl, a, dx, pa, .ref pz, f.rules.length, arcsL f ws, us, rfl, hoa, .lst (s34 _ _ hz3) ?_, s14 _ _ hpa, hus.s s14, hn, fun H5 ph pb k5 hph hpb hN => ⟨rfl, ?_⟩⟩
  · rw [← List.map_replicate (f := V.int), ← List.map_replicate (f := PyData.int)]
    exact TDs.ofInts _
  have hnone : ∀ p, H4 p = none → H1 p = none := fun p hp => by
    cases e : H1 p with
    | none => rfl
    | some u => have := s14 _ _ e; rw [hp] at this; cases this
  have hS : ∀ b ∈ [a, ph, pb], H1 b = none := by
    intro b hb
    simp only [List.mem_cons, List.not_mem_nil, or_false] at hb
    rcases hb with rfl | rfl | rfl
    · exact haH1
    · exact hnone _ hph
    · exact hnone _ hpb
  have s15 : Same H1 H5 := KX.same (S := [a]) ((KX.of s14).trans k5) fun b hb => hS b (by simp only [List.mem_singleton] at hb; simp [hb])
  -- settle
  refine ⟨.ref a, rfl, a, dx, _, rfl, hN.ob, rfl, rfl, a, dx, ph, pa, pb, f.rules.length, arcsL f ws, us, rfl, hN, ok, fun b k H6 k6 hN6 hb1 hb2 => ⟨_, rfl, ?_⟩⟩
  have s16 : Same H1 H6 := KX.same ((KX.of s15).trans k6) hS
  cases b with
  | true =>
    obtain ⟨h1, h2⟩ := hb1 rfl
    dsimp only
    rw [if_pos rfl]
    refine s_ret (dn_tup (da_cons dn_str (da_cons (dn_cb (da_cons (dn_fld (dv_var rfl) hN6.ob T.c_Numbers T.n_Numbers_heights rfl hN6.tH) da_nil) (rd_tupL (K := K))) da_nil)) (by simp)) fun v7 H7 s7 t7 => q v7 _ H7 (.inl ⟨k, h1, h2, rfl⟩) ((s1.trans s16).trans s7) t7
  | false =>
    obtain ⟨rfl, h2⟩ := hb2 rfl
    dsimp only
    rw [if_neg (by decide)]
    dsimp only [tNext]
    refine ⟨.ref a, rfl, a, dx, _, rfl, hN6.ob, rfl, rfl, a, dx, ph, pa, pb, f.rules.length, arcsL f ws, us, rfl, hN6, ok, by omega, h2 (by omega), fun v7 js H7 s7 t7 hj1 hj2 hj3 => ?_⟩
    have tr7 := (tr.s s16).s s7
    have hrl := rpl_len hf
    have hal : (arcsL f ws).length = (rpl f).length := by unfold arcsL; rw [List.length_map]
    have hlc : Dn (tLc (iList K (tC v7)) (gName 5) tYes (tOp (rIxL K) (tVar 4) (tVar 5)) [5]) ((((L2.start N_starts_or_ring [x, y]).set 3 (some (V.ref pa))).set 4 (some vr)).set 2 (some (.ref a))) H7 (.list (js.map fun j : Nat => dPr ((rpl f).getD j (0, 0)))) := by
      refine dn_lcm (fun j : Nat => PyData.int (j : Int)) js _ (src_lst fun H8 s8 Q8 q8 => q8 v7 H8 (Same.refl H8) (t7.s s8)) (by omega) (fun _ _ => flat_dPr _) fun j hj u H8 s8 tu => ⟨_, sto_name, rfl, ?_⟩
      refine dn_ixL (ds := (rpl f).map dPr) (dn_var (i := 4) rfl (tr7.s s8)) (dn_var (i := 5) rfl tu) ?_
      have hjl := hj3 j hj
      rw [hal] at hjl
      rw [atI_nat, List.getElem?_map, List.getD_eq_getElem?_getD, List.getElem?_eq_getElem hjl]
      rfl
    refine hlc.go (Q := fun v8 H8 => spS 1 fPlain ([v8] ++ []) H8 (fun x3 H1 => [V.str "ring", x3].length ≤ sizeLine ∧ ∀ p, H1 p = none → Q (.ref p) (upd H1 p (.tup [.str "ring", x3]))) E0) fun v8 H8 s8 t8 => ?_
    rw [show (js.map fun j : Nat => dPr ((rpl f).getD j (0, 0))) = (js.map fun j : Nat => (rpl f).getD j (0, 0)).map dPr by rw [List.map_map]; rfl] at t8
    refine ⟨rfl, _, _, .cons t8 .nil, ⟨_, rfl, by simpa using hj1, by rw [List.length_map]; omega, rfl⟩, fun v9 d9 H9 hd9 s9 t9 => ?_⟩
    obtain ⟨es, rfl⟩ := hd9
    refine ⟨by rw [sizeLine_eq]; show 2 ≤ _; omega, fun pt hpt => ?_⟩
    have s19 := ((s16.trans s7).trans s8).trans s9
    refine q _ _ _ (.inr ⟨h2 (by omega), es, rfl⟩) ((s1.trans s19).trans (Same.new hpt)) (.tup upd_same (.cons (.str _) (.cons (t9.s (Same.new hpt)) .nil)))
abbrev N_find_starts : List Str := ["flow", "weights"]
abbrev P_find_starts : List Str := ["flow", "weights"]
theorem sc_find_starts : FnScope N_find_starts P_find_starts (defScope s_find_starts) := ⟨rfl, rfl, rfl, by decide +kernel, rfl, by decide +kernel, by decide +kernel⟩
def fFind (ds : List Dt) (S : Dt → Prop) : Prop := ∃ (f : Flow) (ws : Vec), ds = [dFlow f, dV ws] ∧ FlowOk f ∧ (ws.length : Int) = f.dims ∧ ws.length ≤ 1000 ∧ (∀ x ∈ ws, -60 ≤ x ∧ x ≤ 60) ∧ S = fun d => stOK f ws d ∨ rgOK f ws d
theorem D_find_starts (T : Tx K mg) : DefP P w K mg base CX0 5 ("find_starts", none) P_find_starts (spS 2 fFind) := by
  refine mk_def T 41 d_find_starts rfl rfl rfl sc_find_starts (fun vs H Q E h => h.1) (fun _ _ _ _ _ _ us hl => match us, hl with | [_, _], _ => rfl) (fun cdv A outer s H vs Q E hr h => ?_)
  obtain ⟨_, ds, S, hd, ⟨f, ws, rfl, hf, hl, hwl, hb, rfl⟩, q⟩ := h
  obtain ⟨x, y, rfl, t1, t2⟩ := hd.two
  refine ⟨_, (pss_cons (ps_expr (pe_cd (D_require_weights T) (hr.mono (by decide)) T.g_require_weights pass0 (pa_cons (pv 0) (pa_cons (pv 1) pa_nil)))) (pss_one (ps_ret (pe_cd (D_starts_or_ring T) (hr.mono (by decide)) T.g_starts_or_ring pass0 (pa_cons (pv 0) (pa_cons (pv 1) pa_nil)))))), ?_⟩
  refine q_drop (dn_call (ds := [dFlow f, dV ws]) (da_cons (dn_var rfl t1) (da_cons (dn_var rfl t2) da_nil)) (by rfl) ⟨f, ws, rfl, hl, hwl, hb, rfl⟩) fun H1 s1 => ?_
  exact dns_call (ds := [dFlow f, dV ws]) (da_cons (dn_var rfl (t1.s s1)) (da_cons (dn_var rfl (t2.s s1)) da_nil)) (by rfl) ⟨f, ws, rfl, hf, fun x hx => by have := hb x hx; omega, hwl, rfl⟩ H1 (Same.refl H1) _ fun v d H2 hs s2 t2 => q v d H2 hs (s1.trans s2) t2
end K32
/-! M6 -/
set_option Elab.async false
set_option linter.all false
set_option maxRecDepth 100000
set_option maxHeartbeats 400000
namespace K32
open PySem PySem.Spec PyProof.Rows L2
local macro_rules | `(tactic| walk_at "dn") => `(tactic| first
  | with_reducible exact dn_int | with_reducible exact dn_str | with_reducible exact dn_bl | with_reducible exact dn_non | with_reducible exact da_nil | with_reducible exact do_none
  | ((with_reducible refine' dn_var ?h ?k); (case h => rfl); (case k => assumption))
  | ((with_reducible refine' da_cons ?_ ?_) <;> try walk_at "dn")
  | ((with_reducible refine' dn_add ?_ ?_) <;> try walk_at "dn")
  | ((with_reducible refine' dn_sub ?_ ?_) <;> try walk_at "dn")
  | ((with_reducible refine' dn_mul ?_ ?_ ?_) <;> try walk_at "dn")
  | ((with_reducible refine' dn_lt ?_ ?_) <;> try walk_at "dn")
  | ((with_reducible refine' dn_le ?_ ?_) <;> try walk_at "dn")
  | ((with_reducible refine' dn_gt ?_ ?_) <;> try walk_at "dn")
  | ((with_reducible refine' dn_ge ?_ ?_) <;> try walk_at "dn")
  | ((with_reducible refine' dn_neg ?_) <;> try walk_at "dn")
  | ((with_reducible refine' dn_chain ?_ ?_ ?_ rd_le rd_le) <;> try walk_at "dn")
  | ((with_reducible refine' dn_chain ?_ ?_ ?_ rd_le rd_lt) <;> try walk_at "dn")
  | ((with_reducible refine' dn_isI ?h ?k); (case h => walk_at "dn"); (case k => first | with_reducible exact kb_int_int | with_reducible exact kb_int_tuple | with_reducible exact kb_int_str | with_reducible exact kb_int_bool))
  | ((with_reducible refine' dn_isT ?h ?k); (case h => walk_at "dn"); (case k => first | with_reducible exact kb_tuple_int | with_reducible exact kb_tuple_tuple | with_reducible exact kb_tuple_str | with_reducible exact kb_tuple_bool))
  | ((with_reducible refine' dn_isS ?h ?k); (case h => walk_at "dn"); (case k => first | with_reducible exact kb_str_int | with_reducible exact kb_str_tuple | with_reducible exact kb_str_str | with_reducible exact kb_str_bool))
  | ((with_reducible refine' dn_isL ?h ?k); (case h => walk_at "dn"); (case k => first | with_reducible exact kb_list_int | with_reducible exact kb_list_tuple | with_reducible exact kb_list_str | with_reducible exact kb_list_bool))
  | ((with_reducible refine' dn_isB ?h ?k); (case h => walk_at "dn"); (case k => first | with_reducible exact kb_bool_int | with_reducible exact kb_bool_tuple | with_reducible exact kb_bool_str | with_reducible exact kb_bool_bool))
  | ((with_reducible refine' dn_ixT ?h ?t ?k); (case h => walk_at "dn"); (case t => walk_at "dn"); try (case k => rfl))
  | ((with_reducible refine' dn_ixL ?h ?t ?k); (case h => walk_at "dn"); (case t => walk_at "dn"); try (case k => rfl))
  | ((with_reducible refine' dn_cb ?h ?k); (case h => walk_at "dn"); try (case k => first | exact rd_lenT | exact rd_lenL | exact rd_tupL | exact rd_lstT | exact rd_lstL | exact rc_all | exact rc_sum | exact rc_max2 | exact rc_min2))
  | ((with_reducible refine' dn_call ?h ?t ?k); (case h => walk_at "dn"); (case t => rfl))
  | ((with_reducible refine' dt_test ?_) <;> try walk_at "dn")
  | ((with_reducible refine' dt_B ?_) <;> try walk_at "dn")
  | ((with_reducible refine' dn_eqI ?h ?k); (case h => walk_at "dn"); (case k => walk_at "dn"))
  | ((with_reducible refine' dn_neI ?h ?k); (case h => walk_at "dn"); (case k => walk_at "dn"))
  | ((with_reducible refine' dn_eqS ?h ?k); (case h => walk_at "dn"); (case k => walk_at "dn"))
  | ((with_reducible refine' dn_neS ?h ?k); (case h => walk_at "dn"); (case k => walk_at "dn"))
  | ((with_reducible refine' dt_or ?_ (fun _ => ?_)) <;> try walk_at "dn")
  | ((with_reducible refine' dt_and ?_ (fun _ => ?_)) <;> try walk_at "dn")
  | ((with_reducible refine' dn_orV ?_ (fun _ => ?_)) <;> try walk_at "dn")
  | ((with_reducible refine' dn_andV ?_ (fun _ => ?_)) <;> try walk_at "dn")
  | ((with_reducible refine' dt_not ?_) <;> try walk_at "dn")
  | ((with_reducible refine' dn_notV ?_) <;> try walk_at "dn")
  | ((with_reducible refine' da_star ?_ ?_) <;> try walk_at "dn")
  | ((with_reducible refine' dn_tup ?_ ?_) <;> try walk_at "dn")
  | ((with_reducible refine' dn_lst ?_ ?_) <;> try walk_at "dn")
  | ((with_reducible refine' do_some ?_) <;> try walk_at "dn"))
variable {P : Program} {w : World} {K : PySem.W.Frag} {mg : Str → Option Value} {base : Heap}
/-! ### flows with delays that are served: beats rise along reads -/
def Dlv (f : Flow) (ws ss : Vec) : Prop := ∀ (i : Nat) (r : Str × List Wd) (q : Wd), f.rules[i]? = some r → q ∈ r.2 → 1 ≤ dotp ws q.2 + ss.getD i 0 - ss.getD q.1.toNat 0
theorem dotp_nil (v : Vec) : dotp [] v = 0 := rfl
theorem dotp_nil2 (v : Vec) : dotp v [] = 0 := by unfold dotp; simp
theorem dotp_diff : ∀ (ws a c : Vec), a.length = c.length → dotp ws (diff a c) = dotp ws a - dotp ws c
  | [], a, c, _ => by simp [dotp_nil]
  | x :: ws, [], [], _ => by simp [diff, dotp_nil2]
  | x :: ws, a :: as, c :: cs, h => by
    have ih := dotp_diff ws as cs (by simpa using h)
    show dotp (x :: ws) ((a - c) :: diff as cs) = _
    rw [dotp_cons, dotp_cons, dotp_cons, ih, Int.mul_sub]
    omega
  | x :: ws, [], c :: cs, h => by simp at h
  | x :: ws, a :: as, [], h => by simp at h
theorem beat_up {f : Flow} {ws ss b : Vec} (hf : FlowOk f) (hd : f.dims = (b.length : Int)) (dl : Dlv f ws ss) {w u : Wd} (hw : w ∈ wds f b) (hu : u ∈ rby f b w) : beat ws ss u + 1 ≤ beat ws ss w := by
  obtain ⟨i, j, rule, q, h1, h2, h3, h4, rfl⟩ := mem_rby.mp hu
  have hq := List.mem_of_getElem? h2
  have h5 := dl i rule q h1 hq
  have h6 := (mem_pts.mp (mem_wds.mp hw).2).1
  have h7 := (hf.dst rule (List.mem_of_getElem? h1) q hq).1
  unfold beat
  rw [dotp_diff ws w.2 q.2 (by omega)]
  have e : w.1.toNat = i := by omega
  rw [e]
  dsimp only
  omega
section
variable {ks : List Wd} {lk : Lk} {β : Wd → Int}
theorem ex_min : ∀ {l : List Wd}, l ≠ [] → ∃ m ∈ l, ∀ y ∈ l, β m ≤ β y
  | [], h => absurd rfl h
  | [a], _ => ⟨a, List.mem_singleton.mpr rfl, fun y hy => by rw [List.mem_singleton.mp hy]; exact Int.le_refl _⟩
  | a :: c :: l, _ => by
    obtain ⟨m, hm, h⟩ := ex_min (l := c :: l) (by simp)
    by_cases h1 : β a ≤ β m
    · refine ⟨a, List.mem_cons_self .., fun y hy => ?_⟩
      rcases List.mem_cons.mp hy with rfl | hy
      · exact Int.le_refl _
      · exact Int.le_trans h1 (h y hy)
    · refine ⟨m, List.mem_cons_of_mem _ hm, fun y hy => ?_⟩
      rcases List.mem_cons.mp hy with rfl | hy
      · omega
      · exact h y hy
theorem no_left (hc : ∀ w ∈ ks, ∀ u ∈ lk w, u ∈ ks) (h : ∀ w ∈ ks, ∀ u ∈ lk w, β u + 1 ≤ β w) : left0 ks lk = [] := by
  refine Classical.byContradiction fun hne => ?_
  obtain ⟨m, hm, hmin⟩ := ex_min (β := β) hne
  obtain ⟨h1, h2⟩ := List.mem_filter.mp hm
  have h2 : m ∉ rkL ks lk := by unfold unr at h2; simpa using h2
  obtain ⟨u, hu, h3⟩ := (rk_good ks lk).left m h1 h2
  have h4 := hmin u (List.mem_filter.mpr ⟨hc m h1 u hu, by unfold unr; simpa using h3⟩)
  have h5 := h m h1 u hu
  omega
theorem rank_le {lo : Int} (h0 : left0 ks lk = []) (hc : ∀ w ∈ ks, ∀ u ∈ lk w, u ∈ ks) (h : ∀ w ∈ ks, ∀ u ∈ lk w, β u + 1 ≤ β w) (hlo : ∀ w ∈ ks, lo ≤ β w) : ∀ (n : Nat) (w : Wd), w ∈ ks → rkV ks lk w ≤ n → rkV ks lk w ≤ β w - lo
  | 0, w, hw, hn => by have := hlo w hw; omega
  | n + 1, w, hw, hn => by
    have hr := all_ranked h0 w hw
    rcases (rk_good ks lk).at_ w hr with ⟨_, h1⟩ | ⟨u, hu, h1⟩
    · have := hlo w hw; omega
    · have h2 := rank_le h0 hc h hlo n u (hc w hw u hu) (by omega)
      have h3 := h w hw u hu
      omega
theorem rank_le' {lo : Int} (hc : ∀ w ∈ ks, ∀ u ∈ lk w, u ∈ ks) (h : ∀ w ∈ ks, ∀ u ∈ lk w, β u + 1 ≤ β w) (hlo : ∀ w ∈ ks, lo ≤ β w) {w : Wd} (hw : w ∈ ks) : rkV ks lk w ≤ β w - lo :=
  rank_le (no_left hc h) hc h hlo (rkV ks lk w).toNat w hw (by have := rkV_pos ks lk w; omega)
theorem most_span {lo hi : Int} (hne : ks ≠ []) (hc : ∀ w ∈ ks, ∀ u ∈ lk w, u ∈ ks) (h : ∀ w ∈ ks, ∀ u ∈ lk w, β u + 1 ≤ β w) (hlo : ∀ w ∈ ks, lo ≤ β w) (hhi : ∀ w ∈ ks, β w ≤ hi) : most ks lk ≤ hi - lo := by
  obtain ⟨k, hk, e⟩ := most_mem (lk := lk) hne
  have := rank_le' hc h hlo hk
  have := hhi k hk
  omega
theorem chain_up (hne : ks ≠ []) (hc : ∀ w ∈ ks, ∀ u ∈ lk w, u ∈ ks) (h : ∀ w ∈ ks, ∀ u ∈ lk w, β u + 1 ≤ β w) : ((chainL ks lk).map β).Pairwise (· < ·) := by
  have h0 := no_left hc h
  have hl := chain_len (ks := ks) (lk := lk)
  have key : ∀ (d i : Nat) (x y : Int), ((chainL ks lk).map β)[i]? = some x → ((chainL ks lk).map β)[i + (d + 1)]? = some y → x < y := by
    intro d
    induction d with
    | zero =>
      intro i x y hx hy
      rw [List.getElem?_map] at hx hy
      obtain ⟨a, ha, rfl⟩ := Option.map_eq_some_iff.mp hx
      obtain ⟨c, hc', rfl⟩ := Option.map_eq_some_iff.mp hy
      have hb := (List.getElem?_eq_some_iff.mp hc').1
      obtain ⟨z, hz, hzk, _, hn⟩ := chain_true hne h0 hc (i + 1) (by omega)
      rw [hc'] at hz; cases hz
      obtain ⟨y', hy', hm⟩ := hn i rfl
      rw [ha] at hy'; cases hy'
      have := h c hzk a hm
      omega
    | succ d ih =>
      intro i x y hx hy
      have hb := (List.getElem?_eq_some_iff.mp hy).1
      have hz := List.getElem?_eq_getElem (l := (chainL ks lk).map β) (i := i + (d + 1)) (by omega)
      have h1 := ih i x _ hx hz
      rw [List.getElem?_map] at hz hy
      obtain ⟨a, ha, e1⟩ := Option.map_eq_some_iff.mp hz
      obtain ⟨c, hc', rfl⟩ := Option.map_eq_some_iff.mp hy
      obtain ⟨z, hz', hzk, _, hn⟩ := chain_true hne h0 hc (i + (d + 1) + 1) (by rw [List.length_map] at hb; omega)
      rw [show i + (d + 1 + 1) = i + (d + 1) + 1 by omega, hz'] at hc'; cases hc'
      obtain ⟨y', hy', hm⟩ := hn (i + (d + 1)) rfl
      rw [ha] at hy'; cases hy'
      have := h c hzk a hm
      omega
  rw [List.pairwise_iff_getElem]
  intro i j hi hj hij
  have := key (j - i - 1) i _ _ (List.getElem?_eq_getElem hi) (by rw [show i + (j - i - 1 + 1) = j by omega]; exact List.getElem?_eq_getElem hj)
  exact this
end
theorem reach_ok : ∀ (ws b p : Vec), p.length = b.length → inside b p = true → reachLo ws b ≤ dotp ws p ∧ dotp ws p ≤ reachHi ws b
  | [], b, p, _, _ => by simp [reachLo, reachHi, endsV, dotp_nil]
  | x :: ws, [], [], _, _ => by simp [reachLo, reachHi, endsV, dotp_nil2]
  | x :: ws, s :: b, i :: p, h, hi => by
    rw [inside_cons] at hi
    simp only [Bool.and_eq_true, decide_eq_true_eq] at hi
    obtain ⟨⟨h0, h1⟩, h2⟩ := hi
    obtain ⟨h3, h4⟩ := reach_ok ws b p (by simpa using h) h2
    rw [dotp_cons]
    have e1 : reachLo (x :: ws) (s :: b) = loE (x * (s - 1)) + reachLo ws b := rfl
    have e2 : reachHi (x :: ws) (s :: b) = hiE (x * (s - 1)) + reachHi ws b := rfl
    rw [e1, e2]
    have h5 : loE (x * (s - 1)) ≤ x * i ∧ x * i ≤ hiE (x * (s - 1)) := by
      unfold loE hiE
      by_cases hx : 0 ≤ x
      · have a1 : 0 ≤ x * i := Int.mul_nonneg hx h0
        have a2 : x * i ≤ x * (s - 1) := Int.mul_le_mul_of_nonneg_left (by omega) hx
        split <;> split <;> omega
      · have a1 : x * i ≤ 0 := Int.mul_nonpos_of_nonpos_of_nonneg (by omega) h0
        have a2 : x * (s - 1) ≤ x * i := Int.mul_le_mul_of_nonpos_left (by omega) (by omega)
        split <;> split <;> omega
    omega
  | x :: ws, [], i :: p, h, _ => by simp at h
  | x :: ws, s :: b, [], h, _ => by simp at h
theorem beat_in {f : Flow} {ws ss b : Vec} (hsl : ss.length = f.rules.length) {w : Wd} (hw : w ∈ wds f b) : spanLo ws ss b ≤ beat ws ss w ∧ beat ws ss w ≤ spanHi ws ss b := by
  obtain ⟨⟨h1, h2⟩, h3⟩ := mem_wds.mp hw
  obtain ⟨h4, h5⟩ := mem_pts.mp h3
  obtain ⟨h6, h7⟩ := reach_ok ws b w.2 h4 h5
  have hlt : w.1.toNat < ss.length := by omega
  have hm : ss.getD w.1.toNat 0 ∈ ss := by
    rw [List.getD_eq_getElem?_getD, List.getElem?_eq_getElem hlt]
    exact List.getElem_mem hlt
  have hne : ss ≠ [] := fun e => by rw [e] at hm; simp at hm
  have h8 := (mnS_ok hne).2 _ hm
  have h9 := (mxS_ok hne).2 _ hm
  unfold spanLo spanHi beat
  omega
/-! the reads' arcs and the delays -/
theorem rpl_mem {f : Flow} {i j : Nat} {rule : Str × List Wd} {q : Wd} (h1 : f.rules[i]? = some rule) (h2 : rule.2[j]? = some q) : ((i : Int), (j : Int)) ∈ rpl f :=
  List.mem_flatMap.mpr ⟨(rule, i), List.mem_zipIdx_iff_getElem?.mpr h1, List.mem_map.mpr ⟨j, List.mem_range.mpr (List.getElem?_eq_some_iff.mp h2).1, rfl⟩⟩
theorem hL_get {n v : Nat} {s : Ns} (h : v < n) : (hL n s).getD v 0 = s.h v := by
  unfold hL
  rw [List.getD_eq_getElem?_getD, List.getElem?_map, List.getElem?_range h]; rfl
theorem dlv_still {f : Flow} {ws : Vec} (hf : FlowOk f) {k : Nat} (hk : 1 ≤ k) (hg : (stN (arcsL f ws) k).g = none) : Dlv f ws (hL f.rules.length (stN (arcsL f ws) k)) := by
  intro i r q h1 h2
  obtain ⟨j, hj⟩ := List.getElem?_of_mem h2
  obtain ⟨k', rfl⟩ : ∃ k', k = k' + 1 := ⟨k - 1, by omega⟩
  have h3 := still hg (arcAt f ws ((i : Int), (j : Int))) (List.mem_map.mpr ⟨_, rpl_mem h1 hj, rfl⟩)
  rw [arcAt_is h1 hj] at h3
  have hi := (List.getElem?_eq_some_iff.mp h1).1
  have hq := hf.src r (List.mem_of_getElem? h1) q h2
  rw [hL_get hi, hL_get (by omega)]
  unfold ab ae an at h3
  dsimp only at h3
  rw [Int.toNat_natCast] at h3
  omega
theorem served_rest {f : Flow} {ws ss : Vec} (hf : FlowOk f) (dl : Dlv f ws ss) (h0 : ∀ x ∈ ss, 0 ≤ x) : (stN (arcsL f ws) f.rules.length).g = none := by
  refine no_ring (π := fun v => ss.getD v 0) (fun v => ?_) (fun a ha => ?_) (fun a ha => ?_) hf.n1
  · rw [List.getD_eq_getElem?_getD]
    cases h : ss[v]? with
    | none => exact Int.le_refl _
    | some x => exact h0 x (List.mem_of_getElem? h)
  · obtain ⟨p, hp, rfl⟩ := List.mem_map.mp ha
    obtain ⟨i, j, rule, q, rfl, h1, h2⟩ := mem_rpl hp
    rw [arcAt_is h1 h2]
    have := dl i rule q h1 (List.mem_of_getElem? h2)
    unfold ab ae an
    dsimp only
    rw [Int.toNat_natCast]
    omega
  · have := (aok_arcs hf ws).r a ha
    unfold ab ae
    omega
end K32
/-! Sl -/
set_option Elab.async false
set_option linter.all false
/-! set(list of ints), by the way of the layer's tuple rule; sorted of it. -/
namespace K32
open PySem PySem.Spec PyProof PyProof.Rows L2
section
variable {P : Program} {w : World} {A : Around} {E : Value → Shared → Prop} {s : Shared}
def newSet (w : World) : Obj := { cls := .type "set", dict := none, data := .set #[] 0 (.fresh 0 0 (!w.params.followText "set-order")) }
set_option maxRecDepth 100000 in
set_option maxHeartbeats 3200000 in
theorem call_set_lstI {l : Addr} {items : Array Value} (ns : List Int) {Q : Value → Shared → Prop} (hh : A.handled = none) (hl : s.heap.IsList l items) (hit : IntsAre items.toList ns) (hb : ns.length + 1 < scanBound)
    (h : ∀ (h' : Heap) (tk c : Nat), SetR w h' s.heap.objs.size (fun j => decide (j ∈ ns)) c → c ≤ ns.length → (∀ b o, s.heap.get? b = some o → h'.get? b = some o) → Q (.ref s.heap.objs.size) { s with heap := h', toks := tk }) :
    wpAny (model P w) A (call (.type "set") [.ref l]) Q E s := by
  have hisz : items.size = ns.length := by
    have q := IntsAre.length hit
    rw [Array.length_toList] at q
    exact q
  obtain ⟨c, tl, hmro⟩ := F.called_set.mro
  have hmade := F.called_set.made
  have hsub := F.called_set.sub
  refine wpAny_call (codeAny_of_tree ?_)
  show wpAny _ _ (callAny (.type "set") _) _ _ _
  refine wpAny_pure ⟨Code.quiet_builtin _ (by decide +kernel), codeAny_builtin F.entry_type_call ?_⟩
  rw [Around.under_plain (weight_type_call_type "set" [.ref l] []) rfl]
  have h1 := F.called_set.notType
  have h2 := F.called_set.canCreate
  have hct := F.typeCall_set_1 (.ref l)
  repeat (any_goals (first | assumption | wp_step))
  refine codeAny_mono (code_set_led1 (.ref l) (E := E) (Q₁ := fun obj s₁ => obj = .ref s.heap.objs.size ∧ s₁ = { s with heap := s.heap.push (newSet w) }) ⟨rfl, rfl⟩) fun r s₁ hr => ?_
  cases r with
  | error e => exact hr
  | ok fl =>
    cases fl with
    | ret obj =>
      obtain ⟨rfl, rfl⟩ := hr
      have hS : (s.heap.push (newSet w)).get? s.heap.objs.size = some (newSet w) := Heap.get?_push_size _ rfl
      have hT : Shared.TypeIs { s with heap := s.heap.push (newSet w) } (.ref s.heap.objs.size) "set" := ⟨_, hS, rfl⟩
      have hli := F.called_set.init.lookup
      have hbi := F.called_set.init.bind (.ref s.heap.objs.size)
      repeat (any_goals (first | assumption | wp_step))
      refine codeAny_mono (codeAny_call_builtin (R := wants (fun r s₂ => r = .none ∧ ∃ h' tk c, s₂ = { s with heap := h', toks := tk } ∧ SetR w h' s.heap.objs.size (fun j => decide (j ∈ ns)) c ∧ c ≤ ns.length ∧
          (∀ b o, s.heap.get? b = some o → h'.get? b = some o)) E) F.called_set.init.plain F.entry_set_init (check_set_init_1 hT ?_)) fun r₂ s₂ hr₂ => ?_
      · obtain ⟨ol, hol, hcl, nl, hdl⟩ := hl
        obtain ⟨ocls, odict, odata, oslots⟩ := ol
        simp only at hcl hdl
        subst hcl; subst hdl
        have hol' : (s.heap.push (newSet w)).get? l = some { cls := .type "list", dict := odict, data := .seq items nl, slots := oslots } := Heap.get?_push_of_some _ hol
        have hsls := F.sub_list_set
        have hslf := F.sub_list_frozenset
        have hne : (Value.type "list" == Value.type "dict") = false := by decide
        have hl1 : (s.heap.push (newSet w)).IsList l items := ⟨_, hol', rfl, nl, rfl⟩
        unfold Builtin.«set.__init__» noKeywords Builtin.Frozenset.updateFrom
        generalize hPI : pyIter = PI
        wp_walk
        subst hPI
        refine wpAny_pyIter_list hl1 ?_
        refine wpAny_bind (wpAny_runValue ?_)
        have hlS : l < s.heap.objs.size := Heap.lt_size hol
        have hh3 : A.in1.in1.in1.handled = none := by simp [hh]
        have hneI : l ≠ (s.heap.push (newSet w)).objs.size := by
          rw [Heap.size_push]; exact Nat.ne_of_lt (Nat.lt_succ_of_lt hlS)
        have hSf : s.heap.objs.size ∉ [(s.heap.push (newSet w)).objs.size, l] := by
          rw [Heap.size_push]; simp only [List.mem_cons, List.mem_singleton, List.not_mem_nil, or_false, not_or]
          exact ⟨Nat.ne_of_lt (Nat.lt_succ_self _), Nat.ne_of_gt hlS⟩
        have hval : ∀ (i : Nat) (v : Value), items[i]? = some v → ∃ k t, ns[i]? = some k ∧ v = .int k t := fun i v hv => by
          have hi : i < ns.length := by rw [← hisz]; exact (Array.getElem?_eq_some_iff.mp hv).1
          obtain ⟨t, e⟩ := IntsAre.int_at hit i v (by rw [Array.getElem?_toList]; exact hv)
          refine ⟨ns[i], t, List.getElem?_eq_getElem hi, ?_⟩
          rw [e, List.getD_eq_getElem?_getD, List.getElem?_eq_getElem hi] <;> rfl
        refine set_update_ints ((Walks.list hh3 _ l hneI items).toS) s.heap.objs.size
          hSf ns hisz hb hval (items.size - 0) 0 _ (by omega) (Nat.zero_le _)
          ⟨⟨_, Heap.get?_push_size _ rfl, rfl, rfl⟩, (hl1.push _)⟩ ?hS0 ?hR
        case hS0 => exact ⟨0, Nat.le_refl 0, setR_new_at (Heap.get?_push_of_some _ hS)⟩
        case hR =>
          intro s' c' hm hc' hS'
          obtain ⟨h', g2, d', tk', os'⟩ := s'
          have eg : g2 = s.gens := hm.gens
          have ed : d' = s.drawn := hm.drawn
          have eo : os' = s.os := hm.os
          subst eg; subst ed; subst eo
          show wpAny _ _ _ _ _ _
          refine wpAny_pure ?_
          show wpAny _ _ (ret Value.none) _ _ _
          rw [hisz] at hc'
          refine wpAny_pure ⟨rfl, h', tk', c', rfl, hS', hc', fun b o e => ?_⟩
          have hb0 : b < s.heap.objs.size := Heap.lt_size e
          have hb1 : b ≠ s.heap.objs.size := Nat.ne_of_lt hb0
          have hb2 : b ≠ (s.heap.push (newSet w)).objs.size := by
            rw [Heap.size_push]; exact Nat.ne_of_lt (Nat.lt_succ_of_lt hb0)
          exact hm.heap b o (by simp only [List.mem_cons, List.mem_singleton, List.not_mem_nil, or_false, not_or]; exact ⟨hb1, hb2⟩) (Heap.get?_push_of_some _ (Heap.get?_push_of_some _ e))
      · cases r₂ with
        | error e => exact hr₂
        | ok fl₂ =>
          cases fl₂ with
          | ret r =>
            obtain ⟨rfl, h', tk, c', rfl, hS', hc', hk'⟩ := hr₂
            repeat (any_goals (first | assumption | wp_step))
            exact h _ _ _ hS' hc' hk'
          | _ => exact hr₂.elim
    | _ => exact hr.elim
end
section
variable {X : Cx}
/-- set(a list of ints) -/
def rSetL1 (K : PySem.W.Frag) (w : World) : List V → Hp → VK → Prop := fun xs H Q => ∃ (l : Addr) (ns : List Int), xs = [V.ref l] ∧ SqL K H l (ns.map V.int) ∧ ns.length ≤ 1000 ∧
  ∀ p c, H p = none → c ≤ ns.length → Q (.ref p) (upd H p (SetO w p (fun j => decide (j ∈ ns)) c))
theorem cr_setL1 (K : PySem.W.Frag) (w : World) (hc : X.calm = true := by rfl) (hK : X.K = K := by rfl) (hw : X.w = w := by rfl) : CallR X (.type "set") (rSetL1 K w) := by
  subst hK hw
  intro pins s σ H xs us Q I r h
  obtain ⟨l, ns, rfl, hq, hl, q⟩ := h
  rw [Vals.ref1 r]
  obtain ⟨its, rv, pl, hz⟩ := I.list hq
  have hlen : its.length = ns.length := by rw [← rv.length, List.length_map]
  refine call_set_lstI ns (I.ok.hd hc) pl.isList (by simpa using RZ.intsAre_vals rv) (by unfold scanBound; omega) fun h' tk c hS hc' hk => ?_
  exact ⟨.ref _, upd H s.heap.objs.size (SetO X.w s.heap.objs.size (fun j => decide (j ∈ ns)) c), I.laid (t' := tk) hk (Nat.le_refl _) (setO_new hS), rfl, q _ _ (I.hok.fresh (Nat.le_refl _)) hc'⟩
end
end K32
/-! R26 -/
set_option Elab.async false
set_option linter.all false
set_option maxRecDepth 100000
set_option maxHeartbeats 400000
namespace K32
open PySem PySem.Spec PyProof.Rows L2
local macro_rules | `(tactic| walk_at "dn") => `(tactic| first
  | with_reducible exact dn_int | with_reducible exact dn_str | with_reducible exact dn_bl | with_reducible exact dn_non | with_reducible exact da_nil | with_reducible exact do_none
  | ((with_reducible refine' dn_var ?h ?k); (case h => rfl); (case k => assumption))
  | ((with_reducible refine' da_cons ?_ ?_) <;> try walk_at "dn")
  | ((with_reducible refine' dn_add ?_ ?_) <;> try walk_at "dn")
  | ((with_reducible refine' dn_sub ?_ ?_) <;> try walk_at "dn")
  | ((with_reducible refine' dn_mul ?_ ?_ ?_) <;> try walk_at "dn")
  | ((with_reducible refine' dn_lt ?_ ?_) <;> try walk_at "dn")
  | ((with_reducible refine' dn_le ?_ ?_) <;> try walk_at "dn")
  | ((with_reducible refine' dn_gt ?_ ?_) <;> try walk_at "dn")
  | ((with_reducible refine' dn_ge ?_ ?_) <;> try walk_at "dn")
  | ((with_reducible refine' dn_neg ?_) <;> try walk_at "dn")
  | ((with_reducible refine' dn_chain ?_ ?_ ?_ rd_le rd_le) <;> try walk_at "dn")
  | ((with_reducible refine' dn_chain ?_ ?_ ?_ rd_le rd_lt) <;> try walk_at "dn")
  | ((with_reducible refine' dn_isI ?h ?k); (case h => walk_at "dn"); (case k => first | with_reducible exact kb_int_int | with_reducible exact kb_int_tuple | with_reducible exact kb_int_str | with_reducible exact kb_int_bool))
  | ((with_reducible refine' dn_isT ?h ?k); (case h => walk_at "dn"); (case k => first | with_reducible exact kb_tuple_int | with_reducible exact kb_tuple_tuple | with_reducible exact kb_tuple_str | with_reducible exact kb_tuple_bool))
  | ((with_reducible refine' dn_isS ?h ?k); (case h => walk_at "dn"); (case k => first | with_reducible exact kb_str_int | with_reducible exact kb_str_tuple | with_reducible exact kb_str_str | with_reducible exact kb_str_bool))
  | ((with_reducible refine' dn_isL ?h ?k); (case h => walk_at "dn"); (case k => first | with_reducible exact kb_list_int | with_reducible exact kb_list_tuple | with_reducible exact kb_list_str | with_reducible exact kb_list_bool))
  | ((with_reducible refine' dn_isB ?h ?k); (case h => walk_at "dn"); (case k => first | with_reducible exact kb_bool_int | with_reducible exact kb_bool_tuple | with_reducible exact kb_bool_str | with_reducible exact kb_bool_bool))
  | ((with_reducible refine' dn_ixT ?h ?t ?k); (case h => walk_at "dn"); (case t => walk_at "dn"); try (case k => rfl))
  | ((with_reducible refine' dn_ixL ?h ?t ?k); (case h => walk_at "dn"); (case t => walk_at "dn"); try (case k => rfl))
  | ((with_reducible refine' dn_cb ?h ?k); (case h => walk_at "dn"); try (case k => first | exact rd_lenT | exact rd_lenL | exact rd_tupL | exact rd_lstT | exact rd_lstL | exact rc_all | exact rc_sum | exact rc_max2 | exact rc_min2))
  | ((with_reducible refine' dn_call ?h ?t ?k); (case h => walk_at "dn"); (case t => rfl))
  | ((with_reducible refine' dt_test ?_) <;> try walk_at "dn")
  | ((with_reducible refine' dt_B ?_) <;> try walk_at "dn")
  | ((with_reducible refine' dn_eqI ?h ?k); (case h => walk_at "dn"); (case k => walk_at "dn"))
  | ((with_reducible refine' dn_neI ?h ?k); (case h => walk_at "dn"); (case k => walk_at "dn"))
  | ((with_reducible refine' dn_eqS ?h ?k); (case h => walk_at "dn"); (case k => walk_at "dn"))
  | ((with_reducible refine' dn_neS ?h ?k); (case h => walk_at "dn"); (case k => walk_at "dn"))
  | ((with_reducible refine' dt_or ?_ (fun _ => ?_)) <;> try walk_at "dn")
  | ((with_reducible refine' dt_and ?_ (fun _ => ?_)) <;> try walk_at "dn")
  | ((with_reducible refine' dn_orV ?_ (fun _ => ?_)) <;> try walk_at "dn")
  | ((with_reducible refine' dn_andV ?_ (fun _ => ?_)) <;> try walk_at "dn")
  | ((with_reducible refine' dt_not ?_) <;> try walk_at "dn")
  | ((with_reducible refine' dn_notV ?_) <;> try walk_at "dn")
  | ((with_reducible refine' da_star ?_ ?_) <;> try walk_at "dn")
  | ((with_reducible refine' dn_tup ?_ ?_) <;> try walk_at "dn")
  | ((with_reducible refine' dn_lst ?_ ?_) <;> try walk_at "dn")
  | ((with_reducible refine' do_some ?_) <;> try walk_at "dn"))
variable {P : Program} {w : World} {K : PySem.W.Frag} {mg : Str → Option Value} {base : Heap}
/-! ### _law_served_right -/
theorem kcr_sortedSet {X : Cx} (w : World) (hc : X.calm = true := by rfl) (hw : X.w = w := by rfl) : CallR X (.builtin "sorted") (rSortedSet w) := by subst hw; exact cr_sortedSet hc
theorem lt_ext : ∀ {l m : List Int}, l.Pairwise (· < ·) → m.Pairwise (· < ·) → (∀ k, k ∈ l ↔ k ∈ m) → l = m
  | [], [], _, _, _ => rfl
  | [], b :: m, _, _, h => absurd ((h b).mpr (List.mem_cons_self ..)) (by simp)
  | a :: l, [], _, _, h => absurd ((h a).mp (List.mem_cons_self ..)) (by simp)
  | a :: l, b :: m, p1, p2, h => by
    obtain ⟨h1, h2⟩ := List.pairwise_cons.mp p1
    obtain ⟨h3, h4⟩ := List.pairwise_cons.mp p2
    have e : a = b := by
      rcases List.mem_cons.mp ((h a).mp (List.mem_cons_self ..)) with e | e
      · exact e
      · rcases List.mem_cons.mp ((h b).mpr (List.mem_cons_self ..)) with e2 | e2
        · exact e2.symm
        · have := h3 a e; have := h1 b e2; omega
    subst e
    have e2 : l = m := lt_ext h2 h4 fun k => by
      constructor
      · intro hk
        rcases List.mem_cons.mp ((h k).mp (List.mem_cons_of_mem _ hk)) with rfl | e
        · have := h1 k hk; omega
        · exact e
      · intro hk
        rcases List.mem_cons.mp ((h k).mpr (List.mem_cons_of_mem _ hk)) with rfl | e
        · have := h3 k hk; omega
        · exact e
    rw [e2]
theorem eqvs_ints : ∀ l : List Int, PyData.eqvAll (l.map .int) (l.map .int) = true
  | [] => by simp [PyData.eqvAll]
  | a :: l => by simp [PyData.eqvAll, PyData.eqv, eqvs_ints l]
theorem eqvl_ints (l : List Int) : PyData.eqv (.list (l.map .int)) (.list (l.map .int)) = true := by
  simp only [PyData.eqv]
  exact eqvs_ints l
theorem dn_sortset {σ : L2.St} {H : Hp} {te : TE} {ns : List Int} (h : Dn te σ H (.list (ns.map .int))) (hl : ns.length < 64) (hp : ns.Pairwise (· < ·)) :
    Dn (tCB (rSortedSet w) (tCons (tCB (rSetL1 K w) (tCons te tNil)) tNil)) σ H (.list (ns.map .int)) := fun H1 s1 Q q => by
  refine h H1 s1 _ fun v H2 s2 t2 => ?_
  obtain ⟨l, xs, rfl, e1, e2⟩ := t2.l
  have ex : xs = ns.map V.int := by
    clear e1 h q t2
    induction ns generalizing xs with
    | nil => cases e2; rfl
    | cons a ns ih =>
      cases e2 with
      | cons h1 h2 => rw [h1.i, ih (by simp at hl; omega) (List.pairwise_cons.mp hp).2 _ h2]; rfl
  subst ex
  refine ⟨l, ns, rfl, SqL.of e1, by omega, fun p c hpn hc => ⟨p, _, c, rfl, upd_same, by omega, fun ns' p' hp' hm' hl' hpn' => ?_⟩⟩
  have e : ns' = ns := lt_ext hp' hp fun k => by rw [hm' k]; simp
  subst e
  have s3 := Same.new (o := SetO w p (fun j => decide (j ∈ ns')) c) hpn
  exact q _ _ ((s2.trans s3).trans (Same.new hpn')) (TD.ofInts upd_same)
theorem q_par3 {i j l : Nat} {ta tb tc : TE} {tz : TS} {D : Ends} {σ : L2.St} {H : Hp} {d e z : Dt} (h1 : Dn ta σ H d) (h2 : Dn tb σ H e) (h3 : Dn tc σ H z) (k : ∀ v u y H2, Same H H2 → TD H2 v d → TD H2 u e → TD H2 y z → tz D (((σ.set i (some v)).set j (some u)).set l (some y)) H2) : tSeq (tPar3 i j l (tCons ta (tCons tb (tCons tc tNil)))) tz D σ H :=
  h1.go fun v H1 s1 t1 => h2 H1 s1 _ fun u H2 s2 t2 => h3 H2 (s1.trans s2) _ fun y H3 s3 t3 => ⟨v, u, y, rfl, k v u y H3 ((s1.trans s2).trans s3) ((t1.s s2).s s3) (t2.s s3) t3⟩
abbrev N_law_served_right : List Str := ["_law_flow", "_law_timing", "_law_sizes", "_law_plane", "_law_chain", "_law_beats", "_law_ranks", "_law_points", "_law_span", "_law_k", "_law_point"]
abbrev P_law_served_right : List Str := ["_law_flow", "_law_timing", "_law_sizes"]
theorem sc_law_served_right : FnScope N_law_served_right P_law_served_right (defScope s_law_served_right) := ⟨rfl, rfl, rfl, by decide +kernel, rfl, by decide +kernel, by decide +kernel⟩
def fServedRight (ds : List Dt) (r : Dt) : Prop := ∃ (f : Flow) (ws ss b : Vec), ds = [dFlow f, dTm ws ss, dV b] ∧ FB f b ∧ Dlv f ws ss ∧ ss.length = f.rules.length ∧ small ws ∧ ws.length ≤ 1000 ∧ spanHi ws ss b - spanLo ws ss b < 63 ∧ r = .bool true
theorem D_law_served_right (T : Tx K mg) : DefP P w K mg base CX0 9 ("_law_served_right", none) P_law_served_right (Pu 3 fServedRight) := by
  refine mk_def T 58 d_law_served_right rfl rfl rfl sc_law_served_right (fun vs H Q E h => h.1) (fun _ _ _ _ _ _ us hl => match us, hl with | [_, _, _], _ => rfl) (fun cdv A outer s H vs Q E hr h => ?_)
  obtain ⟨_, ds, r, hd, ⟨f, ws, ss, b, rfl, hfb, dl, hsl, hs, hwl, hsp, rfl⟩, q⟩ := h
  obtain ⟨x, y, z, rfl, t1, t2, t3⟩ := hd.three
  have lok := lkOk hfb.1 hfb.2.1 hfb.2.2
  have hup : ∀ w ∈ wds f b, ∀ u ∈ rby f b w, beat ws ss u + 1 ≤ beat ws ss w := fun w hw u hu => beat_up hfb.1 hfb.2.2 dl hw hu
  have hlf : LF f b = [] := no_left lok.cl hup
  have hlo := fun w (hw : w ∈ wds f b) => (beat_in (ws := ws) (b := b) hsl hw).1
  have hhi := fun w (hw : w ∈ wds f b) => (beat_in (ws := ws) (b := b) hsl hw).2
  have hms := most_span lok.ne lok.cl hup hlo hhi
  have hcl := chain_len (ks := wds f b) (lk := rby f b)
  have hn1 := hfb.1.n1
  have hn6 := hfb.1.n6
  have hssn : ss ≠ [] := fun e => by rw [e] at hsl; simp at hsl; omega
  have hfr : frD f b = .tuple [.str "ranks", .tuple ((List.range f.rules.length).map (rowD f b))] := by unfold frD; rw [if_pos hlf]
  refine ⟨_, (pss_cons (ps_par3 (i := 6) (j := 7) (l := 8) (by rfl) sc_law_served_right.nd rfl rfl rfl (by decide) (by decide) (by decide) rfl rfl rfl (pa_cons (pe_cd (D_find_ranks T) (hr.mono (by decide)) T.g_find_ranks pass0 (pa_cons (pv 0) (pa_cons (pv 2) pa_nil))) (pa_cons (pe_cd (D_law_grid T) (hr.mono (by decide)) T.g_law_grid pass0 (pa_cons (pv 2) pa_nil)) (pa_cons (pe_cdR (D_span_of T) (hr.mono (by decide)) T.g_span_of pass0 (pa_cons (pv 0) (pa_cons (pv 1) (pa_cons (pv 2) pa_nil)))) pa_nil))) (by kernel_rfl)) (pss_cons (ps_if (PW.pt (pw_or (pt_cmpR op_ne (pe_ix (kix_tup K) (pv 6) pe_int (fun _ _ => rfl)) pe_str (nomark _)) (pw_or1 (pt_cmpR op_lt (pe_ix (kix_tup K) (pv 8) pe_int (fun _ _ => rfl)) (pe_callB (kcall_len K) (by rfl) T.f_len boot_len (pa_cons (pe_cd (D_longest_chain T) (hr.mono (by decide)) T.g_longest_chain pass0 (pa_cons (pv 0) (pa_cons (pv 2) pa_nil))) pa_nil)) (nomark _))))) (pss_one (ps_ret pe_bl)) pss_nil) (pss_cons (ps_for PassesOwn.never rfl (pi_range1 rfl T.f_range (pa_cons (pe_callB (kcall_len K) (by rfl) T.f_len boot_len (pa_cons (pe_ix (kix_tup K) (pv 0) pe_int (fun _ _ => rfl)) pa_nil)) pa_nil)) (pg_name (i := 3) sc_law_served_right.nd rfl (by first | exact Or.inl rfl | exact Or.inr rfl)) (pss_one (ps_for PassesOwn.never rfl (pi_range1 rfl T.f_range (pa_cons (pe_callB (kcall_len K) (by rfl) T.f_len boot_len (pa_cons (pv 7) pa_nil)) pa_nil)) (pg_name (i := 9) sc_law_served_right.nd rfl (by first | exact Or.inl rfl | exact Or.inr rfl)) (pss_one (ps_if (pt_cmpR op_lt (pe_op op_sub (pe_cd (D_beat_of T) (hr.mono (by decide)) T.g_beat_of pass0 (pa_cons (pv 0) (pa_cons (pv 1) (pa_cons (pv 3) (pa_cons (pe_ix (kix_list K) (pv 7) (pv 9) (fun _ _ => rfl)) pa_nil))))) (pe_ix (kix_tup K) (pv 8) pe_int (fun _ _ => rfl))) (pe_ix (kix_tup K) (pe_ix (kix_tup K) (pe_ix (kix_tup K) (pv 6) pe_int (fun _ _ => rfl)) (pv 3) (fun _ _ => rfl)) (pv 9) (fun _ _ => rfl)) (nomark _)) (pss_one (ps_ret pe_bl)) pss_nil))))) (pss_cons (ps_set (i := 4) sc_law_served_right.nd rfl (by first | exact Or.inl rfl | exact Or.inr rfl) (pe_cd (D_longest_chain T) (hr.mono (by decide)) T.g_longest_chain pass0 (pa_cons (pv 0) (pa_cons (pv 2) pa_nil)))) (pss_cons (ps_setLc (i := 5) (own := [("_law_plane", 3), ("_law_point", 10)]) rfl sc_law_served_right.nd rfl rfl (sw_true rfl rfl rfl (by decide +kernel)) (kpi_tup K (pv 4)) (blkOk_by (N := N_law_served_right) (sc := defScope s_law_served_right) (by decide +kernel)) (fun _ _ _ _ _ => (kpg_tup K 2 (pgs_cons (pg_name (i := 3) sc_law_served_right.nd rfl (by first | exact Or.inl rfl | exact Or.inr rfl)) (pgs_cons (pg_name (i := 10) sc_law_served_right.nd rfl (by first | exact Or.inl rfl | exact Or.inr rfl)) pgs_nil)))) (fun _ _ _ _ _ => pts_nil) (fun _ _ _ _ _ => (pe_cd (D_beat_of T) (hr.mono (by decide)) T.g_beat_of pass0 (pa_cons (pv 0) (pa_cons (pv 1) (pa_cons (pv 3) (pa_cons (pv 10) pa_nil))))))) (pss_one (ps_ret (pe_cmpR (kop_eqD K hr.units) (pv 5) (pe_callB (kcr_sortedSet w) (by rfl) T.f_sorted (by decide +kernel) (pa_cons (pe_callTy (cr_setL1 K w) (by rfl) T.f_set (by decide +kernel) (pa_cons (pv 5) pa_nil)) pa_nil)) (nomark _))))))))), ?_⟩
  refine q_par3 (d := frD f b) (e := .list ((pts b).map dV)) (z := .tuple [.int (spanLo ws ss b), .int (spanHi ws ss b), .int (spanHi ws ss b - spanLo ws ss b + 1)]) (dn_call (by walk_at "dn") (by rfl) ⟨f, b, rfl, hfb, rfl⟩) (dn_call (by walk_at "dn") (by rfl) ⟨b, rfl, hfb.2.1, rfl⟩) (dn_call (by walk_at "dn") (by rfl) ⟨f, ws, ss, b, rfl, hs, hwl, hssn, by omega, rfl⟩) fun v6 v7 v8 H1 s1 t6 t7 t8 => ?_
  rw [hfr] at t6
  have t1 := t1.s s1
  have t2 := t2.s s1
  have t3 := t3.s s1
  refine q_ifno (DnT.is (b := (!decide (("ranks" : Str) = "ranks")) || decide (spanHi ws ss b - spanLo ws ss b + 1 < ((((chainL (wds f b) (rby f b)).map dW).length : Nat) : Int))) (dt_or (dt_test (dn_neS (dn_ixT (dn_var (i := 6) rfl t6) dn_int rfl) dn_str)) fun _ => dt_test (dn_lt (dn_ixT (dn_var (i := 8) rfl t8) dn_int rfl) (dn_cb (da_cons (dn_call (by walk_at "dn") (by rfl) ⟨f, b, rfl, hfb, hlf, rfl⟩) da_nil) (rd_lenT (K := K))))) (by rw [List.length_map]; simp; omega)) fun H2 s2 => ?_
  have t1 := t1.s s2
  have t2 := t2.s s2
  have t3 := t3.s s2
  have t6 := t6.s s2
  have t7 := t7.s s2
  have t8 := t8.s s2
  have hpl : (pts b).length ≤ 240 := by
    have h1 := pts_len hfb.2.1.pos b.length
    rw [List.take_length] at h1
    have := hfb.2.1.vol
    omega
  refine q_seq (s_forR (n := f.rules.length) (da_cons (Dn.is (dn_cb (da_cons (dn_ixT (ds := [.int f.dims, .tuple (f.rules.map dRule)]) (dn_var rfl t1) dn_int rfl) da_nil) (rd_lenT (K := K))) (by rw [List.length_map])) da_nil) (by omega) (fun i σ' H' => ∃ o3 o9, σ' = [some x, some y, some z, o3, none, none, some v6, some v7, some v8, o9, none] ∧ Same H2 H') ?_ ?_ ?_)
  · intro H3 s3
    exact ⟨none, none, rfl, s3⟩
  · rintro i σ' H3 hi ⟨o3, o9, rfl, s3⟩
    refine ⟨_, sto_name, ?_⟩
    refine s_forR (n := (pts b).length) (da_cons (Dn.is (dn_cb (da_cons (dn_var (i := 7) rfl (t7.s s3)) da_nil) (rd_lenL (K := K))) (by rw [List.length_map])) da_nil) (by omega) (fun k σ' H' => ∃ o9, σ' = [some x, some y, some z, some (.int (i : Int)), none, none, some v6, some v7, some v8, o9, none] ∧ Same H2 H') ?_ ?_ ?_
    · intro H4 s4
      exact ⟨o9, rfl, s3.trans s4⟩
    · rintro k σ' H4 hk ⟨o9', rfl, s4⟩
      refine ⟨_, sto_name, ?_⟩
      have hp : (pts b)[k]? = some (pts b)[k] := List.getElem?_eq_getElem hk
      have hw : ((i : Int), (pts b)[k]) ∈ wds f b := mem_wds.mpr ⟨⟨by show (0 : Int) ≤ (i : Int); omega, by show (i : Int) < _; omega⟩, List.getElem_mem hk⟩
      have hrk := rank_le' (lo := spanLo ws ss b) lok.cl hup hlo hw
      have hpln := (mem_pts.mp (List.getElem_mem hk)).1
      have hbl := hfb.2.1.len
      refine s_ifno (DnT.is (b := decide (beat ws ss ((i : Int), (pts b)[k]) - spanLo ws ss b < RV f b ((i : Int), (pts b)[k]))) (dt_test (dn_lt (dn_sub (dn_call (ds := [dFlow f, dTm ws ss, .int (i : Int), dV (pts b)[k]]) (da_cons (dn_var rfl (t1.s s4)) (da_cons (dn_var rfl (t2.s s4)) (da_cons (dn_var (i := 3) rfl (.int _)) (da_cons (dn_ixL (dn_var (i := 7) rfl (t7.s s4)) (dn_var (i := 9) rfl (.int _)) (by rw [atI_nat, List.getElem?_map, hp]; rfl)) da_nil)))) (by rfl) ⟨f, ws, ss, ((i : Int), (pts b)[k]), rfl, by show (0 : Int) ≤ (i : Int); omega, by show (i : Int) < _; omega, by show (((pts b)[k]).length : Int) = _; rw [hfb.2.2]; omega, by show ((pts b)[k]).length ≤ 1000; omega, hs, hwl, hsl, rfl⟩) (dn_ixT (dn_var (i := 8) rfl (t8.s s4)) dn_int rfl)) (dn_ixT (ds := (pts b).map fun p => .int (RV f b ((i : Int), p))) (dn_ixT (ds := (List.range f.rules.length).map (rowD f b)) (dn_ixT (dn_var (i := 6) rfl (t6.s s4)) dn_int rfl) (dn_var (i := 3) rfl (.int _)) (by rw [atI_nat, List.getElem?_map, List.getElem?_range hi]; rfl)) (dn_var (i := 9) rfl (.int _)) (by rw [atI_nat, List.getElem?_map, hp]; rfl)))) (by
        unfold RV
        simp only [decide_eq_false_iff_not]
        omega)) fun H5 s5 => ⟨_, rfl, s4.trans s5⟩
    · rintro σ' H4 ⟨o9', rfl, s4⟩
      exact ⟨_, _, rfl, s4⟩
  · rintro σ' H3 ⟨o3, o9, rfl, s3⟩
    have t1 := t1.s s3
    have t2 := t2.s s3
    have t3 := t3.s s3
    refine q_set (d := chainT f b) (dn_call (ds := [dFlow f, dV b]) (da_cons (dn_var rfl t1) (da_cons (dn_var rfl t3) da_nil)) (by rfl) ⟨f, b, rfl, hfb, hlf, rfl⟩) fun v4 H4 s4 t4 => ?_
    have t1 := t1.s s4
    have t2 := t2.s s4
    have hch : chainL (wds f b) (rby f b) ≠ [] := fun e => by rw [e] at hcl; have := most_pos (ks := wds f b) (lk := rby f b); simp at hcl; omega
    have hin : ∀ c ∈ chainL (wds f b) (rby f b), c ∈ wds f b := fun c hc => by
      obtain ⟨k, hk⟩ := List.getElem?_of_mem hc
      have hkl := (List.getElem?_eq_some_iff.mp hk).1
      obtain ⟨c', h1, h2, _⟩ := chain_true lok.ne hlf lok.cl k (by omega)
      rw [hk] at h1; cases h1
      exact h2
    refine q_set (d := .list (((chainL (wds f b) (rby f b)).map (beat ws ss)).map .int)) (Dn.is (d := .list ((chainL (wds f b) (rby f b)).map fun c => .int (beat ws ss c))) (dn_lcm dW (chainL (wds f b) (rby f b)) _ (src_tup (dn_var (i := 4) rfl t4)) (by omega) (fun _ _ => rfl) fun c hc u H5 s5 tu => ?_) (by rw [List.map_map]; rfl)) fun v5 H5 s5 t5 => ?_
    · obtain ⟨u1, u2, tu1, tu2, st⟩ := sto_two (K := K) (σ := wipe _ _) (i := 3) (j := 10) tu
      have hw := hin c hc
      obtain ⟨⟨hw1, hw2⟩, hw3⟩ := mem_wds.mp hw
      have hpln := (mem_pts.mp hw3).1
      have hbl := hfb.2.1.len
      exact ⟨_, st, rfl, dn_call (ds := [dFlow f, dTm ws ss, .int c.1, dV c.2]) (da_cons (dn_var rfl (t1.s s5)) (da_cons (dn_var rfl (t2.s s5)) (da_cons (dn_var (i := 3) rfl tu1) (da_cons (dn_var (i := 10) rfl tu2) da_nil)))) (by rfl) ⟨f, ws, ss, c, rfl, hw1, hw2, by rw [hfb.2.2]; omega, by omega, hs, hwl, hsl, rfl⟩⟩
    · have hlen : ((chainL (wds f b) (rby f b)).map (beat ws ss)).length < 64 := by rw [List.length_map]; omega
      have hpw := chain_up (ks := wds f b) (lk := rby f b) lok.ne lok.cl hup
      refine s_ret (Dn.is (dn_eqD (K := K) (dn_var (i := 5) rfl t5) (dn_sortset (dn_var (i := 5) rfl t5) hlen hpw) lst_ints lst_ints) (by rw [eqvl_ints])) fun v7 H7 s7 t7 => q v7 H7 (((((s1.trans s2).trans s3).trans s4).trans s5).trans s7) t7
end K32
/-! M7 -/
set_option Elab.async false
set_option linter.all false
set_option maxRecDepth 100000
set_option maxHeartbeats 400000
namespace K32
open PySem PySem.Spec PyProof.Rows L2
local macro_rules | `(tactic| walk_at "dn") => `(tactic| first
  | with_reducible exact dn_int | with_reducible exact dn_str | with_reducible exact dn_bl | with_reducible exact dn_non | with_reducible exact da_nil | with_reducible exact do_none
  | ((with_reducible refine' dn_var ?h ?k); (case h => rfl); (case k => assumption))
  | ((with_reducible refine' da_cons ?_ ?_) <;> try walk_at "dn")
  | ((with_reducible refine' dn_add ?_ ?_) <;> try walk_at "dn")
  | ((with_reducible refine' dn_sub ?_ ?_) <;> try walk_at "dn")
  | ((with_reducible refine' dn_mul ?_ ?_ ?_) <;> try walk_at "dn")
  | ((with_reducible refine' dn_lt ?_ ?_) <;> try walk_at "dn")
  | ((with_reducible refine' dn_le ?_ ?_) <;> try walk_at "dn")
  | ((with_reducible refine' dn_gt ?_ ?_) <;> try walk_at "dn")
  | ((with_reducible refine' dn_ge ?_ ?_) <;> try walk_at "dn")
  | ((with_reducible refine' dn_neg ?_) <;> try walk_at "dn")
  | ((with_reducible refine' dn_chain ?_ ?_ ?_ rd_le rd_le) <;> try walk_at "dn")
  | ((with_reducible refine' dn_chain ?_ ?_ ?_ rd_le rd_lt) <;> try walk_at "dn")
  | ((with_reducible refine' dn_isI ?h ?k); (case h => walk_at "dn"); (case k => first | with_reducible exact kb_int_int | with_reducible exact kb_int_tuple | with_reducible exact kb_int_str | with_reducible exact kb_int_bool))
  | ((with_reducible refine' dn_isT ?h ?k); (case h => walk_at "dn"); (case k => first | with_reducible exact kb_tuple_int | with_reducible exact kb_tuple_tuple | with_reducible exact kb_tuple_str | with_reducible exact kb_tuple_bool))
  | ((with_reducible refine' dn_isS ?h ?k); (case h => walk_at "dn"); (case k => first | with_reducible exact kb_str_int | with_reducible exact kb_str_tuple | with_reducible exact kb_str_str | with_reducible exact kb_str_bool))
  | ((with_reducible refine' dn_isL ?h ?k); (case h => walk_at "dn"); (case k => first | with_reducible exact kb_list_int | with_reducible exact kb_list_tuple | with_reducible exact kb_list_str | with_reducible exact kb_list_bool))
  | ((with_reducible refine' dn_isB ?h ?k); (case h => walk_at "dn"); (case k => first | with_reducible exact kb_bool_int | with_reducible exact kb_bool_tuple | with_reducible exact kb_bool_str | with_reducible exact kb_bool_bool))
  | ((with_reducible refine' dn_ixT ?h ?t ?k); (case h => walk_at "dn"); (case t => walk_at "dn"); try (case k => rfl))
  | ((with_reducible refine' dn_ixL ?h ?t ?k); (case h => walk_at "dn"); (case t => walk_at "dn"); try (case k => rfl))
  | ((with_reducible refine' dn_cb ?h ?k); (case h => walk_at "dn"); try (case k => first | exact rd_lenT | exact rd_lenL | exact rd_tupL | exact rd_lstT | exact rd_lstL | exact rc_all | exact rc_sum | exact rc_max2 | exact rc_min2))
  | ((with_reducible refine' dn_call ?h ?t ?k); (case h => walk_at "dn"); (case t => rfl))
  | ((with_reducible refine' dt_test ?_) <;> try walk_at "dn")
  | ((with_reducible refine' dt_B ?_) <;> try walk_at "dn")
  | ((with_reducible refine' dn_eqI ?h ?k); (case h => walk_at "dn"); (case k => walk_at "dn"))
  | ((with_reducible refine' dn_neI ?h ?k); (case h => walk_at "dn"); (case k => walk_at "dn"))
  | ((with_reducible refine' dn_eqS ?h ?k); (case h => walk_at "dn"); (case k => walk_at "dn"))
  | ((with_reducible refine' dn_neS ?h ?k); (case h => walk_at "dn"); (case k => walk_at "dn"))
  | ((with_reducible refine' dt_or ?_ (fun _ => ?_)) <;> try walk_at "dn")
  | ((with_reducible refine' dt_and ?_ (fun _ => ?_)) <;> try walk_at "dn")
  | ((with_reducible refine' dn_orV ?_ (fun _ => ?_)) <;> try walk_at "dn")
  | ((with_reducible refine' dn_andV ?_ (fun _ => ?_)) <;> try walk_at "dn")
  | ((with_reducible refine' dt_not ?_) <;> try walk_at "dn")
  | ((with_reducible refine' dn_notV ?_) <;> try walk_at "dn")
  | ((with_reducible refine' da_star ?_ ?_) <;> try walk_at "dn")
  | ((with_reducible refine' dn_tup ?_ ?_) <;> try walk_at "dn")
  | ((with_reducible refine' dn_lst ?_ ?_) <;> try walk_at "dn")
  | ((with_reducible refine' do_some ?_) <;> try walk_at "dn"))
variable {P : Program} {w : World} {K : PySem.W.Frag} {mg : Str → Option Value} {base : Heap}
/-! ### the long flow: six planes in a row, 240 points -/
def lgR (k : Nat) : Str × List Wd := ("neg", [((((k : Int) + 5) % 6), if k = 0 then [1, 0] else [0, 0])])
def lgF : Flow := ⟨2, (List.range 6).map lgR⟩
def lgB : Vec := [240, 1]
def lgV (w : Wd) : Int := 6 * w.2.getD 0 0 + w.1
theorem lg_rule {i : Nat} {rule : Str × List Wd} (h : lgF.rules[i]? = some rule) : i < 6 ∧ rule = lgR i := by
  obtain ⟨h1, h2⟩ := List.getElem?_eq_some_iff.mp h
  have h1 : i < 6 := by simpa [lgF] using h1
  refine ⟨h1, ?_⟩
  rw [← h2]
  simp [lgF]
theorem lg_at {i : Nat} (h : i < 6) : lgF.rules[i]? = some (lgR i) := by simp [lgF, h]
theorem lg_ok : FlowOk lgF := by
  have mem : ∀ r ∈ lgF.rules, ∃ k : Nat, k < 6 ∧ r = lgR k := fun r hr => by
    obtain ⟨k, hk, rfl⟩ := List.mem_map.mp hr
    exact ⟨k, List.mem_range.mp hk, rfl⟩
  refine ⟨by decide, by decide, fun r hr => ?_, fun r hr q hq => ?_, fun r hr q hq => ?_⟩
  · obtain ⟨k, hk, rfl⟩ := mem r hr
    exact ⟨Nat.le_refl _, by show 1 ≤ 3; omega⟩
  · obtain ⟨k, hk, rfl⟩ := mem r hr
    have e := List.mem_singleton.mp hq
    subst e
    have hl : lgF.rules.length = 6 := by decide
    rw [hl]
    dsimp only
    omega
  · obtain ⟨k, hk, rfl⟩ := mem r hr
    have e := List.mem_singleton.mp hq
    subst e
    dsimp only
    split
    · exact ⟨rfl, fun x hx => by simp at hx; omega⟩
    · exact ⟨rfl, fun x hx => by simp at hx; omega⟩
theorem lg_box : BoxOk lgB := ⟨by decide, by decide, by decide⟩
theorem lg_fb : FB lgF lgB := ⟨lg_ok, lg_box, rfl⟩
theorem lg_wd {w : Wd} : w ∈ wds lgF lgB ↔ ∃ (k i : Int), w = (k, [i, 0]) ∧ 0 ≤ k ∧ k < 6 ∧ 0 ≤ i ∧ i < 240 := by
  rw [mem_wds, mem_pts]
  constructor
  · rintro ⟨⟨h1, h2⟩, h3, h4⟩
    obtain ⟨k, p⟩ := w
    match p, h3, h4 with
    | [i, j], _, h4 =>
      simp [inside, lgB] at h4
      have : j = 0 := by omega
      subst this
      exact ⟨k, i, rfl, h1, by simpa [lgF] using h2, by omega, by omega⟩
  · rintro ⟨k, i, rfl, h1, h2, h3, h4⟩
    refine ⟨⟨h1, by simpa [lgF] using h2⟩, rfl, ?_⟩
    simp [inside, lgB]
    omega
theorem lg_up {w u : Wd} (hw : w ∈ wds lgF lgB) (hu : u ∈ rby lgF lgB w) : lgV w = lgV u + 1 := by
  obtain ⟨k, x, rfl, h1, h2, h3, h4⟩ := lg_wd.mp hw
  obtain ⟨i, j, rule, q, e1, e2, e3, e4, rfl⟩ := mem_rby.mp hu
  obtain ⟨hi, rfl⟩ := lg_rule e1
  have e := List.mem_singleton.mp (List.mem_of_getElem? e2)
  subst e
  have e3 : (i : Int) = k := e3
  by_cases h0 : i = 0
  · subst h0
    simp [lgV, diff]
    omega
  · simp [lgV, diff, h0]
    omega
theorem lg_ex {w : Wd} (hw : w ∈ wds lgF lgB) (h : lgV w ≠ 0) : ∃ u, u ∈ rby lgF lgB w := by
  obtain ⟨k, x, rfl, h1, h2, h3, h4⟩ := lg_wd.mp hw
  have hk : k.toNat < 6 := by omega
  refine ⟨_, mem_rby.mpr ⟨k.toNat, 0, _, _, lg_at hk, rfl, by show ((k.toNat : Nat) : Int) = k; omega, ?_, rfl⟩⟩
  have hv : 6 * x + k ≠ 0 := h
  by_cases h0 : k = 0
  · subst h0
    simp [inside, diff, lgB]
    omega
  · have h0' : ¬ k ≤ 0 := by omega
    simp [inside, diff, lgB, h0']
    omega
theorem lg_none {w : Wd} (hw : w ∈ wds lgF lgB) (h : lgV w = 0) : rby lgF lgB w = [] := by
  cases e : rby lgF lgB w with
  | nil => rfl
  | cons u l =>
    exfalso
    have hu : u ∈ rby lgF lgB w := by rw [e]; exact List.mem_cons_self ..
    have h1 := lg_up hw hu
    obtain ⟨k, x, rfl, h2, h3, h4, h5⟩ := lg_wd.mp (rby_closed lg_ok rfl w hw u hu)
    have : lgV (k, [x, 0]) = 6 * x + k := rfl
    omega
theorem lg_good : Good (wds lgF lgB) (rby lgF lgB) (wds lgF lgB) lgV where
  sub := fun _ h => h
  nd := wds_nodup _ _
  up := fun w hw u hu => ⟨rby_closed lg_ok rfl w hw u hu, by have := lg_up hw hu; omega⟩
  at_ := fun w hw => by
    by_cases h : lgV w = 0
    · exact .inl ⟨lg_none hw h, h⟩
    · obtain ⟨u, hu⟩ := lg_ex hw h
      exact .inr ⟨u, hu, lg_up hw hu⟩
  pos := fun w hw => by
    obtain ⟨k, x, rfl, h1, h2, h3, h4⟩ := lg_wd.mp hw
    show 0 ≤ 6 * x + k
    omega
  left := fun w h1 h2 => absurd h1 h2
theorem lg_left : LF lgF lgB = [] := by
  have h := (rk_is lg_good (rby_closed lg_ok rfl)).1
  refine List.filter_eq_nil_iff.mpr fun w hw => ?_
  unfold unr
  simp [(h w).mp hw]
def lgC : List Wd := (List.range 1440).map fun k : Nat => (((k : Int) % 6), [(k : Int) / 6, 0])
theorem lg_chain : chainL (wds lgF lgB) (rby lgF lgB) = lgC := by
  have hc := rby_closed (f := lgF) (b := lgB) lg_ok rfl
  have hrk := (rk_is lg_good hc).2
  have lok := lkOk lg_ok lg_box rfl
  have hm : most (wds lgF lgB) (rby lgF lgB) = 1439 := by
    obtain ⟨k, hk, e⟩ := most_mem (lk := rby lgF lgB) lok.ne
    have h1 := most_le (lk := rby lgF lgB) (5, [239, 0]) (lg_wd.mpr ⟨5, 239, rfl, by omega, by omega, by omega, by omega⟩)
    rw [← hrk _ (lg_wd.mpr ⟨5, 239, rfl, by omega, by omega, by omega, by omega⟩)] at h1
    rw [← hrk _ hk] at e
    obtain ⟨k', x, rfl, h2, h3, h4, h5⟩ := lg_wd.mp hk
    have e1 : lgV (5, [239, 0]) = 1439 := rfl
    have e2 : lgV (k', [x, 0]) = 6 * x + k' := rfl
    omega
  have hl := chain_len (ks := wds lgF lgB) (lk := rby lgF lgB)
  rw [hm] at hl
  apply List.ext_getElem?
  intro k
  unfold lgC
  rw [List.getElem?_map]
  by_cases hk : k < 1440
  · rw [List.getElem?_range hk]
    obtain ⟨x, h1, h2, h3, _⟩ := chain_true lok.ne lg_left hc k (by rw [hm]; omega)
    rw [h1]
    rw [← hrk x h2] at h3
    obtain ⟨p, i, rfl, h4, h5, h6, h7⟩ := lg_wd.mp h2
    have e2 : lgV (p, [i, 0]) = 6 * i + p := rfl
    have a1 : (k : Int) % 6 = p := by omega
    have a2 : (k : Int) / 6 = i := by omega
    simp [a1, a2]
  · rw [List.getElem?_eq_none (by omega)]
    have : (List.range 1440)[k]? = none := by simp; omega
    rw [this]; rfl
end K32
/-! R27 -/
set_option Elab.async false
set_option linter.all false
set_option maxRecDepth 100000
set_option maxHeartbeats 400000
namespace K32
open PySem PySem.Spec PyProof.Rows L2
local macro_rules | `(tactic| walk_at "dn") => `(tactic| first
  | with_reducible exact dn_int | with_reducible exact dn_str | with_reducible exact dn_bl | with_reducible exact dn_non | with_reducible exact da_nil | with_reducible exact do_none
  | ((with_reducible refine' dn_var ?h ?k); (case h => rfl); (case k => assumption))
  | ((with_reducible refine' da_cons ?_ ?_) <;> try walk_at "dn")
  | ((with_reducible refine' dn_add ?_ ?_) <;> try walk_at "dn")
  | ((with_reducible refine' dn_sub ?_ ?_) <;> try walk_at "dn")
  | ((with_reducible refine' dn_mul ?_ ?_ ?_) <;> try walk_at "dn")
  | ((with_reducible refine' dn_lt ?_ ?_) <;> try walk_at "dn")
  | ((with_reducible refine' dn_le ?_ ?_) <;> try walk_at "dn")
  | ((with_reducible refine' dn_gt ?_ ?_) <;> try walk_at "dn")
  | ((with_reducible refine' dn_ge ?_ ?_) <;> try walk_at "dn")
  | ((with_reducible refine' dn_neg ?_) <;> try walk_at "dn")
  | ((with_reducible refine' dn_chain ?_ ?_ ?_ rd_le rd_le) <;> try walk_at "dn")
  | ((with_reducible refine' dn_chain ?_ ?_ ?_ rd_le rd_lt) <;> try walk_at "dn")
  | ((with_reducible refine' dn_isI ?h ?k); (case h => walk_at "dn"); (case k => first | with_reducible exact kb_int_int | with_reducible exact kb_int_tuple | with_reducible exact kb_int_str | with_reducible exact kb_int_bool))
  | ((with_reducible refine' dn_isT ?h ?k); (case h => walk_at "dn"); (case k => first | with_reducible exact kb_tuple_int | with_reducible exact kb_tuple_tuple | with_reducible exact kb_tuple_str | with_reducible exact kb_tuple_bool))
  | ((with_reducible refine' dn_isS ?h ?k); (case h => walk_at "dn"); (case k => first | with_reducible exact kb_str_int | with_reducible exact kb_str_tuple | with_reducible exact kb_str_str | with_reducible exact kb_str_bool))
  | ((with_reducible refine' dn_isL ?h ?k); (case h => walk_at "dn"); (case k => first | with_reducible exact kb_list_int | with_reducible exact kb_list_tuple | with_reducible exact kb_list_str | with_reducible exact kb_list_bool))
  | ((with_reducible refine' dn_isB ?h ?k); (case h => walk_at "dn"); (case k => first | with_reducible exact kb_bool_int | with_reducible exact kb_bool_tuple | with_reducible exact kb_bool_str | with_reducible exact kb_bool_bool))
  | ((with_reducible refine' dn_ixT ?h ?t ?k); (case h => walk_at "dn"); (case t => walk_at "dn"); try (case k => rfl))
  | ((with_reducible refine' dn_ixL ?h ?t ?k); (case h => walk_at "dn"); (case t => walk_at "dn"); try (case k => rfl))
  | ((with_reducible refine' dn_cb ?h ?k); (case h => walk_at "dn"); try (case k => first | exact rd_lenT | exact rd_lenL | exact rd_tupL | exact rd_lstT | exact rd_lstL | exact rc_all | exact rc_sum | exact rc_max2 | exact rc_min2))
  | ((with_reducible refine' dn_call ?h ?t ?k); (case h => walk_at "dn"); (case t => rfl))
  | ((with_reducible refine' dt_test ?_) <;> try walk_at "dn")
  | ((with_reducible refine' dt_B ?_) <;> try walk_at "dn")
  | ((with_reducible refine' dn_eqI ?h ?k); (case h => walk_at "dn"); (case k => walk_at "dn"))
  | ((with_reducible refine' dn_neI ?h ?k); (case h => walk_at "dn"); (case k => walk_at "dn"))
  | ((with_reducible refine' dn_eqS ?h ?k); (case h => walk_at "dn"); (case k => walk_at "dn"))
  | ((with_reducible refine' dn_neS ?h ?k); (case h => walk_at "dn"); (case k => walk_at "dn"))
  | ((with_reducible refine' dt_or ?_ (fun _ => ?_)) <;> try walk_at "dn")
  | ((with_reducible refine' dt_and ?_ (fun _ => ?_)) <;> try walk_at "dn")
  | ((with_reducible refine' dn_orV ?_ (fun _ => ?_)) <;> try walk_at "dn")
  | ((with_reducible refine' dn_andV ?_ (fun _ => ?_)) <;> try walk_at "dn")
  | ((with_reducible refine' dt_not ?_) <;> try walk_at "dn")
  | ((with_reducible refine' dn_notV ?_) <;> try walk_at "dn")
  | ((with_reducible refine' da_star ?_ ?_) <;> try walk_at "dn")
  | ((with_reducible refine' dn_tup ?_ ?_) <;> try walk_at "dn")
  | ((with_reducible refine' dn_lst ?_ ?_) <;> try walk_at "dn")
  | ((with_reducible refine' do_some ?_) <;> try walk_at "dn"))
variable {P : Program} {w : World} {K : PySem.W.Frag} {mg : Str → Option Value} {base : Heap}
/-! ### law -/
theorem reach_sp {t : Int} : ∀ (ws b : Vec), (∀ x ∈ ws, -3 ≤ x ∧ x ≤ 3) → (∀ s ∈ b, 1 ≤ s ∧ s - 1 ≤ t) → 0 ≤ t → reachHi ws b - reachLo ws b ≤ 3 * t * (ws.length : Int)
  | [], b, _, _, ht => by simp [reachHi, reachLo, endsV]
  | x :: ws, [], _, _, ht => by
    have : (0 : Int) ≤ 3 * t * ((x :: ws).length : Int) := Int.mul_nonneg (by omega) (by omega)
    have e1 : reachHi (x :: ws) [] = 0 := rfl
    have e2 : reachLo (x :: ws) [] = 0 := rfl
    omega
  | x :: ws, s :: b, hw, hb, ht => by
    have ih := reach_sp ws b (fun y hy => hw y (List.mem_cons_of_mem _ hy)) (fun y hy => hb y (List.mem_cons_of_mem _ hy)) ht
    have hx := hw x (List.mem_cons_self ..)
    have hs := hb s (List.mem_cons_self ..)
    have e1 : reachLo (x :: ws) (s :: b) = loE (x * (s - 1)) + reachLo ws b := rfl
    have e2 : reachHi (x :: ws) (s :: b) = hiE (x * (s - 1)) + reachHi ws b := rfl
    have a1 : x * (s - 1) ≤ 3 * (s - 1) := Int.mul_le_mul_of_nonneg_right hx.2 (by omega)
    have a2 : -3 * (s - 1) ≤ x * (s - 1) := Int.mul_le_mul_of_nonneg_right hx.1 (by omega)
    have a3 : hiE (x * (s - 1)) - loE (x * (s - 1)) ≤ 3 * t := by unfold hiE loE; split <;> split <;> omega
    rw [e1, e2, List.length_cons]
    have e3 : 3 * t * ((ws.length + 1 : Nat) : Int) = 3 * t * (ws.length : Int) + 3 * t := by
      rw [show ((ws.length + 1 : Nat) : Int) = (ws.length : Int) + 1 by omega, Int.mul_add, Int.mul_one]
    omega
theorem span_sp {ws ss b : Vec} {n : Nat} (hn : n = 2 ∨ n = 3) (hw : ws.length = n) (hwb : ∀ x ∈ ws, -3 ≤ x ∧ x ≤ 3) (hs : ∀ x ∈ ss, 0 ≤ x ∧ x ≤ 6) (hne : ss ≠ []) (hb : ∀ s ∈ b, 1 ≤ s ∧ s ≤ (if n = 2 then 6 else 3)) : spanHi ws ss b - spanLo ws ss b < 63 := by
  have h1 := hs _ (mnS_ok hne).1
  have h2 := hs _ (mxS_ok hne).1
  unfold spanHi spanLo
  rcases hn with rfl | rfl
  · have := reach_sp (t := 5) ws b hwb (fun s hsb => by have := hb s hsb; simp at this; omega) (by omega)
    rw [hw] at this
    omega
  · have := reach_sp (t := 2) ws b hwb (fun s hsb => by have := hb s hsb; simp at this; omega) (by omega)
    rw [hw] at this
    omega
theorem dns_ix {σ : L2.St} {H : Hp} {te : TE} {S S' : Dt → Prop} {i : Int} (h : Dns te σ H S) (hS : ∀ d, S d → ∃ ds e, d = .tuple ds ∧ L2.atI ds i = some e ∧ S' e) : Dns (tOp (rIxT K) te (tC (.int i))) σ H S' := fun H1 s Q q => h H1 s _ fun v d H2 hs s2 t2 => by
  obtain ⟨ds, e, rfl, hat, he⟩ := hS d hs
  exact (dn_ixT (K := K) (σ := σ) (ta := tC v) (tb := tC (.int i)) (ds := ds) (fun H3 s3 Q3 q3 => q3 v H3 (Same.refl H3) (t2.s s3)) dn_int hat).go (Q := Q) fun v3 H3 s3 t3 => q v3 e H3 he (s2.trans s3) t3
theorem dns_tup2 {σ : L2.St} {H : Hp} {ta tb : TE} {d : Dt} {S : Dt → Prop} (h1 : Dn ta σ H d) (h2 : Dns tb σ H S) : Dns (tTup (tCons ta (tCons tb tNil))) σ H (fun z => ∃ e, S e ∧ z = .tuple [d, e]) := fun H1 s Q q => h1 H1 s _ fun v H2 s2 t2 => h2 H2 (s.trans s2) _ fun u e H3 he s3 t3 => ⟨by rw [sizeLine_eq]; show 2 ≤ _; omega, fun p hp => q _ _ _ ⟨e, he, rfl⟩ ((s2.trans s3).trans (Same.new hp)) (.tup upd_same (.cons ((t2.s s3).s (Same.new hp)) (.cons (t3.s (Same.new hp)) .nil)))⟩
theorem dns_call3 {σ : L2.St} {H : Hp} {f : List Dt → Dt → Prop} {ta tb tc : TE} {d z c : Dt} {S : Dt → Prop} (h1 : Dn ta σ H d) (h2 : Dns tb σ H S) (h3 : Dn tc σ H c) (hf : ∀ e, S e → f [d, e, c] z) : Dn (tCall (Pu 3 f) [] E0 (tCons ta (tCons tb (tCons tc tNil)))) σ H z := fun H1 s Q q =>
  h1 H1 s _ fun v H2 s2 t2 => h2 H2 (s.trans s2) _ fun u e H3 he s3 t3 => h3 H3 ((s.trans s2).trans s3) _ fun y H4 s4 t4 =>
    ⟨rfl, [d, e, c], z, .cons ((t2.s s3).s s4) (.cons (t3.s s4) (.cons t4 .nil)), hf e he, fun v5 H5 s5 t5 => q v5 H5 (((s2.trans s3).trans s4).trans s5) t5⟩
theorem dt_andS {σ : L2.St} {H : Hp} {te : TE} {u : TT} {S : Dt → Prop} {z : Str} (h : Dns te σ H S) (hS : ∀ d, S d → ∃ x : Str, d = .str x ∧ (x = z → DnT u σ H false)) : DnT (tAnd (tTest (tOp rEq te (tC (.str z)))) u) σ H false := fun H1 s Q q => h H1 s _ fun v d H2 hs s2 t2 => by
  obtain ⟨x, rfl, hx⟩ := hS d hs
  have h1 : DnT (tAnd (tTest (tOp rEq (tC v) (tC (.str z)))) u) σ H2 (decide (x = z) && false) := dt_and (dt_test (dn_eqS (fun H3 s3 Q3 q3 => q3 v H3 (Same.refl H3) (t2.s s3)) dn_str)) fun e => (hx (by simpa using e)).mono (s.trans s2)
  rw [Bool.and_false] at h1
  exact h1.go fun H3 s3 => q H3 (s2.trans s3)
theorem sto_three {σ : L2.St} {H : Hp} {i j k : Nat} {x : V} {d1 d2 d3 : Dt} (h : TD H x (.tuple [d1, d2, d3])) : ∃ u w y, TD H u d1 ∧ TD H w d2 ∧ TD H y d3 ∧ Sto (gTup K 3 (gCons (gName i) (gCons (gName j) (gCons (gName k) gNil)))) x σ H (((σ.set i (some u)).set j (some w)).set k (some y)) := by
  obtain ⟨a, xs, rfl, h1, h2⟩ := h.t
  obtain ⟨u, w, y, rfl, t1, t2, t3⟩ := h2.three
  exact ⟨u, w, y, t1, t2, t3, fun Q q => ⟨a, _, rfl, SqT.of h1, rfl, _, _, rfl, _, _, rfl, _, _, rfl, rfl, q⟩⟩
theorem flat_rule (r : Str × List Wd) : flat (dRule r) = true := by
  have : flats (.str r.1 :: r.2.map dW) = true := flats_of fun d hd => by
    rcases List.mem_cons.mp hd with rfl | hd
    · rfl
    · obtain ⟨q, _, rfl⟩ := List.mem_map.mp hd
      exact flat_dW q
  unfold dRule
  rw [flat]
  exact this
theorem flat_flow (f : Flow) : flat (dFlow f) = true := by
  have : flats (f.rules.map dRule) = true := flats_of fun d hd => by
    obtain ⟨r, _, rfl⟩ := List.mem_map.mp hd
    exact flat_rule r
  show flat (.tuple [.int f.dims, .tuple (f.rules.map dRule)]) = true
  simp [flat, flats, this]
theorem box_ok {n : Nat} {b : Vec} (hn : n = 2 ∨ n = 3) (hl : b.length = n) (hb : ∀ s ∈ b, 1 ≤ s ∧ s ≤ (if n = 2 then 6 else 3)) : BoxOk b := by
  refine ⟨fun s hs => (hb s hs).1, ?_, by omega⟩
  rcases hn with rfl | rfl
  · match b, hl with
    | [x, y], _ =>
      have h1 := hb x (by simp)
      have h2 := hb y (by simp)
      simp at h1 h2
      have a1 : x * y ≤ 6 * y := Int.mul_le_mul_of_nonneg_right h1.2 (by omega)
      show 1 * x * y ≤ 240
      rw [Int.one_mul]
      omega
  · match b, hl with
    | [x, y, z], _ =>
      have h1 := hb x (by simp)
      have h2 := hb y (by simp)
      have h3 := hb z (by simp)
      simp at h1 h2 h3
      have a1 : x * y ≤ 3 * y := Int.mul_le_mul_of_nonneg_right h1.2 (by omega)
      have a2 : x * y * z ≤ 9 * z := Int.mul_le_mul_of_nonneg_right (by omega) (by omega)
      show 1 * x * y * z ≤ 240
      rw [Int.one_mul]
      omega
theorem sv_flow {n m : Nat} {ws ss : Vec} {rs : List (Str × List Wd)} (h : SvF n m ws ss rs) (h1 : 1 ≤ m) (h3 : m ≤ 3) : FlowOk ⟨(n : Int), rs⟩ ∧ Dlv ⟨(n : Int), rs⟩ ws ss := by
  have hrl := h.rl
  refine ⟨⟨by show 1 ≤ rs.length; omega, by show rs.length ≤ 6; omega, fun r hr => ?_, fun r hr q hq => ?_, fun r hr q hq => ?_⟩, fun i r q hi hq => ?_⟩
  · obtain ⟨i, hi⟩ := List.getElem?_of_mem hr
    have := h.rr i r hi
    exact ⟨this.1, this.2.1⟩
  · obtain ⟨i, hi⟩ := List.getElem?_of_mem hr
    have := (h.rr i r hi).2.2 q hq
    have h5 := this.s1
    exact ⟨this.s0, by show q.1 < (rs.length : Int); omega⟩
  · obtain ⟨i, hi⟩ := List.getElem?_of_mem hr
    have := (h.rr i r hi).2.2 q hq
    exact ⟨by show (q.2.length : Int) = (n : Int); rw [this.l], fun x hx => by have := this.b x hx; omega⟩
  · exact ((h.rr i r hi).2.2 q hq).sv
theorem eqvs_W : ∀ l : List Wd, PyData.eqvAll (l.map dW) (l.map dW) = true
  | [] => by simp [PyData.eqvAll]
  | a :: l => by
    rw [List.map_cons, PyData.eqvAll, eqv_dW, eqvs_W l]
    simp
theorem eqvt_W (l : List Wd) : PyData.eqv (.tuple (l.map dW)) (.tuple (l.map dW)) = true := by
  simp only [PyData.eqv]
  exact eqvs_W l
theorem getD_in {ss : Vec} (h : ∀ x ∈ ss, 0 ≤ x ∧ x ≤ 6) (v : Nat) : 0 ≤ ss.getD v 0 ∧ ss.getD v 0 ≤ 6 := by
  rw [List.getD_eq_getElem?_getD]
  cases h1 : ss[v]? with
  | none => exact ⟨Int.le_refl _, by show (0 : Int) ≤ 6; omega⟩
  | some x => exact h x (List.mem_of_getElem? h1)
theorem arcs_pt {f : Flow} {ws ss : Vec} (hf : FlowOk f) (dl : Dlv f ws ss) : ∀ a ∈ arcsL f ws, ss.getD (ab a) 0 + an a ≤ ss.getD (ae a) 0 := fun a ha => by
  obtain ⟨p, hp, rfl⟩ := List.mem_map.mp ha
  obtain ⟨i, j, rule, q, rfl, h1, h2⟩ := mem_rpl hp
  rw [arcAt_is h1 h2]
  have := dl i rule q h1 (List.mem_of_getElem? h2)
  unfold ab ae an
  dsimp only
  rw [Int.toNat_natCast]
  omega
theorem mk_okG {x qual : Str} {params : Arguments} {body : List Stmt} {scope : Scope} {f : Addr} {fd : FuncData} {N ps : List Str} {k : Nat} {sp : Sp} (F : FunD K x qual params body scope [] [] f fd) (S : FnScope N ps scope) (len : ∀ vs H Q E, sp vs H Q E → vs.length = ps.length)
    (hbody : ∀ (cdv : Value) (A : Around) (outer : List Env) (s : Shared) (H : Hp) (vs : List V) (Q : VK) (E : XK), Room k (A.deeper (envOfC qual scope s.heap.objs.size f cdv)) → A.guards = some [] → sp vs H Q E →
      ∃ t, PSs (cxOf CX0 P w K mg base N qual scope f cdv A outer s H E).nox body t ∧ t { nx := fun _ H' => Q .non H', rt := Q } (start N vs) H) : FnGd P w K mg base CX0 (k + 1) f fd ps sp :=
  FunD.okG F S len fun cdv A outer s H vs Q E hr hg h => by
    obtain ⟨t, p, q⟩ := hbody cdv A outer s H vs Q E hr hg h
    exact ⟨t, p.nox, q⟩
abbrev N_law : List Str := ["_law_script", "_law_box_here", "_law_turn", "_law_long", "_law_dims", "_law_k", "_law_flow", "_law_weights", "_law_starts", "_law_free", "_law_sizes", "_law_some"]
abbrev P_law : List Str := ["_law_script"]
theorem sc_law : FnScope N_law P_law (defScope s_law) := ⟨rfl, rfl, rfl, by decide +kernel, rfl, by decide +kernel, by decide +kernel⟩
def spLaw (K : PySem.W.Frag) : Sp := fun vs H Q _ => vs.length = 1 ∧ ∃ (a : Addr) (ns : List Int), vs = [.ref a] ∧ SqL K H a (ns.map V.int) ∧ ns.length ≤ 63 ∧ ∀ H', Q (.bl true) H'
theorem law_ok (TE : TxE K mg) {fd : FuncData} (F : FunD K "law" "law" (defArgs s_law) (defBody s_law) (defScope s_law) [] [] (He.fAd K ("law", none)) fd) : FnGd P w K mg base CX0 20 (He.fAd K ("law", none)) fd P_law (spLaw K) := by
  refine mk_okG F sc_law (fun vs H Q E h => h.1) (fun cdv A outer s H vs Q E hr hg h => ?_)
  have T := TE.toTx
  obtain ⟨_, a, ns, rfl, hS, hl, q⟩ := h
  refine ⟨_, (pss_cons (ps_set (i := 1) sc_law.nd rfl (by first | exact Or.inl rfl | exact Or.inr rfl) (pe_cd (D_law_opened T) (hr.mono (by decide)) T.g_law_opened pass0 (pa_cons (pv 0) pa_nil))) (pss_cons (ps_for PassesOwn.never rfl (pi_range1 rfl T.f_range (pa_cons pe_int pa_nil)) (pg_name (i := 2) sc_law.nd rfl (by first | exact Or.inl rfl | exact Or.inr rfl)) (pss_cons (ps_set (i := 4) sc_law.nd rfl (by first | exact Or.inl rfl | exact Or.inr rfl) (pe_op op_add pe_int (pe_cd (D_law_draw T) (hr.mono (by decide)) T.g_law_draw pass0 (pa_cons (pv 1) (pa_cons pe_int pa_nil))))) (pss_cons (ps_asg (pe_cd (D_law_served T) (hr.mono (by decide)) T.g_law_served pass0 (pa_cons (pv 1) (pa_cons (pv 4) (pa_cons (pe_op op_add pe_int (pe_cd (D_law_draw T) (hr.mono (by decide)) T.g_law_draw pass0 (pa_cons (pv 1) (pa_cons pe_int pa_nil)))) pa_nil)))) (kpg_tup K 3 (pgs_cons (pg_name (i := 6) sc_law.nd rfl (by first | exact Or.inl rfl | exact Or.inr rfl)) (pgs_cons (pg_name (i := 7) sc_law.nd rfl (by first | exact Or.inl rfl | exact Or.inr rfl)) (pgs_cons (pg_name (i := 8) sc_law.nd rfl (by first | exact Or.inl rfl | exact Or.inr rfl)) pgs_nil))))) (pss_cons (ps_par (i := 9) (j := 10) (by rfl) sc_law.nd rfl rfl (by decide) rfl rfl (pa_cons (pe_cd (D_law_near T) (hr.mono (by decide)) T.g_law_near pass0 (pa_cons (pv 1) (pa_cons (pv 4) (pa_cons (pe_op op_add pe_int (pe_cd (D_law_draw T) (hr.mono (by decide)) T.g_law_draw pass0 (pa_cons (pv 1) (pa_cons pe_int pa_nil)))) (pa_cons pe_int pa_nil))))) (pa_cons (pe_cd (D_law_box T) (hr.mono (by decide)) T.g_law_box pass0 (pa_cons (pv 1) (pa_cons (pv 4) pa_nil))) pa_nil)) (by kernel_rfl)) (pss_cons (ps_if (PW.pt (pw_or (pt_not (pt_val (pe_cdG (D_law_right TE) (hr.mono (by decide)) hg T.g_law_right pass0 (pa_cons (pv 6) (pa_cons (pv 10) pa_nil))))) (pw_or1 (pt_not (pt_val (pe_cdG (D_law_right TE) (hr.mono (by decide)) hg T.g_law_right pass0 (pa_cons (pv 9) (pa_cons (pv 10) pa_nil)))))))) (pss_one (ps_ret pe_bl)) pss_nil) (pss_cons (ps_if (pt_not (pt_val (pe_cd (D_law_served_right T) (hr.mono (by decide)) T.g_law_served_right pass0 (pa_cons (pv 6) (pa_cons (pe_tup (pa_cons (pv 7) (pa_cons (pv 8) pa_nil))) (pa_cons (pv 10) pa_nil)))))) (pss_one (ps_ret pe_bl)) pss_nil) (pss_cons (ps_if (pt_not (pt_val (pe_cd (D_law_served_right T) (hr.mono (by decide)) T.g_law_served_right pass0 (pa_cons (pv 6) (pa_cons (pe_tup (pa_cons (pv 7) (pa_cons (pe_ix (kix_tup K) (pe_cd (D_find_starts T) (hr.mono (by decide)) T.g_find_starts pass0 (pa_cons (pv 6) (pa_cons (pv 7) pa_nil))) pe_int (fun _ _ => rfl)) pa_nil))) (pa_cons (pv 10) pa_nil)))))) (pss_one (ps_ret pe_bl)) pss_nil) (pss_one (ps_for PassesOwn.never rfl (pi_range1 rfl T.f_range (pa_cons pe_int pa_nil)) (pg_name (i := 5) sc_law.nd rfl (by first | exact Or.inl rfl | exact Or.inr rfl)) (pss_cons (ps_set (i := 11) sc_law.nd rfl (by first | exact Or.inl rfl | exact Or.inr rfl) (pe_cd (D_law_vector T) (hr.mono (by decide)) T.g_law_vector pass0 (pa_cons (pv 1) (pa_cons (pv 4) (pa_cons pe_int pa_nil))))) (pss_one (ps_if (PW.pt (pw_and (pt_cmpR op_eq (pe_ix (kix_tup K) (pe_cd (D_find_starts T) (hr.mono (by decide)) T.g_find_starts pass0 (pa_cons (pv 9) (pa_cons (pv 11) pa_nil))) pe_int (fun _ _ => rfl)) pe_str (nomark _)) (pw_and1 (pt_cmpR op_eq (pe_ix (kix_tup K) (pe_cd (D_find_ranks T) (hr.mono (by decide)) T.g_find_ranks pass0 (pa_cons (pv 9) (pa_cons (pv 10) pa_nil))) pe_int (fun _ _ => rfl)) pe_str (nomark _))))) (pss_one (ps_ret pe_bl)) pss_nil)))))))))))) (pss_cons (ps_set (i := 3) sc_law.nd rfl (by first | exact Or.inl rfl | exact Or.inr rfl) (pe_tup (pa_cons pe_int (pa_cons (pe_callTy (kcall_tuple K) (by rfl) T.f_tuple (by decide +kernel) (pa_cons (pe_lc (own := [("_law_k", 5)]) rfl sc_law.nd (pi_range1 rfl T.f_range (pa_cons pe_int pa_nil)) (blkOk_by (N := N_law) (sc := defScope s_law) (by decide +kernel)) (fun _ _ _ _ _ => (pg_name (i := 5) sc_law.nd rfl (by first | exact Or.inl rfl | exact Or.inr rfl))) (fun _ _ _ _ _ => pts_nil) (fun _ _ _ _ _ => (pe_tup (pa_cons pe_str (pa_cons (pe_tup (pa_cons (pe_op op_mod (pe_op op_add (pv 5) pe_int) pe_int) (pa_cons (pe_ix (kix_list K) (pe_lst (pa_cons (pe_tup (pa_cons pe_int (pa_cons pe_int pa_nil))) (pa_cons (pe_tup (pa_cons pe_int (pa_cons pe_int pa_nil))) pa_nil))) (pe_callTy call_int1 (by rfl) T.f_int (by decide +kernel) (pa_cons (pe_cmpR op_eq (pv 5) pe_int (nomark _)) pa_nil)) (fun _ _ => rfl)) pa_nil))) pa_nil))))) pa_nil)) pa_nil)))) (pss_one (ps_ret (pe_cmpR (kop_eqD K hr.units) (pe_cd (D_longest_chain T) (hr.mono (by decide)) T.g_longest_chain pass0 (pa_cons (pv 3) (pa_cons (pe_tup (pa_cons pe_int (pa_cons pe_int pa_nil))) pa_nil))) (pe_callTy (kcall_tuple K) (by rfl) T.f_tuple (by decide +kernel) (pa_cons (pe_lc (own := [("_law_k", 5)]) rfl sc_law.nd (pi_range1 rfl T.f_range (pa_cons pe_int pa_nil)) (blkOk_by (N := N_law) (sc := defScope s_law) (by decide +kernel)) (fun _ _ _ _ _ => (pg_name (i := 5) sc_law.nd rfl (by first | exact Or.inl rfl | exact Or.inr rfl))) (fun _ _ _ _ _ => pts_nil) (fun _ _ _ _ _ => (pe_tup (pa_cons (pe_op op_mod (pv 5) pe_int) (pa_cons (pe_tup (pa_cons (pe_op op_fdivW (pv 5) pe_int) (pa_cons pe_int pa_nil))) pa_nil))))) pa_nil)) (nomark _))))))), ?_⟩
  refine q_asg ⟨.ref a, rfl, rfl, a, ns, rfl, hS, hl, fun B g sm H1 hb1 => ?_⟩
  refine q_seq (s_forR (n := 10) (da_cons dn_int da_nil) (by omega) (fun i σ' H' => ∃ o2 o4 o5 o6 o7 o8 o9 o10 o11 : Option V, σ' = [some (.ref a), some (.ref B), o2, none, o4, o5, o6, o7, o8, o9, o10, o11] ∧ BoxAt H' B g sm) ?_ ?_ ?_)
  · intro H2 s2
    exact ⟨none, none, none, none, none, none, none, none, none, rfl, hb1.s s2⟩
  · rintro i σ' H2 hi ⟨o2, o4, o5, o6, o7, o8, o9, o10, o11, rfl, hb2⟩
    refine ⟨_, sto_name, ?_⟩
    -- dims
    refine q_asg ?_
    refine dw_draw (B := B) (g := g) (sm := sm) (i := 1) (m := 2) rfl dn_int hb2 (by omega) (by omega) _ fun v3 d3 H3 hs3 hf3 k3 b3 t3 => ?_
    obtain ⟨j3, rfl, hj0, hj1⟩ := hs3
    refine ⟨2, j3, rfl, t3.i, ?_⟩
    obtain ⟨n, hn, hn23⟩ : ∃ n : Nat, (2 + j3 : Int) = (n : Int) ∧ (n = 2 ∨ n = 3) := ⟨(2 + j3).toNat, by omega, by omega⟩
    show tSeq _ _ _ [some (.ref a), some (.ref B), some (.int (i : Int)), none, some (.int (2 + j3)), o5, o6, o7, o8, o9, o10, o11] H3
    rw [hn]
    -- served
    refine q_asg' ?_
    refine ⟨.ref B, rfl, .int (n : Int), rfl, ?_⟩
    refine dw_draw (B := B) (g := g) (sm := sm) (i := 1) (m := 3) rfl dn_int b3 (by omega) (by omega) _ fun v4 d4 H4 hs4 hf4 k4 b4 t4 => ?_
    obtain ⟨j4, rfl, hj40, hj41⟩ := hs4
    obtain ⟨m, hm, hm1, hm3⟩ : ∃ m : Nat, (1 + j4 : Int) = (m : Int) ∧ 1 ≤ m ∧ m ≤ 3 := ⟨(1 + j4).toNat, by omega, by omega, by omega⟩
    refine ⟨1, j4, rfl, t4.i, ?_⟩
    show spDw 2 fServed [.ref B, .int (n : Int), .int (1 + j4)] H4 _ E0
    rw [hm]
    refine ⟨rfl, B, g, sm, [.int (n : Int), .int (m : Int)], [.int (n : Int), .int (m : Int)], servedIs n m, rfl, b4, .cons (.int _) (.cons (.int _) .nil), ⟨n, m, rfl, by omega, by omega, hm1, hm3, rfl⟩, fun v5 d5 H5 hs5 hf5 k5 b5 t5 => ?_⟩
    obtain ⟨ws, ss, rs, rfl, sv⟩ := hs5
    obtain ⟨v6, v7, v8, t6, t7, t8, st⟩ := sto_three (K := K) (i := 6) (j := 7) (k := 8) t5
    refine st _ ?_
    obtain ⟨fok, dl⟩ := sv_flow sv hm1 hm3
    -- near, box
    refine q_par0 ?_
    refine ⟨.ref B, rfl, .int (n : Int), rfl, ?_⟩
    refine dw_draw (B := B) (g := g) (sm := sm) (i := 1) (m := 3) rfl dn_int b5 (by omega) (by omega) _ fun v9 d9 H6 hs9 hf9 k6 b6 t9 => ?_
    obtain ⟨j9, rfl, hj90, hj91⟩ := hs9
    obtain ⟨m9, hm9, hm91, hm93⟩ : ∃ m : Nat, (1 + j9 : Int) = (m : Int) ∧ 1 ≤ m ∧ m ≤ 3 := ⟨(1 + j9).toNat, by omega, by omega, by omega⟩
    refine ⟨1, j9, rfl, t9.i, ?_⟩
    show spDw 3 fNear [.ref B, .int (n : Int), .int (1 + j9), .int 1] H6 _ E0
    rw [hm9]
    refine ⟨rfl, B, g, sm, [.int (n : Int), .int (m9 : Int), .int 1], [.int (n : Int), .int (m9 : Int), .int 1], nearIs n m9, rfl, b6, .cons (.int _) (.cons (.int _) (.cons (.int _) .nil)), ⟨n, m9, rfl, by omega, hm91, hm93, rfl⟩, fun v10 d10 H7 hs10 hf10 k7 b7 t10 => ?_⟩
    obtain ⟨rs9, rfl, hrl9, hrr9⟩ := hs10
    have fok9 := flow_ok hrr9 hrl9 hm91 (by omega) (by decide)
    refine dw_call (B := B) (g := g) (sm := sm) (i := 1) rfl (da_cons (dn_var (i := 4) rfl (.int (n : Int))) da_nil) b7 (by rfl) ⟨n, rfl, hn23, rfl⟩ _ fun v11 d11 H8 hs11 hf11 k8 b8 t11 => ⟨_, _, rfl, ?_⟩
    obtain ⟨b, rfl, hbl, hbb⟩ := hs11
    have bok := box_ok hn23 hbl hbb
    have fb : FB ⟨(n : Int), rs⟩ b := ⟨fok, bok, by show (n : Int) = _; rw [hbl]⟩
    have fb9 : FB ⟨(n : Int), rs9⟩ b := ⟨fok9, bok, by show (n : Int) = _; rw [hbl]⟩
    have kt58 : KT H5 H8 := ((k6.ktB b5).trans (k7.ktB b6)).trans (k8.ktB b7)
    have t6 := t6.k kt58 (flat_flow _)
    have t7 := t7.k kt58 (flat_dV _)
    have t8 := t8.k kt58 (flat_dV _)
    have t10 := t10.k (k8.ktB b7) (flat_flow _)
    show tSeq _ _ _ [some (.ref a), some (.ref B), some (.int (i : Int)), none, some (.int (n : Int)), o5, some v6, some v7, some v8, some v10, some v11, o11] H8
    have hsl : ss.length = rs.length := by rw [sv.sl, sv.rl]
    have hssn : ss ≠ [] := fun e => by have := sv.sl; rw [e] at this; simp at this; omega
    have hsw : small ws := fun x hx => by have := sv.wb x hx; omega
    have hwl : ws.length ≤ 1000 := by have := sv.wl; omega
    have hwb : ∀ x ∈ ws, -3 ≤ x ∧ x ≤ 3 := fun x hx => by have := sv.wb x hx; omega
    -- right
    refine q_ifno (DnT.is (b := !true || !true) (dt_or (dt_not (dt_B (dn_call (z := .bool true) (ds := [dFlow ⟨(n : Int), rs⟩, dV b]) (da_cons (dn_var rfl t6) (da_cons (dn_var rfl t11) da_nil)) (by rfl) ⟨_, _, rfl, fb, rfl⟩))) fun _ => dt_not (dt_B (dn_call (z := .bool true) (ds := [dFlow ⟨(n : Int), rs9⟩, dV b]) (da_cons (dn_var rfl t10) (da_cons (dn_var rfl t11) da_nil)) (by rfl) ⟨_, _, rfl, fb9, rfl⟩))) rfl) fun H9 s9 => ?_
    have t6 := t6.s s9
    have t7 := t7.s s9
    have t8 := t8.s s9
    have t10 := t10.s s9
    have t11 := t11.s s9
    -- served right
    refine q_ifno (DnT.is (b := !true) (dt_not (dt_B (dn_call (z := .bool true) (ds := [dFlow ⟨(n : Int), rs⟩, dTm ws ss, dV b]) (da_cons (dn_var rfl t6) (da_cons (dn_tup (da_cons (dn_var rfl t7) (da_cons (dn_var rfl t8) da_nil)) (by simp)) (da_cons (dn_var rfl t11) da_nil))) (by rfl) ⟨_, ws, ss, b, rfl, fb, dl, hsl, hsw, hwl, span_sp hn23 sv.wl hwb sv.sb hssn hbb, rfl⟩))) rfl) fun H10 s10 => ?_
    have t6 := t6.s s10
    have t7 := t7.s s10
    have t10 := t10.s s10
    have t11 := t11.s s10
    -- the found starts
    have hfind : Dns (tCall (spS 2 fFind) [] E0 (tCons (tVar 6) (tCons (tVar 7) tNil))) [some (.ref a), some (.ref B), some (.int (i : Int)), none, some (.int (n : Int)), o5, some v6, some v7, some v8, some v10, some v11, o11] H10 (fun d => stOK ⟨(n : Int), rs⟩ ws d ∨ rgOK ⟨(n : Int), rs⟩ ws d) :=
      dns_call (ds := [dFlow ⟨(n : Int), rs⟩, dV ws]) (da_cons (dn_var rfl t6) (da_cons (dn_var rfl t7) da_nil)) (by rfl) ⟨_, ws, rfl, fok, by show (ws.length : Int) = (n : Int); rw [sv.wl], hwl, fun x hx => by have := hwb x hx; omega, rfl⟩
    have hrest := served_rest fok dl (fun x hx => (sv.sb x hx).1)
    have hgot := dns_ix (K := K) (S' := fun e => ∃ k, e = dV (hL rs.length (stN (arcsL ⟨(n : Int), rs⟩ ws) k)) ∧ Dlv ⟨(n : Int), rs⟩ ws (hL rs.length (stN (arcsL ⟨(n : Int), rs⟩ ws) k)) ∧ ∀ x ∈ hL rs.length (stN (arcsL ⟨(n : Int), rs⟩ ws) k), 0 ≤ x ∧ x ≤ 6) (i := 1) hfind fun d hd => by
      rcases hd with ⟨k, hk, hg, rfl⟩ | ⟨⟨v, hv⟩, _⟩
      · refine ⟨_, _, rfl, rfl, k, rfl, dlv_still fok hk hg, fun x hx => ?_⟩
        obtain ⟨v, hv, rfl⟩ := List.mem_map.mp hx
        have hp := pt_st (arcs := arcsL ⟨(n : Int), rs⟩ ws) (π := fun v => ss.getD v 0) (fun v => (getD_in sv.sb v).1) (arcs_pt fok dl) k
        have h1 := hp.lo v
        have h2 := hp.hi v
        have h3 := (getD_in sv.sb v).2
        exact ⟨h1, Int.le_trans h2 h3⟩
      · have hv : (stN (arcsL ⟨(n : Int), rs⟩ ws) rs.length).g = some v := hv
        rw [show (stN (arcsL ⟨(n : Int), rs⟩ ws) rs.length).g = none from hrest] at hv
        cases hv
    refine q_ifno (DnT.is (b := !true) (dt_not (dt_B (dns_call3 (d := dFlow ⟨(n : Int), rs⟩) (c := dV b) (z := .bool true) (dn_var rfl t6) (dns_tup2 (d := dV ws) (dn_var (i := 7) rfl t7) hgot) (dn_var rfl t11) fun e he => ?_))) rfl) fun H11 s11 => ?_
    · obtain ⟨e, ⟨k, rfl, dlk, hbk⟩, rfl⟩ := he
      have hlk : (hL rs.length (stN (arcsL ⟨(n : Int), rs⟩ ws) k)).length = rs.length := by unfold hL; simp
      have hrl := sv.rl
      exact ⟨_, ws, _, b, rfl, fb, dlk, hlk, hsw, hwl, span_sp hn23 sv.wl hwb hbk (fun e => by rw [e] at hlk; simp at hlk; omega) hbb, rfl⟩
    have t10 := t10.s s11
    have t11 := t11.s s11
    have b11 := ((b8.s s9).s s10).s s11
    -- the free flow
    refine s_forR (n := 3) (da_cons dn_int da_nil) (by omega) (fun k σ' H' => ∃ o5 o11 : Option V, σ' = [some (.ref a), some (.ref B), some (.int (i : Int)), none, some (.int (n : Int)), o5, some v6, some v7, some v8, some v10, some v11, o11] ∧ BoxAt H' B g sm ∧ TD H' v10 (dFlow ⟨(n : Int), rs9⟩) ∧ TD H' v11 (dV b)) ?_ ?_ ?_
    · intro H12 s12
      exact ⟨_, _, rfl, b11.s s12, t10.s s12, t11.s s12⟩
    · rintro k σ' H12 hk ⟨o5', o11', rfl, b12, t10, t11⟩
      refine ⟨_, sto_name, ?_⟩
      refine q_asg (dw_call (B := B) (g := g) (sm := sm) (i := 1) rfl (da_cons (dn_var (i := 4) rfl (.int (n : Int))) (da_cons dn_int da_nil)) b12 (by rfl) ⟨n, 5, rfl, by omega, by omega, by omega, rfl⟩ _ fun v13 d13 H13 hs13 hf13 k13 b13 t13 => ?_)
      obtain ⟨xs, rfl, hxl, hxb⟩ := hs13
      have t10 := t10.k (k13.ktB b12) (flat_flow _)
      have t11 := t11.k (k13.ktB b12) (flat_dV _)
      refine s_ifno (dt_andS (S := fun d => ∃ x : Str, d = .str x ∧ (x = "starts" → LF ⟨(n : Int), rs9⟩ b = [])) (dns_ix (K := K) (dns_call (f := fFind) (n := 2) (ds := [dFlow ⟨(n : Int), rs9⟩, dV xs]) (da_cons (dn_var rfl t10) (da_cons (dn_var rfl t13) da_nil)) (by rfl) ⟨_, xs, rfl, fok9, by show (xs.length : Int) = (n : Int); rw [hxl], by omega, fun x hx => by have := hxb x hx; omega, rfl⟩) fun d hd => ?_) fun d hd => ?_) fun H14 s14 => ⟨_, _, rfl, b13.s s14, t10.s s14, t11.s s14⟩
      · rcases hd with ⟨k, hk1, hg, rfl⟩ | ⟨_, es, rfl⟩
        · refine ⟨_, _, rfl, rfl, _, rfl, fun _ => ?_⟩
          exact no_left (rby_closed fok9 fb9.2.2) fun w hw u hu => beat_up fok9 fb9.2.2 (dlv_still fok9 hk1 hg) hw hu
        · exact ⟨_, _, rfl, rfl, _, rfl, fun e => absurd e (by decide)⟩
      · obtain ⟨x, rfl, hx⟩ := hd
        refine ⟨x, rfl, fun e => ?_⟩
        have hfr : frD ⟨(n : Int), rs9⟩ b = .tuple [.str "ranks", .tuple ((List.range rs9.length).map (rowD ⟨(n : Int), rs9⟩ b))] := by unfold frD; rw [if_pos (hx e)]
        exact DnT.is (dt_test (dn_eqS (dn_ixT (dn_call (z := .tuple [.str "ranks", .tuple ((List.range rs9.length).map (rowD ⟨(n : Int), rs9⟩ b))]) (ds := [dFlow ⟨(n : Int), rs9⟩, dV b]) (da_cons (dn_var rfl t10) (da_cons (dn_var rfl t11) da_nil)) (by rfl) ⟨_, b, rfl, fb9, hfr.symm⟩) dn_int rfl) dn_str)) (by decide)
    · rintro σ' H12 ⟨o5', o11', rfl, b12, _, _⟩
      exact ⟨_, _, _, _, _, _, _, _, _, rfl, b12⟩
  · rintro σ' H2 ⟨o2, o4, o5, o6, o7, o8, o9, o10, o11, rfl, hb2⟩
    refine q_set (i := 3) (d := dFlow lgF) (Dn.is (dn_tup (da_cons dn_int (da_cons (dn_cb (da_cons (dn_lcm (α := Nat) (fun k : Nat => .int (k : Int)) (List.range 6) (fun k => dRule (lgR k)) (src_rng1 (n := 6) (da_cons dn_int da_nil) (by omega) (by omega)) (by rw [List.length_range]; omega) (fun k _ => flat_rule _) fun k hk u H3 s3 tu => ⟨_, sto_name, rfl, ?_⟩) da_nil) (rd_tupL (K := K))) da_nil)) (by simp)) (by unfold dFlow lgF; rw [List.map_map]; rfl)) fun v3 H3 s3 t3 => ?_
    · refine Dn.is (dn_tup (da_cons dn_str (da_cons (dn_tup (da_cons (dn_op (dn_add (dn_var (i := 5) rfl tu) dn_int) dn_int (rd_I (show (0 : Int) < 6 by decide) fun _ => .int _)) (da_cons (dn_ixL (d := dV (if k = 0 then [1, 0] else [0, 0])) (dn_lst (da_cons (dn_tup (da_cons dn_int (da_cons dn_int da_nil)) (by simp)) (da_cons (dn_tup (da_cons dn_int (da_cons dn_int da_nil)) (by simp)) da_nil)) (by simp)) (dn_cb (da_cons (dn_eqI (dn_var (i := 5) rfl tu) dn_int) da_nil) rd_intB) ?_) da_nil)) (by simp)) da_nil)) (by simp)) rfl
      by_cases h : k = 0
      · subst h; rfl
      · have h' : ¬ (k : Int) = 0 := by omega
        rw [if_neg h]
        simp only [h', decide_false]
        rfl
    · refine s_ret (Dn.is (dn_eqD (K := K) (d := .tuple (lgC.map dW)) (e := .tuple (lgC.map dW)) (Dn.is (dn_call (ds := [dFlow lgF, dV lgB]) (da_cons (dn_var (i := 3) rfl t3) (da_cons (dn_tup (da_cons dn_int (da_cons dn_int da_nil)) (by simp [lgB])) da_nil)) (by rfl) ⟨lgF, lgB, rfl, lg_fb, lg_left, rfl⟩) (by rw [lg_chain])) (Dn.is (dn_cb (da_cons (dn_lcm (α := Nat) (fun k : Nat => .int (k : Int)) (List.range 1440) (fun k => dW (((k : Int) % 6), [(k : Int) / 6, 0])) (src_rng1 (n := 1440) (da_cons dn_int da_nil) (by omega) (by omega)) (by rw [List.length_range]; omega) (fun _ _ => flat_dW _) fun k hk u H4 s4 tu => ⟨_, sto_name, rfl, ?_⟩) da_nil) (rd_tupL (K := K))) (by unfold lgC; rw [List.map_map]; rfl)) rfl rfl) (by rw [eqvt_W])) fun v7 H7 s7 t7 => ?_
      · exact dn_tup (da_cons (dn_op (dn_var (i := 5) rfl tu) dn_int (rd_I (show (0 : Int) < 6 by decide) fun _ => .int _)) (da_cons (dn_tup (da_cons (dn_op (dn_var (i := 5) rfl tu) dn_int (rd_I (CDivW_ok (show (0 : Int) < 6 by decide) (by decide)) fun _ => .int _)) (da_cons dn_int da_nil)) (by simp)) da_nil)) (by simp)
      · have e := t7.b
        subst e
        exact q _
end K32
/-! HdRunX -/
set_option Elab.async false
set_option linter.all false
set_option maxRecDepth 100000
set_option maxHeartbeats 0
namespace K32
open PySem PySem.Spec PyProof.Rows L2
abbrev R : PySem.W.OpenRow := PySem.W.OpenLaw.row PySem.Challenge.rw_wirebeats_k32_whole_chains_and_beats
abbrev hk : PySem.W.Hook := hookX 5
def ob (s : PySem.W.SharedT) : AlX := obsX 5 (HandSHeadRun.getT s)
theorem ob_eq (s : PySem.W.SharedT) : ob s = hk.obs s.abs := obsX_eq (HandSHeadRun.getT_eq s)
def names : List Str := (PySem.Challenge.pw_wirebeats_k32_whole_chains_and_beats.main.scope.names.map (·.1)).filter (fun x => decide (x ≠ "law"))
theorem run (w : World) : HandSHeadRun.RunEq R (PySem.W.view R.prog [71]) hk ob 6000 names w := by
  intro os
  kernel_rfl
end K32
/-! Fin -/
set_option Elab.async false
set_option linter.all false
set_option maxRecDepth 100000
set_option maxHeartbeats 0
namespace K32
open PySem PySem.Spec PyProof.Rows L2
theorem facts {P : Program} {w : World} {K : PySem.W.Frag} {h : Heap} {mg : Str → Option Value} {f : Addr} (X : K.In h) (G : h.Ns mainGlobals mg) (hfa : mg ("law" : Str) = some (.ref f)) (c : He.SaysD fa fn K) (x : exB K = true) :
    ∃ fd : FuncData, (∀ (s : Shared) (v : Value), BindsTo s fd ⟨[v], []⟩ [("_law_script", v)]) ∧ ∀ base : Heap, K.In base → base.Ns mainGlobals mg → FnGd P w K mg base CX0 20 f fd ["_law_script"] (spLaw K) := by
  obtain ⟨fd, F⟩ := c.def_ 59 (d := d_law) rfl
  have e := hfa.symm.trans (He.glo_ok X G (c.fact 69 (f := .glo "law") rfl))
  cases e
  have b := FunD.bindsA (ps := ["_law_script"]) F fun _ _ _ _ _ _ us hl => match us, hl with | [_], _ => rfl
  exact ⟨fd, fun s v => b s [v] rfl, fun base _ _ => law_ok ⟨⟨c, h, X, G⟩, x⟩ F⟩
end K32
open PySem PySem.W PySem.Calls PyProof.Rows
theorem PySem.Challenge.cw_wirebeats_k32_whole_chains_and_beats_holds : PySem.Challenge.rw_wirebeats_k32_whole_chains_and_beats.Holds := by
  w_on; o_law
  refine HandSHeadRun.head_any (r := OpenLaw.row PySem.Challenge.rw_wirebeats_k32_whole_chains_and_beats) (q := view (OpenLaw.row PySem.Challenge.rw_wirebeats_k32_whole_chains_and_beats).prog [71]) (H := K32.hk) (ob := K32.ob) (M := 6000) (loose := K32.names) (d := HandSHeadRun.topDef (OpenLaw.row PySem.Challenge.rw_wirebeats_k32_whole_chains_and_beats).prog 71) (kwd := []) K32.ob_eq
    (by kernel_rfl) (fun s => by kernel_rfl) K32.run (by kernel_rfl) (by kernel_rfl) (by kernel_rfl) (by rfl) (by first | assumption | decide +kernel) (by decide +kernel) ⟨rfl, rfl, rfl, rfl, rfl, by decide +kernel⟩ ?hw ?hc
  case hw => w_witness2
  case hc =>
    refine L2.walk_ofG (l := PySem.Challenge.rw_wirebeats_k32_whole_chains_and_beats) (n := 63) (k := 20) (x := "_law_script") (CX := L2.CX0) rfl (by decide) (by kernel_rfl) ⟨rfl, by decide, by decide⟩ ?F (fun _ _ _ _ z => z)
    intro w mg fa h Y G hmg0
    obtain ⟨K, KX, c, x⟩ := Y
    have hmg : mg ("law" : PySem.Str) = some (.ref fa) := by
      have e : (HandSHeadRun.topDef (OpenLaw.row PySem.Challenge.rw_wirebeats_k32_whole_chains_and_beats).prog 71).name = ("law" : PySem.Str) := by kernel_rfl
      rw [← e]
      exact hmg0
    obtain ⟨fd, hb, hF⟩ := K32.facts (P := (PySem.Challenge.rw_wirebeats_k32_whole_chains_and_beats).prog) (w := w) KX G hmg c x
    exact ⟨K, fd, K32.spLaw K, KX, hb, fun H a ns hl _ hS => ⟨rfl, a, ns, rfl, hS, hl, fun _ => rfl⟩, hF⟩
