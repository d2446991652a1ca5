import PyProof.Rows.All
import Wide.All
import OpenK.AllK
import Wide.FinOn
import HandS.ForMost
import HandS.IsInst
import HandS.Style
import HandS.Star
import HandS.TupMul
import HandS.TupAny
import HandS.Conv
import HandS.Wide
import HandS.WideBits
import HandS.SortInts
import HandS.TupSets
import HandS.Walk
import PySem.Challenge.RW_restworld_k48_whole_roots_as_zeros
import PyProof.ListMulRoad
import PyProof.FactsAll.tuple_2
set_option Elab.async false
set_option linter.all false
set_option maxRecDepth 100000
set_option maxHeartbeats 4000000
namespace RW
open PySem PySem.Spec PyProof.Rows L2
/-! ### the text by places -/
def topS (i : Nat) : Stmt := PySem.Challenge.pw_restworld_k48_whole_roots_as_zeros.main.body.getD i (.Pass ⟨0, 0, 0, 0⟩)
abbrev s_is_integer : Stmt := topS 19
theorem sc_is_integer : FnScope ["value"] ["value"] (defScope s_is_integer) := ⟨rfl, rfl, rfl, by decide +kernel, rfl, by decide +kernel, by decide +kernel⟩
abbrev s_is_between : Stmt := topS 20
theorem sc_is_between : FnScope ["value", "least", "most"] ["value", "least", "most"] (defScope s_is_between) := ⟨rfl, rfl, rfl, by decide +kernel, rfl, by decide +kernel, by decide +kernel⟩
abbrev s_check_between : Stmt := topS 21
theorem sc_check_between : FnScope ["value", "least", "most"] ["value", "least", "most"] (defScope s_check_between) := ⟨rfl, rfl, rfl, by decide +kernel, rfl, by decide +kernel, by decide +kernel⟩
abbrev s_check_number : Stmt := topS 22
theorem sc_check_number : FnScope ["value"] ["value"] (defScope s_check_number) := ⟨rfl, rfl, rfl, by decide +kernel, rfl, by decide +kernel, by decide +kernel⟩
abbrev s_check_base : Stmt := topS 23
theorem sc_check_base : FnScope ["value"] ["value"] (defScope s_check_base) := ⟨rfl, rfl, rfl, by decide +kernel, rfl, by decide +kernel, by decide +kernel⟩
abbrev s_is_small_prime : Stmt := topS 24
theorem sc_is_small_prime : FnScope ["value", "step"] ["value"] (defScope s_is_small_prime) := ⟨rfl, rfl, rfl, by decide +kernel, rfl, by decide +kernel, by decide +kernel⟩
abbrev s_check_prime : Stmt := topS 25
theorem sc_check_prime : FnScope ["value"] ["value"] (defScope s_check_prime) := ⟨rfl, rfl, rfl, by decide +kernel, rfl, by decide +kernel, by decide +kernel⟩
abbrev s_check_often : Stmt := topS 26
theorem sc_check_often : FnScope ["value"] ["value"] (defScope s_check_often) := ⟨rfl, rfl, rfl, by decide +kernel, rfl, by decide +kernel, by decide +kernel⟩
abbrev s_is_sum : Stmt := topS 27
theorem sc_is_sum : FnScope ["value", "number"] ["value"] (defScope s_is_sum) := ⟨rfl, rfl, rfl, by decide +kernel, rfl, by decide +kernel, by decide +kernel⟩
abbrev s_check_sum : Stmt := topS 28
theorem sc_check_sum : FnScope ["value"] ["value"] (defScope s_check_sum) := ⟨rfl, rfl, rfl, by decide +kernel, rfl, by decide +kernel, by decide +kernel⟩
abbrev s_check_some_sum : Stmt := topS 29
theorem sc_check_some_sum : FnScope ["value"] ["value"] (defScope s_check_some_sum) := ⟨rfl, rfl, rfl, by decide +kernel, rfl, by decide +kernel, by decide +kernel⟩
abbrev s_common_of : Stmt := topS 30
theorem sc_common_of : FnScope ["one", "other"] ["one", "other"] (defScope s_common_of) := ⟨rfl, rfl, rfl, by decide +kernel, rfl, by decide +kernel, by decide +kernel⟩
abbrev s_combined_of : Stmt := topS 31
theorem sc_combined_of : FnScope ["one", "other", "left", "right", "first", "second", "times"] ["one", "other"] (defScope s_combined_of) := ⟨rfl, rfl, rfl, by decide +kernel, rfl, by decide +kernel, by decide +kernel⟩
abbrev s_back_of : Stmt := topS 32
theorem sc_back_of : FnScope ["number", "base"] ["number", "base"] (defScope s_back_of) := ⟨rfl, rfl, rfl, by decide +kernel, rfl, by decide +kernel, by decide +kernel⟩
abbrev s_power_by : Stmt := topS 33
theorem sc_power_by : FnScope ["number", "power", "base", "found", "here"] ["number", "power", "base"] (defScope s_power_by) := ⟨rfl, rfl, rfl, by decide +kernel, rfl, by decide +kernel, by decide +kernel⟩
abbrev s_raised : Stmt := topS 34
theorem sc_raised : FnScope ["number", "power", "found", "here"] ["number", "power"] (defScope s_raised) := ⟨rfl, rfl, rfl, by decide +kernel, rfl, by decide +kernel, by decide +kernel⟩
abbrev s_apart_of : Stmt := topS 35
theorem sc_apart_of : FnScope ["number", "found", "step", "often"] ["number"] (defScope s_apart_of) := ⟨rfl, rfl, rfl, by decide +kernel, rfl, by decide +kernel, by decide +kernel⟩
abbrev s_often_of : Stmt := topS 36
theorem sc_often_of : FnScope ["number", "prime", "found"] ["number", "prime"] (defScope s_often_of) := ⟨rfl, rfl, rfl, by decide +kernel, rfl, by decide +kernel, by decide +kernel⟩
abbrev s_check_open : Stmt := topS 38
theorem sc_check_open : FnScope ["number", "base"] ["number", "base"] (defScope s_check_open) := ⟨rfl, rfl, rfl, by decide +kernel, rfl, by decide +kernel, by decide +kernel⟩
abbrev s_check_power : Stmt := topS 39
theorem sc_check_power : FnScope ["power"] ["power"] (defScope s_check_power) := ⟨rfl, rfl, rfl, by decide +kernel, rfl, by decide +kernel, by decide +kernel⟩
abbrev s_power_rest : Stmt := topS 40
theorem sc_power_rest : FnScope ["number", "power", "base"] ["number", "power", "base"] (defScope s_power_rest) := ⟨rfl, rfl, rfl, by decide +kernel, rfl, by decide +kernel, by decide +kernel⟩
abbrev s_is_open : Stmt := topS 41
theorem sc_is_open : FnScope ["number", "base"] ["number", "base"] (defScope s_is_open) := ⟨rfl, rfl, rfl, by decide +kernel, rfl, by decide +kernel, by decide +kernel⟩
abbrev s_roots_by : Stmt := topS 42
theorem sc_roots_by : FnScope ["number", "power", "piece", "whole", "same"] ["number", "power", "piece", "whole"] (defScope s_roots_by) := ⟨rfl, rfl, rfl, by decide +kernel, rfl, by decide +kernel, by decide +kernel⟩
abbrev s_roots_in : Stmt := topS 43
theorem sc_roots_in : FnScope ["number", "power", "prime", "often", "whole"] ["number", "power", "prime", "often"] (defScope s_roots_in) := ⟨rfl, rfl, rfl, by decide +kernel, rfl, by decide +kernel, by decide +kernel⟩
abbrev s_count_roots_of : Stmt := topS 44
theorem sc_count_roots_of : FnScope ["number", "power", "base", "found", "prime", "often"] ["number", "power", "base"] (defScope s_count_roots_of) := ⟨rfl, rfl, rfl, by decide +kernel, rfl, by decide +kernel, by decide +kernel⟩
abbrev s_count_roots : Stmt := topS 45
theorem sc_count_roots : FnScope ["number", "power", "base"] ["number", "power", "base"] (defScope s_count_roots) := ⟨rfl, rfl, rfl, by decide +kernel, rfl, by decide +kernel, by decide +kernel⟩
abbrev s_roots : Stmt := topS 46
theorem sc_roots : FnScope ["number", "power", "base", "rest"] ["number", "power", "base"] (defScope s_roots) := ⟨rfl, rfl, rfl, by decide +kernel, rfl, by decide +kernel, by decide +kernel⟩
abbrev s_trimmed : Stmt := topS 48
theorem sc_trimmed : FnScope ["terms", "found"] ["terms"] (defScope s_trimmed) := ⟨rfl, rfl, rfl, by decide +kernel, rfl, by decide +kernel, by decide +kernel⟩
abbrev s_rest_of_value : Stmt := topS 49
theorem sc_rest_of_value : FnScope ["terms", "number", "base", "found", "term"] ["terms", "number", "base"] (defScope s_rest_of_value) := ⟨rfl, rfl, rfl, by decide +kernel, rfl, by decide +kernel, by decide +kernel⟩
abbrev s_slope_of : Stmt := topS 50
theorem sc_slope_of : FnScope ["terms", "index", "term"] ["terms"] (defScope s_slope_of) := ⟨rfl, rfl, rfl, by decide +kernel, rfl, by decide +kernel, by decide +kernel⟩
abbrev s_content_of : Stmt := topS 51
theorem sc_content_of : FnScope ["terms", "found", "term"] ["terms"] (defScope s_content_of) := ⟨rfl, rfl, rfl, by decide +kernel, rfl, by decide +kernel, by decide +kernel⟩
abbrev s_primitive : Stmt := topS 52
theorem sc_primitive : FnScope ["terms", "part", "term"] ["terms"] (defScope s_primitive) := ⟨rfl, rfl, rfl, by decide +kernel, rfl, by decide +kernel, by decide +kernel⟩
abbrev s_rest_behind : Stmt := topS 53
theorem sc_rest_behind : FnScope ["one", "other", "left", "top", "shift", "term", "index"] ["one", "other"] (defScope s_rest_behind) := ⟨rfl, rfl, rfl, by decide +kernel, rfl, by decide +kernel, by decide +kernel⟩
abbrev s_common_part : Stmt := topS 54
theorem sc_common_part : FnScope ["one", "other"] ["one", "other"] (defScope s_common_part) := ⟨rfl, rfl, rfl, by decide +kernel, rfl, by decide +kernel, by decide +kernel⟩
abbrev s_quotient : Stmt := topS 55
theorem sc_quotient : FnScope ["one", "other", "left", "found", "top", "shift", "index", "term"] ["one", "other"] (defScope s_quotient) := ⟨rfl, rfl, rfl, by decide +kernel, rfl, by decide +kernel, by decide +kernel⟩
abbrev s_manifold_parts : Stmt := topS 56
theorem sc_manifold_parts : FnScope ["terms", "whole", "found", "often", "rest", "simple", "again", "own"] ["terms"] (defScope s_manifold_parts) := ⟨rfl, rfl, rfl, by decide +kernel, rfl, by decide +kernel, by decide +kernel⟩
abbrev s_led_in : Stmt := topS 57
theorem sc_led_in : FnScope ["terms", "start", "step", "found", "term", "number", "later", "index"] ["terms", "start", "step"] (defScope s_led_in) := ⟨rfl, rfl, rfl, by decide +kernel, rfl, by decide +kernel, by decide +kernel⟩
abbrev s_freed : Stmt := topS 58
theorem sc_freed : FnScope ["terms", "prime", "often", "part", "term"] ["terms", "prime"] (defScope s_freed) := ⟨rfl, rfl, rfl, by decide +kernel, rfl, by decide +kernel, by decide +kernel⟩
abbrev s_lifted : Stmt := topS 59
theorem sc_lifted : FnScope ["terms", "prime", "often", "start", "here", "many", "found", "base"] ["terms", "prime", "often", "start"] (defScope s_lifted) := ⟨rfl, rfl, rfl, by decide +kernel, rfl, by decide +kernel, by decide +kernel⟩
abbrev s_back_to : Stmt := topS 60
theorem sc_back_to : FnScope ["number", "base", "left", "right", "first", "second", "times"] ["number", "base"] (defScope s_back_to) := ⟨rfl, rfl, rfl, by decide +kernel, rfl, by decide +kernel, by decide +kernel⟩
abbrev s_put_together : Stmt := topS 62
theorem sc_put_together : FnScope ["one", "other", "same", "steps", "whole"] ["one", "other"] (defScope s_put_together) := ⟨rfl, rfl, rfl, by decide +kernel, rfl, by decide +kernel, by decide +kernel⟩
abbrev s_zero_lots : Stmt := topS 64
theorem sc_zero_lots : FnScope ["terms", "prime", "often", "found", "ahead", "here", "left", "start", "depth", "some", "more", "term"] ["terms", "prime", "often"] (defScope s_zero_lots) := ⟨rfl, rfl, rfl, by decide +kernel, rfl, by decide +kernel, by decide +kernel⟩
abbrev s_lots_below : Stmt := topS 65
theorem sc_lots_below : FnScope ["terms", "prime", "often", "start", "depth", "free", "here", "slope", "found", "ahead", "worth", "rest", "base", "later", "term"] ["terms", "prime", "often", "start", "depth"] (defScope s_lots_below) := ⟨rfl, rfl, rfl, by decide +kernel, rfl, by decide +kernel, by decide +kernel⟩
abbrev s_count_for : Stmt := topS 66
theorem sc_count_for : FnScope ["terms", "prime", "often", "total", "rest", "depth"] ["terms", "prime", "often"] (defScope s_count_for) := ⟨rfl, rfl, rfl, by decide +kernel, rfl, by decide +kernel, by decide +kernel⟩
abbrev s_check_apart : Stmt := topS 67
theorem sc_check_apart : FnScope ["base", "found", "prime", "often"] ["base"] (defScope s_check_apart) := ⟨rfl, rfl, rfl, by decide +kernel, rfl, by decide +kernel, by decide +kernel⟩
abbrev s_list_for : Stmt := topS 68
theorem sc_list_for : FnScope ["terms", "prime", "often", "whole", "found", "rest", "depth"] ["terms", "prime", "often"] (defScope s_list_for) := ⟨rfl, rfl, rfl, by decide +kernel, rfl, by decide +kernel, by decide +kernel⟩
abbrev s_count_by : Stmt := topS 69
theorem sc_count_by : FnScope ["terms", "apart", "found", "prime", "often"] ["terms", "apart"] (defScope s_count_by) := ⟨rfl, rfl, rfl, by decide +kernel, rfl, by decide +kernel, by decide +kernel⟩
abbrev s_count_zeros : Stmt := topS 70
theorem sc_count_zeros : FnScope ["terms", "base"] ["terms", "base"] (defScope s_count_zeros) := ⟨rfl, rfl, rfl, by decide +kernel, rfl, by decide +kernel, by decide +kernel⟩
abbrev s_zeros_of : Stmt := topS 71
theorem sc_zeros_of : FnScope ["terms", "base", "apart", "found", "prime", "often", "whole", "own", "fact", "rest"] ["terms", "base"] (defScope s_zeros_of) := ⟨rfl, rfl, rfl, by decide +kernel, rfl, by decide +kernel, by decide +kernel⟩
abbrev s_zeros : Stmt := topS 72
theorem sc_zeros : FnScope ["terms", "base"] ["terms", "base"] (defScope s_zeros) := ⟨rfl, rfl, rfl, by decide +kernel, rfl, by decide +kernel, by decide +kernel⟩
abbrev s_Knot_init : Stmt := inClass (topS 74) 0
theorem sc_Knot_init : FnScope ["self", "parts", "origin", "depth"] ["self", "parts", "origin", "depth"] (defScope s_Knot_init) := ⟨rfl, rfl, rfl, by decide +kernel, rfl, by decide +kernel, by decide +kernel⟩
abbrev s_Knot_weight : Stmt := inClass (topS 74) 1
theorem sc_Knot_weight : FnScope ["self", "often", "free", "terms"] ["self"] (defScope s_Knot_weight) := ⟨rfl, rfl, rfl, by decide +kernel, rfl, by decide +kernel, by decide +kernel⟩
abbrev s_first_knot : Stmt := topS 75
theorem sc_first_knot : FnScope ["terms", "prime", "often", "own"] ["terms", "prime"] (defScope s_first_knot) := ⟨rfl, rfl, rfl, by decide +kernel, rfl, by decide +kernel, by decide +kernel⟩
abbrev s_knot_above : Stmt := topS 76
theorem sc_knot_above : FnScope ["knot", "prime", "rest", "parts", "often", "free", "terms", "more", "own"] ["knot", "prime", "rest"] (defScope s_knot_above) := ⟨rfl, rfl, rfl, by decide +kernel, rfl, by decide +kernel, by decide +kernel⟩
abbrev s_own_zeros : Stmt := topS 77
theorem sc_own_zeros : FnScope ["knot", "prime", "rest", "part"] ["knot", "prime", "rest"] (defScope s_own_zeros) := ⟨rfl, rfl, rfl, by decide +kernel, rfl, by decide +kernel, by decide +kernel⟩
abbrev s_Way_init : Stmt := inClass (topS 78) 0
theorem sc_Way_init : FnScope ["self", "knot", "part", "rest", "extra"] ["self", "knot", "part", "rest", "extra"] (defScope s_Way_init) := ⟨rfl, rfl, rfl, by decide +kernel, rfl, by decide +kernel, by decide +kernel⟩
abbrev s_Way_rest_by : Stmt := inClass (topS 78) 1
theorem sc_Way_rest_by : FnScope ["self", "prime", "often", "own"] ["self", "prime", "often"] (defScope s_Way_rest_by) := ⟨rfl, rfl, rfl, by decide +kernel, rfl, by decide +kernel, by decide +kernel⟩
abbrev s_Way_alone_from : Stmt := inClass (topS 78) 2
theorem sc_Way_alone_from : FnScope ["self"] ["self"] (defScope s_Way_alone_from) := ⟨rfl, rfl, rfl, by decide +kernel, rfl, by decide +kernel, by decide +kernel⟩
abbrev s_ways_and_bound : Stmt := topS 79
theorem sc_ways_and_bound : FnScope ["terms", "prime", "extra", "found", "bound", "ahead", "knot", "rest", "own"] ["terms", "prime"] (defScope s_ways_and_bound) := ⟨rfl, rfl, rfl, by decide +kernel, rfl, by decide +kernel, by decide +kernel⟩
abbrev s_told_count : Stmt := topS 80
theorem sc_told_count : FnScope ["pairs", "prime", "often", "total", "deep", "many", "power"] ["pairs", "prime", "often"] (defScope s_told_count) := ⟨rfl, rfl, rfl, by decide +kernel, rfl, by decide +kernel, by decide +kernel⟩
abbrev s_rule_of : Stmt := topS 81
theorem sc_rule_of : FnScope ["terms", "prime", "ways", "bound", "pairs", "way"] ["terms", "prime"] (defScope s_rule_of) := ⟨rfl, rfl, rfl, by decide +kernel, rfl, by decide +kernel, by decide +kernel⟩
abbrev s_check_at : Stmt := topS 82
theorem sc_check_at : FnScope ["terms", "prime"] ["terms", "prime"] (defScope s_check_at) := ⟨rfl, rfl, rfl, by decide +kernel, rfl, by decide +kernel, by decide +kernel⟩
abbrev s_endless : Stmt := topS 83
theorem sc_endless : FnScope ["terms", "prime", "often", "ways", "way"] ["terms", "prime", "often"] (defScope s_endless) := ⟨rfl, rfl, rfl, by decide +kernel, rfl, by decide +kernel, by decide +kernel⟩
abbrev s_has_all_powers : Stmt := topS 84
theorem sc_has_all_powers : FnScope ["terms", "prime"] ["terms", "prime"] (defScope s_has_all_powers) := ⟨rfl, rfl, rfl, by decide +kernel, rfl, by decide +kernel, by decide +kernel⟩
abbrev s_first_power_without : Stmt := topS 85
theorem sc_first_power_without : FnScope ["terms", "prime", "first", "pairs"] ["terms", "prime"] (defScope s_first_power_without) := ⟨rfl, rfl, rfl, by decide +kernel, rfl, by decide +kernel, by decide +kernel⟩
abbrev s_l_cup : Stmt := topS 87
theorem sc_l_cup : FnScope ["_law_script", "_law_k", "_law_cell", "_law_mixed", "_law_each"] ["_law_script", "_law_k"] (defScope s_l_cup) := ⟨rfl, rfl, rfl, by decide +kernel, rfl, by decide +kernel, by decide +kernel⟩
abbrev s_l_sip : Stmt := topS 88
theorem sc_l_sip : FnScope ["_law_cup_here", "_law_many", "_law_digit"] ["_law_cup_here", "_law_many"] (defScope s_l_sip) := ⟨rfl, rfl, rfl, by decide +kernel, rfl, by decide +kernel, by decide +kernel⟩
abbrev s_l_any : Stmt := topS 89
theorem sc_l_any : FnScope ["_law_cup_here", "_law_some"] ["_law_cup_here", "_law_some"] (defScope s_l_any) := ⟨rfl, rfl, rfl, by decide +kernel, rfl, by decide +kernel, by decide +kernel⟩
abbrev s_l_root_sum : Stmt := topS 90
theorem sc_l_root_sum : FnScope ["_law_many", "_law_x"] ["_law_many", "_law_x"] (defScope s_l_root_sum) := ⟨rfl, rfl, rfl, by decide +kernel, rfl, by decide +kernel, by decide +kernel⟩
abbrev s_l_roots_right : Stmt := topS 91
theorem sc_l_roots_right : FnScope ["_law_x", "_law_many", "_law_whole", "_law_due", "_law_each"] ["_law_x", "_law_many", "_law_whole"] (defScope s_l_roots_right) := ⟨rfl, rfl, rfl, by decide +kernel, rfl, by decide +kernel, by decide +kernel⟩
abbrev s_l_squares_right : Stmt := topS 92
theorem sc_l_squares_right : FnScope ["_law_x", "_law_p", "_law_coeffs", "_law_near", "_law_is_so", "_law_due", "_law_each"] ["_law_x", "_law_p"] (defScope s_l_squares_right) := ⟨rfl, rfl, rfl, by decide +kernel, rfl, by decide +kernel, by decide +kernel⟩
abbrev s_l_right : Stmt := topS 93
theorem sc_l_right : FnScope ["_law_cup_here", "_law_turn", "_law_x", "_law_many", "_law_whole"] ["_law_cup_here"] (defScope s_l_right) := ⟨rfl, rfl, rfl, by decide +kernel, rfl, by decide +kernel, by decide +kernel⟩
abbrev s_law : Stmt := topS 94
theorem sc_law : FnScope ["_law_script", "_law_k"] ["_law_script"] (defScope s_law) := ⟨rfl, rfl, rfl, by decide +kernel, rfl, by decide +kernel, by decide +kernel⟩

/-! ### defs, classes, methods: what stands where, and what they keep -/
section
variable {P : Program} {w : World} {K : PySem.W.Frag} {mg : Str → Option Value} {base : Heap}
/-- the def of that name stands behind the top -/
structure DefAt (K : PySem.W.Frag) (mg : Str → Option Value) (x : Str) (st : Stmt) : Prop where
  ex : ∃ f fd, mg x = some (.ref f) ∧ Fun K x x st f fd
/-- the def of that name keeps the promise -/
structure Ok (P : Program) (w : World) (K : PySem.W.Frag) (mg : Str → Option Value) (base : Heap) (k : Nat) (x : Str) (ps : List Str) (sp : Sp) : Prop where
  ex : ∃ f fd, mg x = some (.ref f) ∧ PySem.W.keepIn K (.ref f) = true ∧ Binds K fd ps [] ∧ FnOk P w K mg base CX0 k f fd ps sp
/-- how many are bound -/
abbrev BindsAs (x qual : Str) (st : Stmt) (ps : List Str) : Prop := ∀ (kV doc pm : Value) (an : Option Addr) (cdv ct : Value) (us : List Value), us.length = ps.length →
  bindArgs (PySem.W.fnOf x qual (defArgs st) (defBody st) (defScope st) .none kV doc pm an cdv ct) ⟨us, []⟩ = pure (ps.zip us)
/-- what a body's proof gives -/
abbrev BodyOk (P : Program) (w : World) (K : PySem.W.Frag) (mg : Str → Option Value) (base : Heap) (N : List Str) (qual : Str) (st : Stmt) (k : Nat) (sp : Sp) : Prop :=
  ∀ (f : Addr) (cdv : Value) (A : Around) (outer : List Env) (s : Shared) (H : Hp) (vs : List V) (Q : VK) (E : XK), Room k (A.deeper (envOfC qual (defScope st) s.heap.objs.size f cdv)) → sp vs H Q E →
    ∃ t, PSs (cxOf CX0 P w K mg base N qual (defScope st) f cdv A outer s H E).nox (defBody st) t ∧ t { nx := fun _ H' => Q .non H', rt := Q } (start N vs) H
theorem DefAt.ok {x : Str} {st : Stmt} {N ps : List Str} {k : Nat} {sp : Sp} (D : DefAt K mg x st) (S : FnScope N ps (defScope st)) (hb : BindsAs x x st ps) (len : ∀ vs H Q E, sp vs H Q E → vs.length = ps.length)
    (hbody : BodyOk P w K mg base N x st k sp) : Ok P w K mg base (k + 1) x ps sp := by
  obtain ⟨f, fd, m, F⟩ := D.ex
  exact ⟨f, fd, m, F.kp, F.binds hb, F.ok S len (hbody f)⟩
/-- a method of the class at C stands there -/
structure MethAt (K : PySem.W.Frag) (C : Addr) (m qual : Str) (st : Stmt) : Prop where
  ex : ∃ f fd, Meth K C m f ∧ Fun K m qual st f fd
structure MethOk (P : Program) (w : World) (K : PySem.W.Frag) (mg : Str → Option Value) (base : Heap) (k : Nat) (C : Addr) (m : Str) (ps : List Str) (sp : Sp) : Prop where
  ex : ∃ f fd, Meth K C m f ∧ Binds K fd ps [] ∧ FnOk P w K mg base CX0 k f fd ps sp
theorem MethAt.ok {C : Addr} {m qual : Str} {st : Stmt} {N ps : List Str} {k : Nat} {sp : Sp} (D : MethAt K C m qual st) (S : FnScope N ps (defScope st)) (hb : BindsAs m qual st ps) (len : ∀ vs H Q E, sp vs H Q E → vs.length = ps.length)
    (hbody : BodyOk P w K mg base N qual st k sp) : MethOk P w K mg base (k + 1) C m ps sp := by
  obtain ⟨f, fd, m, F⟩ := D.ex
  exact ⟨f, fd, m, F.binds hb, F.ok S len (hbody f)⟩
/-- the class x stands at C, with its __init__ -/
structure MkAt (K : PySem.W.Frag) (mg : Str → Option Value) (x : Str) (C : Addr) (qual : Str) (st : Stmt) : Prop where
  ex : ∃ f fd, mg x = some (.ref C) ∧ Mk K C f ∧ Fun K "__init__" qual st f fd
structure MkOk (P : Program) (w : World) (K : PySem.W.Frag) (mg : Str → Option Value) (base : Heap) (k : Nat) (x : Str) (C : Addr) (ps : List Str) (sp : Sp) : Prop where
  ex : ∃ f fd, mg x = some (.ref C) ∧ Mk K C f ∧ Binds K fd ps [] ∧ FnOk P w K mg base CX0 k f fd ps sp
theorem MkAt.ok {x : Str} {C : Addr} {qual : Str} {st : Stmt} {N ps : List Str} {k : Nat} {sp : Sp} (D : MkAt K mg x C qual st) (S : FnScope N ps (defScope st)) (hb : BindsAs "__init__" qual st ps) (len : ∀ vs H Q E, sp vs H Q E → vs.length = ps.length)
    (hbody : BodyOk P w K mg base N qual st k sp) : MkOk P w K mg base (k + 1) x C ps sp := by
  obtain ⟨f, fd, m, M, F⟩ := D.ex
  exact ⟨f, fd, m, M, F.binds hb, F.ok S len (hbody f)⟩
end
section
variable {X : Cx} {k : Nat} {x m : Str} {ps : List Str} {sp : Sp} {p pos apos : Pos} {e o : Expr} {es : List Expr} {ta : TE} {t : TA} {C : Addr}
theorem pe_ok (O : Ok X.prog X.w X.K X.mg X.base k x ps sp) (hr : Room k X.A) (hg : Gl X x) (ha : PA X (e :: es) t) (hdb : (x == ("__debug__" : Str)) = false := by decide)
    (he : starEach (e :: es) X.env = (false, eval e X.env) :: starEach es X.env := by rfl) (hpl : (backTo pos (starEach es X.env)).any (·.1) = false := by rfl) : PE X (.Call (.Name x p) (e :: es) [] pos) (tCall sp [] E0 t) := by
  obtain ⟨f, fd, hm, kp, b, F⟩ := O.ex
  exact pe_call F hr hg hm kp b .nil pass0 ha hdb he hpl
/-- how o.m(es) is run -/
abbrev MethEv (X : Cx) (o : Expr) (m : Str) (apos pos : Pos) (es : List Expr) (pl : Sem Bool) : Prop :=
  eval (.Call (.Attribute o m apos) es [] pos) X.env = (do let ov ← eval o X.env; standAt apos.atName; let (f, first) ← holding [ov] (getMethod ov m pl); callWith pos f first (backTo pos (starEach es X.env)) (backToKw pos (keywordEach [] X.env)))
theorem pe_methO {pl : Sem Bool} (he : PE X o ta) (c : Cls X.K C) (O : MethOk X.prog X.w X.K X.mg X.base k C m ps sp) (hr : Room k X.A) (ha : PA X (e :: es) t)
    (h1 : starEach (e :: es) X.env = (false, eval e X.env) :: starEach es X.env := by rfl) (h2 : (backTo pos (starEach es X.env)).any (·.1) = false := by rfl) (h3 : MethEv X o m apos pos (e :: es) pl := by rfl) :
    PE X (.Call (.Attribute o m apos) (e :: es) [] pos) (tMeth C m sp [] E0 ta t) := by
  obtain ⟨f, fd, hm, b, F⟩ := O.ex
  exact pe_meth (pl := pl) he c hm F hr b .nil pass0 ha h1 h2 h3
theorem pe_methO0 {pl : Sem Bool} (he : PE X o ta) (c : Cls X.K C) (O : MethOk X.prog X.w X.K X.mg X.base k C m ps sp) (hr : Room k X.A) (h3 : MethEv X o m apos pos [] pl := by rfl) :
    PE X (.Call (.Attribute o m apos) [] [] pos) (tMeth C m sp [] E0 ta tNil) := by
  obtain ⟨f, fd, hm, b, F⟩ := O.ex
  exact pe_meth0 (pl := pl) he c hm F hr b .nil pass0 h3
theorem pe_makeO (O : MkOk X.prog X.w X.K X.mg X.base k x C ps sp) (hr : Room (k + 1) X.A) (hg : Gl X x) (ha : PA X (e :: es) t) (hdb : (x == ("__debug__" : Str)) = false := by decide)
    (he : starEach (e :: es) X.env = (false, eval e X.env) :: starEach es X.env := by rfl) (hpl : (backTo pos (starEach es X.env)).any (·.1) = false := by rfl) : PE X (.Call (.Name x p) (e :: es) [] pos) (tMake C sp [] E0 t) := by
  obtain ⟨f, fd, hm, M, b, F⟩ := O.ex
  exact pe_make M F hr hg hm b .nil pass0 ha hdb he hpl
/-- a constant of the module -/
theorem pe_cst {i : Int} (hg : Gl X x) (h : ∃ t, X.mg x = some (.int i t)) (hd : (x == ("__debug__" : Str)) = false := by decide) : PE X (.Name x pos) (tC (.int i)) := by
  obtain ⟨t, h⟩ := h
  exact pe_glob hg h ⟨t, rfl⟩ hd
end
/-! ### heaps -/
theorem same_upd {H : Hp} {p : Addr} {o : HO} (h : H p = none) : Same H (upd H p o) := fun b x e => by
  rw [upd_ne (ne_of_none e h)]
  exact e
theorem _root_.L2.Same.lay {H H1 : Hp} {p : Addr} {o : HO} (s : Same H H1) (h : H1 p = none) : Same H (upd H1 p o) := s.trans (same_upd h)
theorem _root_.L2.Same.wr {H H1 : Hp} {p : Addr} {o : HO} (s : Same H H1) (h : H p = none) : Same H (upd H1 p o) := fun b x e => by
  rw [upd_ne (ne_of_none e h)]
  exact s b x e
theorem _root_.L2.Same.tup {K : PySem.W.Frag} {H H' : Hp} {a : Addr} {xs : List V} (e : Same H H') (h : SqT K H a xs) : SqT K H' a xs := by
  rcases h with (h | ⟨o, h⟩) | h
  · exact .inl (.inl (e _ _ h))
  · exact .inl (.inr ⟨o, e _ _ h⟩)
  · exact .inr h
/-! ### truth values whose worth is known -/
theorem bT {p : Prop} [Decidable p] {Q : VK} {H : Hp} (h : p) (q : Q (.bl true) H) : Q (.bl (decide p)) H := by
  rw [decide_eq_true h]
  exact q
theorem bF {p : Prop} [Decidable p] {Q : VK} {H : Hp} (h : ¬ p) (q : Q (.bl false) H) : Q (.bl (decide p)) H := by
  rw [decide_eq_false h]
  exact q
theorem bNT {p : Prop} [Decidable p] {Q : VK} {H : Hp} (h : ¬ p) (q : Q (.bl true) H) : Q (.bl (!decide p)) H := by
  rw [decide_eq_false h]
  exact q
theorem bNF {p : Prop} [Decidable p] {Q : VK} {H : Hp} (h : p) (q : Q (.bl false) H) : Q (.bl (!decide p)) H := by
  rw [decide_eq_true h]
  exact q
theorem itD {p A B : Prop} [Decidable p] (h : p) (a : A) : if decide p = true then A else B := by
  rw [if_pos (decide_eq_true h)]
  exact a
theorem itDF {p A B : Prop} [Decidable p] (h : ¬ p) (b : B) : if decide p = true then A else B := by
  rw [if_neg (by rw [decide_eq_false h]; exact Bool.false_ne_true)]
  exact b
theorem it2 {p A B : Prop} [Decidable p] (h1 : p → A) (h2 : ¬ p → B) : if decide p = true then A else B := by
  by_cases h : p
  · exact itD h (h1 h)
  · exact itDF h (h2 h)
theorem itN2 {p A B : Prop} [Decidable p] (h1 : ¬ p → A) (h2 : p → B) : if (!decide p) = true then A else B := by
  by_cases h : p
  · rw [decide_eq_true h]
    exact iteF (h2 h)
  · rw [decide_eq_false h]
    exact iteT (h1 h)
theorem decV {i j : Int} : decide (V.int i = V.int j) = decide (i = j) := by
  by_cases h : i = j
  · rw [decide_eq_true h, decide_eq_true (by rw [h])]
  · rw [decide_eq_false h, decide_eq_false (fun e => h (V.int.inj e))]
theorem itV2 {i j : Int} {A B : Prop} (h1 : i = j → A) (h2 : i ≠ j → B) : if decide (V.int i = V.int j) = true then A else B := by
  rw [decV]
  exact it2 h1 h2
theorem itNV2 {i j : Int} {A B : Prop} (h1 : i ≠ j → A) (h2 : i = j → B) : if (!decide (V.int i = V.int j)) = true then A else B := by
  rw [decV]
  exact itN2 h1 h2
/-! ### operators that the layer lacks -/
section
variable {X : Cx}
/-- o[i], by values, of a list: for o[i] op= e -/
theorem pget_list : PGet X (rIxL X.K) := by
  intro pins s σ H o i ov iv Q I ro ri h
  obtain ⟨p, xs, k, z, rfl, rfl, hq, he, q⟩ := h
  cases ro
  obtain ⟨tk, rfl⟩ := ri
  obtain ⟨its, r, pl, hz⟩ := I.list hq
  obtain ⟨j, h1, h2, h3, h4, h5⟩ := atI_get he
  obtain ⟨u, eu, ru⟩ := r.get h2
  have hl := r.length
  have hn := line63
  have fin : EP X pins σ Q u s := ⟨z, H, I, ru, q⟩
  by_cases h0 : 0 ≤ k
  · have hj : k.toNat = j := Option.some.inj ((seqIndex_of h0 h5).symm.trans h1)
    exact wpAny_getItem_list pl.isList h0 (by omega) (by rw [hj]; simpa using eu) fin
  · have hj : (k + (its.toArray.size : Int)).toNat = j := by
      rw [List.size_toArray, ← hl]
      exact Option.some.inj ((seqIndex_neg (by omega) h4).symm.trans h1)
    exact wpAny_getItem_list_neg pl.isList (by omega) (by rw [List.size_toArray] <;> omega) (by omega) (by rw [hj]; simpa using eu) fin
/-- a list beside the empty one, whatever its items are -/
def rEqNil (K : PySem.W.Frag) (neg : Bool) : R2 := fun x y H Q => ∃ (a b : Addr) (xs : List V), x = .ref a ∧ y = .ref b ∧ SqL K H a xs ∧ SqL K H b [] ∧ Q (.bl (if neg then !xs.isEmpty else xs.isEmpty)) H
theorem op_eqNil (hu : X.A.units < cLine) : OpR X (compareOp .Eq) (rEqNil X.K false) := by
  intro pins s σ H x y v u Q I rx ry h
  obtain ⟨a, b, xs, rfl, rfl, ha, hb, q⟩ := h
  cases rx
  cases ry
  obtain ⟨its, r, pl, _⟩ := I.list ha
  obtain ⟨jts, r2, pl2, _⟩ := I.list hb
  cases r2
  cases xs with
  | nil =>
    cases r
    exact SeqAt.eq_listAt (e := fun _ => true) pl.isList pl2.isList rfl hu (fun j h1 h2 => absurd h1 (by simp)) ⟨.bl true, H, I, rfl, q⟩
  | cons z zs =>
    cases r with
    | cons r1 r2 => exact SeqAt.eq_list_lengthsAt pl.isList pl2.isList (by simp) hu ⟨.bl false, H, I, rfl, q⟩
theorem op_neNil (hu : X.A.units < cLine) : OpR X (compareOp .NotEq) (rEqNil X.K true) := by
  intro pins s σ H x y v u Q I rx ry h
  obtain ⟨a, b, xs, rfl, rfl, ha, hb, q⟩ := h
  cases rx
  cases ry
  obtain ⟨its, r, pl, _⟩ := I.list ha
  obtain ⟨jts, r2, pl2, _⟩ := I.list hb
  cases r2
  cases xs with
  | nil =>
    cases r
    exact SeqAt.RcNeAt.lists (e := fun _ => true) pl.isList pl2.isList rfl hu (fun j h1 h2 => absurd h1 (by simp)) _ _ _ _ ⟨.bl false, H, I, rfl, q⟩
  | cons z zs =>
    cases r with
    | cons r1 r2 => exact SeqAt.RcNeAt.lists_lengths pl.isList pl2.isList (by simp) hu _ _ _ _ ⟨.bl true, H, I, rfl, q⟩
end
/-- what the walk asks of the text as the top has made it -/
structure Txt (K : PySem.W.Frag) (mg : Str → Option Value) (CK CW : Addr) : Prop where
  d_is_integer : DefAt K mg "is_integer" s_is_integer
  d_is_between : DefAt K mg "is_between" s_is_between
  d_check_between : DefAt K mg "check_between" s_check_between
  d_check_number : DefAt K mg "check_number" s_check_number
  d_check_base : DefAt K mg "check_base" s_check_base
  d_is_small_prime : DefAt K mg "is_small_prime" s_is_small_prime
  d_check_prime : DefAt K mg "check_prime" s_check_prime
  d_check_often : DefAt K mg "check_often" s_check_often
  d_is_sum : DefAt K mg "is_sum" s_is_sum
  d_check_sum : DefAt K mg "check_sum" s_check_sum
  d_check_some_sum : DefAt K mg "check_some_sum" s_check_some_sum
  d_common_of : DefAt K mg "common_of" s_common_of
  d_combined_of : DefAt K mg "combined_of" s_combined_of
  d_back_of : DefAt K mg "back_of" s_back_of
  d_power_by : DefAt K mg "power_by" s_power_by
  d_raised : DefAt K mg "raised" s_raised
  d_apart_of : DefAt K mg "apart_of" s_apart_of
  d_often_of : DefAt K mg "often_of" s_often_of
  d_check_open : DefAt K mg "check_open" s_check_open
  d_check_power : DefAt K mg "check_power" s_check_power
  d_power_rest : DefAt K mg "power_rest" s_power_rest
  d_is_open : DefAt K mg "is_open" s_is_open
  d_roots_by : DefAt K mg "roots_by" s_roots_by
  d_roots_in : DefAt K mg "roots_in" s_roots_in
  d_count_roots_of : DefAt K mg "count_roots_of" s_count_roots_of
  d_count_roots : DefAt K mg "count_roots" s_count_roots
  d_roots : DefAt K mg "roots" s_roots
  d_trimmed : DefAt K mg "trimmed" s_trimmed
  d_rest_of_value : DefAt K mg "rest_of_value" s_rest_of_value
  d_slope_of : DefAt K mg "slope_of" s_slope_of
  d_content_of : DefAt K mg "content_of" s_content_of
  d_primitive : DefAt K mg "primitive" s_primitive
  d_rest_behind : DefAt K mg "rest_behind" s_rest_behind
  d_common_part : DefAt K mg "common_part" s_common_part
  d_quotient : DefAt K mg "quotient" s_quotient
  d_manifold_parts : DefAt K mg "manifold_parts" s_manifold_parts
  d_led_in : DefAt K mg "led_in" s_led_in
  d_freed : DefAt K mg "freed" s_freed
  d_lifted : DefAt K mg "lifted" s_lifted
  d_back_to : DefAt K mg "back_to" s_back_to
  d_put_together : DefAt K mg "put_together" s_put_together
  d_zero_lots : DefAt K mg "zero_lots" s_zero_lots
  d_lots_below : DefAt K mg "lots_below" s_lots_below
  d_count_for : DefAt K mg "count_for" s_count_for
  d_check_apart : DefAt K mg "check_apart" s_check_apart
  d_list_for : DefAt K mg "list_for" s_list_for
  d_count_by : DefAt K mg "count_by" s_count_by
  d_count_zeros : DefAt K mg "count_zeros" s_count_zeros
  d_zeros_of : DefAt K mg "zeros_of" s_zeros_of
  d_zeros : DefAt K mg "zeros" s_zeros
  d_first_knot : DefAt K mg "first_knot" s_first_knot
  d_knot_above : DefAt K mg "knot_above" s_knot_above
  d_own_zeros : DefAt K mg "own_zeros" s_own_zeros
  d_ways_and_bound : DefAt K mg "ways_and_bound" s_ways_and_bound
  d_told_count : DefAt K mg "told_count" s_told_count
  d_rule_of : DefAt K mg "rule_of" s_rule_of
  d_check_at : DefAt K mg "check_at" s_check_at
  d_endless : DefAt K mg "endless" s_endless
  d_has_all_powers : DefAt K mg "has_all_powers" s_has_all_powers
  d_first_power_without : DefAt K mg "first_power_without" s_first_power_without
  d_l_cup : DefAt K mg "_law_cup" s_l_cup
  d_l_sip : DefAt K mg "_law_sip" s_l_sip
  d_l_any : DefAt K mg "_law_any" s_l_any
  d_l_root_sum : DefAt K mg "_law_root_sum" s_l_root_sum
  d_l_roots_right : DefAt K mg "_law_roots_right" s_l_roots_right
  d_l_squares_right : DefAt K mg "_law_squares_right" s_l_squares_right
  d_l_right : DefAt K mg "_law_right" s_l_right
  b_len : mg "len" = none
  b_abs : mg "abs" = none
  b_isinstance : mg "isinstance" = none
  b_all : mg "all" = none
  b_min : mg "min" = none
  b_max : mg "max" = none
  b_sum : mg "sum" = none
  b_sorted : mg "sorted" = none
  b_list : mg "list" = none
  b_tuple : mg "tuple" = none
  b_range : mg "range" = none
  b_enumerate : mg "enumerate" = none
  b_int : mg "int" = none
  b_bool : mg "bool" = none
  b_divmod : mg "divmod" = none
  b_repr : mg "repr" = none
  c_MOST_NUMBER : ∃ t, mg "MOST_NUMBER" = some (.int 10000000000000000000000000000000000000000 t)
  c_MOST_FACT : ∃ t, mg "MOST_FACT" = some (.int 1000000000000000000000000000000 t)
  c_MOST_BASE : ∃ t, mg "MOST_BASE" = some (.int 1000000000000 t)
  c_MOST_DEGREE : ∃ t, mg "MOST_DEGREE" = some (.int 12 t)
  c_MOST_PRIME : ∃ t, mg "MOST_PRIME" = some (.int 1000 t)
  c_MOST_OFTEN : ∃ t, mg "MOST_OFTEN" = some (.int 1000 t)
  c_MOST_WALKED : ∃ t, mg "MOST_WALKED" = some (.int 5000 t)
  c_MOST_LISTED : ∃ t, mg "MOST_LISTED" = some (.int 5000 t)
  c_MOST_COEFFICIENT : ∃ t, mg "MOST_COEFFICIENT" = some (.int 1000000000000 t)
  kmk : MkAt K mg "Knot" CK "Knot.__init__" s_Knot_init
  kcl : Cls K CK
  k_parts : NoAttr K CK "parts"
  k_origin : NoAttr K CK "origin"
  k_depth : NoAttr K CK "depth"
  kweight : MethAt K CK "weight" "Knot.weight" s_Knot_weight
  wmk : MkAt K mg "Way" CW "Way.__init__" s_Way_init
  wcl : Cls K CW
  w_knot : NoAttr K CW "knot"
  w_part : NoAttr K CW "part"
  w_rest : NoAttr K CW "rest"
  w_often : NoAttr K CW "often"
  w_deep : NoAttr K CW "deep"
  wrest_by : MethAt K CW "rest_by" "Way.rest_by" s_Way_rest_by
  walone_from : MethAt K CW "alone_from" "Way.alone_from" s_Way_alone_from

end RW

/-! plain mathematics: greatest common divisors, powers, the parts of a number -/
namespace RW
/-! ### gcd -/
theorem absI (i : Int) : (if i < 0 then -i else i) = (i.natAbs : Int) := by
  split <;> omega
theorem gcd_step (x y : Nat) (h : 0 < y) : Nat.gcd y (x % y) = Nat.gcd x y := by
  rw [Nat.gcd_comm y, Nat.gcd_comm x, Nat.gcd_rec y x]
theorem gcd_emod (n b : Int) (hb : 0 < b) : Int.gcd (n % b) b = Int.gcd n b := by
  apply Nat.dvd_antisymm
  · apply Int.dvd_gcd
    · have h1 : ((Int.gcd (n % b) b : Nat) : Int) ∣ n % b := Int.gcd_dvd_left ..
      have h2 : ((Int.gcd (n % b) b : Nat) : Int) ∣ b := Int.gcd_dvd_right ..
      have h3 := Int.mul_ediv_add_emod n b
      have h5 := Int.dvd_add (Int.dvd_trans h2 (Int.dvd_mul_right b (n / b))) h1
      rw [h3] at h5
      exact h5
    · exact Int.gcd_dvd_right ..
  · apply Int.dvd_gcd
    · have h1 : ((Int.gcd n b : Nat) : Int) ∣ n := Int.gcd_dvd_left ..
      have h2 : ((Int.gcd n b : Nat) : Int) ∣ b := Int.gcd_dvd_right ..
      have h3 := Int.mul_ediv_add_emod n b
      have h4 : n % b = n - b * (n / b) := by omega
      rw [h4]
      exact Int.dvd_sub h1 (Int.dvd_trans h2 (Int.dvd_mul_right ..))
    · exact Int.gcd_dvd_right ..
/-! ### powers -/
theorem mul_emod_l (a b n : Int) : (a % n * b) % n = (a * b) % n := by
  rw [Int.mul_emod, Int.emod_emod, ← Int.mul_emod]
theorem mul_emod_r (a b n : Int) : (a * (b % n)) % n = (a * b) % n := by
  rw [Int.mul_emod, Int.emod_emod, ← Int.mul_emod]
theorem pow_emod (a n : Int) (k : Nat) : (a % n) ^ k % n = a ^ k % n := by
  induction k with
  | zero => rw [Int.pow_zero, Int.pow_zero]
  | succ k ih =>
    rw [Int.pow_succ, Int.pow_succ, Int.mul_emod, ih, Int.emod_emod, ← Int.mul_emod]
theorem pow_half (a : Int) (p : Nat) : a ^ p = (a * a) ^ (p / 2) * a ^ (p % 2) := by
  have h : p = 2 * (p / 2) + p % 2 := by omega
  have h2 : (a * a) ^ (p / 2) = a ^ (2 * (p / 2)) := by
    rw [Int.pow_mul]
    congr 1
    rw [Int.pow_succ, Int.pow_succ, Int.pow_zero, Int.one_mul]
  rw [h2, ← Int.pow_add]
  congr 1
theorem one_le_pow {a : Int} (h : 1 ≤ a) (k : Nat) : 1 ≤ a ^ k := by
  induction k with
  | zero => simp
  | succ k ih =>
    rw [Int.pow_succ]
    have : 1 * 1 ≤ a ^ k * a := Int.mul_le_mul ih h (by omega) (by omega)
    omega
theorem le_mul_l {a b : Int} (ha : 1 ≤ a) (hb : 1 ≤ b) : a ≤ a * b := by
  have : a * 1 ≤ a * b := Int.mul_le_mul_of_nonneg_left hb (by omega)
  omega
theorem le_mul_r {a b : Int} (ha : 1 ≤ a) (hb : 1 ≤ b) : b ≤ a * b := by
  rw [Int.mul_comm]
  exact le_mul_l hb ha
theorem le_pow_self {a : Int} (ha : 1 ≤ a) {k : Nat} (hk : 0 < k) : a ≤ a ^ k := by
  obtain ⟨j, rfl⟩ : ∃ j, k = j + 1 := ⟨k - 1, by omega⟩
  rw [Int.pow_succ]
  exact le_mul_r (one_le_pow ha j) ha
/-- one turn of the squaring loop, odd -/
theorem pow_turn_odd (f a : Int) (p : Nat) (h : p % 2 = 1) : f * a ^ p = (f * a) * (a * a) ^ (p / 2) := by
  have e := pow_half a p
  rw [h, Int.pow_succ, Int.pow_zero, Int.one_mul] at e
  rw [e, Int.mul_assoc f a, Int.mul_comm a ((a * a) ^ (p / 2))]
theorem pow_turn_even (f a : Int) (p : Nat) (h : p % 2 = 0) : f * a ^ p = f * (a * a) ^ (p / 2) := by
  have e := pow_half a p
  rw [h, Int.pow_zero, Int.mul_one] at e
  rw [e]
/-! ### the parts of a number -/
/-- the inner loop: a number and how often a step went out of it -/
def divOut : Nat → Nat → Nat → Nat → Option (Nat × Nat)
  | 0, _, _, _ => none
  | f + 1, n, s, o => if n % s = 0 then divOut f (n / s) s (o + 1) else some (n, o)
def apartGo : Nat → Nat → Nat → List (Nat × Nat) → Option (List (Nat × Nat))
  | 0, _, _, _ => none
  | f + 1, n, s, acc => if s * s ≤ n then
      match divOut 20 n s 0 with
      | none => none
      | some (m, o) => apartGo f m (if s = 2 then 3 else s + 2) (if 0 < o then acc ++ [(s, o)] else acc)
    else some (if 1 < n then acc ++ [(n, 1)] else acc)
/-- a number's primes, each with how often it divides -/
def apart (n : Nat) : Option (List (Nat × Nat)) := apartGo 20 n 2 []
end RW

set_option maxHeartbeats 4000000
namespace RW
open PySem PySem.Spec PyProof.Rows L2
section
variable {P : Program} {w : World} {K : PySem.W.Frag} {mg : Str → Option Value} {base : Heap} {CK CW : Addr}
/-! ### checks -/
def sp_is_integer : Sp := fun vs H Q _ => ∃ i : Int, vs = [.int i] ∧ Q (.bl true) H
def sp_is_between : Sp := fun vs H Q _ => ∃ i a b : Int, vs = [.int i, .int a, .int b] ∧ a ≤ i ∧ i ≤ b ∧ Q (.bl true) H
def sp_check_between : Sp := fun vs H Q _ => ∃ i a b : Int, vs = [.int i, .int a, .int b] ∧ a ≤ i ∧ i ≤ b ∧ Q .non H
def sp_check_number : Sp := fun vs H Q _ => ∃ i : Int, vs = [.int i] ∧ -1000000 ≤ i ∧ i ≤ 1000000 ∧ Q .non H
def sp_check_base : Sp := fun vs H Q _ => ∃ i : Int, vs = [.int i] ∧ 1 ≤ i ∧ i ≤ 1000000 ∧ Q .non H
def sp_check_often : Sp := fun vs H Q _ => ∃ i : Int, vs = [.int i] ∧ 0 ≤ i ∧ i ≤ 1000 ∧ Q .non H
theorem ok_is_integer (T : Txt K mg CK CW) : Ok P w K mg base 1 "is_integer" ["value"] sp_is_integer := by
  refine T.d_is_integer.ok (k := 0) sc_is_integer (fun _ _ _ _ _ _ us hl => match us, hl with | [_], _ => rfl) (fun vs H Q E h => ?_) (fun f cdv A outer s H vs Q E hr h => ?_)
  · obtain ⟨_, rfl, _⟩ := h
    rfl
  · obtain ⟨i, rfl, q⟩ := h
    refine ⟨_, (pss_one (ps_ret (pe_and (pe_callB call_isi (by rfl) T.b_isinstance (by decide +kernel) (pa_cons (pv 0) (pa_cons (pe_bltn (v := .ty "int") (by rfl) T.b_int boot_int rfl) pa_nil))) (pe_one (pe_not (pe_callB call_isi (by rfl) T.b_isinstance (by decide +kernel) (pa_cons (pv 0) (pa_cons (pe_bltn (v := .ty "bool") (by rfl) T.b_bool boot_bool rfl) pa_nil)))))))), ?_⟩
    refine ⟨_, rfl, _, _, _, _, _, rfl, .ty _, .base (.int i), kit_ty (by decide +kernel), true, rfl, iteT ?_⟩
    exact ⟨_, rfl, _, _, _, _, _, rfl, .ty _, .base (.int i), kit_ty (by decide +kernel), false, rfl, q⟩
theorem ok_is_between (T : Txt K mg CK CW) : Ok P w K mg base 2 "is_between" ["value", "least", "most"] sp_is_between := by
  refine T.d_is_between.ok (k := 1) sc_is_between (fun _ _ _ _ _ _ us hl => match us, hl with | [_, _, _], _ => rfl) (fun vs H Q E h => ?_) (fun f cdv A outer s H vs Q E hr h => ?_)
  · obtain ⟨_, _, _, rfl, _⟩ := h
    rfl
  · obtain ⟨i, a, b, rfl, h1, h2, q⟩ := h
    refine ⟨_, (pss_one (ps_ret (pe_and (pe_ok (ok_is_integer T) (hr.mono (by decide)) (by rfl) (pa_cons (pv 0) pa_nil)) (pe_one (pe_chain op_le op_le (pv 1) (pv 0) (pv 2)))))), ?_⟩
    refine ⟨_, rfl, i, rfl, true, rfl, iteT ?_⟩
    refine ⟨_, rfl, _, rfl, _, _, rfl, rfl, _, rfl, itD h1 ⟨_, rfl, _, _, rfl, rfl, bT (Q := Q) h2 q⟩⟩
theorem ok_check_between (T : Txt K mg CK CW) : Ok P w K mg base 3 "check_between" ["value", "least", "most"] sp_check_between := by
  refine T.d_check_between.ok (k := 2) sc_check_between (fun _ _ _ _ _ _ us hl => match us, hl with | [_, _, _], _ => rfl) (fun vs H Q E h => ?_) (fun f cdv A outer s H vs Q E hr h => ?_)
  · obtain ⟨_, _, _, rfl, _⟩ := h
    rfl
  · obtain ⟨i, a, b, rfl, h1, h2, q⟩ := h
    refine ⟨_, (pss_one (ps_if (pt_not (pt_val (pe_ok (ok_is_between T) (hr.mono (by decide)) (by rfl) (pa_cons (pv 0) (pa_cons (pv 1) (pa_cons (pv 2) pa_nil)))))) (pss_one ps_never) pss_nil)), ?_⟩
    exact ⟨_, rfl, _, rfl, _, rfl, i, a, b, rfl, h1, h2, true, rfl, iteF q⟩
theorem ok_check_number (T : Txt K mg CK CW) : Ok P w K mg base 4 "check_number" ["value"] sp_check_number := by
  refine T.d_check_number.ok (k := 3) sc_check_number (fun _ _ _ _ _ _ us hl => match us, hl with | [_], _ => rfl) (fun vs H Q E h => ?_) (fun f cdv A outer s H vs Q E hr h => ?_)
  · obtain ⟨_, rfl, _⟩ := h
    rfl
  · obtain ⟨i, rfl, h1, h2, q⟩ := h
    refine ⟨_, (pss_one (ps_expr (pe_ok (ok_check_between T) (hr.mono (by decide)) (by rfl) (pa_cons (pv 0) (pa_cons (pe_un un_neg (pe_cst (by rfl) T.c_MOST_NUMBER)) (pa_cons (pe_cst (by rfl) T.c_MOST_NUMBER) pa_nil)))))), ?_⟩
    exact ⟨_, rfl, _, rfl, i, _, _, rfl, by omega, by omega, q⟩
theorem ok_check_base (T : Txt K mg CK CW) : Ok P w K mg base 4 "check_base" ["value"] sp_check_base := by
  refine T.d_check_base.ok (k := 3) sc_check_base (fun _ _ _ _ _ _ us hl => match us, hl with | [_], _ => rfl) (fun vs H Q E h => ?_) (fun f cdv A outer s H vs Q E hr h => ?_)
  · obtain ⟨_, rfl, _⟩ := h
    rfl
  · obtain ⟨i, rfl, h1, h2, q⟩ := h
    refine ⟨_, (pss_one (ps_expr (pe_ok (ok_check_between T) (hr.mono (by decide)) (by rfl) (pa_cons (pv 0) (pa_cons pe_int (pa_cons (pe_cst (by rfl) T.c_MOST_BASE) pa_nil)))))), ?_⟩
    exact ⟨_, rfl, i, _, _, rfl, by omega, by omega, q⟩
theorem ok_check_often (T : Txt K mg CK CW) : Ok P w K mg base 4 "check_often" ["value"] sp_check_often := by
  refine T.d_check_often.ok (k := 3) sc_check_often (fun _ _ _ _ _ _ us hl => match us, hl with | [_], _ => rfl) (fun vs H Q E h => ?_) (fun f cdv A outer s H vs Q E hr h => ?_)
  · obtain ⟨_, rfl, _⟩ := h
    rfl
  · obtain ⟨i, rfl, h1, h2, q⟩ := h
    refine ⟨_, (pss_one (ps_expr (pe_ok (ok_check_between T) (hr.mono (by decide)) (by rfl) (pa_cons (pv 0) (pa_cons pe_int (pa_cons (pe_cst (by rfl) T.c_MOST_OFTEN) pa_nil)))))), ?_⟩
    exact ⟨_, rfl, i, _, _, rfl, by omega, by omega, q⟩
/-! ### primes, sums -/
def sp_is_small_prime : Sp := fun vs H Q _ => ∃ p : Int, vs = [.int p] ∧ 2 ≤ p ∧ p ≤ 1000 ∧ (∀ s : Int, 2 ≤ s → s < 32 → s < p → p % s ≠ 0) ∧ ∀ H', Same H H' → Q (.bl true) H'
def sp_check_prime : Sp := fun vs H Q _ => ∃ p : Int, vs = [.int p] ∧ 2 ≤ p ∧ p ≤ 1000 ∧ (∀ s : Int, 2 ≤ s → s < 32 → s < p → p % s ≠ 0) ∧ ∀ H', Same H H' → Q .non H'
/-- what a sum is, as far as it is met here -/
def SumOk (zs : List Int) : Prop := 2 ≤ zs.length ∧ zs.length ≤ 13 ∧ (∀ z ∈ zs, -1000000 ≤ z ∧ z ≤ 1000000) ∧ ∃ z, zs.getLast? = some z ∧ z ≠ 0
def sp_is_sum (_K : PySem.W.Frag) : Sp := fun vs H Q _ => ∃ (a : Addr) (zs : List Int), vs = [.ref a] ∧ H a = some (.tup (zs.map V.int)) ∧ SumOk zs ∧ ∀ H', Same H H' → Q (.bl true) H'
def sp_check_sum (_K : PySem.W.Frag) : Sp := fun vs H Q _ => ∃ (a : Addr) (zs : List Int), vs = [.ref a] ∧ H a = some (.tup (zs.map V.int)) ∧ SumOk zs ∧ ∀ H', Same H H' → Q .non H'
abbrev sp_check_some_sum := sp_check_sum
/-- a new list of truths, all true -/
theorem lcTrue {xs : List V} (h : ∀ x ∈ xs, x = V.bl true) : ∃ bs : List Bool, xs = bs.map V.bl ∧ bs.all id = true := by
  refine ⟨xs.map fun _ => true, ?_, ?_⟩
  · rw [List.map_map]
    conv => lhs; rw [← List.map_id xs]
    exact List.map_congr_left fun x hx => h x hx
  · simp
theorem ok_is_small_prime (T : Txt K mg CK CW) : Ok P w K mg base 3 "is_small_prime" ["value"] sp_is_small_prime := by
  refine T.d_is_small_prime.ok (k := 2) sc_is_small_prime (fun _ _ _ _ _ _ us hl => match us, hl with | [_], _ => rfl) (fun vs H Q E h => ?_) (fun f cdv A outer s H vs Q E hr h => ?_)
  · obtain ⟨_, rfl, _⟩ := h
    rfl
  · obtain ⟨p, rfl, h1, h2, h3, q⟩ := h
    refine ⟨_, (pss_cons (ps_if (pt_not (pt_val (pe_ok (ok_is_between T) (hr.mono (by decide)) (by rfl) (pa_cons (pv 0) (pa_cons pe_int (pa_cons (pe_cst (by rfl) T.c_MOST_PRIME) pa_nil)))))) (pss_one (ps_ret pe_bl)) pss_nil)
      (pss_one (ps_ret (pe_callB (cr_all rfl) (by rfl) T.b_all (by decide +kernel) (pa_cons (pe_lc (own := [("step", 1)]) (g := gName 1) rfl sc_is_small_prime.nd (pi_range2 (by rfl) T.b_range (pa_cons pe_int (pa_cons pe_int pa_nil))) (blkOk_by (own := [("step", 1)]) (N := ["value", "step"]) (sc := defScope s_is_small_prime) (by decide +kernel)) (fun _ _ _ _ _ => (pg_name (i := 1) sc_is_small_prime.nd rfl (.inl rfl))) (fun _ _ _ _ _ => (pts_one (pt_cmpR op_lt (pv 1) (pv 0) (nomark _)))) (fun _ _ _ _ _ => (pe_cmpR op_ne (pe_op op_mod (pv 0) (pv 1)) pe_int (nomark _)))) pa_nil))))), ?_⟩
    refine ⟨_, rfl, p, _, _, rfl, h1, h2, true, rfl, iteF ?_⟩
    refine ⟨2, 32, rfl, by decide, fun D hD => lc_range (lo := 2) (n := 30) (fun i H' => Same H H' ∧ H D = none ∧ ∃ acc, H' D = some (.lst acc) ∧ acc.length ≤ i ∧ ∀ x ∈ acc, x = V.bl true) ⟨same_upd hD, hD, [], upd_same, Nat.le_refl _, by simp⟩ ?_ ?_⟩
    · rintro i H1 hi ⟨s1, nD, acc, e1, hl, ha⟩
      refine ⟨rfl, _, rfl, _, rfl, _, _, rfl, rfl, _, rfl, it2 (fun hlt => ?_) (fun _ => ⟨s1, nD, acc, e1, by omega, ha⟩)⟩
      refine ⟨_, rfl, _, rfl, _, _, rfl, rfl, by omega, rfl, acc, e1, small1000 (by omega), s1.wr nD, nD, _, upd_same, by simp; omega, fun x hx => ?_⟩
      rcases List.mem_append.mp hx with hx | hx
      · exact ha x hx
      · rw [List.mem_singleton.mp hx]
        show V.bl (!decide (V.int (p % (2 + (i : Int))) = V.int 0)) = V.bl true
        rw [decV, decide_eq_false (h3 (2 + (i : Int)) (by omega) (by omega) hlt)]
        rfl
    · rintro H1 ⟨s1, nD, acc, e1, hl, ha⟩
      obtain ⟨bs, rfl, hb⟩ := lcTrue ha
      refine ⟨D, bs, rfl, SqL.of e1, ?_⟩
      rw [hb]
      exact q _ s1
theorem ok_check_prime (T : Txt K mg CK CW) : Ok P w K mg base 4 "check_prime" ["value"] sp_check_prime := by
  refine T.d_check_prime.ok (k := 3) sc_check_prime (fun _ _ _ _ _ _ us hl => match us, hl with | [_], _ => rfl) (fun vs H Q E h => ?_) (fun f cdv A outer s H vs Q E hr h => ?_)
  · obtain ⟨_, rfl, _⟩ := h
    rfl
  · obtain ⟨p, rfl, h1, h2, h3, q⟩ := h
    refine ⟨_, (pss_one (ps_if (pt_not (pt_val (pe_ok (ok_is_small_prime T) (hr.mono (by decide)) (by rfl) (pa_cons (pv 0) pa_nil)))) (pss_one ps_never) pss_nil)), ?_⟩
    exact ⟨_, rfl, p, rfl, h1, h2, h3, fun H' s1 => ⟨true, rfl, iteF (q _ s1)⟩⟩
theorem ok_is_sum (T : Txt K mg CK CW) : Ok P w K mg base 3 "is_sum" ["value"] (sp_is_sum K) := by
  refine T.d_is_sum.ok (k := 2) sc_is_sum (fun _ _ _ _ _ _ us hl => match us, hl with | [_], _ => rfl) (fun vs H Q E h => ?_) (fun f cdv A outer s H vs Q E hr h => ?_)
  · obtain ⟨_, _, rfl, _⟩ := h
    rfl
  · obtain ⟨a, zs, rfl, hT, ⟨l1, l2, hb, z, hz, z0⟩, q⟩ := h
    have hl : (zs.map V.int).length = zs.length := List.length_map ..
    refine ⟨_, (pss_cons (ps_if (PW.pt (pw_or (pt_not (pt_val (pe_callB call_isi (by rfl) T.b_isinstance (by decide +kernel) (pa_cons (pv 0) (pa_cons (pe_bltn (v := .ty "tuple") (by rfl) T.b_tuple boot_tuple rfl) pa_nil))))) (pw_or1 (pt_not (pt_chain op_le op_le pe_int (pe_callB call_len_seq (by rfl) T.b_len PySem.boot_len (pa_cons (pv 0) pa_nil)) (pe_op op_add (pe_cst (by rfl) T.c_MOST_DEGREE) pe_int)))))) (pss_one (ps_ret pe_bl)) pss_nil)
      (pss_cons (ps_if (pt_not (pt_val (pe_callB (cr_all rfl) (by rfl) T.b_all (by decide +kernel) (pa_cons (pe_lc (own := [("number", 1)]) (g := gName 1) rfl sc_is_sum.nd (pi_tup (pv 0)) (blkOk_by (own := [("number", 1)]) (N := ["value", "number"]) (sc := defScope s_is_sum) (by decide +kernel)) (fun _ _ _ _ _ => (pg_name (i := 1) sc_is_sum.nd rfl (.inl rfl))) (fun _ _ _ _ _ => pts_nil) (fun _ _ _ _ _ => (pe_ok (ok_is_between T) (hr.mono (by decide)) (by rfl) (pa_cons (pv 1) (pa_cons (pe_un un_neg (pe_cst (by rfl) T.c_MOST_COEFFICIENT)) (pa_cons (pe_cst (by rfl) T.c_MOST_COEFFICIENT) pa_nil)))))) pa_nil)))) (pss_one (ps_ret pe_bl)) pss_nil)
      (pss_one (ps_ret (pe_or (pe_cmpR op_eq (pe_callB call_len_seq (by rfl) T.b_len PySem.boot_len (pa_cons (pv 0) pa_nil)) pe_int (nomark _)) (pe_one (pe_cmpR op_ne (pe_ix ix_tup (pv 0) (pe_un un_neg pe_int) (fun _ _ => rfl)) pe_int (nomark _)))))))), ?_⟩
    refine ⟨_, rfl, _, _, _, _, _, rfl, .ty _, .base (.tup hT), kit_ty (by decide +kernel), true, rfl, iteF ?_⟩
    refine ⟨_, rfl, a, _, rfl, .inr (SqT.of hT), _, _, rfl, rfl, _, rfl, itD (by rw [hl]; omega) ⟨_, _, rfl, rfl, _, _, rfl, rfl, _, rfl, ?_⟩⟩
    rw [decide_eq_true (show (((zs.map V.int).length : Nat) : Int) ≤ 12 + 1 by rw [hl]; omega)]
    refine iteF ?_
    refine ⟨_, rfl, a, rfl, ⟨_, SqT.of hT⟩, fun D hD => lc_tup (a := a) (xs := zs.map V.int) (K := K) (fun i H' => Same H H' ∧ H D = none ∧ ∃ acc, H' D = some (.lst acc) ∧ acc.length ≤ i ∧ ∀ x ∈ acc, x = V.bl true) ⟨same_upd hD, hD, [], upd_same, Nat.le_refl _, by simp⟩ (fun i H' _ h => h.1.tup (SqT.of hT)) ?_ ?_⟩
    · rintro i x H1 hi ⟨s1, nD, acc, e1, hla, ha⟩
      obtain ⟨y, hy, rfl⟩ : ∃ y, y ∈ zs ∧ x = V.int y := by
        obtain ⟨y, hy, e⟩ := List.mem_map.mp (List.mem_of_getElem? hi)
        exact ⟨y, hy, e.symm⟩
      have hi2 : i < 13 := by
        have := (List.getElem?_eq_some_iff.mp hi).1
        omega
      have hy2 := hb y hy
      refine ⟨rfl, _, rfl, _, rfl, y, _, _, rfl, by omega, by omega, acc, e1, small1000 (by omega), s1.wr nD, nD, _, upd_same, by simp; omega, fun x hx => ?_⟩
      rcases List.mem_append.mp hx with hx | hx
      · exact ha x hx
      · exact List.mem_singleton.mp hx
    · rintro H1 ⟨s1, nD, acc, e1, hla, ha⟩
      obtain ⟨bs, rfl, hbs⟩ := lcTrue ha
      refine ⟨D, bs, rfl, SqL.of e1, _, rfl, ?_⟩
      rw [hbs]
      refine iteF ?_
      have hlast : atI (zs.map V.int) (-1) = some (V.int z) := by
        obtain ⟨ys, rfl⟩ := List.getLast?_eq_some_iff.mp hz
        rw [List.map_append]
        exact atI_last _ _
      refine ⟨_, rfl, a, _, rfl, .inr (s1.tup (SqT.of hT)), rfl, ?_⟩
      refine ⟨_, rfl, ?_⟩
      rw [decV]
      refine it2 (fun _ => q _ s1) (fun _ => ?_)
      refine ⟨_, rfl, _, rfl, _, _, _, _, rfl, rfl, s1.tup (SqT.of hT), hlast, rfl, ?_⟩
      refine bNT (Q := Q) (fun e => z0 (V.int.inj e)) (q _ s1)
theorem ok_check_sum (T : Txt K mg CK CW) : Ok P w K mg base 4 "check_sum" ["value"] (sp_check_sum K) := by
  refine T.d_check_sum.ok (k := 3) sc_check_sum (fun _ _ _ _ _ _ us hl => match us, hl with | [_], _ => rfl) (fun vs H Q E h => ?_) (fun f cdv A outer s H vs Q E hr h => ?_)
  · obtain ⟨_, _, rfl, _⟩ := h
    rfl
  · obtain ⟨a, zs, rfl, hT, ok, q⟩ := h
    refine ⟨_, (pss_one (ps_if (pt_not (pt_val (pe_ok (ok_is_sum T) (hr.mono (by decide)) (by rfl) (pa_cons (pv 0) pa_nil)))) (pss_one ps_never) pss_nil)), ?_⟩
    exact ⟨_, rfl, a, zs, rfl, hT, ok, fun H' s1 => ⟨true, rfl, iteF (q _ s1)⟩⟩
theorem dpInts {K : PySem.W.Frag} {H : Hp} : ∀ zs : List Int, DpAll K H (zs.map V.int) (zs.map PyData.int)
  | [] => .nil
  | z :: r => .cons (.int z) (dpInts r)
theorem canInts : ∀ zs : List Int, PyData.canLayAll0 (zs.map PyData.int) = true
  | [] => rfl
  | z :: r => by
    show (PyData.canLay0 (.int z) && PyData.canLayAll0 (r.map PyData.int)) = true
    rw [canInts r]
    rfl
theorem depthInts : ∀ zs : List Int, PyData.depthAll (zs.map PyData.int) = 0
  | [] => rfl
  | z :: r => by
    show max (PyData.depth (.int z)) (PyData.depthAll (r.map PyData.int)) = 0
    rw [depthInts r]
    rfl
theorem shapedTup (zs : List Int) : SeqAt.shaped (.tuple (zs.map PyData.int)) = true := by
  unfold SeqAt.shaped
  have h1 : PyData.canLay0 (.tuple (zs.map PyData.int)) = true := canInts zs
  have h2 : PyData.depth (.tuple (zs.map PyData.int)) = PyData.depthAll (zs.map PyData.int) + 1 := rfl
  rw [h1, h2, depthInts]
  rfl
theorem eqvInts : ∀ xs ys : List Int, PyData.eqvAll (xs.map PyData.int) (ys.map PyData.int) = decide (xs = ys)
  | [], [] => rfl
  | [], _ :: _ => rfl
  | _ :: _, [] => rfl
  | x :: xs, y :: ys => by
    show (PyData.eqv (.int x) (.int y) && PyData.eqvAll (xs.map PyData.int) (ys.map PyData.int)) = decide (x :: xs = y :: ys)
    rw [eqvInts xs ys]
    show ((x == y) && decide (xs = ys)) = decide (x :: xs = y :: ys)
    by_cases h : x = y
    · subst h
      simp
    · simp [h]
theorem eqvTup (xs ys : List Int) : PyData.eqv (.tuple (xs.map PyData.int)) (.tuple (ys.map PyData.int)) = decide (xs = ys) := eqvInts xs ys
theorem ok_check_some_sum (T : Txt K mg CK CW) : Ok P w K mg base 4 "check_some_sum" ["value"] (sp_check_some_sum K) := by
  refine T.d_check_some_sum.ok (k := 3) sc_check_some_sum (fun _ _ _ _ _ _ us hl => match us, hl with | [_], _ => rfl) (fun vs H Q E h => ?_) (fun f cdv A outer s H vs Q E hr h => ?_)
  · obtain ⟨_, _, rfl, _⟩ := h
    rfl
  · obtain ⟨a, zs, rfl, hT, ok, q⟩ := h
    refine ⟨_, (pss_one (ps_if (PW.pt (pw_or (pt_not (pt_val (pe_ok (ok_is_sum T) (hr.mono (by decide)) (by rfl) (pa_cons (pv 0) pa_nil)))) (pw_or1 (pt_cmpR (op_eqD hr.units) (pv 0) (pe_tup (pa_cons pe_int pa_nil)) (nomark _))))) (pss_one ps_never) pss_nil)), ?_⟩
    refine ⟨_, rfl, a, zs, rfl, hT, ok, fun H1 s1 => ⟨true, rfl, iteF ⟨_, rfl, by show 1 ≤ sizeLine; decide, fun p np => ?_⟩⟩⟩
    have s2 := s1.lay (o := .tup [.int 0]) np
    refine ⟨_, _, .tup (s2.tup (SqT.of hT)) (dpInts zs), .tup (SqT.of upd_same) (dpInts [0]), shapedTup zs, shapedTup [0], ?_⟩
    refine ⟨_, rfl, ?_⟩
    rw [eqvTup, decide_eq_false (fun e => by rw [e] at ok; exact absurd ok.1 (by decide))]
    exact iteF (q _ s2)
end
end RW

set_option maxHeartbeats 4000000
namespace RW
open PySem PySem.Spec PyProof.Rows L2
section
variable {P : Program} {w : World} {K : PySem.W.Frag} {mg : Str → Option Value} {base : Heap} {CK CW : Addr}
/-! ### divisors and powers -/
def sp_common_of : Sp := fun vs H Q _ => ∃ a b : Int, vs = [.int a, .int b] ∧ Q (.int (Int.gcd a b : Nat)) H
theorem ok_common_of (T : Txt K mg CK CW) : Ok P w K mg base 1 "common_of" ["one", "other"] sp_common_of := by
  refine T.d_common_of.ok (k := 0) sc_common_of (fun _ _ _ _ _ _ us hl => match us, hl with | [_, _], _ => rfl) (fun vs H Q E h => ?_) (fun f cdv A outer s H vs Q E hr h => ?_)
  · obtain ⟨_, _, rfl, _⟩ := h
    rfl
  · obtain ⟨a, b, rfl, q⟩ := h
    refine ⟨_, (pss_cons (ps_par (i := 0) (j := 1) (by rfl) sc_common_of.nd rfl rfl (by decide) rfl rfl (pa_cons (pe_callB call_abs (by rfl) T.b_abs (by decide +kernel) (pa_cons (pv 0) pa_nil)) (pa_cons (pe_callB call_abs (by rfl) T.b_abs (by decide +kernel) (pa_cons (pv 1) pa_nil)) pa_nil)) (by rfl))
      (pss_cons (ps_while PassesOwn.never (pt_cmpR op_gt (pv 1) pe_int (nomark _)) (pss_one (ps_par (i := 0) (j := 1) (by rfl) sc_common_of.nd rfl rfl (by decide) rfl rfl (pa_cons (pv 1) (pa_cons (pe_op op_mod (pv 0) (pv 1)) pa_nil)) (by rfl))))
      (pss_one (ps_ret (pv 0))))), ?_⟩
    refine ⟨_, rfl, _, rfl, _, rfl, _, rfl, _, _, rfl, ?_⟩
    rw [absI, absI]
    refine ⟨fun m σ H' => ∃ x y : Nat, σ = [some (.int x), some (.int y)] ∧ m = y ∧ Nat.gcd x y = Int.gcd a b ∧ H' = H, ⟨_, a.natAbs, b.natAbs, rfl, rfl, rfl, rfl⟩, ?_⟩
    rintro m σ H' ⟨x, y, rfl, rfl, hg, rfl⟩
    refine ⟨_, rfl, _, _, rfl, rfl, _, rfl, it2 (fun hy => ?_) (fun hy => ?_)⟩
    · refine ⟨fun σ' H' => ∃ m', m' < m ∧ _, fun _ _ h => h, _, rfl, _, rfl, _, rfl, _, _, rfl, rfl, hy, _, _, rfl, x % m, Nat.mod_lt _ (by omega), m, x % m, by rw [Int.natCast_emod]; rfl, rfl, by rw [gcd_step _ _ (by omega), hg], rfl⟩
    · have e : m = 0 := by omega
      subst e
      rw [Nat.gcd_zero_right] at hg
      refine ⟨_, rfl, ?_⟩
      rw [hg]
      exact q
/-- two numbers that make the greatest common divisor, a the first -/
def sp_combined_of (K : PySem.W.Frag) : Sp := fun vs H Q _ => ∃ a b : Int, vs = [.int a, .int b] ∧ 0 ≤ a ∧ a < 1073741824 ∧ 0 < b ∧ b < 1073741824 ∧ ∀ H' p u v, Same H H' → SqT K H' p [.int u, .int v] → u * a + v * b = (Int.gcd a b : Nat) → Q (.ref p) H'
theorem ok_combined_of (T : Txt K mg CK CW) : Ok P w K mg base 1 "combined_of" ["one", "other"] (sp_combined_of K) := by
  refine T.d_combined_of.ok (k := 0) sc_combined_of (fun _ _ _ _ _ _ us hl => match us, hl with | [_, _], _ => rfl) (fun vs H Q E h => ?_) (fun f cdv A outer s H vs Q E hr h => ?_)
  · obtain ⟨_, _, rfl, _⟩ := h
    rfl
  · obtain ⟨a, b, rfl, a0, a1, b0, b1, q⟩ := h
    refine ⟨_, (pss_cons (ps_asg (pe_tup (pa_cons (pv 0) (pa_cons (pv 1) (pa_cons (pe_tup (pa_cons pe_int (pa_cons pe_int pa_nil))) (pa_cons (pe_tup (pa_cons pe_int (pa_cons pe_int pa_nil))) pa_nil))))) (pg_tup rfl (pgs_cons (pg_name (i := 2) sc_combined_of.nd rfl (.inl rfl)) (pgs_cons (pg_name (i := 3) sc_combined_of.nd rfl (.inl rfl)) (pgs_cons (pg_name (i := 4) sc_combined_of.nd rfl (.inl rfl)) (pgs_cons (pg_name (i := 5) sc_combined_of.nd rfl (.inl rfl)) pgs_nil))))))
      (pss_cons (ps_while PassesOwn.never (pt_cmpR op_ne (pv 3) pe_int (nomark _)) (pss_cons (ps_set (i := 6) sc_combined_of.nd rfl (.inl rfl) (pe_op op_fdiv (pv 2) (pv 3)))
      (pss_cons (ps_par (i := 2) (j := 3) (by rfl) sc_combined_of.nd rfl rfl (by decide) rfl rfl (pa_cons (pv 3) (pa_cons (pe_op op_sub (pv 2) (pe_op op_mul (pv 6) (pv 3))) pa_nil)) (by rfl))
      (pss_one (ps_par (i := 4) (j := 5) (by rfl) sc_combined_of.nd rfl rfl (by decide) rfl rfl (pa_cons (pv 5) (pa_cons (pe_tup (pa_cons (pe_op op_sub (pe_ix ix_tup (pv 4) pe_int (fun _ _ => rfl)) (pe_op op_mul (pv 6) (pe_ix ix_tup (pv 5) pe_int (fun _ _ => rfl)))) (pa_cons (pe_op op_sub (pe_ix ix_tup (pv 4) pe_int (fun _ _ => rfl)) (pe_op op_mul (pv 6) (pe_ix ix_tup (pv 5) pe_int (fun _ _ => rfl)))) pa_nil))) pa_nil)) (by rfl))))))
      (pss_one (ps_ret (pe_ifExp (pt_cmpR op_ge (pv 2) pe_int (nomark _)) (pv 4) (pe_tup (pa_cons (pe_un un_neg (pe_ix ix_tup (pv 4) pe_int (fun _ _ => rfl))) (pa_cons (pe_un un_neg (pe_ix ix_tup (pv 4) pe_int (fun _ _ => rfl))) pa_nil)))))))), ?_⟩
    refine ⟨_, rfl, _, rfl, by show 2 ≤ sizeLine; decide, fun t1 n1 => ?_⟩
    refine ⟨by show 2 ≤ sizeLine; decide, fun t2 n2 => ?_⟩
    refine ⟨by show 4 ≤ sizeLine; decide, fun t3 n3 => ?_⟩
    have s1 : Same H (upd H t1 (.tup [.int 1, .int 0])) := same_upd n1
    have s2 := s1.lay (o := .tup [.int 0, .int 1]) n2
    have s3 := s2.lay (o := .tup [.int a, .int b, .ref t1, .ref t2]) n3
    have g1 : SqT K (upd (upd (upd H t1 (.tup [.int 1, .int 0])) t2 (.tup [.int 0, .int 1])) t3 (.tup [.int a, .int b, .ref t1, .ref t2])) t1 [.int 1, .int 0] := SqT.of (same_upd n3 _ _ (same_upd n2 _ _ upd_same))
    have g2 : SqT K (upd (upd (upd H t1 (.tup [.int 1, .int 0])) t2 (.tup [.int 0, .int 1])) t3 (.tup [.int a, .int b, .ref t1, .ref t2])) t2 [.int 0, .int 1] := SqT.of (same_upd n3 _ _ upd_same)
    refine ⟨t3, _, rfl, SqT.of upd_same, rfl, _, _, rfl, _, _, rfl, _, _, rfl, _, _, rfl, rfl, ?_⟩
    refine ⟨fun m σ H' => ∃ (x y : Int) (p1 p2 : Addr) (f0 f1 g0 g1 : Int) (z : Option V), σ = [some (.int a), some (.int b), some (.int x), some (.int y), some (.ref p1), some (.ref p2), z] ∧ m = y.toNat ∧ 0 ≤ x ∧ x < 1073741824 ∧ 0 ≤ y ∧ y < 1073741824 ∧
        Int.gcd x y = Int.gcd a b ∧ x = f0 * a + f1 * b ∧ y = g0 * a + g1 * b ∧ SqT K H' p1 [.int f0, .int f1] ∧ SqT K H' p2 [.int g0, .int g1] ∧ Same H H',
      ⟨_, a, b, t1, t2, 1, 0, 0, 1, none, rfl, rfl, a0, a1, by omega, b1, rfl, by omega, by omega, g1, g2, s3⟩, ?_⟩
    rintro m σ H1 ⟨x, y, p1, p2, f0, f1, g0, g1, z, rfl, rfl, x0, x1, y0, y1, hg, hx, hy, T1, T2, sm⟩
    refine ⟨_, rfl, rfl, _, rfl, itNV2 (fun hne => ?_) (fun he => ?_)⟩
    · have yp : 0 < y := by omega
      have d0 : 0 ≤ x / y := Int.ediv_nonneg x0 y0
      have d1 : x / y ≤ x := Int.ediv_le_self _ x0
      have cm : CMul (x / y) y := .inl ⟨by omega, by omega⟩
      have em : x - x / y * y = x % y := by
        have := Int.mul_ediv_add_emod x y
        rw [Int.mul_comm] at this
        omega
      refine ⟨fun σ' H' => ∃ m', m' < y.toNat ∧ _, fun _ _ h => h, _, rfl, _, rfl, _, _, rfl, rfl, ⟨yp, y1⟩, ?_⟩
      refine ⟨_, rfl, _, rfl, _, rfl, _, rfl, _, _, rfl, rfl, cm, _, _, rfl, rfl, _, _, rfl, ?_⟩
      refine ⟨_, rfl, _, rfl, p1, _, 0, _, rfl, rfl, T1, atI_nat (j := 0) rfl, _, rfl, _, rfl, p2, _, 0, _, rfl, rfl, T2, atI_nat (j := 0) rfl, _, _, rfl, rfl, .inl ⟨by omega, by omega⟩, _, _, rfl, rfl, ?_⟩
      refine ⟨_, rfl, p1, _, 1, _, rfl, rfl, T1, atI_nat (j := 1) rfl, _, rfl, _, rfl, p2, _, 1, _, rfl, rfl, T2, atI_nat (j := 1) rfl, _, _, rfl, rfl, .inl ⟨by omega, by omega⟩, _, _, rfl, rfl, ?_⟩
      refine ⟨by show 2 ≤ sizeLine; decide, fun t4 n4 => ?_⟩
      have sm2 := sm.lay (o := .tup [.int (f0 - x / y * g0), .int (f1 - x / y * g1)]) n4
      refine ⟨_, _, rfl, (x % y).toNat, ?_, y, x % y, p2, t4, g0, g1, f0 - x / y * g0, f1 - x / y * g1, _, by rw [← em]; rfl, rfl, y0, y1, Int.emod_nonneg _ hne, ?_, ?_, hy, ?_, (same_upd n4).tup T2, SqT.of upd_same, sm2⟩
      · have h1 := Int.emod_lt_of_pos x yp
        have h2 := Int.emod_nonneg x hne
        omega
      · have h1 := Int.emod_lt_of_pos x yp
        omega
      · rw [← hg, Int.gcd_comm, gcd_emod _ _ yp]
      · rw [← em, hx, hy]
        simp only [Int.sub_mul, Int.mul_add, Int.mul_assoc]
        omega
    · subst he
      rw [Int.gcd_zero_right] at hg
      refine ⟨_, rfl, _, _, rfl, rfl, _, rfl, itD x0 ⟨_, rfl, q _ p1 f0 f1 sm T1 ?_⟩⟩
      rw [← hx, ← hg]
      omega
/-- a rest that makes the greatest common divisor -/
def sp_back_of : Sp := fun vs H Q _ => ∃ n b : Int, vs = [.int n, .int b] ∧ 0 < b ∧ b < 1073741824 ∧ ∀ H' r, Same H H' → 0 ≤ r → r < b → (n * r) % b = (Int.gcd n b : Nat) % b → Q (.int r) H'
theorem back_law (n b u v : Int) (hb : 0 < b) (h : u * (n % b) + v * b = (Int.gcd (n % b) b : Nat)) : (n * (u % b)) % b = (Int.gcd n b : Nat) % b := by
  rw [mul_emod_r, ← gcd_emod n b hb, ← h, Int.add_mul_emod_self_right, Int.mul_comm n u, mul_emod_r]
theorem ok_back_of (T : Txt K mg CK CW) : Ok P w K mg base 2 "back_of" ["number", "base"] sp_back_of := by
  refine T.d_back_of.ok (k := 1) sc_back_of (fun _ _ _ _ _ _ us hl => match us, hl with | [_, _], _ => rfl) (fun vs H Q E h => ?_) (fun f cdv A outer s H vs Q E hr h => ?_)
  · obtain ⟨_, _, rfl, _⟩ := h
    rfl
  · obtain ⟨n, b, rfl, b0, b1, q⟩ := h
    refine ⟨_, (pss_one (ps_ret (pe_op op_mod (pe_ix ix_tup (pe_ok (ok_combined_of T) (hr.mono (by decide)) (by rfl) (pa_cons (pe_op op_mod (pv 0) (pv 1)) (pa_cons (pv 1) pa_nil))) pe_int (fun _ _ => rfl)) (pv 1)))), ?_⟩
    refine ⟨_, rfl, _, rfl, _, _, rfl, rfl, b0, _, rfl, n % b, b, rfl, Int.emod_nonneg _ (by omega), ?_, b0, b1, fun H' p u v sm hT hg => ?_⟩
    · have := Int.emod_lt_of_pos n b0
      omega
    · exact ⟨p, _, 0, _, rfl, rfl, hT, atI_nat (j := 0) rfl, _, rfl, _, _, rfl, rfl, b0, q _ _ sm (Int.emod_nonneg _ (by omega)) (Int.emod_lt_of_pos _ b0) (back_law _ _ _ _ b0 hg)⟩
def sp_power_by : Sp := fun vs H Q _ => ∃ n k b : Int, vs = [.int n, .int k, .int b] ∧ 0 ≤ k ∧ 0 < b ∧ b < 1073741824 ∧ Q (.int (n ^ k.toNat % b)) H
theorem ok_power_by (T : Txt K mg CK CW) : Ok P w K mg base 1 "power_by" ["number", "power", "base"] sp_power_by := by
  refine T.d_power_by.ok (k := 0) sc_power_by (fun _ _ _ _ _ _ us hl => match us, hl with | [_, _, _], _ => rfl) (fun vs H Q E h => ?_) (fun f cdv A outer s H vs Q E hr h => ?_)
  · obtain ⟨_, _, _, rfl, _⟩ := h
    rfl
  · obtain ⟨n, k, b, rfl, k0, b0, b1, q⟩ := h
    refine ⟨_, (pss_cons (ps_par (i := 3) (j := 4) (by rfl) sc_power_by.nd rfl rfl (by decide) rfl rfl (pa_cons (pe_op op_mod pe_int (pv 2)) (pa_cons (pe_op op_mod (pv 0) (pv 2)) pa_nil)) (by rfl))
      (pss_cons (ps_while PassesOwn.never (pt_cmpR op_gt (pv 1) pe_int (nomark _)) (pss_cons (ps_if (pt_cmpR op_eq (pe_op op_mod (pv 1) pe_int) pe_int (nomark _)) (pss_one (ps_set (i := 3) sc_power_by.nd rfl (.inl rfl) (pe_op op_mod (pe_op op_mul (pv 3) (pv 4)) (pv 2)))) pss_nil)
      (pss_one (ps_par (i := 4) (j := 1) (by rfl) sc_power_by.nd rfl rfl (by decide) rfl rfl (pa_cons (pe_op op_mod (pe_op op_mul (pv 4) (pv 4)) (pv 2)) (pa_cons (pe_op op_fdiv (pv 1) pe_int) pa_nil)) (by rfl)))))
      (pss_one (ps_ret (pv 3))))), ?_⟩
    refine ⟨_, rfl, _, _, rfl, rfl, b0, _, rfl, _, rfl, _, _, rfl, rfl, b0, _, _, rfl, ?_⟩
    refine ⟨fun m σ H' => ∃ (p f a : Int), σ = [some (.int n), some (.int p), some (.int b), some (.int f), some (.int a)] ∧ m = p.toNat ∧ 0 ≤ p ∧ 0 ≤ f ∧ f < b ∧ 0 ≤ a ∧ a < b ∧ f * a ^ p.toNat % b = n ^ k.toNat % b ∧ H' = H,
      ⟨_, k, 1 % b, n % b, rfl, rfl, k0, Int.emod_nonneg _ (by omega), Int.emod_lt_of_pos _ b0, Int.emod_nonneg _ (by omega), Int.emod_lt_of_pos _ b0, by rw [mul_emod_l, Int.one_mul, pow_emod], rfl⟩, ?_⟩
    rintro m σ H' ⟨p, f, a, rfl, rfl, p0, f0, f1, a0, a1, hp, rfl⟩
    refine ⟨_, rfl, _, _, rfl, rfl, _, rfl, it2 (fun hy => ?_) (fun hy => ?_)⟩
    · have tail : ∀ f' : Int, 0 ≤ f' → f' < b → f' * (a * a) ^ (p.toNat / 2) % b = n ^ k.toNat % b →
        (fun (m : Nat) σ H'' => ∃ (p f a : Int), σ = [some (V.int n), some (V.int p), some (V.int b), some (V.int f), some (V.int a)] ∧ m = p.toNat ∧ 0 ≤ p ∧ 0 ≤ f ∧ f < b ∧ 0 ≤ a ∧ a < b ∧ f * a ^ p.toNat % b = n ^ k.toNat % b ∧ H'' = H')
          (p.toNat / 2) [some (.int n), some (.int (p / 2)), some (.int b), some (.int f'), some (.int (a * a % b))] H' := fun f' h1 h2 h3 => by
        refine ⟨p / 2, f', a * a % b, rfl, by omega, by omega, h1, h2, Int.emod_nonneg _ (by omega), Int.emod_lt_of_pos _ b0, ?_, rfl⟩
        rw [show (p / 2).toNat = p.toNat / 2 by omega, ← h3, Int.mul_emod, pow_emod, ← Int.mul_emod]
      refine ⟨fun σ' H' => ∃ m', m' < p.toNat ∧ _, fun _ _ h => h, ?_⟩
      refine ⟨_, rfl, _, _, rfl, rfl, (by show (0 : Int) < 2; decide), rfl, _, rfl, itV2 (fun ho => ?_) (fun ho => ?_)⟩
      · refine ⟨_, rfl, _, rfl, _, _, rfl, rfl, .inl ⟨by omega, by omega⟩, _, rfl, _, _, rfl, rfl, b0, ?_⟩
        refine ⟨_, rfl, _, rfl, _, _, rfl, rfl, .inl ⟨by omega, by omega⟩, _, rfl, _, _, rfl, rfl, b0, _, rfl, _, _, rfl, rfl, ⟨by decide, by decide⟩, _, _, rfl, p.toNat / 2, by omega, tail _ (Int.emod_nonneg _ (by omega)) (Int.emod_lt_of_pos _ b0) ?_⟩
        rw [mul_emod_l, ← pow_turn_odd f a p.toNat (by omega), hp]
      · refine ⟨_, rfl, _, rfl, _, _, rfl, rfl, .inl ⟨by omega, by omega⟩, _, rfl, _, _, rfl, rfl, b0, _, rfl, _, _, rfl, rfl, ⟨by decide, by decide⟩, _, _, rfl, p.toNat / 2, by omega, tail _ f0 f1 ?_⟩
        rw [← pow_turn_even f a p.toNat (by omega), hp]
    · have e : p = 0 := by omega
      subst e
      refine ⟨_, rfl, ?_⟩
      have e2 : f * a ^ (0 : Int).toNat % b = f := by
        show f * a ^ 0 % b = f
        rw [Int.pow_zero, Int.mul_one]
        exact Int.emod_eq_of_lt f0 f1
      rw [← hp, e2] at q
      exact q
def sp_raised : Sp := fun vs H Q _ => ∃ n k : Int, vs = [.int n, .int k] ∧ 0 ≤ k ∧ 1 ≤ n ∧ n ^ k.toNat < 9223372036854775808 ∧ Q (.int (n ^ k.toNat)) H
theorem ok_raised (T : Txt K mg CK CW) : Ok P w K mg base 1 "raised" ["number", "power"] sp_raised := by
  refine T.d_raised.ok (k := 0) sc_raised (fun _ _ _ _ _ _ us hl => match us, hl with | [_, _], _ => rfl) (fun vs H Q E h => ?_) (fun f cdv A outer s H vs Q E hr h => ?_)
  · obtain ⟨_, _, rfl, _⟩ := h
    rfl
  · obtain ⟨n, k, rfl, k0, n1, hk, q⟩ := h
    refine ⟨_, (pss_cons (ps_par (i := 2) (j := 3) (by rfl) sc_raised.nd rfl rfl (by decide) rfl rfl (pa_cons pe_int (pa_cons (pv 0) pa_nil)) (by rfl))
      (pss_cons (ps_while PassesOwn.never (pt_cmpR op_gt (pv 1) pe_int (nomark _)) (pss_cons (ps_if (pt_cmpR op_eq (pe_op op_mod (pv 1) pe_int) pe_int (nomark _)) (pss_one (ps_set (i := 2) sc_raised.nd rfl (.inl rfl) (pe_op op_mul (pv 2) (pv 3)))) pss_nil)
      (pss_cons (ps_set (i := 1) sc_raised.nd rfl (.inl rfl) (pe_op op_fdiv (pv 1) pe_int))
      (pss_one (ps_set (i := 3) sc_raised.nd rfl (.inl rfl) (pe_ifExp (pt_cmpR op_gt (pv 1) pe_int (nomark _)) (pe_op op_mul (pv 3) (pv 3)) (pv 3)))))))
      (pss_one (ps_ret (pv 2))))), ?_⟩
    refine ⟨_, rfl, _, _, rfl, ?_⟩
    refine ⟨fun m σ H' => ∃ (p f a : Int), σ = [some (.int n), some (.int p), some (.int f), some (.int a)] ∧ m = p.toNat ∧ 0 ≤ p ∧ 1 ≤ f ∧ 1 ≤ a ∧ f * a ^ p.toNat = n ^ k.toNat ∧ H' = H, ⟨_, k, 1, n, rfl, rfl, k0, by omega, n1, by rw [Int.one_mul], rfl⟩, ?_⟩
    rintro m σ H' ⟨p, f, a, rfl, rfl, p0, f1, a1, hp, rfl⟩
    refine ⟨_, rfl, _, _, rfl, rfl, _, rfl, it2 (fun hy => ?_) (fun hy => ?_)⟩
    · have fle : f ≤ n ^ k.toNat := by
        rw [← hp]
        exact le_mul_l f1 (one_le_pow a1 _)
      have ale : a ≤ n ^ k.toNat := by
        rw [← hp]
        exact Int.le_trans (le_pow_self a1 (by omega)) (le_mul_r f1 (one_le_pow a1 _))
      have aa : 1 ≤ a * a := Int.le_trans a1 (le_mul_l a1 a1)
      have tail : ∀ f' : Int, 1 ≤ f' → f' * (a * a) ^ (p.toNat / 2) = n ^ k.toNat →
        (fun (m : Nat) σ H'' => ∃ (p f a : Int), σ = [some (V.int n), some (V.int p), some (V.int f), some (V.int a)] ∧ m = p.toNat ∧ 0 ≤ p ∧ 1 ≤ f ∧ 1 ≤ a ∧ f * a ^ p.toNat = n ^ k.toNat ∧ H'' = H')
          (p.toNat / 2) [some (.int n), some (.int (p / 2)), some (.int f'), some (.int (if 0 < p / 2 then a * a else a))] H' := fun f' h1 h3 => by
        refine ⟨p / 2, f', _, rfl, by omega, by omega, h1, ?_, ?_, rfl⟩
        · split
          · exact aa
          · exact a1
        · by_cases h : 0 < p / 2
          · rw [if_pos h, show (p / 2).toNat = p.toNat / 2 by omega, h3]
          · rw [show (p / 2).toNat = 0 by omega, Int.pow_zero]
            rw [show p.toNat / 2 = 0 by omega, Int.pow_zero] at h3
            exact h3
      refine ⟨fun σ' H' => ∃ m', m' < p.toNat ∧ _, fun _ _ h => h, ?_⟩
      have last : ∀ f' : Int, 1 ≤ f' → f' * (a * a) ^ (p.toNat / 2) = n ^ k.toNat → ∀ D : Ends, (∀ σ H'', (∃ m', m' < p.toNat ∧ (∃ (p f a : Int), σ = [some (V.int n), some (V.int p), some (V.int f), some (V.int a)] ∧ m' = p.toNat ∧ 0 ≤ p ∧ 1 ≤ f ∧ 1 ≤ a ∧ f * a ^ p.toNat = n ^ k.toNat ∧ H'' = H')) → D.nx σ H'') →
          (∃ v : V, ([some (V.int n), some (V.int (p / 2)), some (V.int f'), some (V.int a)] : L2.St)[1]? = some (some v) ∧ ∃ i j : Int, v = V.int i ∧ V.int 0 = V.int j ∧ ∃ k : Bool, V.bl (decide (j < i)) = V.bl k ∧ if k = true then tOp (rI CMul fun i j => .int (i * j)) (tVar 3) (tVar 3) [some (V.int n), some (V.int (p / 2)), some (V.int f'), some (V.int a)] H' (fun x H1 => D.nx [some (V.int n), some (V.int (p / 2)), some (V.int f'), some x] H1)
            else tVar 3 [some (V.int n), some (V.int (p / 2)), some (V.int f'), some (V.int a)] H' (fun x H1 => D.nx [some (V.int n), some (V.int (p / 2)), some (V.int f'), some x] H1)) := fun f' h1 h3 D hD => by
        have tl := tail f' h1 h3
        refine ⟨_, rfl, _, _, rfl, rfl, _, rfl, it2 (fun h2 => ?_) (fun h2 => ?_)⟩
        · rw [if_pos h2] at tl
          exact ⟨_, rfl, _, rfl, _, _, rfl, rfl, .inl ⟨by omega, by omega⟩, hD _ _ ⟨_, by omega, tl⟩⟩
        · rw [if_neg h2] at tl
          exact ⟨_, rfl, hD _ _ ⟨_, by omega, tl⟩⟩
      refine ⟨_, rfl, _, _, rfl, rfl, (by show (0 : Int) < 2; decide), rfl, _, rfl, itV2 (fun ho => ?_) (fun ho => ?_)⟩
      · refine ⟨_, rfl, _, rfl, _, _, rfl, rfl, .inl ⟨by omega, by omega⟩, ?_⟩
        refine ⟨_, rfl, _, _, rfl, rfl, ⟨by decide, by decide⟩, ?_⟩
        exact last (f * a) (Int.le_trans f1 (le_mul_l f1 a1)) (by rw [← pow_turn_odd f a p.toNat (by omega), hp]) ⟨_, _, _, _⟩ fun _ _ h => h
      · refine ⟨_, rfl, _, _, rfl, rfl, ⟨by decide, by decide⟩, ?_⟩
        exact last f f1 (by rw [← pow_turn_even f a p.toNat (by omega), hp]) ⟨_, _, _, _⟩ fun _ _ h => h
    · have e : p = 0 := by omega
      subst e
      refine ⟨_, rfl, ?_⟩
      rw [← hp] at q
      have e2 : f * a ^ (0 : Int).toNat = f := by
        show f * a ^ 0 = f
        rw [Int.pow_zero, Int.mul_one]
      rw [e2] at q
      exact q
def sp_often_of : Sp := fun vs H Q _ => ∃ n p : Int, vs = [.int n, .int p] ∧ n ≠ 0 ∧ 2 ≤ p ∧ p < 1073741824 ∧ ∀ (c : Nat) (m : Int), n = p ^ c * m → m % p ≠ 0 → Q (.int c) H
theorem ok_often_of (T : Txt K mg CK CW) : Ok P w K mg base 1 "often_of" ["number", "prime"] sp_often_of := by
  refine T.d_often_of.ok (k := 0) sc_often_of (fun _ _ _ _ _ _ us hl => match us, hl with | [_, _], _ => rfl) (fun vs H Q E h => ?_) (fun f cdv A outer s H vs Q E hr h => ?_)
  · obtain ⟨_, _, rfl, _⟩ := h
    rfl
  · obtain ⟨n, p, rfl, n0, p2, p1, q⟩ := h
    refine ⟨_, (pss_cons (ps_set (i := 2) sc_often_of.nd rfl (.inl rfl) pe_int)
      (pss_cons (ps_while PassesOwn.never (pt_cmpR op_eq (pe_op op_mod (pv 0) (pv 1)) pe_int (nomark _)) (pss_one (ps_par (i := 0) (j := 2) (by rfl) sc_often_of.nd rfl rfl (by decide) rfl rfl (pa_cons (pe_op op_fdiv (pv 0) (pv 1)) (pa_cons (pe_op op_add (pv 2) pe_int) pa_nil)) (by rfl))))
      (pss_one (ps_ret (pv 2))))), ?_⟩
    refine ⟨fun m σ H' => ∃ (x : Int) (c : Nat), σ = [some (.int x), some (.int p), some (.int c)] ∧ m = x.natAbs ∧ x ≠ 0 ∧ n = p ^ c * x ∧ H' = H, ⟨_, n, 0, rfl, rfl, n0, by rw [Int.pow_zero, Int.one_mul], rfl⟩, ?_⟩
    rintro m σ H' ⟨x, c, rfl, rfl, x0, hx, rfl⟩
    refine ⟨_, rfl, _, rfl, _, _, rfl, rfl, by omega, rfl, _, rfl, itV2 (fun ho => ?_) (fun ho => ?_)⟩
    · have e1 : x = p * (x / p) := by
        have := Int.mul_ediv_add_emod x p
        omega
      have e0 : x / p ≠ 0 := fun e => by
        rw [e, Int.mul_zero] at e1
        exact x0 e1
      have lt : (x / p).natAbs < x.natAbs := by
        have e2 : x.natAbs = p.natAbs * (x / p).natAbs := by
          conv => lhs; rw [e1]
          exact Int.natAbs_mul _ _
        have e3 : 2 * (x / p).natAbs ≤ p.natAbs * (x / p).natAbs := Nat.mul_le_mul_right _ (by omega)
        omega
      refine ⟨fun σ' H' => ∃ m', m' < x.natAbs ∧ _, fun _ _ h => h, _, rfl, _, rfl, _, _, rfl, rfl, ⟨by omega, p1⟩, _, rfl, _, _, rfl, rfl, _, _, rfl, (x / p).natAbs, lt, x / p, c + 1, rfl, rfl, e0, ?_, rfl⟩
      rw [Int.pow_succ, Int.mul_assoc, ← e1]
      exact hx
    · exact ⟨_, rfl, q c x hx ho⟩
end
end RW

set_option maxHeartbeats 4000000
namespace RW
open PySem PySem.Spec PyProof.Rows L2
/-! ### pairs of numbers -/
def PrAt (H : Hp) (v : V) (p : Nat × Nat) : Prop := ∃ t, v = V.ref t ∧ H t = some (.tup [.int p.1, .int p.2])
abbrev Prs (H : Hp) : List V → List (Nat × Nat) → Prop := Paired (PrAt H)
theorem PrAt.same {H H' : Hp} {v : V} {p : Nat × Nat} (s : Same H H') : PrAt H v p → PrAt H' v p := fun ⟨t, e, h⟩ => ⟨t, e, s _ _ h⟩
theorem Prs.same {H H' : Hp} (s : Same H H') {xs : List V} {ps : List (Nat × Nat)} (h : Prs H xs ps) : Prs H' xs ps := L2.Paired.mapP h fun _ _ => PrAt.same s
theorem pairedSnoc {α β : Type} {F : α → β → Prop} {a : α} {b : β} : ∀ {xs : List α} {ys : List β}, Paired F xs ys → F a b → Paired F (xs ++ [a]) (ys ++ [b])
  | _, _, .nil, h => .cons h .nil
  | _, _, .cons r t, h => .cons r (pairedSnoc t h)
theorem pairedGet {α β : Type} {F : α → β → Prop} : ∀ {xs : List α} {ys : List β} {i : Nat} {x : α}, Paired F xs ys → xs[i]? = some x → ∃ y, ys[i]? = some y ∧ F x y
  | _, _, _, _, .nil, h => by simp at h
  | _, _, 0, _, .cons r t, h => by
    have e := Option.some.inj h
    subst e
    exact ⟨_, rfl, r⟩
  | _, _, i + 1, x, .cons r t, h => pairedGet (i := i) t h
section
variable {P : Program} {w : World} {K : PySem.W.Frag} {mg : Str → Option Value} {base : Heap} {CK CW : Addr}
def sp_apart_of : Sp := fun vs H Q _ => ∃ (n : Nat) (l : List (Nat × Nat)), vs = [.int n] ∧ 1 ≤ n ∧ n ≤ 1000000 ∧ apart n = some l ∧ ∀ H' p xs, Same H H' → H' p = some (.tup xs) → Prs H' xs l → Q (.ref p) H'
theorem ok_apart_of (T : Txt K mg CK CW) : Ok P w K mg base 1 "apart_of" ["number"] sp_apart_of := by
  refine T.d_apart_of.ok (k := 0) sc_apart_of (fun _ _ _ _ _ _ us hl => match us, hl with | [_], _ => rfl) (fun vs H Q E h => ?_) (fun f cdv A outer s H vs Q E hr h => ?_)
  · obtain ⟨_, _, rfl, _⟩ := h
    rfl
  · obtain ⟨n, l, rfl, n1, n2, hl, q⟩ := h
    refine ⟨_, (pss_cons (ps_par (i := 1) (j := 2) (by rfl) sc_apart_of.nd rfl rfl (by decide) rfl rfl (pa_cons (pe_lst pa_nil) (pa_cons pe_int pa_nil)) (by rfl))
      (pss_cons (ps_while PassesOwn.never (pt_cmpR op_le (pe_op op_mul (pv 2) (pv 2)) (pv 0) (nomark _)) (pss_cons (ps_set (i := 3) sc_apart_of.nd rfl (.inl rfl) pe_int)
      (pss_cons (ps_while PassesOwn.never (pt_cmpR op_eq (pe_op op_mod (pv 0) (pv 2)) pe_int (nomark _)) (pss_one (ps_par (i := 0) (j := 3) (by rfl) sc_apart_of.nd rfl rfl (by decide) rfl rfl (pa_cons (pe_op op_fdiv (pv 0) (pv 2)) (pa_cons (pe_op op_add (pv 3) pe_int) pa_nil)) (by rfl))))
      (pss_cons (ps_if (pt_cmpR op_gt (pv 3) pe_int (nomark _)) (pss_one (ps_expr (pe_bm PySem.F.plainAttrs_list PySem.F.slot_list_append PySem.F.type_list_append mt_append (pv 1) (pa_cons (pe_tup (pa_cons (pv 2) (pa_cons (pv 3) pa_nil))) pa_nil)))) pss_nil)
      (pss_one (ps_set (i := 2) sc_apart_of.nd rfl (.inl rfl) (pe_ifExp (pt_cmpR op_eq (pv 2) pe_int (nomark _)) (pe_op op_add (pv 2) pe_int) (pe_op op_add (pv 2) pe_int))))))))
      (pss_one (ps_ret (pe_ifExp (pt_cmpR op_gt (pv 0) pe_int (nomark _)) (pe_tup (StX.pa_star (pv 1) (pa_cons (pe_tup (pa_cons (pv 0) (pa_cons pe_int pa_nil))) pa_nil))) (pe_tupleOf (by rfl) T.b_tuple (pv 1))))))), ?_⟩
    refine ⟨Nat.zero_le _, fun lf nlf => ⟨_, _, rfl, ?_⟩⟩
    refine ⟨fun m σ H' => ∃ (k s : Nat) (acc : List (Nat × Nat)) (xs : List V) (z : Option V), σ = [some (.int k), some (.ref lf), some (.int s), z] ∧ apartGo m k s acc = some l ∧ 1 ≤ k ∧ k ≤ 1000000 ∧ 2 ≤ s ∧ s + 2 * m ≤ 50 ∧ acc.length + m ≤ 20 ∧
        H' lf = some (.lst xs) ∧ Prs H' xs acc ∧ Same H H', ⟨20, n, 2, [], [], none, rfl, hl, n1, n2, Nat.le_refl _, by decide, by decide, upd_same, .nil, same_upd nlf⟩, ?_⟩
    rintro m σ H1 ⟨k, s, acc, xs, z, rfl, hg, k1, k2, s2, s50, ha, hlf, hp, sm⟩
    have xl := Paired.length hp
    cases m with
    | zero => cases hg
    | succ m =>
      unfold apartGo at hg
      refine ⟨_, rfl, _, rfl, _, _, rfl, rfl, .inl ⟨by omega, by omega⟩, _, rfl, _, _, rfl, rfl, _, rfl, it2 (fun hle => ?_) (fun hle => ?_)⟩
      · have hle' : s * s ≤ k := by
          have : ((s * s : Nat) : Int) ≤ (k : Int) := by
            rw [Int.natCast_mul]
            exact hle
          omega
        rw [if_pos hle'] at hg
        cases hd : divOut 20 k s 0 with
        | none =>
          rw [hd] at hg
          cases hg
        | some r =>
          obtain ⟨k', o'⟩ := r
          rw [hd] at hg
          refine ⟨fun σ' H' => ∃ m', m' < m + 1 ∧ _, fun _ _ h => h, ?_⟩
          refine ⟨fun j σ' H' => ∃ (k3 o3 : Nat), σ' = [some (.int k3), some (.ref lf), some (.int s), some (.int o3)] ∧ divOut j k3 s o3 = some (k', o') ∧ 1 ≤ k3 ∧ k3 ≤ 1000000 ∧ H' = H1, ⟨20, k, 0, rfl, hd, k1, k2, rfl⟩, ?_⟩
          rintro j σ' H' ⟨k3, o3, rfl, hd3, k31, k32, rfl⟩
          cases j with
          | zero => cases hd3
          | succ j =>
            unfold divOut at hd3
            refine ⟨_, rfl, _, rfl, _, _, rfl, rfl, by omega, rfl, _, rfl, itV2 (fun h0 => ?_) (fun h0 => ?_)⟩
            · have h0' : k3 % s = 0 := by
                have : ((k3 % s : Nat) : Int) = 0 := by
                  rw [Int.natCast_emod]
                  exact h0
                omega
              rw [if_pos h0'] at hd3
              have hk3 : 1 ≤ k3 / s := by
                have := Nat.div_add_mod k3 s
                rcases Nat.eq_zero_or_pos (k3 / s) with e | e
                · rw [e] at this
                  omega
                · exact e
              refine ⟨fun σ' H' => ∃ m', m' < j + 1 ∧ _, fun _ _ h => h, _, rfl, _, rfl, _, _, rfl, rfl, ⟨by omega, by omega⟩, _, rfl, _, _, rfl, rfl, _, _, rfl, j, Nat.lt_succ_self _, k3 / s, o3 + 1, by rw [Int.natCast_ediv]; rfl, hd3, hk3, Nat.le_trans (Nat.div_le_self _ _) k32, rfl⟩
            · have h0' : ¬ k3 % s = 0 := fun e => h0 (by
                show (k3 : Int) % s = 0
                rw [← Int.natCast_emod, e]
                rfl)
              rw [if_neg h0'] at hd3
              have e := Option.some.inj hd3
              obtain ⟨e1, e2⟩ := Prod.mk.inj e
              subst e1 e2
              have hg' : apartGo m k3 (if s = 2 then 3 else s + 2) (if 0 < o3 then acc ++ [(s, o3)] else acc) = some l := hg
              -- the step's end
              have fin : ∀ (D : Ends) (acc' : List (Nat × Nat)) (ys : List V) (H2 : Hp), H2 lf = some (.lst ys) → Prs H2 ys acc' → Same H H2 → acc'.length ≤ acc.length + 1 → apartGo m k3 (if s = 2 then 3 else s + 2) acc' = some l →
                  (∀ σ' H', (∃ m', m' < m + 1 ∧ ∃ (k s : Nat) (acc : List (Nat × Nat)) (xs : List V) (z : Option V), σ' = [some (V.int k), some (V.ref lf), some (V.int s), z] ∧ apartGo m' k s acc = some l ∧ 1 ≤ k ∧ k ≤ 1000000 ∧ 2 ≤ s ∧ s + 2 * m' ≤ 50 ∧ acc.length + m' ≤ 20 ∧
                    H' lf = some (.lst xs) ∧ Prs H' xs acc ∧ Same H H') → D.nx σ' H') →
                  ∃ v : V, ([some (V.int k3), some (V.ref lf), some (V.int s), some (V.int o3)] : L2.St)[2]? = some (some v) ∧ scal v (V.int 2) = true ∧ ∃ c : Bool, V.bl (decide (v = V.int 2)) = V.bl c ∧
                    if c = true then tOp (rI0 fun i j => V.int (i + j)) (tVar 2) (tC (V.int 1)) [some (V.int k3), some (V.ref lf), some (V.int s), some (V.int o3)] H2 (fun x H1 => D.nx [some (V.int k3), some (V.ref lf), some x, some (V.int o3)] H1)
                    else tOp (rI0 fun i j => V.int (i + j)) (tVar 2) (tC (V.int 2)) [some (V.int k3), some (V.ref lf), some (V.int s), some (V.int o3)] H2 (fun x H1 => D.nx [some (V.int k3), some (V.ref lf), some x, some (V.int o3)] H1) := fun D acc' ys H2 g1 g2 g3 g4 g5 hD => by
                refine ⟨_, rfl, rfl, _, rfl, itV2 (fun e => ?_) (fun e => ?_)⟩
                · rw [if_pos (show s = 2 by omega)] at g5
                  exact ⟨_, rfl, _, _, rfl, rfl, hD _ _ ⟨m, Nat.lt_succ_self _, k3, 3, acc', ys, _, by rw [e]; rfl, g5, k31, k32, by omega, by omega, by omega, g1, g2, g3⟩⟩
                · rw [if_neg (show ¬ s = 2 by omega)] at g5
                  exact ⟨_, rfl, _, _, rfl, rfl, hD _ _ ⟨m, Nat.lt_succ_self _, k3, s + 2, acc', ys, _, rfl, g5, k31, k32, by omega, by omega, by omega, g1, g2, g3⟩⟩
              refine ⟨_, rfl, _, _, rfl, rfl, _, rfl, it2 (fun ho => ?_) (fun ho => ?_)⟩
              · have ho' : 0 < o3 := by omega
                refine ⟨_, rfl, .inl ⟨rfl, _, SqL.of hlf⟩, _, rfl, _, rfl, by show 2 ≤ sizeLine; decide, fun t nt => ?_⟩
                have nlt : lf ≠ t := ne_of_none hlf nt
                have hlf2 : upd H' t (.tup [.int s, .int o3]) lf = some (.lst xs) := by rw [upd_ne nlt]; exact hlf
                refine ⟨lf, xs, _, rfl, rfl, hlf2, small1000 (by omega), ?_⟩
                have st : Same H' (upd H' t (.tup [.int s, .int o3])) := same_upd nt
                have hp2 : Prs (upd (upd H' t (.tup [.int s, .int o3])) lf (.lst (xs ++ [.ref t]))) (xs ++ [.ref t]) (acc ++ [(s, o3)]) := by
                  refine pairedSnoc (L2.Paired.mapP hp fun v p ⟨u, e, hu⟩ => ⟨u, e, ?_⟩) ⟨t, rfl, ?_⟩
                  · rw [upd_ne (ne_of hu hlf (fun z => by cases z))]
                    exact st _ _ hu
                  · rw [upd_ne nlt.symm, upd_same]
                refine fin ⟨_, _, _, _⟩ (acc ++ [(s, o3)]) _ _ upd_same hp2 ((sm.lay nt).wr nlf) (by simp) (by rw [if_pos ho'] at hg'; exact hg') fun _ _ h => h
              · have ho' : ¬ 0 < o3 := by omega
                exact fin ⟨_, _, _, _⟩ acc xs _ hlf hp sm (by omega) (by rw [if_neg ho'] at hg'; exact hg') fun _ _ h => h
      · have hle' : ¬ s * s ≤ k := fun e => hle (by
          show (s : Int) * s ≤ k
          rw [← Int.natCast_mul]
          omega)
        rw [if_neg hle'] at hg
        have e := Option.some.inj hg
        refine ⟨_, rfl, _, _, rfl, rfl, _, rfl, it2 (fun hk => ?_) (fun hk => ?_)⟩
        · rw [if_pos (show 1 < k by omega)] at e
          refine ⟨_, rfl, lf, xs, rfl, .inr (SqL.of hlf), _, rfl, by show 2 ≤ sizeLine; decide, fun t nt => ?_⟩
          refine ⟨by rw [List.length_append]; show xs.length + 1 ≤ sizeLine; exact Nat.le_of_lt (small1000 (by omega)), fun p np => ?_⟩
          have st : Same H1 (upd H1 t (.tup [.int k, .int 1])) := same_upd nt
          have st2 := st.lay (o := .tup (xs ++ [.ref t])) np
          refine q _ p _ (sm.trans st2) upd_same ?_
          rw [← e]
          exact pairedSnoc (Prs.same st2 hp) ⟨t, rfl, same_upd np _ _ upd_same⟩
        · rw [if_neg (show ¬ 1 < k by omega)] at e
          refine ⟨_, rfl, .inl ⟨lf, xs, rfl, SqL.of hlf, fun p np => q _ p _ (sm.lay np) upd_same ?_⟩⟩
          rw [← e]
          exact Prs.same (same_upd np) hp
end
end RW

/-! plain functions: what the powers' defs compute -/
namespace RW
def rootsBy (n : Int) (m : Nat) (pc wh : Nat) : Nat := if n ^ (pc / Nat.gcd m pc) % (wh : Int) = 1 % (wh : Int) then Nat.gcd m pc else 0
def rootsIn (n : Int) (m p e : Nat) : Nat :=
  if 2 < p ∨ e < 3 then rootsBy n m (p ^ e - p ^ e / p) (p ^ e) else if m % 2 = 1 then 1 else if n % 4 = 1 then 2 * rootsBy n m (p ^ e / 4) (p ^ e) else 0
def countRoots (n : Int) (m : Nat) : List (Nat × Nat) → Nat → Nat
  | [], f => f
  | (p, e) :: l, f => countRoots n m l (f * rootsIn n m p e)
/-- primes and their powers within bounds -/
def LOk (l : List (Nat × Nat)) : Prop := ∀ x ∈ l, 2 ≤ x.1 ∧ 1 ≤ x.2 ∧ x.2 ≤ 1000 ∧ x.1 ^ x.2 ≤ 1000000
def rootsL (x : Int) (m n : Nat) : List Int := ((List.range n).filter fun (r : Nat) => decide ((r : Int) ^ m % (n : Int) = x % (n : Int))).map fun (r : Nat) => (r : Int)
theorem rootsBy_le (n : Int) (m pc wh : Nat) (h : 0 < pc) : rootsBy n m pc wh ≤ pc := by
  unfold rootsBy
  split
  · exact Nat.le_of_dvd h (Nat.gcd_dvd_right ..)
  · omega
theorem pow_pos' {p : Nat} (h : 2 ≤ p) (e : Nat) : 0 < p ^ e := Nat.pow_pos (by omega)
theorem piece_pos {p e : Nat} (h : 2 ≤ p) : 0 < p ^ e - p ^ e / p := by
  have := Nat.div_lt_self (pow_pos' h e) (show 1 < p by omega)
  omega
theorem rootsIn_le {n : Int} {m p e : Nat} (h : 2 ≤ p) (h3 : p ^ e ≤ 1000000) : rootsIn n m p e ≤ 2000000 := by
  unfold rootsIn
  split
  · exact Nat.le_trans (rootsBy_le n m (p ^ e - p ^ e / p) (p ^ e) (piece_pos h)) (Nat.le_trans (Nat.sub_le ..) (by omega))
  · split
    · omega
    · split
      · rename_i h1 _ _
        have h4 : 0 < p ^ e / 4 := by
          have e2 : p = 2 := by omega
          have e3 : 3 ≤ e := by omega
          subst e2
          have : 2 ^ 3 ≤ 2 ^ e := Nat.pow_le_pow_right (by omega) e3
          omega
        have := rootsBy_le n m (p ^ e / 4) (p ^ e) h4
        omega
      · omega
end RW

set_option maxHeartbeats 4000000
namespace RW
open PySem PySem.Spec PyProof.Rows L2
section
variable {P : Program} {w : World} {K : PySem.W.Frag} {mg : Str → Option Value} {base : Heap} {CK CW : Addr}
/-! ### powers by a base -/
def sp_check_open : Sp := fun vs H Q _ => ∃ a b : Int, vs = [.int a, .int b] ∧ Int.gcd a b = 1 ∧ Q .non H
def sp_check_power : Sp := fun vs H Q _ => ∃ i : Int, vs = [.int i] ∧ 0 ≤ i ∧ i ≤ 1000000 ∧ Q .non H
def sp_power_rest : Sp := fun vs H Q _ => ∃ n k b : Int, vs = [.int n, .int k, .int b] ∧ -1000000 ≤ n ∧ n ≤ 1000000 ∧ 0 ≤ k ∧ k ≤ 1000000 ∧ 1 ≤ b ∧ b ≤ 1000000 ∧ Q (.int (n ^ k.toNat % b)) H
def sp_is_open : Sp := fun vs H Q _ => ∃ n b : Int, vs = [.int n, .int b] ∧ -1000000 ≤ n ∧ n ≤ 1000000 ∧ 1 ≤ b ∧ b ≤ 1000000 ∧ Q (.bl (decide (Int.gcd n b = 1))) H
def sp_roots_by : Sp := fun vs H Q _ => ∃ (n : Int) (m pc wh : Nat), vs = [.int n, .int m, .int pc, .int wh] ∧ 1 ≤ pc ∧ pc ≤ 1000000 ∧ 1 ≤ wh ∧ wh ≤ 1000000 ∧ Q (.int (rootsBy n m pc wh)) H
def sp_roots_in : Sp := fun vs H Q _ => ∃ (n : Int) (m p e : Nat), vs = [.int n, .int m, .int p, .int e] ∧ 2 ≤ p ∧ 1 ≤ e ∧ p ^ e ≤ 1000000 ∧ Q (.int (rootsIn n m p e)) H
def sp_count_roots_of : Sp := fun vs H Q _ => ∃ (n : Int) (m b : Nat) (l : List (Nat × Nat)), vs = [.int n, .int m, .int b] ∧ 1 ≤ m ∧ 1 ≤ b ∧ b ≤ 1000000 ∧ apart b = some l ∧ LOk l ∧ ∀ H', Same H H' → Q (.int (countRoots n m l 1)) H'
def sp_count_roots : Sp := fun vs H Q _ => ∃ (n : Int) (m b : Nat) (l : List (Nat × Nat)), vs = [.int n, .int m, .int b] ∧ -1000000 ≤ n ∧ n ≤ 1000000 ∧ 1 ≤ m ∧ m ≤ 1000000 ∧ 1 ≤ b ∧ b ≤ 1000000 ∧ Int.gcd n b = 1 ∧ apart b = some l ∧ LOk l ∧ ∀ H', Same H H' → Q (.int (countRoots n m l 1)) H'
def sp_roots : Sp := fun vs H Q _ => ∃ (n : Int) (m b : Nat), vs = [.int n, .int m, .int b] ∧ -1000000 ≤ n ∧ n ≤ 1000000 ∧ m ≤ 1000000 ∧ 1 ≤ b ∧ b ≤ 900 ∧ ∀ H' p, Same H H' → H' p = some (.tup ((rootsL n m b).map V.int)) → Q (.ref p) H'
theorem ok_check_open (T : Txt K mg CK CW) : Ok P w K mg base 2 "check_open" ["number", "base"] sp_check_open := by
  refine T.d_check_open.ok (k := 1) sc_check_open (fun _ _ _ _ _ _ us hl => match us, hl with | [_, _], _ => rfl) (fun vs H Q E h => ?_) (fun f cdv A outer s H vs Q E hr h => ?_)
  · obtain ⟨_, _, rfl, _⟩ := h
    rfl
  · obtain ⟨a, b, rfl, hg, q⟩ := h
    refine ⟨_, (pss_one (ps_if (pt_cmpR op_ne (pe_ok (ok_common_of T) (hr.mono (by decide)) (by rfl) (pa_cons (pv 0) (pa_cons (pv 1) pa_nil))) pe_int (nomark _)) (pss_one ps_never) pss_nil)), ?_⟩
    exact ⟨_, rfl, _, rfl, a, b, rfl, rfl, _, rfl, itNV2 (fun e => absurd (by rw [hg]; rfl) e) (fun _ => q)⟩
theorem ok_check_power (T : Txt K mg CK CW) : Ok P w K mg base 4 "check_power" ["power"] sp_check_power := by
  refine T.d_check_power.ok (k := 3) sc_check_power (fun _ _ _ _ _ _ us hl => match us, hl with | [_], _ => rfl) (fun vs H Q E h => ?_) (fun f cdv A outer s H vs Q E hr h => ?_)
  · obtain ⟨_, rfl, _⟩ := h
    rfl
  · obtain ⟨i, rfl, h1, h2, q⟩ := h
    refine ⟨_, (pss_one (ps_expr (pe_ok (ok_check_between T) (hr.mono (by decide)) (by rfl) (pa_cons (pv 0) (pa_cons pe_int (pa_cons (pe_cst (by rfl) T.c_MOST_NUMBER) pa_nil)))))), ?_⟩
    exact ⟨_, rfl, i, _, _, rfl, by omega, by omega, q⟩
theorem ok_power_rest (T : Txt K mg CK CW) : Ok P w K mg base 5 "power_rest" ["number", "power", "base"] sp_power_rest := by
  refine T.d_power_rest.ok (k := 4) sc_power_rest (fun _ _ _ _ _ _ us hl => match us, hl with | [_, _, _], _ => rfl) (fun vs H Q E h => ?_) (fun f cdv A outer s H vs Q E hr h => ?_)
  · obtain ⟨_, _, _, rfl, _⟩ := h
    rfl
  · obtain ⟨n, k, b, rfl, n0, n1, k0, k1, b0, b1, q⟩ := h
    refine ⟨_, (pss_cons (ps_expr (pe_ok (ok_check_number T) (hr.mono (by decide)) (by rfl) (pa_cons (pv 0) pa_nil)))
      (pss_cons (ps_expr (pe_ok (ok_check_power T) (hr.mono (by decide)) (by rfl) (pa_cons (pv 1) pa_nil)))
      (pss_cons (ps_expr (pe_ok (ok_check_between T) (hr.mono (by decide)) (by rfl) (pa_cons (pv 2) (pa_cons pe_int (pa_cons (pe_cst (by rfl) T.c_MOST_FACT) pa_nil)))))
      (pss_one (ps_ret (pe_ok (ok_power_by T) (hr.mono (by decide)) (by rfl) (pa_cons (pv 0) (pa_cons (pv 1) (pa_cons (pv 2) pa_nil))))))))), ?_⟩
    exact ⟨_, rfl, n, rfl, n0, n1, _, rfl, k, rfl, k0, k1, _, rfl, b, _, _, rfl, b0, by omega, _, rfl, _, rfl, _, rfl, n, k, b, rfl, k0, by omega, by omega, q⟩
theorem ok_is_open (T : Txt K mg CK CW) : Ok P w K mg base 5 "is_open" ["number", "base"] sp_is_open := by
  refine T.d_is_open.ok (k := 4) sc_is_open (fun _ _ _ _ _ _ us hl => match us, hl with | [_, _], _ => rfl) (fun vs H Q E h => ?_) (fun f cdv A outer s H vs Q E hr h => ?_)
  · obtain ⟨_, _, rfl, _⟩ := h
    rfl
  · obtain ⟨n, b, rfl, n0, n1, b0, b1, q⟩ := h
    refine ⟨_, (pss_cons (ps_expr (pe_ok (ok_check_number T) (hr.mono (by decide)) (by rfl) (pa_cons (pv 0) pa_nil)))
      (pss_cons (ps_expr (pe_ok (ok_check_between T) (hr.mono (by decide)) (by rfl) (pa_cons (pv 1) (pa_cons pe_int (pa_cons (pe_cst (by rfl) T.c_MOST_FACT) pa_nil)))))
      (pss_one (ps_ret (pe_cmpR op_eq (pe_ok (ok_common_of T) (hr.mono (by decide)) (by rfl) (pa_cons (pv 0) (pa_cons (pv 1) pa_nil))) pe_int (nomark _)))))), ?_⟩
    refine ⟨_, rfl, n, rfl, n0, n1, _, rfl, b, _, _, rfl, b0, by omega, _, rfl, _, rfl, n, b, rfl, rfl, ?_⟩
    show Q (.bl (decide (V.int (Int.gcd n b : Nat) = V.int 1))) H
    rw [decV]
    have e : decide (((Int.gcd n b : Nat) : Int) = 1) = decide (Int.gcd n b = 1) := by
      by_cases h : Int.gcd n b = 1
      · rw [h]
        rfl
      · rw [decide_eq_false h, decide_eq_false (by omega)]
    rw [e]
    exact q
theorem ok_roots_by (T : Txt K mg CK CW) : Ok P w K mg base 2 "roots_by" ["number", "power", "piece", "whole"] sp_roots_by := by
  refine T.d_roots_by.ok (k := 1) sc_roots_by (fun _ _ _ _ _ _ us hl => match us, hl with | [_, _, _, _], _ => rfl) (fun vs H Q E h => ?_) (fun f cdv A outer s H vs Q E hr h => ?_)
  · obtain ⟨_, _, _, _, rfl, _⟩ := h
    rfl
  · obtain ⟨n, m, pc, wh, rfl, p1, p2, w1, w2, q⟩ := h
    refine ⟨_, (pss_cons (ps_set (i := 4) sc_roots_by.nd rfl (.inl rfl) (pe_ok (ok_common_of T) (hr.mono (by decide)) (by rfl) (pa_cons (pv 1) (pa_cons (pv 2) pa_nil))))
      (pss_one (ps_ret (pe_ifExp (pt_cmpR op_eq (pe_ok (ok_power_by T) (hr.mono (by decide)) (by rfl) (pa_cons (pv 0) (pa_cons (pe_op op_fdiv (pv 2) (pv 4)) (pa_cons (pv 3) pa_nil)))) (pe_op op_mod pe_int (pv 3)) (nomark _)) (pv 4) pe_int)))), ?_⟩
    have gp : 0 < Nat.gcd m pc := Nat.gcd_pos_of_pos_right _ p1
    have gl : Nat.gcd m pc ≤ pc := Nat.le_of_dvd p1 (Nat.gcd_dvd_right ..)
    refine ⟨_, rfl, _, rfl, _, _, rfl, ?_⟩
    have eg : Int.gcd (m : Int) (pc : Int) = Nat.gcd m pc := rfl
    rw [eg]
    refine ⟨_, rfl, _, rfl, _, rfl, _, _, rfl, rfl, ⟨by omega, by omega⟩, _, rfl, _, _, _, rfl, Int.ediv_nonneg (by omega) (by omega), by omega, by omega, _, rfl, _, _, rfl, rfl, by omega, rfl, _, rfl, ?_⟩
    have ed : ((pc : Int) / (Nat.gcd m pc : Nat)).toNat = pc / Nat.gcd m pc := by
      rw [← Int.natCast_ediv]
      rfl
    rw [ed]
    unfold rootsBy at q
    refine itV2 (fun e => ?_) (fun e => ?_)
    · rw [if_pos e] at q
      exact ⟨_, rfl, q⟩
    · rw [if_neg e] at q
      exact q
theorem ok_roots_in (T : Txt K mg CK CW) : Ok P w K mg base 3 "roots_in" ["number", "power", "prime", "often"] sp_roots_in := by
  refine T.d_roots_in.ok (k := 2) sc_roots_in (fun _ _ _ _ _ _ us hl => match us, hl with | [_, _, _, _], _ => rfl) (fun vs H Q E h => ?_) (fun f cdv A outer s H vs Q E hr h => ?_)
  · obtain ⟨_, _, _, _, rfl, _⟩ := h
    rfl
  · obtain ⟨n, m, p, e, rfl, p1, e1, w2, q⟩ := h
    refine ⟨_, (pss_cons (ps_set (i := 4) sc_roots_in.nd rfl (.inl rfl) (pe_ok (ok_raised T) (hr.mono (by decide)) (by rfl) (pa_cons (pv 2) (pa_cons (pv 3) pa_nil))))
      (pss_cons (ps_if (PW.pt (pw_or (pt_cmpR op_gt (pv 2) pe_int (nomark _)) (pw_or1 (pt_cmpR op_lt (pv 3) pe_int (nomark _))))) (pss_one (ps_ret (pe_ok (ok_roots_by T) (hr.mono (by decide)) (by rfl) (pa_cons (pv 0) (pa_cons (pv 1) (pa_cons (pe_op op_sub (pv 4) (pe_op op_fdiv (pv 4) (pv 2))) (pa_cons (pv 4) pa_nil))))))) pss_nil)
      (pss_cons (ps_if (pt_cmpR op_eq (pe_op op_mod (pv 1) pe_int) pe_int (nomark _)) (pss_one (ps_ret pe_int)) pss_nil)
      (pss_one (ps_ret (pe_ifExp (pt_cmpR op_eq (pe_op op_mod (pv 0) pe_int) pe_int (nomark _)) (pe_op op_mul pe_int (pe_ok (ok_roots_by T) (hr.mono (by decide)) (by rfl) (pa_cons (pv 0) (pa_cons (pv 1) (pa_cons (pe_op op_fdiv (pv 4) pe_int) (pa_cons (pv 4) pa_nil)))))) pe_int)))))), ?_⟩
    have wp : 0 < p ^ e := pow_pos' p1 e
    have ew : (p : Int) ^ ((e : Int)).toNat = ((p ^ e : Nat) : Int) := by
      rw [Int.natCast_pow]
      rfl
    refine ⟨_, rfl, _, rfl, p, e, rfl, by omega, by omega, by rw [ew]; omega, ?_⟩
    rw [ew]
    unfold rootsIn at q
    have one : ∀ {A B : Prop}, ((2 < p ∨ e < 3) → A) → (¬ (2 < p ∨ e < 3) → B) → (∃ v : V, ([some (V.int n), some (V.int m), some (V.int p), some (V.int e), some (V.int ((p ^ e : Nat) : Int))] : L2.St)[2]? = some (some v) ∧ ∃ i j : Int, v = V.int i ∧ V.int 2 = V.int j ∧ ∃ k : Bool, V.bl (decide (j < i)) = V.bl k ∧
        if k = true then (if true = true then A else B) else ∃ v : V, ([some (V.int n), some (V.int m), some (V.int p), some (V.int e), some (V.int ((p ^ e : Nat) : Int))] : L2.St)[3]? = some (some v) ∧ ∃ i j : Int, v = V.int i ∧ V.int 3 = V.int j ∧ ∃ k : Bool, V.bl (decide (i < j)) = V.bl k ∧ if k = true then A else B) := fun {A B} ha hb => by
      refine ⟨_, rfl, _, _, rfl, rfl, _, rfl, it2 (fun h => iteT (ha (.inl (by omega)))) (fun h => ⟨_, rfl, _, _, rfl, rfl, _, rfl, it2 (fun h2 => ha (.inr (by omega))) (fun h2 => hb (by omega))⟩)⟩
    refine one (fun hc => ?_) (fun hc => ?_)
    · rw [if_pos hc] at q
      have pl := piece_pos (e := e) p1
      have pp : p ≤ p ^ e := Nat.le_self_pow (by omega) p
      have ps : p ^ e - p ^ e / p ≤ 1000000 := Nat.le_trans (Nat.sub_le ..) w2
      have pd : p ^ e / p ≤ p ^ e := Nat.div_le_self _ _
      have ep : ((p ^ e : Nat) : Int) - ((p ^ e : Nat) : Int) / (p : Int) = ((p ^ e - p ^ e / p : Nat) : Int) := by
        rw [Int.natCast_sub pd, Int.natCast_ediv]
      refine ⟨_, rfl, _, rfl, _, rfl, _, rfl, _, rfl, _, _, rfl, rfl, ⟨by omega, by omega⟩, _, _, rfl, rfl, _, rfl, n, m, p ^ e - p ^ e / p, p ^ e, by rw [← ep]; rfl, pl, ps, wp, w2, q⟩
    · rw [if_neg hc] at q
      have e2 : p = 2 := by omega
      refine ⟨_, rfl, _, _, rfl, rfl, (by show (0 : Int) < 2; decide), rfl, _, rfl, itV2 (fun ho => ?_) (fun ho => ?_)⟩
      · rw [if_pos (show m % 2 = 1 by omega)] at q
        exact q
      · rw [if_neg (show ¬ m % 2 = 1 by omega)] at q
        refine ⟨_, rfl, _, _, rfl, rfl, (by show (0 : Int) < 4; decide), rfl, _, rfl, itV2 (fun h4 => ?_) (fun h4 => ?_)⟩
        · rw [if_pos h4] at q
          have h8 : 8 ≤ p ^ e := by
            subst e2
            exact Nat.pow_le_pow_right (show 0 < 2 by omega) (show 3 ≤ e by omega)
          refine ⟨_, rfl, _, rfl, _, rfl, _, _, rfl, rfl, ⟨by decide, by decide⟩, _, rfl, n, m, p ^ e / 4, p ^ e, by rw [Int.natCast_ediv]; rfl, by omega, by omega, wp, w2, _, _, rfl, rfl, .inl ⟨by decide, by decide⟩, ?_⟩
          exact q
        · rw [if_neg h4] at q
          exact q
theorem ok_count_roots_of (T : Txt K mg CK CW) : Ok P w K mg base 4 "count_roots_of" ["number", "power", "base"] sp_count_roots_of := by
  refine T.d_count_roots_of.ok (k := 3) sc_count_roots_of (fun _ _ _ _ _ _ us hl => match us, hl with | [_, _, _], _ => rfl) (fun vs H Q E h => ?_) (fun f cdv A outer s H vs Q E hr h => ?_)
  · obtain ⟨_, _, _, _, rfl, _⟩ := h
    rfl
  · obtain ⟨n, m, b, l, rfl, m1, b1, b2, hl, lok, q⟩ := h
    refine ⟨_, (pss_cons (ps_if (pt_cmpR op_eq (pv 1) pe_int (nomark _)) (pss_one (ps_ret (pe_ifExp (pt_cmpR op_eq (pe_op op_mod (pe_op op_sub (pv 0) pe_int) (pv 2)) pe_int (nomark _)) (pv 2) pe_int))) pss_nil)
      (pss_cons (ps_set (i := 3) sc_count_roots_of.nd rfl (.inl rfl) pe_int)
      (pss_cons (ps_for PassesOwn.never rfl (pi_tup (pe_ok (ok_apart_of T) (hr.mono (by decide)) (by rfl) (pa_cons (pv 2) pa_nil))) (pg_tup rfl (pgs_cons (pg_name (i := 4) sc_count_roots_of.nd rfl (.inl rfl)) (pgs_cons (pg_name (i := 5) sc_count_roots_of.nd rfl (.inl rfl)) pgs_nil))) (pss_one (ps_set (i := 3) sc_count_roots_of.nd rfl (.inl rfl) (pe_op op_mul (pv 3) (pe_ok (ok_roots_in T) (hr.mono (by decide)) (by rfl) (pa_cons (pv 0) (pa_cons (pv 1) (pa_cons (pv 4) (pa_cons (pv 5) pa_nil)))))))))
      (pss_one (ps_ret (pv 3)))))), ?_⟩
    refine ⟨_, rfl, rfl, _, rfl, itV2 (fun e => absurd e (by omega)) (fun _ => ?_)⟩
    refine ⟨_, rfl, b, l, rfl, b1, b2, hl, fun H1 p xs s1 hp hxs => ⟨p, rfl, ⟨_, SqT.of hp⟩, for_tup (a := p) (xs := xs) (K := K) (fun i σ H' => ∃ (f : Nat) (z1 z2 : Option V), σ = [some (.int n), some (.int m), some (.int b), some (.int f), z1, z2] ∧ H' = H1 ∧ countRoots n m (l.drop i) f = countRoots n m l 1)
      ⟨1, none, none, rfl, rfl, rfl⟩ (fun i σ H' _ ⟨_, _, _, _, e, _⟩ => by rw [e]; exact SqT.of hp) ?_ ?_⟩⟩
    · rintro i x σ H' hi ⟨f, z1, z2, rfl, rfl, hc⟩
      obtain ⟨⟨pr, of⟩, hy, t, rfl, ht⟩ := pairedGet hxs hi
      have hm := lok _ (List.mem_of_getElem? hy)
      have hd : l.drop i = (pr, of) :: l.drop (i + 1) := by
        obtain ⟨hlt, e⟩ := List.getElem?_eq_some_iff.mp hy
        rw [← e]
        exact List.drop_eq_getElem_cons hlt
      rw [hd] at hc
      refine ⟨t, _, rfl, SqT.of ht, rfl, _, _, rfl, _, _, rfl, rfl, ?_⟩
      have hb : rootsIn n m pr of ≤ 2000000 := rootsIn_le hm.1 hm.2.2.2
      refine ⟨_, rfl, _, rfl, _, rfl, _, rfl, _, rfl, n, m, pr, of, rfl, hm.1, hm.2.1, hm.2.2.2, _, _, rfl, rfl, .inr ⟨by omega, by omega⟩, f * rootsIn n m pr of, _, _, by rw [Int.natCast_mul]; rfl, rfl, hc⟩
    · rintro σ H' ⟨f, z1, z2, rfl, rfl, hc⟩
      rw [List.drop_eq_nil_of_le (by rw [Paired.length hxs]; exact Nat.le_refl _)] at hc
      refine ⟨_, rfl, ?_⟩
      have hc' : f = countRoots n m l 1 := hc
      rw [hc']
      exact q _ s1
theorem ok_count_roots (T : Txt K mg CK CW) : Ok P w K mg base 5 "count_roots" ["number", "power", "base"] sp_count_roots := by
  refine T.d_count_roots.ok (k := 4) sc_count_roots (fun _ _ _ _ _ _ us hl => match us, hl with | [_, _, _], _ => rfl) (fun vs H Q E h => ?_) (fun f cdv A outer s H vs Q E hr h => ?_)
  · obtain ⟨_, _, _, _, rfl, _⟩ := h
    rfl
  · obtain ⟨n, m, b, l, rfl, n0, n1, m0, m1, b0, b1, hg, hl, lok, q⟩ := h
    refine ⟨_, (pss_cons (ps_expr (pe_ok (ok_check_number T) (hr.mono (by decide)) (by rfl) (pa_cons (pv 0) pa_nil)))
      (pss_cons (ps_expr (pe_ok (ok_check_power T) (hr.mono (by decide)) (by rfl) (pa_cons (pv 1) pa_nil)))
      (pss_cons (ps_expr (pe_ok (ok_check_base T) (hr.mono (by decide)) (by rfl) (pa_cons (pv 2) pa_nil)))
      (pss_cons (ps_expr (pe_ok (ok_check_open T) (hr.mono (by decide)) (by rfl) (pa_cons (pv 0) (pa_cons (pv 2) pa_nil))))
      (pss_one (ps_ret (pe_ok (ok_count_roots_of T) (hr.mono (by decide)) (by rfl) (pa_cons (pv 0) (pa_cons (pv 1) (pa_cons (pv 2) pa_nil)))))))))), ?_⟩
    exact ⟨_, rfl, n, rfl, n0, n1, _, rfl, m, rfl, by omega, by omega, _, rfl, b, rfl, by omega, by omega, _, rfl, _, rfl, n, b, rfl, hg, _, rfl, _, rfl, _, rfl, n, m, b, l, rfl, m0, b0, b1, hl, lok, q⟩
theorem ok_roots (T : Txt K mg CK CW) : Ok P w K mg base 5 "roots" ["number", "power", "base"] sp_roots := by
  refine T.d_roots.ok (k := 4) sc_roots (fun _ _ _ _ _ _ us hl => match us, hl with | [_, _, _], _ => rfl) (fun vs H Q E h => ?_) (fun f cdv A outer s H vs Q E hr h => ?_)
  · obtain ⟨_, _, _, rfl, _⟩ := h
    rfl
  · obtain ⟨n, m, b, rfl, n0, n1, m1, b0, b1, q⟩ := h
    refine ⟨_, (pss_cons (ps_expr (pe_ok (ok_check_number T) (hr.mono (by decide)) (by rfl) (pa_cons (pv 0) pa_nil)))
      (pss_cons (ps_expr (pe_ok (ok_check_power T) (hr.mono (by decide)) (by rfl) (pa_cons (pv 1) pa_nil)))
      (pss_cons (ps_expr (pe_ok (ok_check_base T) (hr.mono (by decide)) (by rfl) (pa_cons (pv 2) pa_nil)))
      (pss_cons (ps_if (pt_cmpR op_gt (pv 2) (pe_cst (by rfl) T.c_MOST_WALKED) (nomark _)) (pss_one ps_never) pss_nil)
      (pss_one (ps_ret (pe_tupleOf (by rfl) T.b_tuple (pe_lc (own := [("rest", 3)]) (g := gName 3) rfl sc_roots.nd (pi_range1 (by rfl) T.b_range (pa_cons (pv 2) pa_nil)) (blkOk_by (own := [("rest", 3)]) (N := ["number", "power", "base", "rest"]) (sc := defScope s_roots) (by decide +kernel)) (fun _ _ _ _ _ => (pg_name (i := 3) sc_roots.nd rfl (.inl rfl))) (fun _ _ _ _ _ => (pts_one (pt_cmpR op_eq (pe_ok (ok_power_by T) (hr.mono (by decide)) (by rfl) (pa_cons (pv 3) (pa_cons (pv 1) (pa_cons (pv 2) pa_nil)))) (pe_op op_mod (pv 0) (pv 2)) (nomark _)))) (fun _ _ _ _ _ => (pv 3)))))))))), ?_⟩
    refine ⟨_, rfl, n, rfl, n0, n1, _, rfl, m, rfl, by omega, by omega, _, rfl, b, rfl, by omega, by omega, ?_⟩
    refine ⟨_, rfl, _, _, rfl, rfl, _, rfl, itDF (by omega) ?_⟩
    let L : Nat → List V := fun i => ((((List.range i).filter fun (r : Nat) => decide ((r : Int) ^ m % (b : Int) = n % (b : Int))).map fun (r : Nat) => (r : Int)).map V.int)
    have Ls : ∀ i, L (i + 1) = if (i : Int) ^ m % (b : Int) = n % (b : Int) then L i ++ [V.int i] else L i := fun i => by
      show (List.map V.int (List.map _ (List.filter _ (List.range (i + 1))))) = _
      rw [List.range_succ, List.filter_append, List.map_append, List.map_append]
      split
      · rename_i e
        rw [List.filter_cons_of_pos (by simpa using e)]
        rfl
      · rename_i e
        rw [List.filter_cons_of_neg (by simpa using e), List.filter_nil]
        exact List.append_nil _
    have Ll : ∀ i, (L i).length ≤ i := fun i => by
      show (List.map V.int _).length ≤ i
      rw [List.length_map, List.length_map]
      exact Nat.le_trans (List.length_filter_le _ _) (by rw [List.length_range]; exact Nat.le_refl _)
    refine ⟨_, rfl, _, rfl, by omega, by omega, fun D hD => lc_range (lo := 0) (n := b) (fun i H' => Same H H' ∧ H' D = some (.lst (L i))) ⟨same_upd hD, upd_same⟩ ?_ ?_⟩
    · rintro i H1 hi ⟨s1, e1⟩
      have e0 : (0 : Int) + (i : Int) = (i : Int) := by omega
      refine ⟨rfl, _, rfl, _, rfl, _, rfl, (i : Int), m, b, congrArg (fun z => [V.int z, V.int m, V.int b]) e0, by omega, by omega, by omega, _, rfl, _, rfl, _, _, rfl, rfl, by omega, rfl, _, rfl, itV2 (fun h => ?_) (fun h => ?_)⟩
      · have li := Ll i
        refine ⟨_, rfl, _, e1, small1000 (by omega), s1.wr hD, ?_⟩
        rw [upd_same, Ls i, if_pos (show (i : Int) ^ m % (b : Int) = n % (b : Int) from h), e0]
      · refine ⟨s1, ?_⟩
        rw [e1, Ls i, if_neg (show ¬ (i : Int) ^ m % (b : Int) = n % (b : Int) from h)]
    · rintro H1 ⟨s1, e1⟩
      exact .inl ⟨D, _, rfl, SqL.of e1, fun p np => q _ p (s1.lay np) upd_same⟩
end
end RW

/-! plain mathematics: sums of powers by lists of coefficients, their slopes, what is led in, the only zero above one -/
namespace RW
/-! ### values -/
def ev : List Int → Int → Int
  | [], _ => 0
  | c :: r, x => c + x * ev r x
def dv : List Int → Int → Int
  | [], _ => 0
  | _ :: r, x => ev r x + x * dv r x
def slopeFrom : Int → List Int → List Int
  | _, [] => []
  | k, c :: r => k * c :: slopeFrom (k + 1) r
def slope (zs : List Int) : List Int := if 1 < zs.length then (slopeFrom 0 zs).drop 1 else [0]
theorem slopeFrom_snoc (t : Int) : ∀ (k : Int) (l : List Int), slopeFrom k (l ++ [t]) = slopeFrom k l ++ [(k + l.length) * t]
  | k, [] => by simp [slopeFrom]
  | k, c :: r => by
    simp only [List.cons_append, slopeFrom, slopeFrom_snoc t (k + 1) r, List.length_cons]
    rw [show k + 1 + (r.length : Int) = k + ((r.length + 1 : Nat) : Int) by omega]
theorem slopeFrom_len : ∀ (k : Int) (l : List Int), (slopeFrom k l).length = l.length
  | _, [] => rfl
  | k, _ :: r => by simp [slopeFrom, slopeFrom_len (k + 1) r]
theorem slope_len (zs : List Int) : (slope zs).length ≤ zs.length + 1 := by
  unfold slope
  split
  · rw [List.length_drop, slopeFrom_len]
    omega
  · simp
theorem ev_slopeFrom (x : Int) : ∀ (k : Int) (l : List Int), ev (slopeFrom k l) x = k * ev l x + x * dv l x
  | k, [] => by simp [slopeFrom, ev, dv]
  | k, c :: r => by
    simp only [slopeFrom, ev, dv, ev_slopeFrom x (k + 1) r, Int.mul_add, Int.add_mul, Int.one_mul, Int.mul_left_comm k x]
    omega
theorem ev_slope (x : Int) (zs : List Int) : ev (slope zs) x = dv zs x := by
  unfold slope
  match zs with
  | [] => simp [ev, dv]
  | [c] => simp [ev, dv]
  | c :: t :: r =>
    rw [if_pos (by simp)]
    show ev (slopeFrom (0 + 1) (t :: r)) x = dv (c :: t :: r) x
    rw [ev_slopeFrom]
    show (0 + 1) * ev (t :: r) x + x * dv (t :: r) x = ev (t :: r) x + x * dv (t :: r) x
    omega
/-- Taylor -/
theorem taylor (x h : Int) : ∀ zs : List Int, ∃ k, ev zs (x + h) = ev zs x + h * dv zs x + h * h * k
  | [] => ⟨0, by simp [ev, dv]⟩
  | c :: r => by
    obtain ⟨k, e⟩ := taylor x h r
    refine ⟨dv r x + (x + h) * k, ?_⟩
    show c + (x + h) * ev r (x + h) = c + x * ev r x + h * (ev r x + x * dv r x) + h * h * (dv r x + (x + h) * k)
    rw [e]
    simp only [Int.mul_add, Int.add_mul, Int.mul_assoc, Int.mul_left_comm x h]
    omega
theorem ev_diff (x h : Int) (zs : List Int) : h ∣ ev zs (x + h) - ev zs x := by
  obtain ⟨k, e⟩ := taylor x h zs
  exact ⟨dv zs x + h * k, by rw [e, Int.mul_add, Int.mul_assoc]; omega⟩
theorem ev_congr {n x y : Int} (h : n ∣ y - x) (zs : List Int) : n ∣ ev zs y - ev zs x := by
  have e := ev_diff x (y - x) zs
  rw [show x + (y - x) = y by omega] at e
  exact Int.dvd_trans h e
theorem dv_congr {n x y : Int} (h : n ∣ y - x) (zs : List Int) : n ∣ dv zs y - dv zs x := by
  rw [← ev_slope, ← ev_slope]
  exact ev_congr h _
theorem emod_of_dvd_sub {n x y : Int} (h : n ∣ y - x) : y % n = x % n := Int.emod_eq_emod_iff_emod_sub_eq_zero.mpr (Int.emod_eq_zero_of_dvd h)
theorem dvd_sub_of_emod {n x y : Int} (h : y % n = x % n) : n ∣ y - x := Int.dvd_of_emod_eq_zero (Int.emod_eq_emod_iff_emod_sub_eq_zero.mp h)
/-! ### noughts at the end -/
def trimF : Nat → List Int → List Int
  | 0, zs => zs
  | k + 1, zs => if 1 < zs.length ∧ zs.getLast? = some 0 then trimF k zs.dropLast else zs
def trim (zs : List Int) : List Int := trimF zs.length zs
theorem ev_snoc0 (x : Int) : ∀ l : List Int, ev (l ++ [0]) x = ev l x
  | [] => by simp [ev]
  | c :: r => by
    show c + x * ev (r ++ [0]) x = c + x * ev r x
    rw [ev_snoc0 x r]
theorem trimF_ev (x : Int) : ∀ (k : Nat) (zs : List Int), ev (trimF k zs) x = ev zs x
  | 0, _ => rfl
  | k + 1, zs => by
    unfold trimF
    split
    · rename_i h
      rw [trimF_ev x k]
      obtain ⟨ys, rfl⟩ := List.getLast?_eq_some_iff.mp h.2
      rw [List.dropLast_concat, ev_snoc0]
    · rfl
theorem trim_ev (x : Int) (zs : List Int) : ev (trim zs) x = ev zs x := trimF_ev x _ _
theorem trimF_mem : ∀ (k : Nat) (zs : List Int), ∀ z ∈ trimF k zs, z ∈ zs
  | 0, _, z, h => h
  | k + 1, zs, z, h => by
    unfold trimF at h
    split at h
    · exact List.dropLast_subset _ (trimF_mem k _ z h)
    · exact h
theorem trimF_ne : ∀ (k : Nat) (zs : List Int), zs ≠ [] → trimF k zs ≠ []
  | 0, _, h => h
  | k + 1, zs, h => by
    unfold trimF
    split
    · rename_i h2
      refine trimF_ne k _ fun e => ?_
      have := congrArg List.length e
      rw [List.length_dropLast] at this
      simp at this
      omega
    · exact h
theorem trimF_len : ∀ (k : Nat) (zs : List Int), (trimF k zs).length ≤ zs.length
  | 0, _ => Nat.le_refl _
  | k + 1, zs => by
    unfold trimF
    split
    · refine Nat.le_trans (trimF_len k _) ?_
      rw [List.length_dropLast]
      omega
    · exact Nat.le_refl _
theorem trim_mem {zs : List Int} {z : Int} (h : z ∈ trim zs) : z ∈ zs := trimF_mem _ _ z h
theorem trim_ne {zs : List Int} (h : zs ≠ []) : trim zs ≠ [] := trimF_ne _ _ h
theorem trim_len (zs : List Int) : (trim zs).length ≤ zs.length := trimF_len _ _
/-! ### leading in -/
def lin (a s t : Int) (f : List Int) : List Int := List.zipWith (· + ·) (f.map (a * ·) ++ [0]) (t :: f.map (s * ·))
def ledGo (a s : Int) (zs : List Int) : List Int := zs.foldr (lin a s) [0]
def ledIn (zs : List Int) (a s : Int) : List Int := trim (ledGo a s zs)
theorem ev_zip (y : Int) : ∀ (l m : List Int), l.length = m.length → ev (List.zipWith (· + ·) l m) y = ev l y + ev m y
  | [], [], _ => rfl
  | a :: l, b :: m, h => by
    have ih := ev_zip y l m (by simpa using h)
    simp only [List.zipWith_cons_cons, ev, ih, Int.mul_add]
    omega
theorem ev_map (y a : Int) : ∀ l : List Int, ev (l.map (a * ·)) y = a * ev l y
  | [] => by simp [ev]
  | c :: r => by
    simp only [List.map_cons, ev, ev_map y a r, Int.mul_add, Int.mul_left_comm y a]
theorem ev_lin (a s t y : Int) (f : List Int) : ev (lin a s t f) y = t + (a + s * y) * ev f y := by
  unfold lin
  rw [ev_zip _ _ _ (by simp), ev_snoc0, ev_map]
  show a * ev f y + (t + y * ev (f.map (s * ·)) y) = _
  rw [ev_map, Int.add_mul, Int.mul_assoc, Int.mul_left_comm y s]
  omega
theorem ev_ledGo (a s y : Int) : ∀ zs : List Int, ev (ledGo a s zs) y = ev zs (a + s * y)
  | [] => by simp [ledGo, ev]
  | c :: r => by
    show ev (lin a s c (ledGo a s r)) y = _
    rw [ev_lin, ev_ledGo a s y r]
    rfl
theorem ev_ledIn (a s y : Int) (zs : List Int) : ev (ledIn zs a s) y = ev zs (a + s * y) := by
  unfold ledIn
  rw [trim_ev, ev_ledGo]
theorem lin_len (a s t : Int) (f : List Int) : (lin a s t f).length = f.length + 1 := by
  unfold lin
  simp
theorem ledGo_len (a s : Int) : ∀ zs : List Int, (ledGo a s zs).length = zs.length + 1
  | [] => rfl
  | c :: r => by
    show (lin a s c (ledGo a s r)).length = _
    rw [lin_len, ledGo_len a s r]
    rfl
/-! ### primes -/
def PrimeN (p : Nat) : Prop := 2 ≤ p ∧ ∀ d, d ∣ p → d = 1 ∨ d = p
theorem PrimeN.coprime {p : Nat} (h : PrimeN p) {d : Int} (hd : d % (p : Int) ≠ 0) (e : Nat) : Int.gcd d ((p : Int) ^ e) = 1 := by
  have h1 : Nat.Coprime d.natAbs p := by
    rcases h.2 _ (Nat.gcd_dvd_right d.natAbs p) with q | q
    · exact q
    · exfalso
      have h2 : p ∣ d.natAbs := by
        have h3 := Nat.gcd_dvd_left d.natAbs p
        rw [q] at h3
        exact h3
      exact hd (Int.emod_eq_zero_of_dvd (Int.ofNat_dvd_left.mpr h2))
  have h2 := h1.pow_right e
  show Nat.gcd d.natAbs ((p : Int) ^ e).natAbs = 1
  rw [Int.natAbs_pow]
  exact h2
theorem PrimeN.dvd_of {p : Nat} (h : PrimeN p) {d x : Int} (hd : d % (p : Int) ≠ 0) {e : Nat} (hx : (p : Int) ^ e ∣ x * d) : (p : Int) ^ e ∣ x := by
  have c := h.coprime hd e
  have h1 : Nat.Coprime ((p : Int) ^ e).natAbs d.natAbs := Nat.Coprime.symm c
  have h2 : ((p : Int) ^ e).natAbs ∣ x.natAbs * d.natAbs := by
    rw [← Int.natAbs_mul]
    exact Int.natAbs_dvd_natAbs.mpr hx
  exact Int.natAbs_dvd_natAbs.mp (h1.dvd_of_dvd_mul_right h2)
theorem pow_dvd_pow' (p : Int) {i j : Nat} (h : i ≤ j) : p ^ i ∣ p ^ j := ⟨p ^ (j - i), by rw [← Int.pow_add]; congr 1; omega⟩
/-- one turn of the lifting: from a zero by p ^ m to one by p ^ n, n at most 2 m -/
theorem lift_turn {zs : List Int} {p z inv : Int} {m n : Nat} (hmn : m ≤ n) (hn : n ≤ 2 * m) (hz : p ^ m ∣ ev zs z) (hi : p ^ n ∣ dv zs z * inv - 1) :
    p ^ n ∣ ev zs ((z - ev zs z % p ^ n * inv) % p ^ n) ∧ p ^ m ∣ (z - ev zs z % p ^ n * inv) % p ^ n - z := by
  have e1 : p ^ n ∣ ((z - ev zs z % p ^ n * inv) % p ^ n) - (z - ev zs z % p ^ n * inv) := dvd_sub_of_emod (Int.emod_emod ..)
  have dm : p ^ m ∣ p ^ n := pow_dvd_pow' p hmn
  have dF : p ^ n ∣ ev zs z % p ^ n - ev zs z := dvd_sub_of_emod (Int.emod_emod ..)
  have dG : p ^ m ∣ ev zs z % p ^ n := by
    have h := Int.dvd_add (Int.dvd_trans dm dF) hz
    rw [show ev zs z % p ^ n - ev zs z + ev zs z = ev zs z % p ^ n by omega] at h
    exact h
  refine ⟨?_, ?_⟩
  · have h1 : p ^ n ∣ ev zs (z + -(ev zs z % p ^ n * inv)) := by
      obtain ⟨k, e⟩ := taylor z (-(ev zs z % p ^ n * inv)) zs
      rw [e]
      have hh : p ^ n ∣ (-(ev zs z % p ^ n * inv)) * (-(ev zs z % p ^ n * inv)) * k := by
        have h2 : p ^ (m + m) ∣ (ev zs z % p ^ n) * (ev zs z % p ^ n) := by
          rw [Int.pow_add]
          exact Int.mul_dvd_mul dG dG
        have h3 : p ^ n ∣ (ev zs z % p ^ n) * (ev zs z % p ^ n) := Int.dvd_trans (pow_dvd_pow' p (by omega)) h2
        have h4 : (-(ev zs z % p ^ n * inv)) * (-(ev zs z % p ^ n * inv)) * k = (ev zs z % p ^ n) * (ev zs z % p ^ n) * (inv * inv * k) := by
          rw [Int.neg_mul_neg]
          simp only [Int.mul_assoc, Int.mul_left_comm inv]
        rw [h4]
        exact Int.dvd_trans h3 (Int.dvd_mul_right ..)
      have hl : p ^ n ∣ ev zs z + -(ev zs z % p ^ n * inv) * dv zs z := by
        have h5 : ev zs z + -(ev zs z % p ^ n * inv) * dv zs z = -((ev zs z % p ^ n - ev zs z) + (ev zs z % p ^ n) * (dv zs z * inv - 1)) := by
          rw [Int.mul_sub, Int.mul_one, Int.neg_mul, Int.mul_assoc, Int.mul_comm inv]
          omega
        rw [h5]
        exact Int.dvd_neg.mpr (Int.dvd_add dF (Int.dvd_trans hi (Int.dvd_mul_left ..)))
      exact Int.dvd_add hl hh
    have h6 := ev_congr e1 zs
    rw [show z - ev zs z % p ^ n * inv = z + -(ev zs z % p ^ n * inv) by omega] at h6
    have h7 := Int.dvd_add h6 h1
    rw [show z - ev zs z % p ^ n * inv = z + -(ev zs z % p ^ n * inv) by omega]
    rw [Int.sub_add_cancel] at h7
    exact h7
  · have h1 := Int.dvd_sub (Int.dvd_trans dm e1) (Int.dvd_trans dG (Int.dvd_mul_right _ inv))
    rw [show ((z - ev zs z % p ^ n * inv) % p ^ n) - (z - ev zs z % p ^ n * inv) - ev zs z % p ^ n * inv = (z - ev zs z % p ^ n * inv) % p ^ n - z by omega] at h1
    exact h1
/-- the zero above one with a slope is the only one -/
theorem lift_only {zs : List Int} {p : Nat} (hp : PrimeN p) {z y : Int} {e : Nat} (hz : (p : Int) ^ e ∣ ev zs z) (hd : dv zs z % (p : Int) ≠ 0) (hy : (p : Int) ∣ y - z) : (p : Int) ^ e ∣ ev zs y ↔ (p : Int) ^ e ∣ y - z := by
  constructor
  · intro h
    obtain ⟨k, e1⟩ := taylor z (y - z) zs
    rw [show z + (y - z) = y by omega] at e1
    have h1 : (p : Int) ^ e ∣ (y - z) * (dv zs z + (y - z) * k) := by
      have h2 := Int.dvd_sub h hz
      have h3 : ev zs y - ev zs z = (y - z) * (dv zs z + (y - z) * k) := by
        rw [e1, Int.mul_add, Int.mul_assoc (y - z) (y - z) k]
        omega
      rw [h3] at h2
      exact h2
    refine hp.dvd_of ?_ h1
    intro h4
    have h5 : (p : Int) ∣ dv zs z + (y - z) * k := Int.dvd_of_emod_eq_zero h4
    have h6 := Int.dvd_sub h5 (Int.dvd_trans hy (Int.dvd_mul_right _ k))
    rw [Int.add_sub_cancel] at h6
    exact hd (Int.emod_eq_zero_of_dvd h6)
  · intro h
    have h1 := Int.dvd_add (ev_congr h zs) hz
    rw [Int.sub_add_cancel] at h1
    exact h1
end RW

set_option maxHeartbeats 4000000
namespace RW
open PySem PySem.Spec PyProof.Rows L2
/-- whole numbers as values -/
abbrev iv (zs : List Int) : List V := zs.map V.int
theorem ivGet {zs : List Int} {i : Nat} {x : V} (h : (iv zs)[i]? = some x) : ∃ z, zs[i]? = some z ∧ x = V.int z := by
  rw [List.getElem?_map] at h
  cases e : zs[i]? with
  | none =>
    rw [e] at h
    cases h
  | some z =>
    rw [e] at h
    exact ⟨z, rfl, (Option.some.inj h).symm⟩
theorem ivAt {zs : List Int} {i : Nat} {z : Int} (h : zs[i]? = some z) : (iv zs)[i]? = some (V.int z) := by
  rw [List.getElem?_map, h]
  rfl
theorem ivLen (zs : List Int) : (iv zs).length = zs.length := List.length_map ..
/-- the next item of a list that is gone through from its end -/
theorem revNext {α : Type} {zs pre suf : List α} {i : Nat} {t : α} (e : zs = pre ++ suf) (hl : suf.length = i) (h : zs.reverse[i]? = some t) : ∃ pre', pre = pre' ++ [t] := by
  subst e hl
  rw [List.reverse_append, List.getElem?_append_right (by simp)] at h
  simp only [List.length_reverse, Nat.sub_self] at h
  cases hp : pre.reverse with
  | nil =>
    rw [hp] at h
    cases h
  | cons u r =>
    rw [hp] at h
    have e := Option.some.inj h
    subst e
    exact ⟨r.reverse, by rw [← List.reverse_reverse pre, hp, List.reverse_cons]⟩
section
variable {P : Program} {w : World} {K : PySem.W.Frag} {mg : Str → Option Value} {base : Heap} {CK CW : Addr}
/-! ### sums of powers -/
def sp_trimmed (K : PySem.W.Frag) : Sp := fun vs H Q _ => ∃ (a : Addr) (zs : List Int), vs = [.ref a] ∧ (SqL K H a (iv zs) ∨ SqT K H a (iv zs)) ∧ ∀ H' p, Same H H' → H p = none → H' p = some (.lst (iv (trim zs))) → Q (.ref p) H'
theorem ok_trimmed (T : Txt K mg CK CW) : Ok P w K mg base 1 "trimmed" ["terms"] (sp_trimmed K) := by
  refine T.d_trimmed.ok (k := 0) sc_trimmed (fun _ _ _ _ _ _ us hl => match us, hl with | [_], _ => rfl) (fun vs H Q E h => ?_) (fun f cdv A outer s H vs Q E hr h => ?_)
  · obtain ⟨_, _, rfl, _⟩ := h
    rfl
  · obtain ⟨a, zs, rfl, hS, q⟩ := h
    refine ⟨_, (pss_cons (ps_set (i := 1) sc_trimmed.nd rfl (.inl rfl) (pe_callTy call_list_of (by rfl) T.b_list boot_list (pa_cons (pv 0) pa_nil)))
      (pss_cons (ps_while PassesOwn.never (PW.pt (pw_and (pt_cmpR op_gt (pe_callB call_len_seq (by rfl) T.b_len PySem.boot_len (pa_cons (pv 1) pa_nil)) pe_int (nomark _)) (pw_and1 (pt_cmpR op_eq (pe_ix ix_list (pv 1) (pe_un un_neg pe_int) (fun _ _ => rfl)) pe_int (nomark _))))) (pss_one (ps_expr (pe_bm0 PySem.F.plainAttrs_list PySem.F.slot_list_pop PySem.F.type_list_pop mt_pop (pv 1)))))
      (pss_one (ps_ret (pv 1))))), ?_⟩
    refine ⟨_, rfl, a, _, rfl, hS, fun l hl => ?_⟩
    refine ⟨fun m σ H' => ∃ cur : List Int, σ = [some (.ref a), some (.ref l)] ∧ m = cur.length ∧ trimF m cur = trim zs ∧ H' l = some (.lst (iv cur)) ∧ Same H H', ⟨_, zs, rfl, rfl, rfl, upd_same, same_upd hl⟩, ?_⟩
    rintro m σ H1 ⟨cur, rfl, rfl, ht, hc, sm⟩
    have fin : ∀ (D : Ends), (H1 l = some (.lst (iv (trim zs))) → D.nx [some (.ref a), some (.ref l)] H1) → trim zs = cur → D.nx [some (.ref a), some (.ref l)] H1 := fun D hD e => hD (by rw [e]; exact hc)
    refine ⟨_, rfl, l, _, rfl, .inl (SqL.of hc), _, _, rfl, rfl, _, rfl, it2 (fun h1 => ?_) (fun h1 => iteF (fin ⟨_, _, _, _⟩ (fun hp => ⟨_, rfl, q _ l sm hl hp⟩) ?_))⟩
    · have l1 : 1 < cur.length := by
        rw [ivLen] at h1
        omega
      obtain ⟨ys, z, rfl⟩ : ∃ ys z, cur = ys ++ [z] := by
        rcases List.eq_nil_or_concat cur with e | ⟨ys, z, e⟩
        · rw [e] at l1
          simp at l1
        · exact ⟨ys, z, by rw [e, List.concat_eq_append]⟩
      have hat : atI (iv (ys ++ [z])) (-1) = some (V.int z) := by
        rw [iv, List.map_append]
        exact atI_last _ _
      obtain ⟨j, hj⟩ : ∃ j, (ys ++ [z]).length = j + 1 := ⟨ys.length, by simp⟩
      refine ⟨_, rfl, _, rfl, _, _, _, _, rfl, rfl, SqL.of hc, hat, rfl, _, rfl, itV2 (fun h0 => ?_) (fun h0 => fin ⟨_, _, _, _⟩ (fun hp => ⟨_, rfl, q _ l sm hl hp⟩) ?_)⟩
      · subst h0
        rw [hj] at ht
        unfold trimF at ht
        rw [if_pos ⟨l1, by simp⟩, List.dropLast_concat] at ht
        have hlen : j = ys.length := by
          rw [List.length_append] at hj
          simp at hj
          omega
        have hg : (iv (ys ++ [0]))[(iv (ys ++ [0])).length - 1]? = some (V.int 0) := by
          rw [ivLen, hj]
          refine ivAt ?_
          rw [show j + 1 - 1 = ys.length by omega]
          simp
        refine ⟨fun σ' H' => ∃ m', m' < (ys ++ [(0 : Int)]).length ∧ _, fun _ _ h => h, _, rfl, .inl ⟨rfl, _, SqL.of hc⟩, l, _, _, rfl, rfl, hc, hg, j, by omega, ys, rfl, hlen, ht, ?_, sm.wr hl⟩
        rw [upd_same]
        show some (HO.lst (iv (ys ++ [0])).dropLast) = _
        rw [iv, List.map_append]
        show some (HO.lst (List.map V.int ys ++ [V.int 0]).dropLast) = _
        rw [List.dropLast_concat]
      · rw [← ht, hj]
        unfold trimF
        rw [if_neg (fun e => h0 (by simpa using e.2))]
    · rw [← ht]
      cases hcl : cur.length with
      | zero => rfl
      | succ j =>
        unfold trimF
        rw [if_neg (fun e => h1 (by rw [ivLen]; omega))]
def sp_rest_of_value (K : PySem.W.Frag) : Sp := fun vs H Q _ => ∃ (a : Addr) (zs : List Int) (n b : Int), vs = [.ref a, .int n, .int b] ∧ SqL K H a (iv zs) ∧ 0 < b ∧ b < 4611686018427387904 ∧ ∀ H', Same H H' → Q (.int (ev zs n % b)) H'
theorem ok_rest_of_value (T : Txt K mg CK CW) : Ok P w K mg base 1 "rest_of_value" ["terms", "number", "base"] (sp_rest_of_value K) := by
  refine T.d_rest_of_value.ok (k := 0) sc_rest_of_value (fun _ _ _ _ _ _ us hl => match us, hl with | [_, _, _], _ => rfl) (fun vs H Q E h => ?_) (fun f cdv A outer s H vs Q E hr h => ?_)
  · obtain ⟨_, _, _, _, rfl, _⟩ := h
    rfl
  · obtain ⟨a, zs, n, b, rfl, hS, b0, b1, q⟩ := h
    refine ⟨_, (pss_cons (ps_set (i := 3) sc_rest_of_value.nd rfl (.inl rfl) pe_int)
      (pss_cons (ps_for PassesOwn.never rfl (pi_list (pe_revL (pv 0))) (pg_name (i := 4) sc_rest_of_value.nd rfl (.inl rfl)) (pss_one (ps_set (i := 3) sc_rest_of_value.nd rfl (.inl rfl) (pe_op op_mod (pe_op op_add (pe_op op_mul (pv 3) (pv 1)) (pv 4)) (pv 2)))))
      (pss_one (ps_ret (pv 3))))), ?_⟩
    refine ⟨_, rfl, a, _, rfl, hS, fun p np => ⟨p, rfl, ⟨_, SqL.of upd_same⟩, for_list (K := K) (a := p) (xs := (iv zs).reverse) (fun i σ H' => ∃ (pre suf : List Int) (f : Int) (z : Option V), σ = [some (.ref a), some (.int n), some (.int b), some (.int f), z] ∧ H' = upd H p (.lst (iv zs).reverse) ∧ zs = pre ++ suf ∧ suf.length = i ∧ f = ev suf n % b)
      ⟨zs, [], 0, none, rfl, rfl, by simp, rfl, by simp [ev]⟩ (fun i σ H' _ ⟨_, _, _, _, _, e, _⟩ => by rw [e]; exact SqL.of upd_same) ?_ ?_⟩⟩
    · rintro i x σ H' hi ⟨pre, suf, f, z, rfl, rfl, e, hl, hf⟩
      obtain ⟨t, ht, rfl⟩ := ivGet (zs := zs.reverse) (by rw [iv, List.map_reverse]; exact hi)
      obtain ⟨pre', rfl⟩ := revNext e hl ht
      have f0 : 0 ≤ f := by
        rw [hf]
        exact Int.emod_nonneg _ (by omega)
      have f1 : f < b := by
        rw [hf]
        exact Int.emod_lt_of_pos _ b0
      refine ⟨_, rfl, _, rfl, _, _, rfl, rfl, .inl ⟨by omega, by omega⟩, _, rfl, _, _, rfl, rfl, _, rfl, _, _, rfl, rfl, b0, pre', t :: suf, _, _, rfl, rfl, by rw [e]; simp, by simp [hl], ?_⟩
      show (f * n + t) % b = (t + n * ev suf n) % b
      rw [hf, Int.add_emod, mul_emod_l, ← Int.add_emod, Int.mul_comm n, Int.add_comm]
    · rintro σ H' ⟨pre, suf, f, z, rfl, rfl, e, hl, hf⟩
      have hp : pre = [] := by
        have := congrArg List.length e
        rw [List.length_append, hl, List.length_reverse, ivLen] at this
        exact List.eq_nil_of_length_eq_zero (by omega)
      subst hp
      refine ⟨_, rfl, ?_⟩
      rw [hf]
      rw [List.nil_append] at e
      rw [← e]
      exact q _ (same_upd np)
def sp_slope_of (K : PySem.W.Frag) : Sp := fun vs H Q _ => ∃ (a : Addr) (zs : List Int), vs = [.ref a] ∧ SqL K H a (iv zs) ∧ zs.length ≤ 100 ∧ ∀ H' p, Same H H' → H' p = some (.lst (iv (slope zs))) → Q (.ref p) H'
theorem cut1 (xs : List V) : cutV xs (some 1) none = xs.drop 1 := by
  unfold cutV
  rw [show HT.sIx xs.length 0 (some 1) = min 1 xs.length from HT.sIx_nat xs.length 0 1, HT.sIx_none]
  cases xs with
  | nil => rfl
  | cons x r =>
    rw [show min 1 (x :: r).length = 1 by
      rw [List.length_cons]
      omega]
    show (List.take ((x :: r).length - 1) r) = r
    rw [List.length_cons, Nat.add_sub_cancel]
    exact List.take_length
theorem ok_slope_of (T : Txt K mg CK CW) : Ok P w K mg base 1 "slope_of" ["terms"] (sp_slope_of K) := by
  refine T.d_slope_of.ok (k := 0) sc_slope_of (fun _ _ _ _ _ _ us hl => match us, hl with | [_], _ => rfl) (fun vs H Q E h => ?_) (fun f cdv A outer s H vs Q E hr h => ?_)
  · obtain ⟨_, _, rfl, _⟩ := h
    rfl
  · obtain ⟨a, zs, rfl, hS, hl, q⟩ := h
    refine ⟨_, (pss_one (ps_ret (pe_ifExp (pt_cmpR op_gt (pe_callB call_len_seq (by rfl) T.b_len PySem.boot_len (pa_cons (pv 0) pa_nil)) pe_int (nomark _)) (pe_slice sl_list (pe_lc (own := [("index", 1), ("term", 2)]) (g := (gTup K 2 (gCons (gName 1) (gCons (gName 2) gNil)))) rfl sc_slope_of.nd (pi_enum (by rfl) T.b_enumerate (pa_cons (pv 0) pa_nil)) (blkOk_by (own := [("index", 1), ("term", 2)]) (N := ["terms", "index", "term"]) (sc := defScope s_slope_of) (by decide +kernel)) (fun _ _ _ _ _ => (pg_tup rfl (pgs_cons (pg_name (i := 1) sc_slope_of.nd rfl (.inl rfl)) (pgs_cons (pg_name (i := 2) sc_slope_of.nd rfl (.inl rfl)) pgs_nil)))) (fun _ _ _ _ _ => pts_nil) (fun _ _ _ _ _ => (pe_op op_mul (pv 1) (pv 2)))) (po_some pe_int) po_none) (pe_lst (pa_cons pe_int pa_nil))))), ?_⟩
    unfold slope at q
    refine ⟨_, rfl, a, _, rfl, .inl hS, _, _, rfl, rfl, _, rfl, it2 (fun h1 => ?_) (fun h1 => ?_)⟩
    · rw [if_pos (by rw [ivLen] at h1; omega)] at q
      refine ⟨_, rfl, a, _, rfl, hS, fun D hD => lc_it walk_enum (fun i H' => Same H H' ∧ H' D = some (.lst (iv (slopeFrom 0 (zs.take i))))) ⟨same_upd hD, upd_same⟩ (fun i H' _ h => h.1.seq hS) ?_ ?_⟩
      · rintro i x H1 H2 hi ⟨s1, e1⟩ ⟨T, x', y', rfl, nT, rfl, f1, f2⟩
        obtain rfl := Option.some.inj f1
        obtain ⟨z, hz, rfl⟩ := ivGet f2
        rw [ivLen] at hi
        have nTD : D ≠ T := ne_of_none e1 nT
        refine ⟨T, _, rfl, SqT.of upd_same, rfl, _, _, rfl, _, _, rfl, rfl, rfl, _, rfl, _, rfl, _, _, rfl, rfl, .inl ⟨by omega, by omega⟩, _, by rw [upd_ne nTD]; exact e1, ?_, (s1.lay nT).wr hD, ?_⟩
        · rw [ivLen, slopeFrom_len, List.length_take]
          exact small1000 (by omega)
        · rw [upd_same, List.take_add_one, hz]
          show _ = some (HO.lst (iv (slopeFrom 0 (zs.take i ++ [z]))))
          rw [slopeFrom_snoc, List.length_take, iv, iv, List.map_append, show min i zs.length = i by omega, Int.zero_add]
          rfl
      · rintro H1 ⟨s1, e1⟩
        refine ⟨_, rfl, D, _, rfl, SqL.of e1, fun p np => q _ p (s1.lay np) ?_⟩
        rw [upd_same, cut1, ivLen, List.take_of_length_le (Nat.le_refl _), iv, iv, List.map_drop]
    · rw [if_neg (by rw [ivLen] at h1; omega)] at q
      exact ⟨by show 1 ≤ sizeLine; decide, fun p np => q _ p (same_upd np) upd_same⟩
end
end RW

set_option maxHeartbeats 4000000
namespace RW
open PySem PySem.Spec PyProof.Rows L2
/-- after i of the inner turns of leading in -/
def linAt (a s : Int) (f : List Int) (i : Nat) (t : Int) : List Int := List.zipWith (· + ·) (f.map (a * ·) ++ [0]) (t :: ((f.take i).map (s * ·) ++ List.replicate (f.length - i) 0))
theorem linAt_len (a s : Int) (f : List Int) (i : Nat) (t : Int) (h : i ≤ f.length) : (linAt a s f i t).length = f.length + 1 := by
  unfold linAt
  simp
  omega
theorem linAt_zero (a s : Int) (f : List Int) : linAt a s f 0 0 = f.map (a * ·) ++ [0] := by
  unfold linAt
  have h : ∀ l : List Int, List.zipWith (· + ·) l (List.replicate l.length 0) = l := fun l => by
    induction l with
    | nil => rfl
    | cons x r ih =>
      rw [List.length_cons, List.replicate_succ, List.zipWith_cons_cons, ih, Int.add_zero]
  have h2 := h (f.map (a * ·) ++ [0])
  have hlen : (List.map (fun x => a * x) f ++ ([0] : List Int)).length = f.length + 1 := by simp
  rw [hlen, List.replicate_succ] at h2
  exact h2
theorem linAt_full (a s t : Int) (f : List Int) : linAt a s f f.length t = lin a s t f := by
  unfold linAt lin
  simp
theorem linAt_get (a s : Int) (f : List Int) (i : Nat) (t : Int) (j : Nat) (hj : j < f.length + 1) (h : i ≤ f.length) :
    (linAt a s f i t)[j]? = some ((f.map (a * ·) ++ [0]).getD j 0 + (if j = 0 then t else if j ≤ i then s * f.getD (j - 1) 0 else 0)) := by
  unfold linAt
  rw [List.getElem?_zipWith]
  have h1 : (f.map (a * ·) ++ [0])[j]? = some ((f.map (a * ·) ++ [0]).getD j 0) := by
    rw [List.getD_eq_getElem?_getD, List.getElem?_eq_getElem (by simp; omega)]
    rfl
  rw [h1]
  cases j with
  | zero => simp
  | succ j =>
    rw [List.getElem?_cons_succ]
    by_cases hji : j < i
    · rw [List.getElem?_append_left (by simp; omega), List.getElem?_map, List.getElem?_take_of_lt hji]
      rw [if_neg (by omega), if_pos (show j + 1 ≤ i by omega)]
      have h2 : f[j]? = some (f.getD j 0) := by
        rw [List.getD_eq_getElem?_getD, List.getElem?_eq_getElem (by omega)]
        rfl
      rw [h2]
      rfl
    · rw [List.getElem?_append_right (by simp; omega), List.getElem?_replicate, if_pos (by simp; omega), if_neg (by omega), if_neg (show ¬ j + 1 ≤ i by omega)]
theorem linAt_step (a s : Int) (f : List Int) (i : Nat) {n v : Int} (hi : f[i]? = some n) (hv : (linAt a s f i 0)[i + 1]? = some v) : (linAt a s f i 0).set (i + 1) (v + s * n) = linAt a s f (i + 1) 0 := by
  have lt := (List.getElem?_eq_some_iff.mp hi).1
  refine List.ext_getElem? fun j => ?_
  by_cases hj : j < f.length + 1
  · rw [linAt_get a s f (i + 1) 0 j hj (by omega), List.getElem?_set]
    by_cases he : i + 1 = j
    · subst he
      rw [if_pos rfl, if_pos (by rw [linAt_len _ _ _ _ _ (by omega)]; omega)]
      have h1 := linAt_get a s f i 0 (i + 1) hj (by omega)
      rw [hv, if_neg (by omega), if_neg (by omega)] at h1
      have h2 := Option.some.inj h1
      have h3 : f.getD (i + 1 - 1) 0 = n := by
        rw [List.getD_eq_getElem?_getD, show i + 1 - 1 = i by omega, hi]
        rfl
      rw [h2, if_neg (by omega), if_pos (Nat.le_refl _), h3, Int.add_zero]
    · rw [if_neg he, linAt_get a s f i 0 j hj (by omega)]
      by_cases h0 : j = 0
      · rw [if_pos h0, if_pos h0]
      · rw [if_neg h0, if_neg h0]
        by_cases h1 : j ≤ i
        · rw [if_pos h1, if_pos (by omega)]
        · rw [if_neg h1, if_neg (by omega)]
  · rw [List.getElem?_eq_none (by rw [List.length_set, linAt_len _ _ _ _ _ (by omega)]; omega), List.getElem?_eq_none (by rw [linAt_len _ _ _ _ _ (by omega)]; omega)]
theorem linAt_last (a s t : Int) (f : List Int) {v : Int} (hv : (linAt a s f f.length 0)[0]? = some v) : (linAt a s f f.length 0).set 0 (v + t) = lin a s t f := by
  rw [← linAt_full]
  refine List.ext_getElem? fun j => ?_
  by_cases hj : j < f.length + 1
  · rw [linAt_get a s f f.length t j hj (Nat.le_refl _), List.getElem?_set]
    by_cases he : 0 = j
    · subst he
      rw [if_pos rfl, if_pos (by rw [linAt_len _ _ _ _ _ (Nat.le_refl _)]; omega)]
      have h1 := linAt_get a s f f.length 0 0 hj (Nat.le_refl _)
      rw [hv] at h1
      have h2 := Option.some.inj h1
      rw [h2]
      simp
    · rw [if_neg he, linAt_get a s f f.length 0 j hj (Nat.le_refl _), if_neg (show ¬ j = 0 from fun e => he e.symm), if_neg (show ¬ j = 0 from fun e => he e.symm)]
  · rw [List.getElem?_eq_none (by rw [List.length_set, linAt_len _ _ _ _ _ (Nat.le_refl _)]; omega), List.getElem?_eq_none (by rw [linAt_len _ _ _ _ _ (Nat.le_refl _)]; omega)]
section
variable {P : Program} {w : World} {K : PySem.W.Frag} {mg : Str → Option Value} {base : Heap} {CK CW : Addr}
def sp_led_in (K : PySem.W.Frag) : Sp := fun vs H Q _ => ∃ (a : Addr) (zs : List Int) (st se : Int), vs = [.ref a, .int st, .int se] ∧ SqL K H a (iv zs) ∧ zs.length ≤ 100 ∧ 0 ≤ st ∧ st ≤ 8388608 ∧ 0 ≤ se ∧ se ≤ 8388608 ∧ ∀ H' p, Same H H' → H' p = some (.lst (iv (ledIn zs st se))) → Q (.ref p) H'
theorem ok_led_in (T : Txt K mg CK CW) : Ok P w K mg base 2 "led_in" ["terms", "start", "step"] (sp_led_in K) := by
  refine T.d_led_in.ok (k := 1) sc_led_in (fun _ _ _ _ _ _ us hl => match us, hl with | [_, _, _], _ => rfl) (fun vs H Q E h => ?_) (fun f cdv A outer s H vs Q E hr h => ?_)
  · obtain ⟨_, _, _, _, rfl, _⟩ := h
    rfl
  · obtain ⟨a, zs, st, se, rfl, hS, hl, st0, st1, se0, se1, q⟩ := h
    refine ⟨_, (pss_cons (ps_set (i := 3) sc_led_in.nd rfl (.inl rfl) (pe_lst (pa_cons pe_int pa_nil)))
      (pss_cons (ps_for PassesOwn.never rfl (pi_list (pe_revL (pv 0))) (pg_name (i := 4) sc_led_in.nd rfl (.inl rfl)) (pss_cons (ps_set (i := 6) sc_led_in.nd rfl (.inl rfl) (pe_op op_cat (pe_lc (own := [("number", 5)]) (g := (gName 5)) rfl sc_led_in.nd (pi_list (pv 3)) (blkOk_by (own := [("number", 5)]) (N := ["terms", "start", "step", "found", "term", "number", "later", "index"]) (sc := defScope s_led_in) (by decide +kernel)) (fun _ _ _ _ _ => (pg_name (i := 5) sc_led_in.nd rfl (.inl rfl))) (fun _ _ _ _ _ => pts_nil) (fun _ _ _ _ _ => (pe_op op_mul (pv 1) (pv 5)))) (pe_lst (pa_cons pe_int pa_nil))))
      (pss_cons (ps_for PassesOwn.never rfl (pi_enum (by rfl) T.b_enumerate (pa_cons (pv 3) pa_nil)) (pg_tup rfl (pgs_cons (pg_name (i := 7) sc_led_in.nd rfl (.inl rfl)) (pgs_cons (pg_name (i := 5) sc_led_in.nd rfl (.inl rfl)) pgs_nil))) (pss_one (ps_augS (pv 6) (pe_op op_add (pv 7) pe_int) pget_list (pe_op op_mul (pv 2) (pv 5)) ip_add set_list)))
      (pss_cons (ps_augS (pv 6) pe_int pget_list (pv 4) ip_add set_list)
      (pss_one (ps_set (i := 3) sc_led_in.nd rfl (.inl rfl) (pv 6)))))))
      (pss_one (ps_ret (pe_ok (ok_trimmed T) (hr.mono (by decide)) (by rfl) (pa_cons (pv 3) pa_nil)))))), ?_⟩
    refine ⟨by show 1 ≤ sizeLine; decide, fun p0 np0 => ?_⟩
    have s0 : Same H (upd H p0 (.lst [.int 0])) := same_upd np0
    refine ⟨_, rfl, a, _, rfl, s0.seq hS, fun rv nrv => ⟨rv, rfl, ⟨_, SqL.of upd_same⟩, for_list (K := K) (a := rv) (xs := (iv zs).reverse) (fun i σ H' => ∃ (pre suf : List Int) (pf : Addr) (z4 z5 z6 z7 : Option V), σ = [some (.ref a), some (.int st), some (.int se), some (.ref pf), z4, z5, z6, z7] ∧
        Same H H' ∧ H' rv = some (.lst (iv zs).reverse) ∧ H' pf = some (.lst (iv (ledGo st se suf))) ∧ zs = pre ++ suf ∧ suf.length = i)
      ⟨zs, [], p0, none, none, none, none, rfl, s0.lay nrv, upd_same, same_upd nrv _ _ upd_same, by simp, rfl⟩ (fun i σ H' _ ⟨_, _, _, _, _, _, _, _, _, e, _⟩ => SqL.of e) ?_ ?_⟩⟩
    · rintro i x σ H1 hi ⟨pre, suf, pf, z4, z5, z6, z7, rfl, s1, erv, epf, e, hln⟩
      obtain ⟨t, ht, rfl⟩ := ivGet (zs := zs.reverse) (by rw [iv, List.map_reverse]; exact hi)
      obtain ⟨pre', rfl⟩ := revNext e hln ht
      have fl := ledGo_len st se suf
      have sl : suf.length ≤ 100 := by
        have := congrArg List.length e
        rw [List.length_append] at this
        omega
      generalize hf : ledGo st se suf = f at *
      -- later = [start * number for number in found] + [0]
      refine ⟨_, rfl, pf, rfl, ⟨_, SqL.of epf⟩, fun D hD => lc_list (K := K) (a := pf) (xs := iv f) (fun i H' => Same H1 H' ∧ H' D = some (.lst (iv ((f.take i).map (st * ·))))) ⟨same_upd hD, upd_same⟩ (fun i H' _ h => h.1.seq (SqL.of epf)) ?_ ?_⟩
      · rintro j x H2 hj ⟨s2, e2⟩
        obtain ⟨n, hn, rfl⟩ := ivGet hj
        have jlt := (List.getElem?_eq_some_iff.mp hn).1
        refine ⟨rfl, _, rfl, _, rfl, _, _, rfl, rfl, .inl ⟨by omega, by omega⟩, _, e2, ?_, s2.wr hD, ?_⟩
        · rw [ivLen, List.length_map, List.length_take]
          exact small1000 (by omega)
        · rw [upd_same, List.take_add_one, hn, iv, iv, List.map_append, List.map_append]
          rfl
      · rintro H2 ⟨s2, e2⟩
        rw [ivLen, List.take_of_length_le (Nat.le_refl _)] at e2
        refine ⟨by show 1 ≤ sizeLine; decide, fun z nz => ?_⟩
        have s3 := same_upd (o := .lst [.int 0]) nz
        refine ⟨D, z, _, _, rfl, rfl, s3 _ _ e2, upd_same, ?_, fun la nla => ?_⟩
        · rw [ivLen, List.length_map]
          show f.length + 1 ≤ sizeLine
          exact Nat.le_of_lt (small1000 (by omega))
        have s4 := s3.lay (o := .lst (iv (f.map (st * ·)) ++ [.int 0])) nla
        have s14 : Same H1 _ := s2.trans s4
        have nH1 : H1 la = none := (s2.trans s3).free nla
        have nH : H la = none := s1.free nH1
        have npf : pf ≠ la := ne_of_none epf nH1
        have nrvl : rv ≠ la := ne_of_none erv nH1
        -- for index, number in enumerate(found)
        refine ⟨_, rfl, pf, _, rfl, SqL.of (s14 _ _ epf), for_it (walk_enum (xs := iv f)) (fun i σ H' => ∃ (z5 z7 : Option V), σ = [some (.ref a), some (.int st), some (.int se), some (.ref pf), some (.int t), z5, some (.ref la), z7] ∧
            Same H H' ∧ H' rv = some (.lst (iv zs).reverse) ∧ H' pf = some (.lst (iv f)) ∧ H' la = some (.lst (iv (linAt st se f i 0))))
          ⟨_, _, rfl, s1.trans s14, s14 _ _ erv, s14 _ _ epf, ?_⟩ (fun i σ H' _ ⟨_, _, _, _, _, e, _⟩ => SqL.of e) ?_ ?_⟩
        · rw [upd_same, linAt_zero, iv, iv, List.map_append]
          rfl
        · rintro j x σ H3 H4 hj ⟨z5, z7, rfl, s5, erv3, epf3, ela⟩ ⟨T, x', y', rfl, nT, rfl, f1, f2⟩
          obtain rfl := Option.some.inj f1
          obtain ⟨n, hn, rfl⟩ := ivGet f2
          rw [ivLen] at hj
          have nTl : la ≠ T := ne_of_none ela nT
          obtain ⟨v, hv⟩ : ∃ v, (linAt st se f j 0)[j + 1]? = some v := ⟨_, linAt_get st se f j 0 (j + 1) (by omega) (by omega)⟩
          have hll := linAt_len st se f j 0 (by omega)
          refine ⟨T, _, rfl, SqT.of upd_same, rfl, _, _, rfl, _, _, rfl, rfl, ?_⟩
          refine ⟨_, rfl, _, rfl, _, _, rfl, rfl, la, _, ((j + 1 : Nat) : Int), _, rfl, by rw [Int.natCast_succ], SqL.of (by rw [upd_ne nTl]; exact ela), atI_nat (ivAt hv), _, rfl, _, rfl, _, _, rfl, rfl, .inl ⟨by omega, by omega⟩, _, _, rfl, rfl, ?_⟩
          refine ⟨la, _, ((j + 1 : Nat) : Int), j + 1, rfl, by rw [Int.natCast_succ], by rw [upd_ne nTl]; exact ela, ?_, _, _, rfl, (s5.lay nT).wr nH, ?_, ?_, ?_⟩
          · rw [ivLen, hll]
            unfold ixN
            rw [if_pos (by omega), if_pos (by omega)]
            rfl
          · rw [upd_ne nrvl, upd_ne (ne_of_none erv3 nT)]
            exact erv3
          · rw [upd_ne npf, upd_ne (ne_of_none epf3 nT)]
            exact epf3
          · rw [upd_same, ← linAt_step st se f j hn hv, iv, iv, List.map_set]
        · rintro σ H3 ⟨z5, z7, rfl, s5, erv3, epf3, ela⟩
          rw [ivLen] at ela
          have hll := linAt_len st se f f.length 0 (Nat.le_refl _)
          obtain ⟨v, hv⟩ : ∃ v, (linAt st se f f.length 0)[0]? = some v := ⟨_, linAt_get st se f f.length 0 0 (by omega) (Nat.le_refl _)⟩
          refine ⟨_, rfl, la, _, 0, _, rfl, rfl, SqL.of ela, atI_nat (j := 0) (ivAt hv), _, rfl, _, _, rfl, rfl, la, _, 0, 0, rfl, rfl, ela, ?_, ?_⟩
          · rw [ivLen, hll]
            unfold ixN
            rw [if_pos (by omega), if_pos (by omega)]
            rfl
          · refine ⟨_, rfl, pre', t :: suf, la, _, _, _, _, rfl, s5.wr nH, ?_, ?_, by rw [e]; simp, by simp [hln]⟩
            · rw [upd_ne nrvl]
              exact erv3
            · rw [upd_same]
              show _ = some (HO.lst (iv (lin st se t (ledGo st se suf))))
              rw [hf, ← linAt_last st se t f hv, iv, iv, List.map_set]
    · rintro σ H1 ⟨pre, suf, pf, z4, z5, z6, z7, rfl, s1, erv, epf, e, hln⟩
      have hp : pre = [] := by
        have := congrArg List.length e
        rw [List.length_append, hln, List.length_reverse, ivLen] at this
        exact List.eq_nil_of_length_eq_zero (by omega)
      subst hp
      rw [List.nil_append] at e
      subst e
      exact ⟨_, rfl, pf, _, rfl, .inl (SqL.of epf), fun H2 p s2 _ hp => q _ p (s1.trans s2) hp⟩
/-- how often the prime divides all, and these without it -/
def sp_freed (K : PySem.W.Frag) : Sp := fun vs H Q _ => ∃ (a : Addr) (zs : List Int) (p : Int), vs = [.ref a, .int p] ∧ SqL K H a (iv zs) ∧ zs.length ≤ 100 ∧ 2 ≤ p ∧ p < 1073741824 ∧ (∃ t ∈ zs, t ≠ 0) ∧ (∀ t ∈ zs, t.natAbs < 1073741824) ∧
  ∀ (H' : Hp) (u r : Addr) (k : Nat) (own : List Int), Same H H' → H r = none → H' u = some (.tup [.int k, .ref r]) → H' r = some (.lst (iv own)) → zs = own.map (p ^ k * ·) → (∃ t ∈ own, t % p ≠ 0) → Q (.ref u) H'
theorem pow_lt_of_dvd {p t : Int} {k : Nat} (hp : 1 ≤ p) (ht : t ≠ 0) (hd : p ^ k ∣ t) (hb : t.natAbs < 1073741824) : p ^ k < 1073741824 := by
  have h1 := Int.le_of_dvd (show 0 < ((t.natAbs : Nat) : Int) by omega) (Int.dvd_natAbs.mpr hd)
  omega
theorem ok_freed (T : Txt K mg CK CW) : Ok P w K mg base 2 "freed" ["terms", "prime"] (sp_freed K) := by
  refine T.d_freed.ok (k := 1) sc_freed (fun _ _ _ _ _ _ us hl => match us, hl with | [_, _], _ => rfl) (fun vs H Q E h => ?_) (fun f cdv A outer s H vs Q E hr h => ?_)
  · obtain ⟨_, _, _, rfl, _⟩ := h
    rfl
  · obtain ⟨a, zs, p, rfl, hS, hl, p2, pb, ⟨t0, ht0, t0n⟩, hb, q⟩ := h
    refine ⟨_, (pss_cons (ps_set (i := 2) sc_freed.nd rfl (.inl rfl) (pe_callB (cr_min rfl) (by rfl) T.b_min (by decide +kernel) (pa_cons (pe_lc (own := [("term", 4)]) (g := (gName 4)) rfl sc_freed.nd (pi_list (pv 0)) (blkOk_by (own := [("term", 4)]) (N := ["terms", "prime", "often", "part", "term"]) (sc := defScope s_freed) (by decide +kernel)) (fun _ _ _ _ _ => (pg_name (i := 4) sc_freed.nd rfl (.inl rfl))) (fun _ _ _ _ _ => (pts_one (pt_cmpR op_ne (pv 4) pe_int (nomark _)))) (fun _ _ _ _ _ => (pe_ok (ok_often_of T) (hr.mono (by decide)) (by rfl) (pa_cons (pv 4) (pa_cons (pv 1) pa_nil))))) pa_nil)))
      (pss_cons (ps_set (i := 3) sc_freed.nd rfl (.inr rfl) (pe_ok (ok_raised T) (hr.mono (by decide)) (by rfl) (pa_cons (pv 1) (pa_cons (pv 2) pa_nil))))
      (pss_one (ps_ret (pe_tup (pa_cons (pv 2) (pa_cons (pe_lc (own := [("term", 4)]) (g := (gName 4)) rfl sc_freed.nd (pi_list (pv 0)) (blkOk_by (own := [("term", 4)]) (N := ["terms", "prime", "often", "part", "term"]) (sc := defScope s_freed) (by decide +kernel)) (fun _ _ _ _ _ => (pg_name (i := 4) sc_freed.nd rfl (.inl rfl))) (fun _ _ _ _ _ => pts_nil) (fun _ _ _ _ _ => (pe_op op_fdiv (pv 4) (pv 3)))) pa_nil))))))), ?_⟩
    refine ⟨_, rfl, a, rfl, ⟨_, hS⟩, fun D hD => lc_list (K := K) (a := a) (xs := iv zs) (fun i H' => Same H H' ∧ ∃ cs : List Int, H' D = some (.lst (iv cs)) ∧ cs.length ≤ i ∧ (∀ c ∈ cs, ∃ t ∈ zs, t ≠ 0 ∧ ∃ (e : Nat) (m : Int), c = e ∧ t = p ^ e * m ∧ m % p ≠ 0) ∧
        (∀ (j : Nat) t, j < i → zs[j]? = some t → t ≠ 0 → ∃ (e : Nat) (m : Int), (e : Int) ∈ cs ∧ t = p ^ e * m)) ⟨same_upd hD, [], upd_same, Nat.le_refl _, by simp, fun j t h => absurd h (by omega)⟩ (fun i H' _ h => h.1.seq hS) ?_ ?_⟩
    · rintro i x H1 hi ⟨s1, cs, e1, hcl, h1, h2⟩
      obtain ⟨t, ht, rfl⟩ := ivGet hi
      have ilt := (List.getElem?_eq_some_iff.mp ht).1
      have tm := List.mem_of_getElem? ht
      refine ⟨rfl, _, rfl, rfl, _, rfl, itNV2 (fun h0 => ?_) (fun h0 => ?_)⟩
      · refine ⟨_, rfl, _, rfl, t, p, rfl, h0, p2, pb, fun c m hc hm => ⟨_, e1, by rw [ivLen]; exact small1000 (by omega), s1.wr hD, cs ++ [(c : Int)], ?_, by simp; omega, fun c' hc' => ?_, fun j t' hj ht' t0' => ?_⟩⟩
        · rw [upd_same, iv, iv, List.map_append]
          rfl
        · rcases List.mem_append.mp hc' with hc' | hc'
          · exact h1 c' hc'
          · exact ⟨t, tm, h0, c, m, List.mem_singleton.mp hc', hc, hm⟩
        · by_cases hji : j < i
          · obtain ⟨e, m', he, hm'⟩ := h2 j t' hji ht' t0'
            exact ⟨e, m', List.mem_append_left _ he, hm'⟩
          · have : j = i := by omega
            subst this
            rw [ht] at ht'
            have e := Option.some.inj ht'
            subst e
            exact ⟨c, m, List.mem_append_right _ (List.mem_singleton.mpr rfl), hc⟩
      · refine ⟨s1, cs, e1, by omega, h1, fun j t' hj ht' t0' => ?_⟩
        by_cases hji : j < i
        · exact h2 j t' hji ht' t0'
        · have : j = i := by omega
          subst this
          rw [ht] at ht'
          have e := Option.some.inj ht'
          subst e
          exact absurd h0 t0'
    · rintro H1 ⟨s1, cs, e1, hcl, h1, h2⟩
      rw [ivLen] at h2
      obtain ⟨j0, hj0⟩ := List.getElem?_of_mem ht0
      have j0lt := (List.getElem?_eq_some_iff.mp hj0).1
      obtain ⟨e0, m0, he0, _⟩ := h2 j0 t0 j0lt hj0 t0n
      refine ⟨D, cs, rfl, SqL.of e1, List.length_pos_of_mem he0, fun k hk hmin => ?_⟩
      obtain ⟨t, tm, tn, e, m, rfl, htm, hmp⟩ := h1 k hk
      have hd : ∀ t ∈ zs, p ^ e ∣ t := fun t' ht' => by
        by_cases h0 : t' = 0
        · rw [h0]
          exact Int.dvd_zero _
        · obtain ⟨j, hj⟩ := List.getElem?_of_mem ht'
          obtain ⟨e', m', he', hm'⟩ := h2 j t' (List.getElem?_eq_some_iff.mp hj).1 hj h0
          have := hmin _ he'
          rw [hm']
          exact Int.dvd_trans (pow_dvd_pow' p (by omega)) (Int.dvd_mul_right ..)
      have hpk : p ^ e < 1073741824 := pow_lt_of_dvd (by omega) tn (hd t tm) (hb t tm)
      have hp1 : 1 ≤ p ^ e := one_le_pow (by omega) e
      refine ⟨_, rfl, _, rfl, p, e, rfl, by omega, by omega, by show p ^ ((e : Int)).toNat < _; rw [Int.toNat_natCast]; omega, ?_⟩
      rw [Int.toNat_natCast]
      refine ⟨_, rfl, _, rfl, a, rfl, ⟨_, s1.seq hS⟩, fun L hL => lc_list (K := K) (a := a) (xs := iv zs) (fun i H' => Same H1 H' ∧ H' L = some (.lst (iv ((zs.take i).map (· / p ^ e))))) ⟨same_upd hL, upd_same⟩ (fun i H' _ h => (s1.trans h.1).seq hS) ?_ ?_⟩
      · rintro i x H2 hi ⟨s2, e2⟩
        obtain ⟨t', ht', rfl⟩ := ivGet hi
        have ilt := (List.getElem?_eq_some_iff.mp ht').1
        refine ⟨rfl, _, rfl, _, rfl, _, _, rfl, rfl, ⟨by omega, hpk⟩, _, e2, ?_, s2.wr hL, ?_⟩
        · rw [ivLen, List.length_map, List.length_take]
          exact small1000 (by omega)
        · rw [upd_same, List.take_add_one, ht', iv, iv, List.map_append, List.map_append]
          rfl
      · rintro H2 ⟨s2, e2⟩
        rw [ivLen, List.take_of_length_le (Nat.le_refl _)] at e2
        refine ⟨by show 2 ≤ sizeLine; decide, fun u nu => ?_⟩
        refine q _ u L e (zs.map (· / p ^ e)) ((s1.trans s2).lay nu) (s1.free hL) upd_same (same_upd nu _ _ e2) ?_ ⟨m, ?_, hmp⟩
        · rw [List.map_map]
          conv => lhs; rw [← List.map_id zs]
          refine List.map_congr_left fun t' ht' => ?_
          exact (Int.mul_ediv_cancel' (hd t' ht')).symm
        · refine List.mem_map.mpr ⟨t, tm, ?_⟩
          show t / p ^ e = m
          rw [htm]
          exact Int.mul_ediv_cancel_left m (by omega)
def sp_back_to : Sp := fun vs H Q _ => ∃ n b : Int, vs = [.int n, .int b] ∧ 0 ≤ n ∧ n < b ∧ b < 4611686018427387904 ∧ Int.gcd n b = 1 ∧ ∀ H' r, Same H H' → 0 ≤ r → r < b → b ∣ n * r - 1 → Q (.int r) H'
theorem ok_back_to (T : Txt K mg CK CW) : Ok P w K mg base 1 "back_to" ["number", "base"] sp_back_to := by
  refine T.d_back_to.ok (k := 0) sc_back_to (fun _ _ _ _ _ _ us hl => match us, hl with | [_, _], _ => rfl) (fun vs H Q E h => ?_) (fun f cdv A outer s H vs Q E hr h => ?_)
  · obtain ⟨_, _, rfl, _⟩ := h
    rfl
  · obtain ⟨n, b, rfl, n0, nb, b1, hg, q⟩ := h
    refine ⟨_, (pss_cons (ps_asg (pe_tup (pa_cons (pv 0) (pa_cons (pv 1) (pa_cons pe_int (pa_cons pe_int pa_nil))))) (pg_tup rfl (pgs_cons (pg_name (i := 2) sc_back_to.nd rfl (.inl rfl)) (pgs_cons (pg_name (i := 3) sc_back_to.nd rfl (.inl rfl)) (pgs_cons (pg_name (i := 4) sc_back_to.nd rfl (.inl rfl)) (pgs_cons (pg_name (i := 5) sc_back_to.nd rfl (.inl rfl)) pgs_nil))))))
      (pss_cons (ps_while PassesOwn.never (pt_cmpR op_ne (pv 3) pe_int (nomark _)) (pss_cons (ps_set (i := 6) sc_back_to.nd rfl (.inl rfl) (pe_op op_fdivW (pv 2) (pv 3)))
      (pss_cons (ps_par (i := 2) (j := 3) (by rfl) sc_back_to.nd rfl rfl (by decide) rfl rfl (pa_cons (pv 3) (pa_cons (pe_op op_sub (pv 2) (pe_op op_mul (pv 6) (pv 3))) pa_nil)) (by rfl))
      (pss_one (ps_par (i := 4) (j := 5) (by rfl) sc_back_to.nd rfl rfl (by decide) rfl rfl (pa_cons (pv 5) (pa_cons (pe_op op_sub (pv 4) (pe_op op_mul (pv 6) (pv 5))) pa_nil)) (by rfl))))))
      (pss_one (ps_ret (pe_op op_mod (pv 4) (pv 1)))))), ?_⟩
    have b0 : 0 < b := by omega
    refine ⟨_, rfl, _, rfl, by show 4 ≤ sizeLine; decide, fun t nt => ?_⟩
    refine ⟨t, _, rfl, SqT.of upd_same, rfl, _, _, rfl, _, _, rfl, _, _, rfl, _, _, rfl, rfl, ?_⟩
    refine ⟨fun m σ H' => ∃ (x y f s : Int) (z : Option V), σ = [some (.int n), some (.int b), some (.int x), some (.int y), some (.int f), some (.int s), z] ∧ m = y.toNat ∧ 0 ≤ x ∧ x ≤ b ∧ 0 ≤ y ∧ y ≤ b ∧ Int.gcd x y = 1 ∧ b ∣ n * f - x ∧ b ∣ n * s - y ∧ Same H H',
      ⟨_, n, b, 1, 0, none, rfl, rfl, n0, by omega, by omega, by omega, hg, ⟨0, by omega⟩, ⟨-1, by omega⟩, same_upd nt⟩, ?_⟩
    rintro m σ H1 ⟨x, y, f', s', z, rfl, rfl, x0, x1, y0, y1, hxy, hf, hs, sm⟩
    refine ⟨_, rfl, rfl, _, rfl, itNV2 (fun hne => ?_) (fun he => ?_)⟩
    · have yp : 0 < y := by omega
      have d0 : 0 ≤ x / y := Int.ediv_nonneg x0 y0
      have d1 : x / y ≤ x := Int.ediv_le_self _ x0
      have em : x - x / y * y = x % y := by
        have := Int.mul_ediv_add_emod x y
        rw [Int.mul_comm] at this
        omega
      have m0 := Int.emod_nonneg x hne
      have m1 := Int.emod_lt_of_pos x yp
      refine ⟨fun σ' H' => ∃ m', m' < y.toNat ∧ _, fun _ _ h => h, _, rfl, _, rfl, _, _, rfl, rfl, wide_div (b := 64) yp (by omega) (by decide) (by decide), ?_⟩
      refine ⟨_, rfl, _, rfl, _, rfl, _, rfl, _, _, rfl, rfl, .inl ⟨by omega, by omega⟩, _, _, rfl, rfl, _, _, rfl, ?_⟩
      refine ⟨_, rfl, _, rfl, _, rfl, _, rfl, _, _, rfl, rfl, .inl ⟨by omega, by omega⟩, _, _, rfl, rfl, _, _, rfl, ?_⟩
      refine ⟨(x % y).toNat, by omega, y, x % y, s', f' - x / y * s', _, by rw [← em]; rfl, rfl, y0, y1, m0, by omega, ?_, hs, ?_, sm⟩
      · rw [← hxy, Int.gcd_comm, gcd_emod _ _ yp]
      · have h1 := Int.dvd_sub hf (Int.dvd_trans hs (Int.dvd_mul_left (x / y) _))
        rw [show n * f' - x - x / y * (n * s' - y) = n * (f' - x / y * s') - (x - x / y * y) by
          rw [Int.mul_sub, Int.mul_sub, Int.mul_left_comm n]
          omega, em] at h1
        exact h1
    · subst he
      rw [Int.gcd_zero_right] at hxy
      have hx1 : x = 1 := by omega
      subst hx1
      refine ⟨_, rfl, _, rfl, _, _, rfl, rfl, b0, q _ _ sm (Int.emod_nonneg _ (by omega)) (Int.emod_lt_of_pos _ b0) ?_⟩
      have h1 : b ∣ n * (f' % b) - n * f' := by
        rw [← Int.mul_sub]
        exact Int.dvd_trans (dvd_sub_of_emod (Int.emod_emod ..)) (Int.dvd_mul_left ..)
      have h2 := Int.dvd_add h1 hf
      rw [show n * (f' % b) - n * f' + (n * f' - 1) = n * (f' % b) - 1 by omega] at h2
      exact h2
end
end RW

set_option maxHeartbeats 4000000
namespace RW
open PySem PySem.Spec PyProof.Rows L2
theorem put_law {r1 m1 r2 m2 r : Int} (h : m2 ∣ m1 * r - 1) : m1 ∣ (r1 + m1 * (((r2 - r1) * r) % m2)) % (m1 * m2) - r1 ∧ m2 ∣ (r1 + m1 * (((r2 - r1) * r) % m2)) % (m1 * m2) - r2 := by
  have e : m1 * m2 ∣ (r1 + m1 * (((r2 - r1) * r) % m2)) % (m1 * m2) - (r1 + m1 * (((r2 - r1) * r) % m2)) := dvd_sub_of_emod (Int.emod_emod ..)
  constructor
  · have h1 := Int.dvd_add (Int.dvd_trans (Int.dvd_mul_right m1 m2) e) (Int.dvd_mul_right m1 (((r2 - r1) * r) % m2))
    rw [show (r1 + m1 * (((r2 - r1) * r) % m2)) % (m1 * m2) - (r1 + m1 * (((r2 - r1) * r) % m2)) + m1 * (((r2 - r1) * r) % m2) = (r1 + m1 * (((r2 - r1) * r) % m2)) % (m1 * m2) - r1 by omega] at h1
    exact h1
  · have h1 : m2 ∣ m1 * (((r2 - r1) * r) % m2) - m1 * ((r2 - r1) * r) := by
      rw [← Int.mul_sub]
      exact Int.dvd_trans (dvd_sub_of_emod (Int.emod_emod ..)) (Int.dvd_mul_left ..)
    have h2 : m2 ∣ (r2 - r1) * (m1 * r - 1) := Int.dvd_trans h (Int.dvd_mul_left ..)
    have h3 := Int.dvd_add (Int.dvd_add (Int.dvd_trans (Int.dvd_mul_left m1 m2) e) h1) h2
    rw [Int.mul_sub (r2 - r1) (m1 * r), Int.mul_one, Int.mul_left_comm (r2 - r1) m1] at h3
    rw [show (r1 + m1 * (((r2 - r1) * r) % m2)) % (m1 * m2) - (r1 + m1 * (((r2 - r1) * r) % m2)) + (m1 * (((r2 - r1) * r) % m2) - m1 * ((r2 - r1) * r)) + (m1 * ((r2 - r1) * r) - (r2 - r1)) = (r1 + m1 * (((r2 - r1) * r) % m2)) % (m1 * m2) - r2 by omega] at h3
    exact h3
section
variable {P : Program} {w : World} {K : PySem.W.Frag} {mg : Str → Option Value} {base : Heap} {CK CW : Addr}
def sp_lifted (K : PySem.W.Frag) : Sp := fun vs H Q _ => ∃ (a : Addr) (zs : List Int) (p e : Nat) (st : Int), vs = [.ref a, .int p, .int e, .int st] ∧ SqL K H a (iv zs) ∧ zs.length ≤ 100 ∧ PrimeN p ∧ 1 ≤ e ∧ (p : Int) ^ e < 4611686018427387904 ∧ 0 ≤ st ∧ st < p ∧
  (p : Int) ∣ ev zs st ∧ dv zs st % (p : Int) ≠ 0 ∧ ∀ H' z, Same H H' → 0 ≤ z → z < (p : Int) ^ e → (p : Int) ∣ z - st → (p : Int) ^ e ∣ ev zs z → Q (.int z) H'
theorem ok_lifted (T : Txt K mg CK CW) : Ok P w K mg base 2 "lifted" ["terms", "prime", "often", "start"] (sp_lifted K) := by
  refine T.d_lifted.ok (k := 1) sc_lifted (fun _ _ _ _ _ _ us hl => match us, hl with | [_, _, _, _], _ => rfl) (fun vs H Q E h => ?_) (fun f cdv A outer s H vs Q E hr h => ?_)
  · obtain ⟨_, _, _, _, _, rfl, _⟩ := h
    rfl
  · obtain ⟨a, zs, p, e, st, rfl, hS, hl, hp, e1, pe, st0, st1, hz0, hd0, q⟩ := h
    refine ⟨_, (pss_cons (ps_par3 (i := 4) (j := 5) (l := 6) (by rfl) sc_lifted.nd rfl rfl rfl (by decide) (by decide) (by decide) rfl rfl rfl (pa_cons (pe_ok (ok_slope_of T) (hr.mono (by decide)) (by rfl) (pa_cons (pv 0) pa_nil)) (pa_cons pe_int (pa_cons (pv 3) pa_nil))) (by rfl))
      (pss_cons (ps_while PassesOwn.never (pt_cmpR op_lt (pv 5) (pv 2) (nomark _)) (pss_cons (ps_set (i := 5) sc_lifted.nd rfl (.inl rfl) (pe_callB (call_min2 rfl) (by rfl) T.b_min (by decide +kernel) (pa_cons (pe_op op_mul pe_int (pv 5)) (pa_cons (pv 2) pa_nil))))
      (pss_cons (ps_set (i := 7) sc_lifted.nd rfl (.inl rfl) (pe_ok (ok_raised T) (hr.mono (by decide)) (by rfl) (pa_cons (pv 1) (pa_cons (pv 5) pa_nil))))
      (pss_one (ps_set (i := 6) sc_lifted.nd rfl (.inl rfl) (pe_op op_mod (pe_op op_sub (pv 6) (pe_op op_mul (pe_ok (ok_rest_of_value T) (hr.mono (by decide)) (by rfl) (pa_cons (pv 0) (pa_cons (pv 6) (pa_cons (pv 7) pa_nil)))) (pe_ok (ok_back_to T) (hr.mono (by decide)) (by rfl) (pa_cons (pe_ok (ok_rest_of_value T) (hr.mono (by decide)) (by rfl) (pa_cons (pv 4) (pa_cons (pv 6) (pa_cons (pv 7) pa_nil)))) (pa_cons (pv 7) pa_nil))))) (pv 7)))))))
      (pss_one (ps_ret (pv 6))))), ?_⟩
    have p2 := hp.1
    have p1 : (1 : Int) ≤ p := by omega
    refine ⟨_, rfl, a, zs, rfl, hS, hl, fun H1 hpl s1 ehp => ⟨_, rfl, _, _, _, rfl, ?_⟩⟩
    refine ⟨fun m σ H' => ∃ (k : Nat) (z : Int) (zb : Option V), σ = [some (.ref a), some (.int p), some (.int e), some (.int st), some (.ref hpl), some (.int k), some (.int z), zb] ∧ m = e - k ∧ 1 ≤ k ∧ k ≤ e ∧ 0 ≤ z ∧ z < (p : Int) ^ k ∧ (p : Int) ∣ z - st ∧ (p : Int) ^ k ∣ ev zs z ∧
        Same H1 H', ⟨_, 1, st, none, rfl, rfl, Nat.le_refl _, e1, st0, by rw [Int.pow_succ, Int.pow_zero, Int.one_mul]; exact st1, ⟨0, by omega⟩, by rw [Int.pow_succ, Int.pow_zero, Int.one_mul]; exact hz0, Same.refl _⟩, ?_⟩
    rintro m σ H2 ⟨k, z, zb, rfl, rfl, k1, ke, z0, z1, hzs, hzk, s2⟩
    refine ⟨_, rfl, _, rfl, _, _, rfl, rfl, _, rfl, it2 (fun hlt => ?_) (fun hlt => ?_)⟩
    · obtain ⟨n, hn⟩ : ∃ n : Nat, n = min (2 * k) e := ⟨_, rfl⟩
      have n1 : k ≤ n := by omega
      have n2 : n ≤ 2 * k := by omega
      have n3 : n ≤ e := by omega
      have hif : (if (e : Int) < 2 * (k : Int) then (e : Int) else 2 * (k : Int)) = (n : Int) := by
        split <;> omega
      have bp : (p : Int) ^ n ≤ (p : Int) ^ e := Int.le_of_dvd (by have := one_le_pow p1 e; omega) (pow_dvd_pow' _ n3)
      have b1 := one_le_pow p1 n
      refine ⟨fun σ' H' => ∃ m', m' < e - k ∧ _, fun _ _ h => h, _, rfl, _, _, rfl, rfl, .inl ⟨by decide, by decide⟩, _, rfl, _, _, rfl, ?_⟩
      rw [hif]
      refine ⟨_, rfl, _, rfl, p, n, rfl, by omega, p1, by show (p : Int) ^ ((n : Int)).toNat < _; rw [Int.toNat_natCast]; omega, ?_⟩
      rw [Int.toNat_natCast]
      have hdz : dv zs z % (p : Int) ≠ 0 := fun h0 => hd0 (by
        have h1 := dv_congr hzs zs
        have h2 := Int.dvd_sub (Int.dvd_of_emod_eq_zero h0) h1
        rw [show dv zs z - (dv zs z - dv zs st) = dv zs st by omega] at h2
        exact Int.emod_eq_zero_of_dvd h2)
      refine ⟨_, rfl, _, rfl, _, rfl, _, rfl, a, zs, z, (p : Int) ^ n, rfl, (s1.trans s2).seq hS, by omega, by omega, fun H3 s3 => ?_⟩
      refine ⟨_, rfl, _, rfl, _, rfl, hpl, slope zs, z, (p : Int) ^ n, rfl, (s2.trans s3).seq (SqL.of ehp), by omega, by omega, fun H4 s4 => ?_⟩
      rw [ev_slope]
      have hg : Int.gcd (dv zs z % (p : Int) ^ n) ((p : Int) ^ n) = 1 := by
        rw [gcd_emod _ _ (by omega)]
        exact hp.coprime hdz n
      refine ⟨_, rfl, dv zs z % (p : Int) ^ n, (p : Int) ^ n, rfl, Int.emod_nonneg _ (by omega), Int.emod_lt_of_pos _ (by omega), by omega, hg, fun H5 r s5 r0 r1 hr => ?_⟩
      have g0 := Int.emod_nonneg (ev zs z) (show (p : Int) ^ n ≠ 0 by omega)
      have g1 := Int.emod_lt_of_pos (ev zs z) (show 0 < (p : Int) ^ n by omega)
      have hi : (p : Int) ^ n ∣ dv zs z * r - 1 := by
        have h1 : (p : Int) ^ n ∣ (dv zs z % (p : Int) ^ n - dv zs z) * r := Int.dvd_trans (dvd_sub_of_emod (Int.emod_emod ..)) (Int.dvd_mul_right ..)
        have h2 := Int.dvd_sub hr h1
        rw [Int.sub_mul, show dv zs z % (p : Int) ^ n * r - 1 - (dv zs z % (p : Int) ^ n * r - dv zs z * r) = dv zs z * r - 1 by omega] at h2
        exact h2
      obtain ⟨l1, l2⟩ := lift_turn (inv := r) n1 n2 hzk hi
      refine ⟨_, _, rfl, rfl, .inl ⟨by omega, by omega⟩, _, _, rfl, rfl, _, rfl, _, _, rfl, rfl, by omega, e - n, by omega, n, (z - ev zs z % (p : Int) ^ n * r) % (p : Int) ^ n, _, rfl, rfl, by omega, n3, Int.emod_nonneg _ (by omega), Int.emod_lt_of_pos _ (by omega), ?_, l1, ((s2.trans s3).trans s4).trans s5⟩
      have h3 : (p : Int) ∣ (p : Int) ^ k := by
        have := pow_dvd_pow' (p : Int) k1
        rw [Int.pow_succ, Int.pow_zero, Int.one_mul] at this
        exact this
      have h4 := Int.dvd_add (Int.dvd_trans h3 l2) hzs
      rw [show (z - ev zs z % (p : Int) ^ n * r) % (p : Int) ^ n - z + (z - st) = (z - ev zs z % (p : Int) ^ n * r) % (p : Int) ^ n - st by omega] at h4
      exact h4
    · have ek : k = e := by omega
      subst ek
      exact ⟨_, rfl, q _ z (s1.trans s2) z0 z1 hzs hzk⟩
def sp_put_together (K : PySem.W.Frag) : Sp := fun vs H Q _ => ∃ (a b : Addr) (r1 m1 r2 m2 : Int), vs = [.ref a, .ref b] ∧ SqT K H a [.int r1, .int m1] ∧ SqT K H b [.int r2, .int m2] ∧ 1 ≤ m1 ∧ m1 ≤ 1000000 ∧ 1 ≤ m2 ∧ m2 ≤ 1000000 ∧ Int.gcd m1 m2 = 1 ∧
  ∀ H' t r, Same H H' → H' t = some (.tup [.int r, .int (m1 * m2)]) → 0 ≤ r → r < m1 * m2 → m1 ∣ r - r1 → m2 ∣ r - r2 → Q (.ref t) H'
theorem ok_put_together (T : Txt K mg CK CW) : Ok P w K mg base 3 "put_together" ["one", "other"] (sp_put_together K) := by
  refine T.d_put_together.ok (k := 2) sc_put_together (fun _ _ _ _ _ _ us hl => match us, hl with | [_, _], _ => rfl) (fun vs H Q E h => ?_) (fun f cdv A outer s H vs Q E hr h => ?_)
  · obtain ⟨_, _, _, _, _, _, rfl, _⟩ := h
    rfl
  · obtain ⟨a, b, r1, m1, r2, m2, rfl, T1, T2, m10, m11, m20, m21, hg, q⟩ := h
    refine ⟨_, (pss_cons (ps_set (i := 2) sc_put_together.nd rfl (.inl rfl) (pe_ok (ok_common_of T) (hr.mono (by decide)) (by rfl) (pa_cons (pe_ix ix_tup (pv 0) pe_int (fun _ _ => rfl)) (pa_cons (pe_ix ix_tup (pv 1) pe_int (fun _ _ => rfl)) pa_nil))))
      (pss_cons (ps_set (i := 3) sc_put_together.nd rfl (.inl rfl) (pe_op op_mod (pe_op op_mul (pe_op op_fdiv (pe_op op_sub (pe_ix ix_tup (pv 1) pe_int (fun _ _ => rfl)) (pe_ix ix_tup (pv 0) pe_int (fun _ _ => rfl))) (pv 2)) (pe_ok (ok_back_of T) (hr.mono (by decide)) (by rfl) (pa_cons (pe_op op_fdiv (pe_ix ix_tup (pv 0) pe_int (fun _ _ => rfl)) (pv 2)) (pa_cons (pe_op op_fdiv (pe_ix ix_tup (pv 1) pe_int (fun _ _ => rfl)) (pv 2)) pa_nil)))) (pe_op op_fdiv (pe_ix ix_tup (pv 1) pe_int (fun _ _ => rfl)) (pv 2))))
      (pss_cons (ps_set (i := 4) sc_put_together.nd rfl (.inl rfl) (pe_op op_mul (pe_op op_fdiv (pe_ix ix_tup (pv 0) pe_int (fun _ _ => rfl)) (pv 2)) (pe_ix ix_tup (pv 1) pe_int (fun _ _ => rfl))))
      (pss_one (ps_ret (pe_tup (pa_cons (pe_op op_mod (pe_op op_add (pe_ix ix_tup (pv 0) pe_int (fun _ _ => rfl)) (pe_op op_mul (pe_ix ix_tup (pv 0) pe_int (fun _ _ => rfl)) (pv 3))) (pv 4)) (pa_cons (pv 4) pa_nil)))))))), ?_⟩
    refine ⟨_, rfl, a, _, 1, _, rfl, rfl, T1, atI_nat (j := 1) rfl, _, rfl, b, _, 1, _, rfl, rfl, T2, atI_nat (j := 1) rfl, m1, m2, rfl, ?_⟩
    rw [hg]
    refine ⟨_, rfl, b, _, 0, _, rfl, rfl, T2, atI_nat (j := 0) rfl, _, rfl, a, _, 0, _, rfl, rfl, T1, atI_nat (j := 0) rfl, _, _, rfl, rfl, _, rfl, _, _, rfl, rfl, ⟨by decide, by decide⟩, ?_⟩
    refine ⟨_, rfl, a, _, 1, _, rfl, rfl, T1, atI_nat (j := 1) rfl, _, rfl, _, _, rfl, rfl, ⟨by decide, by decide⟩, _, rfl, b, _, 1, _, rfl, rfl, T2, atI_nat (j := 1) rfl, _, rfl, _, _, rfl, rfl, ⟨by decide, by decide⟩, ?_⟩
    have e1 : ∀ x : Int, x / ((1 : Nat) : Int) = x := fun x => Int.ediv_one x
    refine ⟨m1 / ((1 : Nat) : Int), m2 / ((1 : Nat) : Int), rfl, by rw [e1]; omega, by rw [e1]; omega, fun H1 r s1 x0 x1 hr => ?_⟩
    rw [e1, e1, hg] at hr
    rw [e1] at x1
    have hr' : m2 ∣ m1 * r - 1 := dvd_sub_of_emod hr
    refine ⟨_, _, rfl, rfl, .inr ⟨by omega, by omega⟩, _, rfl, b, _, 1, _, rfl, rfl, s1.tup T2, atI_nat (j := 1) rfl, _, rfl, _, _, rfl, rfl, ⟨by decide, by decide⟩, ?_⟩
    refine ⟨_, _, rfl, rfl, by rw [e1]; omega, ?_⟩
    have mp : 0 < m1 * m2 := Int.mul_pos (by omega) (by omega)
    refine ⟨_, rfl, a, _, 1, _, rfl, rfl, s1.tup T1, atI_nat (j := 1) rfl, _, rfl, _, _, rfl, rfl, ⟨by decide, by decide⟩, _, rfl, b, _, 1, _, rfl, rfl, s1.tup T2, atI_nat (j := 1) rfl, ?_⟩
    refine ⟨_, _, rfl, rfl, .inr ⟨by omega, by omega⟩, ?_⟩
    refine ⟨_, rfl, a, _, 0, _, rfl, rfl, s1.tup T1, atI_nat (j := 0) rfl, _, rfl, a, _, 1, _, rfl, rfl, s1.tup T1, atI_nat (j := 1) rfl, _, rfl, _, _, rfl, rfl, .inl ⟨by omega, by omega⟩, _, _, rfl, rfl, _, rfl, _, _, rfl, rfl, by show 0 < m1 / ((1 : Nat) : Int) * m2; rw [e1]; exact mp, _, rfl, by show 2 ≤ sizeLine; decide, fun t nt => ?_⟩
    obtain ⟨l1, l2⟩ := put_law (r1 := r1) (r2 := r2) hr'
    exact q _ t _ (s1.lay nt) (by rw [upd_same]; simp only [e1]) (Int.emod_nonneg _ (by omega)) (Int.emod_lt_of_pos _ mp) l1 l2
end
end RW

/-! plain mathematics: the lots of zeros by a power of a prime -/
namespace RW
structure Item where
  cs : List Int
  left : Nat
  start : Int
  depth : Nat
abbrev Lot := Int × Nat
def divAll (p : Nat) (cs : List Int) : Bool := cs.all fun t => decide ((p : Int) ∣ t)
def hasL (p : Nat) (x : Int) (l : Lot) : Bool := decide ((p : Int) ^ l.2 ∣ x - l.1)
def hasI (p : Nat) (x : Int) (it : Item) : Bool := decide ((p : Int) ^ it.depth ∣ x - it.start ∧ (p : Int) ^ it.left ∣ ev it.cs ((x - it.start) / (p : Int) ^ it.depth))
def capL (p e : Nat) (l : Lot) : Nat := p ^ (e + 1 - l.2)
def capI (p e : Nat) (it : Item) : Nat := p ^ (e + 1 - it.depth)
def wtI (p e : Nat) (it : Item) : Nat := p ^ (e + 1 - it.depth) * (2 * it.left + 2 - (if divAll p it.cs = true then 1 else 0))
structure WFI (p e : Nat) (it : Item) : Prop where
  len : it.cs.length ≤ 18
  ne : it.cs ≠ []
  small : ∀ t ∈ it.cs, t.natAbs < 1073741824
  s0 : 0 ≤ it.start
  s1 : it.start < (p : Int) ^ it.depth
  dl : it.depth + it.left ≤ e + 1
  dn : divAll p it.cs = false → it.depth + it.left ≤ e
  d0 : it.left = 0 → it.depth ≤ e
structure WFL (p e : Nat) (l : Lot) : Prop where
  r0 : 0 ≤ l.1
  r1 : l.1 < (p : Int) ^ l.2
  je : l.2 ≤ e
/-- what lies above an item: lots, and items to be gone through -/
structure Below (p e : Nat) (it : Item) (lots : List Lot) (items : List Item) : Prop where
  wl : ∀ l ∈ lots, WFL p e l
  wi : ∀ i ∈ items, WFI p e i
  cnt : ∀ x : Int, lots.countP (hasL p x) + items.countP (hasI p x) = if hasI p x it = true then 1 else 0
  cap : (lots.map (capL p e)).sum + (items.map (capI p e)).sum ≤ capI p e it
  wt : (items.map (wtI p e)).sum < wtI p e it
theorem divAll_iff {p : Nat} {cs : List Int} : divAll p cs = true ↔ ∀ t ∈ cs, (p : Int) ∣ t := by
  unfold divAll
  simp
theorem ppos {p : Nat} (hp : PrimeN p) (k : Nat) : 0 < p ^ k := Nat.pow_pos (by have := hp.1; omega)
theorem ipos {p : Nat} (hp : PrimeN p) (k : Nat) : (0 : Int) < (p : Int) ^ k := by
  have := one_le_pow (a := (p : Int)) (by have := hp.1; omega) k
  omega
/-- the common power of the prime goes out -/
theorem below_free {p e k : Nat} (hp : PrimeN p) {it : Item} {own : List Int} (W : WFI p e it) (hk : 0 < k) (hc : it.cs = own.map ((p : Int) ^ k * ·)) (hn : ∃ t ∈ it.cs, ¬ (p : Int) ^ it.left ∣ t) :
    k < it.left ∧ Below p e it [] [⟨own, it.left - k, it.start, it.depth⟩] := by
  have hkl : k < it.left := by
    obtain ⟨t, ht, hd⟩ := hn
    rw [hc] at ht
    obtain ⟨u, _, rfl⟩ := List.mem_map.mp ht
    refine Nat.lt_of_not_le fun h => hd ?_
    exact Int.dvd_trans (pow_dvd_pow' _ h) (Int.dvd_mul_right ..)
  have P1 := ipos hp k
  refine ⟨hkl, ⟨fun l hl => (by cases hl), fun i hi => ?_, fun x => ?_, ?_, ?_⟩⟩
  · obtain rfl := List.mem_singleton.mp hi
    have W1 := W.dl
    refine ⟨?_, fun z => W.ne (by rw [hc, show own = [] from z]; rfl), fun t ht => ?_, W.s0, W.s1, by show it.depth + (it.left - k) ≤ e + 1; omega, fun _ => by show it.depth + (it.left - k) ≤ e; omega, fun h => absurd (show it.left - k = 0 from h) (by omega)⟩
    · have := W.len
      rw [hc, List.length_map] at this
      exact this
    · have h1 := W.small ((p : Int) ^ k * t) (by rw [hc]; exact List.mem_map.mpr ⟨t, ht, rfl⟩)
      rw [Int.natAbs_mul] at h1
      have h2 : 1 ≤ ((p : Int) ^ k).natAbs := by omega
      have h3 : 1 * t.natAbs ≤ ((p : Int) ^ k).natAbs * t.natAbs := Nat.mul_le_mul_right _ h2
      omega
  · rw [List.countP_nil, Nat.zero_add, List.countP_cons, List.countP_nil, Nat.zero_add]
    have e1 : hasI p x ⟨own, it.left - k, it.start, it.depth⟩ = hasI p x it := by
      unfold hasI
      refine decide_eq_decide.mpr (and_congr_right fun _ => ?_)
      rw [hc, ev_map]
      have e2 : (p : Int) ^ it.left = (p : Int) ^ k * (p : Int) ^ (it.left - k) := by
        rw [← Int.pow_add]
        congr 1
        omega
      rw [e2]
      exact (Int.mul_dvd_mul_iff_left (by omega)).symm
    rw [e1]
  · simp [capI]
  · simp only [List.map_cons, List.map_nil, List.sum_cons, List.sum_nil, Nat.add_zero]
    unfold wtI
    refine Nat.mul_lt_mul_of_pos_left ?_ (ppos hp _)
    show 2 * (it.left - k) + 2 - (if divAll p own = true then 1 else 0) < 2 * it.left + 2 - (if divAll p it.cs = true then 1 else 0)
    split <;> split <;> omega
/-- the rests below i are gone through -/
structure BelowAt (p e : Nat) (it : Item) (i : Nat) (lots : List Lot) (items : List Item) : Prop where
  wl : ∀ l ∈ lots, WFL p e l
  wi : ∀ i ∈ items, WFI p e i
  cnt : ∀ x : Int, lots.countP (hasL p x) + items.countP (hasI p x) = if hasI p x it = true ∧ ((x - it.start) / (p : Int) ^ it.depth) % (p : Int) < i then 1 else 0
  cap : (lots.map (capL p e)).sum + (items.map (capI p e)).sum ≤ i * p ^ (e - it.depth)
  wt : (items.map (wtI p e)).sum ≤ i * (p ^ (e - it.depth) * (2 * it.left + 1))
theorem belowAt_zero {p e : Nat} (hp : PrimeN p) {it : Item} : BelowAt p e it 0 [] [] := by
  refine ⟨fun l hl => (by cases hl), fun i hi => (by cases hi), fun x => ?_, (by simp), (by simp)⟩
  have h := Int.emod_nonneg ((x - it.start) / (p : Int) ^ it.depth) (show (p : Int) ≠ 0 by have := hp.1; omega)
  rw [if_neg (fun h2 => by omega)]
  rfl
/-- one rest more: what is new has x just if x is a zero there -/
theorem belowAt_step {p e : Nat} (hp : PrimeN p) {it : Item} {i : Nat} {lots lots' : List Lot} {items items' : List Item} (B : BelowAt p e it i lots items)
    (wl : ∀ l ∈ lots', WFL p e l) (wi : ∀ i ∈ items', WFI p e i)
    (cnt : ∀ x : Int, lots'.countP (hasL p x) + items'.countP (hasI p x) = if hasI p x it = true ∧ ((x - it.start) / (p : Int) ^ it.depth) % (p : Int) = i then 1 else 0)
    (cap : (lots'.map (capL p e)).sum + (items'.map (capI p e)).sum ≤ p ^ (e - it.depth)) (wt : (items'.map (wtI p e)).sum ≤ p ^ (e - it.depth) * (2 * it.left + 1)) :
    BelowAt p e it (i + 1) (lots ++ lots') (items ++ items') := by
  refine ⟨fun l hl => ?_, fun l hl => ?_, fun x => ?_, ?_, ?_⟩
  · rcases List.mem_append.mp hl with h | h
    · exact B.wl l h
    · exact wl l h
  · rcases List.mem_append.mp hl with h | h
    · exact B.wi l h
    · exact wi l h
  · have h1 := B.cnt x
    have h2 := cnt x
    rw [List.countP_append, List.countP_append]
    by_cases hx : hasI p x it = true
    · simp only [hx, true_and] at h1 h2 ⊢
      by_cases c1 : ((x - it.start) / (p : Int) ^ it.depth) % (p : Int) < i
      · rw [if_pos c1] at h1
        rw [if_neg (by omega)] at h2
        rw [if_pos (by omega)]
        omega
      · rw [if_neg c1] at h1
        by_cases c2 : ((x - it.start) / (p : Int) ^ it.depth) % (p : Int) = i
        · rw [if_pos c2] at h2
          rw [if_pos (by omega)]
          omega
        · rw [if_neg c2] at h2
          rw [if_neg (by omega)]
          omega
    · rw [if_neg (fun h => hx h.1)] at h1 h2
      rw [if_neg (fun h => hx h.1)]
      omega
  · have h1 := B.cap
    rw [List.map_append, List.map_append, List.sum_append, List.sum_append, Nat.add_mul, Nat.one_mul]
    omega
  · have h1 := B.wt
    rw [List.map_append, List.sum_append, Nat.add_mul, Nat.one_mul]
    omega
theorem belowAt_full {p e : Nat} (hp : PrimeN p) {it : Item} {lots : List Lot} {items : List Item} (W : WFI p e it) (hl : 1 ≤ it.left) (hd : divAll p it.cs = false) (B : BelowAt p e it p lots items) : Below p e it lots items := by
  have p2 := hp.1
  have W1 := W.dn hd
  have e1 : p * p ^ (e - it.depth) = p ^ (e + 1 - it.depth) := by
    rw [show e + 1 - it.depth = (e - it.depth) + 1 by omega, Nat.pow_succ, Nat.mul_comm]
  refine ⟨B.wl, B.wi, fun x => ?_, ?_, ?_⟩
  · rw [B.cnt x]
    have h := Int.emod_lt_of_pos ((x - it.start) / (p : Int) ^ it.depth) (show (0 : Int) < p by omega)
    by_cases hx : hasI p x it = true
    · rw [if_pos ⟨hx, h⟩, if_pos hx]
    · rw [if_neg (fun h => hx h.1), if_neg hx]
  · have h1 := B.cap
    unfold capI at h1 ⊢
    rw [e1] at h1
    exact h1
  · have h1 := B.wt
    rw [← Nat.mul_assoc, e1] at h1
    refine Nat.lt_of_le_of_lt h1 ?_
    unfold wtI
    rw [hd]
    exact Nat.mul_lt_mul_of_pos_left (by simp) (ppos hp _)
/-- x, looked at from the item: y with x = start + p ^ depth * y -/
theorem dvd_shift {d x s y r : Int} {k : Int} (hd : 0 < d) (e : x - s = d * y) : d * k ∣ x - (s + d * r) ↔ k ∣ y - r := by
  rw [show x - (s + d * r) = d * (y - r) by rw [Int.mul_sub]; omega]
  exact Int.mul_dvd_mul_iff_left (by omega)
theorem below_skip {p e : Nat} (hp : PrimeN p) {it : Item} {i : Nat} (hi : i < p) (hl : 1 ≤ it.left) (h : ¬ (p : Int) ∣ ev it.cs i) (x : Int) : ¬ (hasI p x it = true ∧ ((x - it.start) / (p : Int) ^ it.depth) % (p : Int) = i) := by
  rintro ⟨h1, h2⟩
  unfold hasI at h1
  obtain ⟨h3, h4⟩ := of_decide_eq_true h1
  apply h
  have h5 : (p : Int) ∣ (x - it.start) / (p : Int) ^ it.depth - i := by
    refine dvd_sub_of_emod ?_
    rw [h2, Int.emod_eq_of_lt (by omega) (by omega)]
  have h6 := ev_congr h5 it.cs
  have h7 : (p : Int) ∣ (p : Int) ^ it.left := by
    have := pow_dvd_pow' (p : Int) hl
    rw [Int.pow_succ, Int.pow_zero, Int.one_mul] at this
    exact this
  have h8 := Int.dvd_sub (Int.dvd_trans h7 h4) h6
  rw [show ev it.cs ((x - it.start) / (p : Int) ^ it.depth) - (ev it.cs ((x - it.start) / (p : Int) ^ it.depth) - ev it.cs ↑i) = ev it.cs i by omega] at h8
  exact h8
/-- the only zero above a rest with a slope -/
theorem below_lot {p e : Nat} (hp : PrimeN p) {it : Item} {i : Nat} (hi : i < p) (W : WFI p e it) (hl : 1 ≤ it.left) (hdA : divAll p it.cs = false) (hd : dv it.cs i % (p : Int) ≠ 0) {z : Int} (z0 : 0 ≤ z) (z1 : z < (p : Int) ^ it.left) (zi : (p : Int) ∣ z - i)
    (hz : (p : Int) ^ it.left ∣ ev it.cs z) {lots : List Lot} {items : List Item} (B : BelowAt p e it i lots items) : BelowAt p e it (i + 1) (lots ++ [(it.start + (p : Int) ^ it.depth * z, it.depth + it.left)]) items := by
  have W1 := W.dn hdA
  have D0 := ipos hp it.depth
  have p2 := hp.1
  have key := belowAt_step (lots' := [(it.start + (p : Int) ^ it.depth * z, it.depth + it.left)]) (items' := []) hp B (fun l h => ?_) (fun l h => by cases h) (fun x => ?_) ?_ (by simp)
  · rw [List.append_nil] at key
    exact key
  · obtain rfl := List.mem_singleton.mp h
    refine ⟨?_, ?_, W1⟩
    · have := Int.mul_nonneg (show 0 ≤ (p : Int) ^ it.depth by omega) z0
      have := W.s0
      show 0 ≤ it.start + (p : Int) ^ it.depth * z
      omega
    · show it.start + (p : Int) ^ it.depth * z < (p : Int) ^ (it.depth + it.left)
      have h1 : (p : Int) ^ it.depth * (z + 1) ≤ (p : Int) ^ it.depth * (p : Int) ^ it.left := Int.mul_le_mul_of_nonneg_left (by omega) (by omega)
      rw [Int.pow_add]
      rw [Int.mul_add, Int.mul_one] at h1
      have := W.s1
      omega
  · rw [List.countP_nil, Nat.add_zero, List.countP_cons, List.countP_nil, Nat.zero_add]
    have e1 : (hasL p x (it.start + (p : Int) ^ it.depth * z, it.depth + it.left) = true) ↔ (hasI p x it = true ∧ ((x - it.start) / (p : Int) ^ it.depth) % (p : Int) = i) := by
      unfold hasL hasI
      rw [decide_eq_true_iff, decide_eq_true_iff]
      show (p : Int) ^ (it.depth + it.left) ∣ x - (it.start + (p : Int) ^ it.depth * z) ↔ _
      rw [Int.pow_add]
      have hdz : dv it.cs z % (p : Int) ≠ 0 := fun h0 => hd (by
        have h2 := Int.dvd_sub (Int.dvd_of_emod_eq_zero h0) (dv_congr zi it.cs)
        rw [show dv it.cs z - (dv it.cs z - dv it.cs ↑i) = dv it.cs i by omega] at h2
        exact Int.emod_eq_zero_of_dvd h2)
      have hpl : (p : Int) ∣ (p : Int) ^ it.left := by
        have := pow_dvd_pow' (p : Int) hl
        rw [Int.pow_succ, Int.pow_zero, Int.one_mul] at this
        exact this
      constructor
      · intro h
        have hx : (p : Int) ^ it.depth ∣ x - it.start := by
          have h1 := Int.dvd_add (Int.dvd_trans (Int.dvd_mul_right ((p : Int) ^ it.depth) ((p : Int) ^ it.left)) h) (Int.dvd_mul_right ((p : Int) ^ it.depth) z)
          rw [show x - (it.start + (p : Int) ^ it.depth * z) + (p : Int) ^ it.depth * z = x - it.start by omega] at h1
          exact h1
        have ey := (Int.mul_ediv_cancel' hx).symm
        have hy := (dvd_shift D0 ey).mp h
        have hyz : (p : Int) ∣ (x - it.start) / (p : Int) ^ it.depth - z := Int.dvd_trans hpl hy
        refine ⟨⟨hx, (lift_only hp hz hdz hyz).mpr hy⟩, ?_⟩
        have h3 := Int.dvd_add hyz zi
        rw [show (x - it.start) / (p : Int) ^ it.depth - z + (z - i) = (x - it.start) / (p : Int) ^ it.depth - i by omega] at h3
        have h4 := emod_of_dvd_sub h3
        rw [h4, Int.emod_eq_of_lt (by omega) (by omega)]
      · rintro ⟨⟨hx, h1⟩, h2⟩
        have ey := (Int.mul_ediv_cancel' hx).symm
        have h5 : (p : Int) ∣ (x - it.start) / (p : Int) ^ it.depth - i := by
          refine dvd_sub_of_emod ?_
          rw [h2, Int.emod_eq_of_lt (by omega) (by omega)]
        have hyz : (p : Int) ∣ (x - it.start) / (p : Int) ^ it.depth - z := by
          have h6 := Int.dvd_sub h5 zi
          rw [show (x - it.start) / (p : Int) ^ it.depth - ↑i - (z - ↑i) = (x - it.start) / (p : Int) ^ it.depth - z by omega] at h6
          exact h6
        exact (dvd_shift D0 ey).mpr ((lift_only hp hz hdz hyz).mp h1)
    by_cases hx : hasL p x (it.start + (p : Int) ^ it.depth * z, it.depth + it.left) = true
    · rw [if_pos hx, if_pos (e1.mp hx)]
    · rw [if_neg hx, if_neg (fun h => hx (e1.mpr h))]
  · simp only [List.map_cons, List.map_nil, List.sum_cons, List.sum_nil, Nat.add_zero, capL]
    exact Nat.pow_le_pow_right (by omega) (by omega)
theorem ledGo_div {p : Int} (a : Int) : ∀ (zs : List Int) (j : Nat) (t : Int), (ledGo a p zs)[j + 1]? = some t → p ∣ t
  | [], j, t, h => by simp [ledGo] at h
  | c :: r, j, t, h => by
    have h : (lin a p c (ledGo a p r))[j + 1]? = some t := h
    have ih := ledGo_div (p := p) a r
    generalize ledGo a p r = f at h ih
    unfold lin at h
    rw [List.getElem?_zipWith, List.getElem?_cons_succ, List.getElem?_map] at h
    cases e2 : f[j]? with
    | none =>
      rw [e2] at h
      cases h1 : (f.map (a * ·) ++ [0])[j + 1]? <;> rw [h1] at h <;> cases h
    | some v =>
      rw [e2] at h
      have jl := (List.getElem?_eq_some_iff.mp e2).1
      by_cases hj : j + 1 < f.length
      · rw [List.getElem?_append_left (by simpa using hj), List.getElem?_map] at h
        cases e3 : f[j + 1]? with
        | none =>
          rw [e3] at h
          cases h
        | some u =>
          rw [e3] at h
          have e := Option.some.inj h
          rw [← e]
          exact Int.dvd_add (Int.dvd_trans (ih j u e3) (Int.dvd_mul_left ..)) (Int.dvd_mul_right ..)
      · rw [List.getElem?_append_right (by simp; omega)] at h
        have hz : j + 1 - (f.map (a * ·)).length = 0 := by simp; omega
        rw [hz] at h
        have e := Option.some.inj h
        rw [← e]
        show p ∣ 0 + p * v
        rw [Int.zero_add]
        exact Int.dvd_mul_right ..
theorem ledGo_divAll {p : Nat} {a : Int} {zs : List Int} (h : (p : Int) ∣ ev zs a) : ∀ t ∈ ledGo a p zs, (p : Int) ∣ t := by
  intro t ht
  obtain ⟨j, hj⟩ := List.getElem?_of_mem ht
  cases j with
  | succ j => exact ledGo_div a zs j t hj
  | zero =>
    have h1 := ev_ledGo a p 0 zs
    cases hl : ledGo a p zs with
    | nil =>
      rw [hl] at hj
      cases hj
    | cons c r =>
      rw [hl] at hj h1
      have e := Option.some.inj hj
      subst e
      have h2 : c + 0 * ev r 0 = ev zs (a + p * 0) := h1
      rw [Int.zero_mul, Int.mul_zero, Int.add_zero, Int.add_zero] at h2
      rw [h2]
      exact h
theorem ev_emod (n x : Int) : ∀ l : List Int, n ∣ ev (l.map (· % n)) x - ev l x
  | [] => ⟨0, by simp [ev]⟩
  | c :: r => by
    have h1 := Int.dvd_trans (ev_emod n x r) (Int.dvd_mul_left x _)
    have h2 : n ∣ c % n - c := dvd_sub_of_emod (Int.emod_emod ..)
    have h3 := Int.dvd_add h2 h1
    rw [Int.mul_sub] at h3
    show n ∣ (c % n + x * ev (r.map (· % n)) x) - (c + x * ev r x)
    rw [show (c % n + x * ev (r.map (· % n)) x) - (c + x * ev r x) = c % n - c + (x * ev (r.map (· % n)) x - x * ev r x) by omega]
    exact h3
theorem ledGo_last (a s : Int) : ∀ zs : List Int, ∃ L, ledGo a s zs = L ++ [0] ∧ L.length = zs.length
  | [] => ⟨[], rfl, rfl⟩
  | c :: r => by
    obtain ⟨L, e, h⟩ := ledGo_last a s r
    refine ⟨lin a s c L, ?_, by rw [lin_len, h]; rfl⟩
    show lin a s c (ledGo a s r) = lin a s c L ++ [0]
    rw [e]
    unfold lin
    have h1 : (c :: (L ++ [0]).map (s * ·)) = (c :: L.map (s * ·)) ++ [0] := by simp
    have h2 : (L ++ [0]).map (a * ·) ++ [0] = (L.map (a * ·) ++ [0]) ++ [0] := by simp
    rw [h1, h2, List.zipWith_append (by simp)]
    rfl
theorem ledIn_len (a s : Int) {zs : List Int} (h : zs ≠ []) : (ledIn zs a s).length ≤ zs.length := by
  obtain ⟨L, e, hl⟩ := ledGo_last a s zs
  have hz : 0 < zs.length := List.length_pos_iff.mpr h
  unfold ledIn trim
  rw [e]
  have hl1 : (L ++ ([0] : List Int)).length = L.length + 1 := by simp
  rw [hl1]
  unfold trimF
  rw [if_pos ⟨by simp; omega, by simp⟩, List.dropLast_concat, ← hl]
  exact trimF_len _ _
/-- a rest without a slope: led in -/
theorem below_item {p e : Nat} (hp : PrimeN p) {it : Item} {i : Nat} (hi : i < p) (W : WFI p e it) (hl : 1 ≤ it.left) (hdA : divAll p it.cs = false) (hE : (p : Int) ^ it.left < 1073741824) (hz : (p : Int) ∣ ev it.cs i)
    {lots : List Lot} {items : List Item} (B : BelowAt p e it i lots items) :
    BelowAt p e it (i + 1) lots (items ++ [⟨trim ((ledIn it.cs i p).map (· % (p : Int) ^ it.left)), it.left, it.start + (p : Int) ^ it.depth * i, it.depth + 1⟩]) := by
  have W1 := W.dn hdA
  have D0 := ipos hp it.depth
  have L0 := ipos hp it.left
  have p2 := hp.1
  have hpl : (p : Int) ∣ (p : Int) ^ it.left := by
    have := pow_dvd_pow' (p : Int) hl
    rw [Int.pow_succ, Int.pow_zero, Int.one_mul] at this
    exact this
  have hdiv : ∀ t ∈ trim ((ledIn it.cs i p).map (· % (p : Int) ^ it.left)), (p : Int) ∣ t := fun t ht => by
    obtain ⟨u, hu, rfl⟩ := List.mem_map.mp (trim_mem ht)
    have h1 := ledGo_divAll hz u (trim_mem hu)
    have h2 : (p : Int) ∣ u % (p : Int) ^ it.left - u := Int.dvd_trans hpl (dvd_sub_of_emod (Int.emod_emod ..))
    have h3 := Int.dvd_add h2 h1
    rw [Int.sub_add_cancel] at h3
    exact h3
  have key := belowAt_step (lots' := []) (items' := [⟨trim ((ledIn it.cs i p).map (· % (p : Int) ^ it.left)), it.left, it.start + (p : Int) ^ it.depth * i, it.depth + 1⟩]) hp B (fun l h => by cases h) (fun l h => ?_) (fun x => ?_) ?_ ?_
  · rw [List.append_nil] at key
    exact key
  · obtain rfl := List.mem_singleton.mp h
    refine ⟨?_, trim_ne (fun z => trim_ne (fun z => ?_) (List.map_eq_nil_iff.mp z)), fun t ht => ?_, ?_, ?_, by show it.depth + 1 + it.left ≤ e + 1; omega, fun h0 => ?_, fun h0 => absurd (show it.left = 0 from h0) (by omega)⟩
    · show (trim ((ledIn it.cs i p).map (· % (p : Int) ^ it.left))).length ≤ 18
      refine Nat.le_trans (trim_len _) ?_
      rw [List.length_map]
      exact Nat.le_trans (ledIn_len _ _ W.ne) W.len
    · have := congrArg List.length z
      rw [ledGo_len] at this
      simp at this
    · obtain ⟨u, hu, rfl⟩ := List.mem_map.mp (trim_mem ht)
      have h1 := Int.emod_nonneg u (show (p : Int) ^ it.left ≠ 0 by omega)
      have h2 := Int.emod_lt_of_pos u L0
      omega
    · have := Int.mul_nonneg (show 0 ≤ (p : Int) ^ it.depth by omega) (show (0 : Int) ≤ i by omega)
      have := W.s0
      show 0 ≤ it.start + (p : Int) ^ it.depth * i
      omega
    · show it.start + (p : Int) ^ it.depth * i < (p : Int) ^ (it.depth + 1)
      have h1 : (p : Int) ^ it.depth * ((i : Int) + 1) ≤ (p : Int) ^ it.depth * p := Int.mul_le_mul_of_nonneg_left (by omega) (by omega)
      rw [Int.pow_succ]
      rw [Int.mul_add, Int.mul_one] at h1
      have := W.s1
      omega
    · rw [show divAll p (trim ((ledIn it.cs i p).map (· % (p : Int) ^ it.left))) = true from divAll_iff.mpr hdiv] at h0
      cases h0
  · rw [List.countP_nil, Nat.zero_add, List.countP_cons, List.countP_nil, Nat.zero_add]
    have e1 : (hasI p x ⟨trim ((ledIn it.cs i p).map (· % (p : Int) ^ it.left)), it.left, it.start + (p : Int) ^ it.depth * i, it.depth + 1⟩ = true) ↔ (hasI p x it = true ∧ ((x - it.start) / (p : Int) ^ it.depth) % (p : Int) = i) := by
      unfold hasI
      rw [decide_eq_true_iff, decide_eq_true_iff]
      show (p : Int) ^ (it.depth + 1) ∣ x - (it.start + (p : Int) ^ it.depth * i) ∧ (p : Int) ^ it.left ∣ ev (trim ((ledIn it.cs i p).map (· % (p : Int) ^ it.left))) ((x - (it.start + (p : Int) ^ it.depth * i)) / (p : Int) ^ (it.depth + 1)) ↔ _
      rw [Int.pow_succ]
      -- the value there
      have val : ∀ v y : Int, y - i = (p : Int) * v → ((p : Int) ^ it.left ∣ ev (trim ((ledIn it.cs i p).map (· % (p : Int) ^ it.left))) v ↔ (p : Int) ^ it.left ∣ ev it.cs y) := fun v y hv => by
        rw [trim_ev]
        have h1 := ev_emod ((p : Int) ^ it.left) v (ledIn it.cs i p)
        rw [ev_ledIn, show (i : Int) + (p : Int) * v = y by omega] at h1
        constructor
        · intro h
          have h2 := Int.dvd_sub h h1
          rw [show ev ((ledIn it.cs i p).map (· % (p : Int) ^ it.left)) v - (ev ((ledIn it.cs i p).map (· % (p : Int) ^ it.left)) v - ev it.cs y) = ev it.cs y by omega] at h2
          exact h2
        · intro h
          have h2 := Int.dvd_add h1 h
          rw [Int.sub_add_cancel] at h2
          exact h2
      constructor
      · rintro ⟨h, h1⟩
        have hx : (p : Int) ^ it.depth ∣ x - it.start := by
          have h1 := Int.dvd_add (Int.dvd_trans (Int.dvd_mul_right ((p : Int) ^ it.depth) (p : Int)) h) (Int.dvd_mul_right ((p : Int) ^ it.depth) (i : Int))
          rw [show x - (it.start + (p : Int) ^ it.depth * i) + (p : Int) ^ it.depth * i = x - it.start by omega] at h1
          exact h1
        have ey := (Int.mul_ediv_cancel' hx).symm
        have hy := (dvd_shift D0 ey).mp h
        have e2 : x - (it.start + (p : Int) ^ it.depth * i) = (p : Int) ^ it.depth * (p : Int) * (((x - it.start) / (p : Int) ^ it.depth - i) / p) := by
          rw [Int.mul_assoc, Int.mul_ediv_cancel' hy, Int.mul_sub, ← ey]
          omega
        rw [e2, Int.mul_ediv_cancel_left _ (by have := Int.mul_pos D0 (show (0 : Int) < p by omega); omega)] at h1
        have h3 := (val _ ((x - it.start) / (p : Int) ^ it.depth) (Int.mul_ediv_cancel' hy).symm).mp h1
        refine ⟨⟨hx, h3⟩, ?_⟩
        rw [emod_of_dvd_sub hy, Int.emod_eq_of_lt (by omega) (by omega)]
      · rintro ⟨⟨hx, h1⟩, h2⟩
        have ey := (Int.mul_ediv_cancel' hx).symm
        have hy : (p : Int) ∣ (x - it.start) / (p : Int) ^ it.depth - i := by
          refine dvd_sub_of_emod ?_
          rw [h2, Int.emod_eq_of_lt (by omega) (by omega)]
        refine ⟨(dvd_shift D0 ey).mpr hy, ?_⟩
        have e2 : x - (it.start + (p : Int) ^ it.depth * i) = (p : Int) ^ it.depth * (p : Int) * (((x - it.start) / (p : Int) ^ it.depth - i) / p) := by
          rw [Int.mul_assoc, Int.mul_ediv_cancel' hy, Int.mul_sub, ← ey]
          omega
        rw [e2, Int.mul_ediv_cancel_left _ (by have := Int.mul_pos D0 (show (0 : Int) < p by omega); omega)]
        exact (val _ ((x - it.start) / (p : Int) ^ it.depth) (Int.mul_ediv_cancel' hy).symm).mpr h1
    by_cases hx : hasI p x ⟨trim ((ledIn it.cs i p).map (· % (p : Int) ^ it.left)), it.left, it.start + (p : Int) ^ it.depth * i, it.depth + 1⟩ = true
    · rw [if_pos hx, if_pos (e1.mp hx)]
    · rw [if_neg hx, if_neg (fun h => hx (e1.mpr h))]
  · simp only [List.map_cons, List.map_nil, List.sum_cons, List.sum_nil, Nat.zero_add, Nat.add_zero, capI]
    exact Nat.pow_le_pow_right (by omega) (by omega)
  · simp only [List.map_cons, List.map_nil, List.sum_cons, List.sum_nil, Nat.add_zero, wtI]
    rw [if_pos (divAll_iff.mpr hdiv), show e + 1 - (it.depth + 1) = e - it.depth by omega]
    exact Nat.mul_le_mul_left _ (by omega)
/-- an item whose coefficients are all divided is a lot -/
theorem item_lot {p e : Nat} (hp : PrimeN p) {it : Item} (W : WFI p e it) (h : ∀ t ∈ it.cs, (p : Int) ^ it.left ∣ t) : WFL p e (it.start, it.depth) ∧ ∀ x, hasI p x it = hasL p x (it.start, it.depth) := by
  refine ⟨⟨W.s0, W.s1, ?_⟩, fun x => ?_⟩
  · show it.depth ≤ e
    rcases Nat.eq_zero_or_pos it.left with h0 | h0
    · exact W.d0 h0
    · have := W.dl
      omega
  · unfold hasI hasL
    refine decide_eq_decide.mpr ⟨fun h1 => h1.1, fun h1 => ⟨h1, ?_⟩⟩
    generalize (x - it.start) / (p : Int) ^ it.depth = y
    have : ∀ cs : List Int, (∀ t ∈ cs, (p : Int) ^ it.left ∣ t) → (p : Int) ^ it.left ∣ ev cs y := fun cs => by
      induction cs with
      | nil => exact fun _ => ⟨0, by simp [ev]⟩
      | cons c r ih => exact fun hc => Int.dvd_add (hc c List.mem_cons_self) (Int.dvd_trans (ih fun t ht => hc t (List.mem_cons_of_mem _ ht)) (Int.dvd_mul_left ..))
    exact this it.cs h
/-- the state of the walk over the lots -/
structure ZLots (p e : Nat) (zs : List Int) (lots : List Lot) (items : List Item) : Prop where
  wl : ∀ l ∈ lots, WFL p e l
  wi : ∀ i ∈ items, WFI p e i
  cnt : ∀ x : Int, lots.countP (hasL p x) + items.countP (hasI p x) = if (p : Int) ^ e ∣ ev zs x then 1 else 0
  cap : (lots.map (capL p e)).sum + (items.map (capI p e)).sum ≤ p ^ (e + 1)
theorem zlots_start {p e : Nat} {zs : List Int} (h1 : zs.length ≤ 18) (h2 : zs ≠ []) (h3 : ∀ t ∈ zs, t.natAbs < 1073741824) : ZLots p e zs [] [⟨zs, e, 0, 0⟩] := by
  refine ⟨fun l h => (by cases h), fun l h => ?_, fun x => ?_, by simp [capI]⟩
  · obtain rfl := List.mem_singleton.mp h
    exact ⟨h1, h2, h3, Int.le_refl _, by show (0 : Int) < (p : Int) ^ 0; rw [Int.pow_zero]; decide, by show 0 + e ≤ e + 1; omega, fun _ => by show 0 + e ≤ e; omega, fun _ => Nat.zero_le _⟩
  · rw [List.countP_nil, Nat.zero_add, List.countP_cons, List.countP_nil, Nat.zero_add]
    have e1 : (hasI p x ⟨zs, e, 0, 0⟩ = true) ↔ (p : Int) ^ e ∣ ev zs x := by
      unfold hasI
      rw [decide_eq_true_iff]
      show (p : Int) ^ 0 ∣ x - 0 ∧ (p : Int) ^ e ∣ ev zs ((x - 0) / (p : Int) ^ 0) ↔ _
      rw [Int.pow_zero, Int.ediv_one, Int.sub_zero]
      exact ⟨fun h => h.2, fun h => ⟨Int.one_dvd _, h⟩⟩
    by_cases hx : (p : Int) ^ e ∣ ev zs x
    · rw [if_pos hx, if_pos (e1.mpr hx)]
    · rw [if_neg hx, if_neg (fun h => hx (e1.mp h))]
theorem zlots_lot {p e : Nat} {zs : List Int} {lots : List Lot} {items : List Item} {it : Item} (hp : PrimeN p) (Z : ZLots p e zs lots (items ++ [it])) (h : ∀ t ∈ it.cs, (p : Int) ^ it.left ∣ t) : ZLots p e zs (lots ++ [(it.start, it.depth)]) items := by
  obtain ⟨h1, h2⟩ := item_lot hp (Z.wi it (by simp)) h
  refine ⟨fun l hl => ?_, fun l hl => Z.wi l (List.mem_append_left _ hl), fun x => ?_, ?_⟩
  · rcases List.mem_append.mp hl with hl | hl
    · exact Z.wl l hl
    · rw [List.mem_singleton.mp hl]
      exact h1
  · rw [← Z.cnt x, List.countP_append, List.countP_append, List.countP_cons, List.countP_cons, h2 x, List.countP_nil, List.countP_nil]
    omega
  · have h3 := Z.cap
    rw [List.map_append, List.sum_append] at h3 ⊢
    simp only [List.map_cons, List.map_nil, List.sum_cons, List.sum_nil, Nat.add_zero] at h3 ⊢
    have h4 : capL p e (it.start, it.depth) = capI p e it := rfl
    omega
theorem zlots_below {p e : Nat} {zs : List Int} {lots lots' : List Lot} {items items' : List Item} {it : Item} (Z : ZLots p e zs lots (items ++ [it])) (B : Below p e it lots' items') : ZLots p e zs (lots ++ lots') (items ++ items') := by
  refine ⟨fun l hl => ?_, fun l hl => ?_, fun x => ?_, ?_⟩
  · rcases List.mem_append.mp hl with hl | hl
    · exact Z.wl l hl
    · exact B.wl l hl
  · rcases List.mem_append.mp hl with hl | hl
    · exact Z.wi l (List.mem_append_left _ hl)
    · exact B.wi l hl
  · have h1 := B.cnt x
    rw [← Z.cnt x, List.countP_append, List.countP_append, List.countP_append, List.countP_cons, List.countP_nil]
    omega
  · have h3 := Z.cap
    have h4 := B.cap
    rw [List.map_append, List.sum_append] at h3 ⊢
    rw [List.map_append, List.sum_append]
    simp only [List.map_cons, List.map_nil, List.sum_cons, List.sum_nil, Nat.add_zero] at h3
    omega
end RW

set_option maxHeartbeats 4000000
namespace RW
open PySem PySem.Spec PyProof.Rows L2
/-! ### lots and items on the heap -/
def LtAt (H : Hp) (v : V) (l : Lot) : Prop := ∃ t, v = V.ref t ∧ H t = some (.tup [.int l.1, .int l.2])
/-- an item; its coefficients' list stands at none of the addresses that av tells -/
def ItAt (av : Addr → Prop) (H : Hp) (v : V) (it : Item) : Prop := ∃ t l, v = V.ref t ∧ ¬ av l ∧ H t = some (.tup [.ref l, .int it.left, .int it.start, .int it.depth]) ∧ H l = some (.lst (iv it.cs))
theorem LtAt.same {H H' : Hp} {v : V} {l : Lot} (s : Same H H') : LtAt H v l → LtAt H' v l := fun ⟨t, e, h⟩ => ⟨t, e, s _ _ h⟩
theorem LtAt.wr {H : Hp} {v : V} {l : Lot} {q : Addr} {xs ys : List V} (hq : H q = some (.lst xs)) : LtAt H v l → LtAt (upd H q (.lst ys)) v l := fun ⟨t, e, h⟩ => ⟨t, e, by rw [upd_ne (ne_of h hq (fun z => by cases z))]; exact h⟩
theorem ItAt.same {av : Addr → Prop} {H H' : Hp} {v : V} {it : Item} (s : Same H H') : ItAt av H v it → ItAt av H' v it := fun ⟨t, l, e, n, h1, h2⟩ => ⟨t, l, e, n, s _ _ h1, s _ _ h2⟩
theorem ItAt.wr {av : Addr → Prop} {H : Hp} {v : V} {it : Item} {q : Addr} {xs ys : List V} (hq : H q = some (.lst xs)) (ha : av q) : ItAt av H v it → ItAt av (upd H q (.lst ys)) v it := fun ⟨t, l, e, n, h1, h2⟩ =>
  ⟨t, l, e, n, by rw [upd_ne (ne_of h1 hq (fun z => by cases z))]; exact h1, by rw [upd_ne (fun z => n (by rw [z]; exact ha))]; exact h2⟩
theorem pairedMap {α β : Type} {F G : α → β → Prop} (f : ∀ a b, F a b → G a b) : ∀ {xs : List α} {ys : List β}, Paired F xs ys → Paired G xs ys
  | _, _, .nil => .nil
  | _, _, .cons r t => .cons (f _ _ r) (pairedMap f t)
theorem pairedApp {α β : Type} {F : α → β → Prop} : ∀ {xs : List α} {ys : List β} {xs' : List α} {ys' : List β}, Paired F xs ys → Paired F xs' ys' → Paired F (xs ++ xs') (ys ++ ys')
  | _, _, _, _, .nil, h => h
  | _, _, _, _, .cons r t, h => .cons r (pairedApp t h)
theorem sum_len {α : Type} {f : α → Nat} (h : ∀ a, 1 ≤ f a) : ∀ l : List α, l.length ≤ (l.map f).sum
  | [] => Nat.le_refl _
  | a :: r => by
    have := sum_len h r
    have := h a
    simp only [List.map_cons, List.sum_cons, List.length_cons]
    omega
theorem capL_pos {p e : Nat} (hp : PrimeN p) (l : Lot) : 1 ≤ capL p e l := ppos hp _
theorem capI_pos {p e : Nat} (hp : PrimeN p) (l : Item) : 1 ≤ capI p e l := ppos hp _
section
variable {P : Program} {w : World} {K : PySem.W.Frag} {mg : Str → Option Value} {base : Heap} {CK CW : Addr}
/-! ### the lots of zeros -/
def sp_lots_below (K : PySem.W.Frag) : Sp := fun vs H Q _ => ∃ (a : Addr) (p e : Nat) (it : Item), vs = [.ref a, .int p, .int it.left, .int it.start, .int it.depth] ∧ H a = some (.lst (iv it.cs)) ∧ PrimeN p ∧ p ^ (e + 1) ≤ 8388608 ∧ WFI p e it ∧ 1 ≤ it.left ∧
  (∃ t ∈ it.cs, ¬ (p : Int) ^ it.left ∣ t) ∧ ∀ (H' : Hp) (u fo ah : Addr) (xs ys : List V) (lots : List Lot) (items : List Item), Same H H' → H fo = none → H ah = none → H' u = some (.tup [.ref fo, .ref ah]) → H' fo = some (.lst xs) → H' ah = some (.lst ys) →
    Paired (LtAt H') xs lots → Paired (ItAt (fun l => H l ≠ none) H') ys items → Below p e it lots items → Q (.ref u) H'
theorem ok_lots_below (T : Txt K mg CK CW) : Ok P w K mg base 3 "lots_below" ["terms", "prime", "often", "start", "depth"] (sp_lots_below K) := by
  refine T.d_lots_below.ok (k := 2) sc_lots_below (fun _ _ _ _ _ _ us hl => match us, hl with | [_, _, _, _, _], _ => rfl) (fun vs H Q E h => ?_) (fun f cdv A outer s H vs Q E hr h => ?_)
  · obtain ⟨_, _, _, _, rfl, _⟩ := h
    rfl
  · obtain ⟨a, p, e, ⟨cs, left, start, depth⟩, rfl, hS, hp, hE, W, hl, hn, q⟩ := h
    refine ⟨_, (pss_cons (ps_asg (pe_ok (ok_freed T) (hr.mono (by decide)) (by rfl) (pa_cons (pv 0) (pa_cons (pv 1) pa_nil))) (pg_tup rfl (pgs_cons (pg_name (i := 5) sc_lots_below.nd rfl (.inl rfl)) (pgs_cons (pg_name (i := 6) sc_lots_below.nd rfl (.inl rfl)) pgs_nil))))
      (pss_cons (ps_if (pt_cmpR op_gt (pv 5) pe_int (nomark _)) (pss_one (ps_ret (pe_tup (pa_cons (pe_lst pa_nil) (pa_cons (pe_lst (pa_cons (pe_tup (pa_cons (pv 6) (pa_cons (pe_op op_sub (pv 2) (pv 5)) (pa_cons (pv 3) (pa_cons (pv 4) pa_nil))))) pa_nil)) pa_nil))))) pss_nil)
      (pss_cons (ps_asg (pe_tup (pa_cons (pe_ok (ok_slope_of T) (hr.mono (by decide)) (by rfl) (pa_cons (pv 0) pa_nil)) (pa_cons (pe_lst pa_nil) (pa_cons (pe_lst pa_nil) (pa_cons (pe_ok (ok_raised T) (hr.mono (by decide)) (by rfl) (pa_cons (pv 1) (pa_cons (pv 4) pa_nil))) pa_nil))))) (pg_tup rfl (pgs_cons (pg_name (i := 7) sc_lots_below.nd rfl (.inl rfl)) (pgs_cons (pg_name (i := 8) sc_lots_below.nd rfl (.inl rfl)) (pgs_cons (pg_name (i := 9) sc_lots_below.nd rfl (.inl rfl)) (pgs_cons (pg_name (i := 10) sc_lots_below.nd rfl (.inl rfl)) pgs_nil))))))
      (pss_cons (ps_for PassesOwn.never rfl (pi_range1 (by rfl) T.b_range (pa_cons (pv 1) pa_nil)) (pg_name (i := 11) sc_lots_below.nd rfl (.inl rfl)) (pss_one (ps_if (pt_cmpR op_eq (pe_ok (ok_rest_of_value T) (hr.mono (by decide)) (by rfl) (pa_cons (pv 0) (pa_cons (pv 11) (pa_cons (pv 1) pa_nil)))) pe_int (nomark _)) (pss_one (ps_if (pt_cmpR op_ne (pe_ok (ok_rest_of_value T) (hr.mono (by decide)) (by rfl) (pa_cons (pv 7) (pa_cons (pv 11) (pa_cons (pv 1) pa_nil)))) pe_int (nomark _)) (pss_one (ps_expr (pe_bm PySem.F.plainAttrs_list PySem.F.slot_list_append PySem.F.type_list_append mt_append (pv 8) (pa_cons (pe_tup (pa_cons (pe_op op_add (pv 3) (pe_op op_mul (pv 10) (pe_ok (ok_lifted T) (hr.mono (by decide)) (by rfl) (pa_cons (pv 0) (pa_cons (pv 1) (pa_cons (pv 2) (pa_cons (pv 11) pa_nil))))))) (pa_cons (pe_op op_add (pv 4) (pv 2)) pa_nil))) pa_nil)))) (pss_cons (ps_set (i := 12) sc_lots_below.nd rfl (.inr rfl) (pe_ok (ok_raised T) (hr.mono (by decide)) (by rfl) (pa_cons (pv 1) (pa_cons (pv 2) pa_nil))))
      (pss_cons (ps_set (i := 13) sc_lots_below.nd rfl (.inl rfl) (pe_ok (ok_trimmed T) (hr.mono (by decide)) (by rfl) (pa_cons (pe_lc (own := [("term", 14)]) (g := (gName 14)) rfl sc_lots_below.nd (pi_list (pe_ok (ok_led_in T) (hr.mono (by decide)) (by rfl) (pa_cons (pv 0) (pa_cons (pv 11) (pa_cons (pv 1) pa_nil))))) (blkOk_by (own := [("term", 14)]) (N := ["terms", "prime", "often", "start", "depth", "free", "here", "slope", "found", "ahead", "worth", "rest", "base", "later", "term"]) (sc := defScope s_lots_below) (by decide +kernel)) (fun _ _ _ _ _ => (pg_name (i := 14) sc_lots_below.nd rfl (.inl rfl))) (fun _ _ _ _ _ => pts_nil) (fun _ _ _ _ _ => (pe_op op_mod (pv 14) (pv 12)))) pa_nil)))
      (pss_one (ps_expr (pe_bm PySem.F.plainAttrs_list PySem.F.slot_list_append PySem.F.type_list_append mt_append (pv 9) (pa_cons (pe_tup (pa_cons (pv 13) (pa_cons (pv 2) (pa_cons (pe_op op_add (pv 3) (pe_op op_mul (pv 10) (pv 11))) (pa_cons (pe_op op_add (pv 4) pe_int) pa_nil))))) pa_nil)))))))) pss_nil)))
      (pss_one (ps_ret (pe_tup (pa_cons (pv 8) (pa_cons (pv 9) pa_nil))))))))), ?_⟩
    have p2 := hp.1
    have wlen : cs.length ≤ 18 := W.len
    have dl : depth + left ≤ e + 1 := W.dl
    have hl : 1 ≤ left := hl
    have hpe : ∀ k, k ≤ e + 1 → (p : Int) ^ k ≤ 8388608 := fun k hk => by
      have h1 : p ^ k ≤ p ^ (e + 1) := Nat.pow_le_pow_right (by omega) hk
      have h2 : ((p ^ k : Nat) : Int) = (p : Int) ^ k := Int.natCast_pow p k
      omega
    have hpp : (p : Int) ≤ 8388608 := by
      have := hpe 1 (by omega)
      rw [Int.pow_succ, Int.pow_zero, Int.one_mul] at this
      exact this
    have nz : ∃ t ∈ cs, t ≠ 0 := by
      obtain ⟨t, ht, hd⟩ := hn
      exact ⟨t, ht, fun z => hd (by rw [z]; exact Int.dvd_zero _)⟩
    refine ⟨_, rfl, _, rfl, a, cs, p, rfl, SqL.of hS, by omega, by omega, by omega, nz, W.small, fun H1 u r k own s1 nr hu hr1 hc hno => ?_⟩
    refine ⟨u, _, rfl, SqT.of hu, rfl, _, _, rfl, _, _, rfl, rfl, ?_⟩
    refine ⟨_, rfl, _, _, rfl, rfl, _, rfl, it2 (fun hk => ?_) (fun hk => ?_)⟩
    · -- the prime's power goes out
      obtain ⟨hkl, B⟩ := below_free hp W (show 0 < k by omega) hc hn
      have hkl : k < left := hkl
      refine ⟨Nat.zero_le _, fun fo nfo => ?_⟩
      refine ⟨_, rfl, _, rfl, _, rfl, _, _, rfl, rfl, _, rfl, _, rfl, by show 4 ≤ sizeLine; decide, fun t nt => ?_⟩
      refine ⟨by show 1 ≤ sizeLine; decide, fun ah nah => ⟨by show 2 ≤ sizeLine; decide, fun u2 nu2 => ?_⟩⟩
      have S2 := same_upd (o := .lst []) nfo
      have S3 := same_upd (o := .tup [.ref r, .int ((left : Int) - (k : Int)), .int start, .int depth]) nt
      have S4 := same_upd (o := .lst [.ref t]) nah
      have S5 := same_upd (o := .tup [.ref fo, .ref ah]) nu2
      refine q _ u2 fo ah [] [.ref t] [] _ ((((s1.trans S2).trans S3).trans S4).trans S5) (s1.free nfo) (((s1.trans S2).trans S3).free nah) upd_same (S5 _ _ (S4 _ _ (S3 _ _ upd_same))) (S5 _ _ upd_same) .nil (.cons ⟨t, r, rfl, fun z => z nr, ?_, S5 _ _ (S4 _ _ (S3 _ _ (S2 _ _ hr1)))⟩ .nil) B
      have ek : (left : Int) - (k : Int) = ((left - k : Nat) : Int) := by omega
      show _ = some (HO.tup [.ref r, .int ((left - k : Nat) : Int), .int start, .int depth])
      rw [← ek]
      exact S5 _ _ (S4 _ _ upd_same)
    · have k0 : k = 0 := by omega
      subst k0
      have hcs : cs = own := by
        have h1 : cs = own.map ((p : Int) ^ 0 * ·) := hc
        rw [h1]
        conv => rhs; rw [← List.map_id own]
        exact List.map_congr_left fun t _ => by rw [Int.pow_zero, Int.one_mul]; rfl
      subst hcs
      have hdA : divAll p cs = false := by
        cases h0 : divAll p cs with
        | false => rfl
        | true =>
          obtain ⟨t, ht, hm⟩ := hno
          exact absurd (Int.emod_eq_zero_of_dvd (divAll_iff.mp h0 t ht)) hm
      have dn : depth + left ≤ e := W.dn hdA
      have pdep := hpe depth (by omega)
      have pdep0 := ipos hp depth
      refine ⟨_, rfl, a, cs, rfl, s1.seq (SqL.of hS), by omega, fun H2 slp s2 hslp => ⟨Nat.zero_le _, fun fo nfo => ⟨Nat.zero_le _, fun ah nah => ?_⟩⟩⟩
      refine ⟨_, rfl, _, rfl, p, depth, rfl, by omega, by omega, by rw [Int.toNat_natCast]; omega, ?_⟩
      rw [Int.toNat_natCast]
      refine ⟨by show 4 ≤ sizeLine; decide, fun u4 nu4 => ⟨u4, _, rfl, SqT.of upd_same, rfl, _, _, rfl, _, _, rfl, _, _, rfl, _, _, rfl, rfl, ?_⟩⟩
      have S3 := same_upd (o := .lst []) nfo
      have S4 := same_upd (o := .lst []) nah
      have S5 := same_upd (o := .tup [.ref slp, .ref fo, .ref ah, .int ((p : Int) ^ depth)]) nu4
      have s02 : Same H H2 := s1.trans s2
      have nfoH : H fo = none := s02.free nfo
      have nahH : H ah = none := (s02.trans S3).free nah
      have nfa : fo ≠ ah := ne_of_none upd_same nah
      refine ⟨_, rfl, p, rfl, by omega, by omega, for_range (lo := 0) (n := p) (fun i σ H' => ∃ (z11 z12 z13 : Option V) (xs ys : List V) (lots : List Lot) (items : List Item),
          σ = [some (.ref a), some (.int p), some (.int left), some (.int start), some (.int depth), some (.int ((0 : Nat) : Int)), some (.ref r), some (.ref slp), some (.ref fo), some (.ref ah), some (.int ((p : Int) ^ depth)), z11, z12, z13, none] ∧
          Same H H' ∧ H' slp = some (.lst (iv (slope cs))) ∧ H' fo = some (.lst xs) ∧ H' ah = some (.lst ys) ∧ Paired (LtAt H') xs lots ∧ Paired (ItAt (fun l => H l ≠ none ∨ l = fo ∨ l = ah) H') ys items ∧ BelowAt p e ⟨cs, left, start, depth⟩ i lots items)
        ⟨none, none, none, [], [], [], [], rfl, ((s02.trans S3).trans S4).trans S5, S5 _ _ (S4 _ _ (S3 _ _ hslp)), S5 _ _ (S4 _ _ upd_same), S5 _ _ upd_same, .nil, .nil, belowAt_zero hp⟩ ?_ ?_⟩
      · rintro i σ H3 hi ⟨z11, z12, z13, xs, ys, lots, items, rfl, s3, h3s, h3f, h3a, hxs, hys, B⟩
        have e0 : (0 : Int) + (i : Int) = (i : Int) := by omega
        have hcap := B.cap
        have hB1 : xs.length + ys.length ≤ 8388608 := by
          have g1 := sum_len (capL_pos (e := e) hp) lots
          have g2 := sum_len (capI_pos (e := e) hp) items
          have g3 := Paired.length hxs
          have g4 := Paired.length hys
          have g5 : i * p ^ (e - depth) ≤ p * p ^ (e - depth) := Nat.mul_le_mul_right _ (by omega)
          have g6 : p * p ^ (e - depth) = p ^ (e - depth + 1) := by rw [Nat.pow_succ, Nat.mul_comm]
          have g7 : p ^ (e - depth + 1) ≤ p ^ (e + 1) := Nat.pow_le_pow_right (by omega) (by omega)
          have hcap' : (lots.map (capL p e)).sum + (items.map (capI p e)).sum ≤ i * p ^ (e - depth) := hcap
          omega
        have big : sizeLine = 16777216 := sizeLine_eq
        refine ⟨_, rfl, _, rfl, _, rfl, a, cs, i, p, congrArg (fun z => [V.ref a, V.int z, V.int p]) e0, s3.seq (SqL.of hS), by omega, by omega, fun H4 s4 => ⟨rfl, _, rfl, itV2 (fun h0 => ?_) (fun h0 => ?_)⟩⟩
        · have hz : (p : Int) ∣ ev cs i := Int.dvd_of_emod_eq_zero h0
          have s34 : Same H H4 := s3.trans s4
          refine ⟨_, rfl, _, rfl, _, rfl, slp, slope cs, i, p, congrArg (fun z => [V.ref slp, V.int z, V.int p]) e0, SqL.of (s4 _ _ h3s), by omega, by omega, fun H5 s5 => ?_⟩
          rw [ev_slope]
          have s35 : Same H3 H5 := s4.trans s5
          refine ⟨rfl, _, rfl, itNV2 (fun hd => ?_) (fun hd => ?_)⟩
          · -- a lot
            have plef := hpe left (by omega)
            refine ⟨_, rfl, .inl ⟨rfl, _, SqL.of (s35 _ _ h3f)⟩, _, rfl, _, rfl, _, rfl, _, rfl, _, rfl, _, rfl, a, cs, p, left, i, congrArg (fun z => [V.ref a, V.int p, V.int left, V.int z]) e0, (s3.trans s35).seq (SqL.of hS), by omega, hp, hl, by omega, by omega, by omega, hz, hd, fun H6 z s6 z0 z1 zi hz6 => ?_⟩
            refine ⟨_, _, rfl, rfl, .inl ⟨by omega, by omega⟩, _, _, rfl, rfl, _, rfl, _, rfl, _, _, rfl, rfl, by show 2 ≤ sizeLine; decide, fun t nt => ?_⟩
            have s36 : Same H3 H6 := s35.trans s6
            have St := same_upd (o := .tup [.int (start + (p : Int) ^ depth * z), .int ((depth : Int) + (left : Int))]) nt
            have h6f := St _ _ (s36 _ _ h3f)
            refine ⟨fo, xs, _, rfl, rfl, h6f, by omega, _, z12, z13, xs ++ [.ref t], ys, _, items, rfl, ((s3.trans s36).trans St).wr nfoH, ?_, upd_same, ?_, ?_, ?_, below_lot hp hi W hl hdA hd z0 z1 zi hz6 B⟩
            · rw [upd_ne (fun z => by rw [z, nfo] at hslp; cases hslp)]
              exact St _ _ (s36 _ _ h3s)
            · rw [upd_ne nfa.symm]
              exact St _ _ (s36 _ _ h3a)
            · refine pairedSnoc (pairedMap (fun v l h => ((h.same s36).same St).wr h6f) hxs) ⟨t, rfl, ?_⟩
              rw [upd_ne (ne_of_none (s36 _ _ h3f) nt).symm, upd_same]
              show _ = some (HO.tup [.int (start + (p : Int) ^ depth * z), .int ((depth + left : Nat) : Int)])
              rw [Int.natCast_add]
            · exact pairedMap (fun v l h => ((h.same s36).same St).wr h6f (.inr (.inl rfl))) hys
          · -- led in
            have plef := hpe left (by omega)
            have plef0 := ipos hp left
            refine ⟨_, rfl, _, rfl, p, left, rfl, by omega, by omega, by rw [Int.toNat_natCast]; omega, ?_⟩
            rw [Int.toNat_natCast]
            refine ⟨_, rfl, _, rfl, _, rfl, a, cs, i, p, congrArg (fun z => [V.ref a, V.int z, V.int p]) e0, (s3.trans s35).seq (SqL.of hS), by omega, by omega, by omega, by omega, by omega, fun H6 lp s6 hlp => ⟨lp, rfl, ⟨_, SqL.of hlp⟩, fun D hD => lc_list (K := K) (a := lp) (xs := iv (ledIn cs i p)) (fun j H' => Same H6 H' ∧ H' D = some (.lst (iv (((ledIn cs i p).take j).map (· % (p : Int) ^ left))))) ⟨same_upd hD, upd_same⟩ (fun j H' _ h => h.1.seq (SqL.of hlp)) ?_ ?_⟩⟩
            · rintro j x H7 hj ⟨s7, e7⟩
              obtain ⟨t, ht, rfl⟩ := ivGet hj
              have jlt := (List.getElem?_eq_some_iff.mp ht).1
              have := ledIn_len i p W.ne
              have hll : (ledIn cs i p).length ≤ cs.length := this
              refine ⟨rfl, _, rfl, _, rfl, _, _, rfl, rfl, plef0, _, e7, ?_, s7.wr hD, ?_⟩
              · rw [ivLen, List.length_map, List.length_take]
                exact small1000 (by omega)
              · rw [upd_same, List.take_add_one, ht, iv, iv, List.map_append, List.map_append]
                rfl
            · rintro H7 ⟨s7, e7⟩
              rw [ivLen, List.take_of_length_le (Nat.le_refl _)] at e7
              refine ⟨D, _, rfl, .inl (SqL.of e7), fun H8 lt s8 nlt hlt => ?_⟩
              have s38 : Same H3 H8 := ((s35.trans s6).trans s7).trans s8
              have s37 : Same H3 H7 := (s35.trans s6).trans s7
              refine ⟨_, rfl, .inl ⟨rfl, _, SqL.of (s38 _ _ h3a)⟩, _, rfl, _, rfl, _, rfl, _, rfl, _, rfl, _, _, rfl, rfl, .inl ⟨by omega, by omega⟩, _, _, rfl, rfl, _, rfl, _, _, rfl, rfl, by show 4 ≤ sizeLine; decide, fun t nt => ?_⟩
              have St := same_upd (o := .tup [.ref lt, .int left, .int (start + (p : Int) ^ depth * (0 + (i : Int))), .int ((depth : Int) + 1)]) nt
              have h8a := St _ _ (s38 _ _ h3a)
              have nla : lt ≠ ah := fun z => by
                rw [z, s37 _ _ h3a] at nlt
                cases nlt
              have nlf : lt ≠ fo := fun z => by
                rw [z, s37 _ _ h3f] at nlt
                cases nlt
              refine ⟨ah, ys, _, rfl, rfl, h8a, by omega, _, _, _, xs, ys ++ [.ref t], lots, _, rfl, ((s3.trans s38).trans St).wr nahH, ?_, ?_, upd_same, ?_, ?_, below_item hp hi W hl hdA (by show (p : Int) ^ left < 1073741824; omega) hz B⟩
              · rw [upd_ne (fun z => by rw [z] at hslp; rw [S3 _ _ hslp] at nah; cases nah)]
                exact St _ _ (s38 _ _ h3s)
              · rw [upd_ne nfa]
                exact St _ _ (s38 _ _ h3f)
              · exact pairedMap (fun v l h => ((h.same s38).same St).wr h8a) hxs
              · refine pairedSnoc (pairedMap (fun v l h => ((h.same s38).same St).wr h8a (.inr (.inr rfl))) hys) ⟨t, lt, rfl, ?_, ?_, ?_⟩
                · rintro (z | z | z)
                  · exact z ((s3.trans s37).free nlt)
                  · exact nlf z
                  · exact nla z
                · rw [upd_ne (ne_of_none (s38 _ _ h3a) nt).symm, upd_same, e0]
                  rfl
                · rw [upd_ne nla]
                  exact St _ _ hlt
        · have sk := belowAt_step (lots' := []) (items' := []) hp B (fun l h => by cases h) (fun l h => by cases h) (fun x => by
            rw [if_neg (below_skip (e := e) hp hi hl (fun hd => h0 (Int.emod_eq_zero_of_dvd hd)) x)]
            rfl) (by simp) (by simp)
          rw [List.append_nil, List.append_nil] at sk
          exact ⟨_, z12, z13, xs, ys, lots, items, rfl, s3.trans s4, s4 _ _ h3s, s4 _ _ h3f, s4 _ _ h3a, pairedMap (fun v l h => h.same s4) hxs, pairedMap (fun v l h => h.same s4) hys, sk⟩
      · rintro σ H3 ⟨z11, z12, z13, xs, ys, lots, items, rfl, s3, h3s, h3f, h3a, hxs, hys, B⟩
        refine ⟨_, rfl, _, rfl, by show 2 ≤ sizeLine; decide, fun u2 nu2 => ?_⟩
        have S5 := same_upd (o := .tup [.ref fo, .ref ah]) nu2
        exact q _ u2 fo ah xs ys lots items (s3.trans S5) nfoH nahH upd_same (S5 _ _ h3f) (S5 _ _ h3a) (pairedMap (fun v l h => h.same S5) hxs) (pairedMap (fun v l ⟨t, l', h1, h2, h3, h4⟩ => ⟨t, l', h1, fun z => h2 (.inl z), S5 _ _ h3, S5 _ _ h4⟩) hys) (belowAt_full hp W hl hdA B)
theorem pairedLast {α β : Type} {F : α → β → Prop} : ∀ {xs : List α} {ys : List β}, Paired F xs ys → xs ≠ [] → ∃ xs' x ys' y, xs = xs' ++ [x] ∧ ys = ys' ++ [y] ∧ Paired F xs' ys' ∧ F x y
  | _, _, .nil, h => absurd rfl h
  | _, _, .cons (l₁ := []) (l₂ := l₂) r t, _ => by
    cases t
    exact ⟨[], _, [], _, rfl, rfl, .nil, r⟩
  | _, _, .cons (l₁ := a :: l₁) r t, _ => by
    obtain ⟨xs', x, ys', y, e1, e2, h1, h2⟩ := pairedLast t (by simp)
    exact ⟨_ :: xs', x, _ :: ys', y, by rw [e1]; rfl, by rw [e2]; rfl, .cons r h1, h2⟩
def sp_zero_lots (K : PySem.W.Frag) : Sp := fun vs H Q _ => ∃ (a : Addr) (p e : Nat) (zs : List Int), vs = [.ref a, .int p, .int e] ∧ SqT K H a (iv zs) ∧ PrimeN p ∧ p ^ (e + 1) ≤ 8388608 ∧ zs.length ≤ 18 ∧ zs ≠ [] ∧ (∀ t ∈ zs, t.natAbs < 1073741824) ∧
  ∀ (H' : Hp) (fo : Addr) (xs : List V) (lots : List Lot), Same H H' → H' fo = some (.lst xs) → Paired (LtAt H') xs lots → ZLots p e zs lots [] → Q (.ref fo) H'
theorem ok_zero_lots (T : Txt K mg CK CW) : Ok P w K mg base 4 "zero_lots" ["terms", "prime", "often"] (sp_zero_lots K) := by
  refine T.d_zero_lots.ok (k := 3) sc_zero_lots (fun _ _ _ _ _ _ us hl => match us, hl with | [_, _, _], _ => rfl) (fun vs H Q E h => ?_) (fun f cdv A outer s H vs Q E hr h => ?_)
  · obtain ⟨_, _, _, _, rfl, _⟩ := h
    rfl
  · obtain ⟨a, p, e, zs, rfl, hS, hp, hE, hl, hne, hsm, q⟩ := h
    refine ⟨_, (pss_cons (ps_par (i := 3) (j := 4) (by rfl) sc_zero_lots.nd rfl rfl (by decide) rfl rfl (pa_cons (pe_lst pa_nil) (pa_cons (pe_lst (pa_cons (pe_tup (pa_cons (pe_callTy call_list_of (by rfl) T.b_list boot_list (pa_cons (pv 0) pa_nil)) (pa_cons (pv 2) (pa_cons pe_int (pa_cons pe_int pa_nil))))) pa_nil)) pa_nil)) (by rfl))
      (pss_cons (ps_while PassesOwn.never (pt_cmpR (op_neNil hr.units0) (pv 4) (pe_lst pa_nil) (nomark _)) (pss_cons (ps_asg (pe_bm0 PySem.F.plainAttrs_list PySem.F.slot_list_pop PySem.F.type_list_pop mt_pop (pv 4)) (pg_tup rfl (pgs_cons (pg_name (i := 5) sc_zero_lots.nd rfl (.inl rfl)) (pgs_cons (pg_name (i := 6) sc_zero_lots.nd rfl (.inr rfl)) (pgs_cons (pg_name (i := 7) sc_zero_lots.nd rfl (.inl rfl)) (pgs_cons (pg_name (i := 8) sc_zero_lots.nd rfl (.inl rfl)) pgs_nil))))))
      (pss_one (ps_if (PW.pt (pw_or (pt_cmpR op_eq (pv 6) pe_int (nomark _)) (pw_or1 (pt_val (pe_callB (cr_all rfl) (by rfl) T.b_all (by decide +kernel) (pa_cons (pe_lc (own := [("term", 11)]) (g := (gName 11)) rfl sc_zero_lots.nd (pi_list (pv 5)) (blkOk_by (own := [("term", 11)]) (N := ["terms", "prime", "often", "found", "ahead", "here", "left", "start", "depth", "some", "more", "term"]) (sc := defScope s_zero_lots) (by decide +kernel)) (fun _ _ _ _ _ => (pg_name (i := 11) sc_zero_lots.nd rfl (.inl rfl))) (fun _ _ _ _ _ => pts_nil) (fun _ _ _ _ _ => (pe_cmpR op_eq (pe_op op_mod (pv 11) (pe_ok (ok_raised T) (hr.mono (by decide)) (by rfl) (pa_cons (pv 1) (pa_cons (pv 6) pa_nil)))) pe_int (nomark _)))) pa_nil)))))) (pss_one (ps_expr (pe_bm PySem.F.plainAttrs_list PySem.F.slot_list_append PySem.F.type_list_append mt_append (pv 3) (pa_cons (pe_tup (pa_cons (pv 7) (pa_cons (pv 8) pa_nil))) pa_nil)))) (pss_cons (ps_asg (pe_ok (ok_lots_below T) (hr.mono (by decide)) (by rfl) (pa_cons (pv 5) (pa_cons (pv 1) (pa_cons (pv 6) (pa_cons (pv 7) (pa_cons (pv 8) pa_nil)))))) (pg_tup rfl (pgs_cons (pg_name (i := 9) sc_zero_lots.nd rfl (.inl rfl)) (pgs_cons (pg_name (i := 10) sc_zero_lots.nd rfl (.inl rfl)) pgs_nil))))
      (pss_cons (ps_expr (pe_bm PySem.F.plainAttrs_list PySem.F.slot_list_extend PySem.F.type_list_extend mt_extend (pv 3) (pa_cons (pv 9) pa_nil)))
      (pss_one (ps_expr (pe_bm PySem.F.plainAttrs_list PySem.F.slot_list_extend PySem.F.type_list_extend mt_extend (pv 4) (pa_cons (pv 10) pa_nil))))))))))
      (pss_one (ps_ret (pv 3))))), ?_⟩
    have p2 := hp.1
    have big : sizeLine = 16777216 := sizeLine_eq
    refine ⟨Nat.zero_le _, fun fo nfo => ?_⟩
    have S1 := same_upd (o := .lst []) nfo
    refine ⟨_, rfl, a, _, rfl, .inr (S1.tup hS), fun l0 nl0 => ?_⟩
    refine ⟨_, rfl, by show 4 ≤ sizeLine; decide, fun t0 nt0 => ⟨by show 1 ≤ sizeLine; decide, fun ah nah => ⟨_, _, rfl, ?_⟩⟩⟩
    have S2 := same_upd (o := .lst (iv zs)) nl0
    have S3 := same_upd (o := .tup [.ref l0, .int e, .int 0, .int 0]) nt0
    have S4 := same_upd (o := .lst [.ref t0]) nah
    have nfa : fo ≠ ah := ne_of_none (S3 _ _ (S2 _ _ upd_same)) nah
    have nahH : H ah = none := ((S1.trans S2).trans S3).free nah
    refine ⟨fun m σ H' => ∃ (z5 z6 z7 z8 z9 z10 : Option V) (xs ys : List V) (lots : List Lot) (items : List Item), σ = [some (.ref a), some (.int p), some (.int e), some (.ref fo), some (.ref ah), z5, z6, z7, z8, z9, z10, none] ∧ m = (items.map (wtI p e)).sum ∧
        Same H H' ∧ H' fo = some (.lst xs) ∧ H' ah = some (.lst ys) ∧ Paired (LtAt H') xs lots ∧ Paired (ItAt (fun l => l = fo ∨ l = ah) H') ys items ∧ ZLots p e zs lots items,
      ⟨_, none, none, none, none, none, none, [], [.ref t0], [], [⟨zs, e, 0, 0⟩], rfl, rfl, ((S1.trans S2).trans S3).trans S4, S4 _ _ (S3 _ _ (S2 _ _ upd_same)), upd_same, .nil, .cons ⟨t0, l0, rfl, ?_, S4 _ _ upd_same, S4 _ _ (S3 _ _ upd_same)⟩ .nil, zlots_start hl hne hsm⟩, ?_⟩
    · rintro (z | z)
      · rw [z, upd_same] at nl0
        cases nl0
      · rw [← z, S3 _ _ upd_same] at nah
        cases nah
    · rintro m σ H1 ⟨z5, z6, z7, z8, z9, z10, xs, ys, lots, items, rfl, rfl, s1, hfo, hah, hxs, hys, Z⟩
      have lx := Paired.length hxs
      have ly := Paired.length hys
      refine ⟨_, rfl, Nat.zero_le _, fun q0 nq0 => ⟨ah, q0, ys, rfl, rfl, SqL.of (same_upd nq0 _ _ hah), SqL.of upd_same, _, rfl, ?_⟩⟩
      have Sq := same_upd (o := .lst []) nq0
      have hys2 := pairedMap (fun v l h => ItAt.same Sq h) hys
      have hxs2 := pairedMap (fun v l h => LtAt.same Sq h) hxs
      have s2 : Same H (upd H1 q0 (.lst [])) := s1.trans Sq
      have hfo2 := Sq _ _ hfo
      have hah2 := Sq _ _ hah
      generalize hH2 : upd H1 q0 (.lst []) = H2 at *
      by_cases hy : ys = []
      · subst hy
        cases hys2
        exact iteF ⟨_, rfl, q _ fo xs lots s2 hfo2 hxs2 Z⟩
      · obtain ⟨ys', v, items', it, rfl, rfl, hys3, t, l, rfl, hnl, ht, hlc⟩ := pairedLast hys2 hy
        obtain ⟨cs, left, start, depth⟩ := it
        have ht : H2 t = some (.tup [.ref l, .int left, .int start, .int depth]) := ht
        have hlc : H2 l = some (.lst (iv cs)) := hlc
        have W := Z.wi ⟨cs, left, start, depth⟩ (by simp)
        have hcap := Z.cap
        have hlens : lots.length + items'.length + 1 ≤ 8388608 := by
          have g1 := sum_len (capL_pos (e := e) hp) lots
          have g2 := sum_len (capI_pos (e := e) hp) (items' ++ [⟨cs, left, start, depth⟩])
          rw [List.length_append, List.length_singleton] at g2
          omega
        have hwt : (items'.map (wtI p e)).sum < ((items' ++ [(⟨cs, left, start, depth⟩ : Item)]).map (wtI p e)).sum := by
          rw [List.map_append, List.sum_append]
          have : 0 < wtI p e ⟨cs, left, start, depth⟩ := by
            unfold wtI
            refine Nat.mul_pos (ppos hp _) ?_
            show 0 < 2 * left + 2 - _
            split <;> omega
          simp only [List.map_cons, List.map_nil, List.sum_cons, List.sum_nil, Nat.add_zero]
          omega
        have e1 : (!(ys' ++ [V.ref t]).isEmpty) = true := by simp
        rw [e1]
        refine iteT ?_
        refine ⟨fun σ' H' => ∃ m', m' < ((items' ++ [(⟨cs, left, start, depth⟩ : Item)]).map (wtI p e)).sum ∧ _, fun _ _ h => h, ?_⟩
        have hlast : (ys' ++ [V.ref t])[(ys' ++ [V.ref t]).length - 1]? = some (.ref t) := by simp
        refine ⟨_, rfl, .inl ⟨rfl, _, SqL.of hah2⟩, ah, _, _, rfl, rfl, hah2, hlast, ?_⟩
        rw [List.dropLast_concat]
        have nta : t ≠ ah := ne_of ht hah2 (fun z => by cases z)
        have ht3 : upd H2 ah (.lst ys') t = some (.tup [.ref l, .int left, .int start, .int depth]) := by rw [upd_ne nta]; exact ht
        have hl3 : upd H2 ah (.lst ys') l = some (.lst (iv cs)) := by rw [upd_ne (fun z => hnl (.inr z))]; exact hlc
        have s3 : Same H (upd H2 ah (.lst ys')) := s2.wr nahH
        have hfo3 : upd H2 ah (.lst ys') fo = some (.lst xs) := by rw [upd_ne nfa]; exact hfo2
        have hah3 : upd H2 ah (.lst ys') ah = some (.lst ys') := upd_same
        have hxs3 := pairedMap (fun v l h => LtAt.wr (ys := ys') hah2 h) hxs2
        have hys4 := pairedMap (fun v l h => ItAt.wr (ys := ys') hah2 (.inr rfl) h) hys3
        generalize hH3 : upd H2 ah (.lst ys') = H3 at *
        clear hH2 hH3 hah2 hah hfo hfo2 hxs hxs2 hys hys2 hys3 hlc ht
        refine ⟨t, _, rfl, SqT.of ht3, rfl, _, _, rfl, _, _, rfl, _, _, rfl, _, _, rfl, rfl, ?_⟩
        -- the test
        refine ⟨_, rfl, rfl, _, rfl, itV2 (fun h0 => iteT ?_) (fun h0 => ?_)⟩
        · have hall : ∀ t ∈ cs, (p : Int) ^ left ∣ t := fun t ht => by
            rw [show left = 0 by omega, Int.pow_zero]
            exact Int.one_dvd _
          refine ⟨_, rfl, .inl ⟨rfl, _, SqL.of hfo3⟩, _, rfl, _, rfl, by show 2 ≤ sizeLine; decide, fun u nu => ?_⟩
          have Su := same_upd (o := .tup [.int start, .int depth]) nu
          have hfo4 := Su _ _ hfo3
          refine ⟨fo, xs, _, rfl, rfl, hfo4, by omega, _, hwt, _, _, _, _, _, _, xs ++ [.ref u], ys', lots ++ [(start, depth)], items', rfl, rfl, (s3.trans Su).wr nfo, upd_same, ?_, ?_, ?_, zlots_lot hp Z hall⟩
          · rw [upd_ne nfa.symm]
            exact Su _ _ hah3
          · refine pairedSnoc (pairedMap (fun v l h => (h.same Su).wr hfo4) hxs3) ⟨u, rfl, ?_⟩
            rw [upd_ne (ne_of_none hfo3 nu).symm, upd_same]
          · exact pairedMap (fun v l h => (h.same Su).wr hfo4 (.inl rfl)) hys4
        · have hl1 : 1 ≤ left := by omega
          have dl : depth + left ≤ e + 1 := W.dl
          have pl : (p : Int) ^ left ≤ 8388608 := by
            have h1 : p ^ left ≤ p ^ (e + 1) := Nat.pow_le_pow_right (by omega) (by omega)
            have h2 : ((p ^ left : Nat) : Int) = (p : Int) ^ left := Int.natCast_pow p left
            omega
          have pl0 := ipos hp left
          refine ⟨_, rfl, l, rfl, ⟨_, SqL.of hl3⟩, fun D hD => lc_list (K := K) (a := l) (xs := iv cs) (fun j H' => Same H3 H' ∧ H' D = some (.lst (((cs.take j).map (fun t => decide (t % (p : Int) ^ left = 0))).map V.bl))) ⟨same_upd hD, upd_same⟩ (fun j H' _ h => h.1.seq (SqL.of hl3)) ?_ ?_⟩
          · rintro j x H4 hj ⟨s4, e4⟩
            obtain ⟨t', ht', rfl⟩ := ivGet hj
            have jlt := (List.getElem?_eq_some_iff.mp ht').1
            have wl : cs.length ≤ 18 := W.len
            refine ⟨rfl, _, rfl, _, rfl, _, rfl, p, left, rfl, by omega, by omega, by rw [Int.toNat_natCast]; omega, _, _, rfl, rfl, ?_, rfl, _, e4, ?_, s4.wr hD, ?_⟩
            · show 0 < (p : Int) ^ ((left : Int)).toNat
              rw [Int.toNat_natCast]
              exact pl0
            · rw [List.length_map, List.length_map, List.length_take]
              exact small1000 (by omega)
            · rw [upd_same, List.take_add_one, ht', List.map_append, List.map_append]
              show some (HO.lst (_ ++ [V.bl (decide (V.int (t' % (p : Int) ^ ((left : Int)).toNat) = V.int 0))])) = _
              rw [decV, Int.toNat_natCast]
              rfl
          · rintro H4 ⟨s4, e4⟩
            rw [ivLen, List.take_of_length_le (Nat.le_refl _)] at e4
            refine ⟨D, _, rfl, SqL.of e4, _, rfl, ?_⟩
            have hal : ((cs.map (fun t => decide (t % (p : Int) ^ left = 0))).all id = true) ↔ ∀ t ∈ cs, (p : Int) ^ left ∣ t := by
              rw [List.all_map, List.all_eq_true]
              exact ⟨fun h t ht => Int.dvd_of_emod_eq_zero (of_decide_eq_true (h t ht)), fun h t ht => decide_eq_true (Int.emod_eq_zero_of_dvd (h t ht))⟩
            have hfo5 := s4 _ _ hfo3
            have hah5 := s4 _ _ hah3
            refine ite2 (fun h1 => ?_) (fun h1 => ?_)
            · refine ⟨_, rfl, .inl ⟨rfl, _, SqL.of hfo5⟩, _, rfl, _, rfl, by show 2 ≤ sizeLine; decide, fun u nu => ?_⟩
              have Su := same_upd (o := .tup [.int start, .int depth]) nu
              have hfo4 := Su _ _ hfo5
              refine ⟨fo, xs, _, rfl, rfl, hfo4, by omega, _, hwt, _, _, _, _, _, _, xs ++ [.ref u], ys', lots ++ [(start, depth)], items', rfl, rfl, ((s3.trans s4).trans Su).wr nfo, upd_same, ?_, ?_, ?_, zlots_lot hp Z (hal.mp h1)⟩
              · rw [upd_ne nfa.symm]
                exact Su _ _ hah5
              · refine pairedSnoc (pairedMap (fun v l h => ((h.same s4).same Su).wr hfo4) hxs3) ⟨u, rfl, ?_⟩
                rw [upd_ne (ne_of_none hfo5 nu).symm, upd_same]
              · exact pairedMap (fun v l h => ((h.same s4).same Su).wr hfo4 (.inl rfl)) hys4
            · have hex : ∃ t ∈ cs, ¬ (p : Int) ^ left ∣ t := Classical.byContradiction fun h2 => h1 (hal.mpr fun t ht => Classical.byContradiction fun h3 => h2 ⟨t, ht, h3⟩)
              refine ⟨_, rfl, _, rfl, _, rfl, _, rfl, _, rfl, l, p, e, ⟨cs, left, start, depth⟩, rfl, s4 _ _ hl3, hp, hE, W, hl1, hex, fun H6 u fo' ah' xs' ys'' lots' items'' s6 nfo' nah' hu hfo' hah' hxs' hys' B => ?_⟩
              have hfo6 := s6 _ _ hfo5
              have hah6 := s6 _ _ hah5
              have nf1 : fo' ≠ fo := (ne_of_none hfo5 nfo').symm
              have na1 : ah' ≠ fo := (ne_of_none hfo5 nah').symm
              have na2 : ah' ≠ ah := (ne_of_none hah5 nah').symm
              have lx' := Paired.length hxs'
              have ly' := Paired.length hys'
              have Z2 := zlots_below Z B
              have hcap2 := Z2.cap
              have hlens2 : lots.length + lots'.length + (items'.length + items''.length) ≤ 8388608 := by
                have g1 := sum_len (capL_pos (e := e) hp) (lots ++ lots')
                have g2 := sum_len (capI_pos (e := e) hp) (items' ++ items'')
                rw [List.length_append] at g1 g2
                omega
              rw [List.length_append, List.length_append] at ly
              refine ⟨u, _, rfl, SqT.of hu, rfl, _, _, rfl, _, _, rfl, rfl, ?_⟩
              refine ⟨_, rfl, .inl ⟨rfl, _, SqL.of hfo6⟩, _, rfl, fo, fo', xs, xs', rfl, rfl, hfo6, hfo', by omega, ?_⟩
              have hah7 : upd H6 fo (.lst (xs ++ xs')) ah = some (.lst ys') := by rw [upd_ne nfa.symm]; exact hah6
              have hah7' : upd H6 fo (.lst (xs ++ xs')) ah' = some (.lst ys'') := by rw [upd_ne na1]; exact hah'
              refine ⟨_, rfl, .inl ⟨rfl, _, SqL.of hah7⟩, _, rfl, ah, ah', ys', ys'', rfl, rfl, hah7, hah7', by simp at ly; omega, ?_⟩
              refine ⟨_, ?_, _, _, _, _, _, _, xs ++ xs', ys' ++ ys'', lots ++ lots', items' ++ items'', rfl, rfl, (((s3.trans s4).trans s6).wr nfo).wr nahH, ?_, upd_same, ?_, ?_, Z2⟩
              · rw [List.map_append, List.map_append, List.sum_append, List.sum_append]
                have := B.wt
                simp only [List.map_cons, List.map_nil, List.sum_cons, List.sum_nil, Nat.add_zero]
                omega
              · rw [upd_ne nfa, upd_same]
              · exact pairedApp (pairedMap (fun v l h => (((h.same s4).same s6).wr hfo6).wr hah7) hxs3) (pairedMap (fun v l h => (h.wr hfo6).wr hah7) hxs')
              · refine pairedApp (pairedMap (fun v l h => (((h.same s4).same s6).wr hfo6 (.inl rfl)).wr hah7 (.inr rfl)) hys4) (pairedMap (fun v l ⟨t', l', g1, g2, g3, g4⟩ => ItAt.wr hah7 (.inr rfl) (ItAt.wr hfo6 (.inl rfl) ⟨t', l', g1, ?_, g3, g4⟩)) hys')
                rintro (z | z)
                · exact g2 (by rw [z]; show H4 fo ≠ none; rw [hfo5]; simp)
                · exact g2 (by rw [z]; show H4 ah ≠ none; rw [hah5]; simp)
end
end RW

/-! plain mathematics: all zeros by a power of a prime, and by a number put together of such -/
namespace RW
theorem nodup_map_inj {α β : Type} {f : α → β} (hf : ∀ a b, f a = f b → a = b) {l : List α} (h : l.Nodup) : (l.map f).Nodup := List.pairwise_map.mpr (h.imp fun hab e => hab (hf _ _ e))
theorem nodup_of_map {α β : Type} {f : α → β} {l : List α} (h : (l.map f).Nodup) : l.Nodup := (List.pairwise_map.mp h).imp fun hab e => hab (by rw [e])
/-- the list Z tells all zeros by n, each once -/
def IsZ (zs : List Int) (n : Nat) (Z : List Int) : Prop := Z.Nodup ∧ ∀ x, x ∈ Z ↔ 0 ≤ x ∧ x < (n : Int) ∧ (n : Int) ∣ ev zs x
def zL (zs : List Int) (n : Nat) : List Int := ((List.range n).filter fun (r : Nat) => decide ((n : Int) ∣ ev zs (r : Int))).map fun (r : Nat) => (r : Int)
theorem zL_sorted (zs : List Int) (n : Nat) : (zL zs n).Pairwise (· < ·) := by
  unfold zL
  refine List.pairwise_map.mpr ((List.pairwise_lt_range.filter _).imp fun h => ?_)
  omega
theorem zL_is (zs : List Int) (n : Nat) : IsZ zs n (zL zs n) := by
  refine ⟨(zL_sorted zs n).imp fun h e => by omega, fun x => ?_⟩
  unfold zL
  rw [List.mem_map]
  constructor
  · rintro ⟨r, hr, rfl⟩
    obtain ⟨h1, h2⟩ := List.mem_filter.mp hr
    have := List.mem_range.mp h1
    exact ⟨by omega, by omega, of_decide_eq_true h2⟩
  · rintro ⟨h0, h1, h2⟩
    obtain ⟨r, rfl⟩ : ∃ r : Nat, x = r := ⟨x.toNat, by omega⟩
    exact ⟨r, List.mem_filter.mpr ⟨List.mem_range.mpr (by omega), decide_eq_true h2⟩, rfl⟩
theorem IsZ.perm {zs : List Int} {n : Nat} {Z Z' : List Int} (h : IsZ zs n Z) (h' : IsZ zs n Z') : Z.Perm Z' := (List.perm_ext_iff_of_nodup h.1 h'.1).mpr fun x => (h.2 x).trans (h'.2 x).symm
theorem IsZ.len {zs : List Int} {n : Nat} {Z : List Int} (h : IsZ zs n Z) : Z.length = (zL zs n).length := (h.perm (zL_is zs n)).length_eq
theorem zL_len_le (zs : List Int) (n : Nat) : (zL zs n).length ≤ n := by
  unfold zL
  rw [List.length_map]
  exact Nat.le_trans (List.length_filter_le _ _) (by rw [List.length_range]; exact Nat.le_refl _)
/-- a sorted list of all zeros is the one -/
theorem IsZ.sorted {zs : List Int} {n : Nat} {Z : List Int} (h : IsZ zs n Z) {Y : List Int} (hp : Y.Perm Z) (hs : Y.Pairwise (· ≤ ·)) : Y = zL zs n :=
  List.Perm.eq_of_pairwise (le := fun a b => a ≤ b) (fun a b _ _ h1 h2 => Int.le_antisymm h1 h2) hs ((zL_sorted zs n).imp fun h => Int.le_of_lt h) (hp.trans (h.perm (zL_is zs n)))
theorem zL_one (zs : List Int) : (zL zs 1).length = 1 := by
  have h : IsZ zs 1 [0] := ⟨by simp, fun x => by
    rw [List.mem_singleton]
    constructor
    · rintro rfl
      exact ⟨by omega, by omega, Int.one_dvd _⟩
    · rintro ⟨h0, h1, _⟩
      omega⟩
  exact h.len.symm
/-! ### from the lots -/
def lotZ (p e : Nat) (l : Lot) : List Int := (List.range (p ^ (e - l.2))).map fun (k : Nat) => l.1 + (k : Int) * (p : Int) ^ l.2
def listZ (p e : Nat) (lots : List Lot) : List Int := lots.flatMap (lotZ p e)
theorem lotZ_mem {p e : Nat} (hp : PrimeN p) {l : Lot} (W : WFL p e l) (x : Int) : x ∈ lotZ p e l ↔ 0 ≤ x ∧ x < (p : Int) ^ e ∧ hasL p x l = true := by
  have P := ipos hp l.2
  have r0 := W.r0
  have r1 := W.r1
  have je := W.je
  have e1 : (p : Int) ^ e = (p : Int) ^ l.2 * ((p ^ (e - l.2) : Nat) : Int) := by
    rw [Int.natCast_pow, ← Int.pow_add]
    congr 1
    omega
  unfold lotZ hasL
  rw [List.mem_map, decide_eq_true_iff]
  constructor
  · rintro ⟨k, hk, rfl⟩
    have hk' := List.mem_range.mp hk
    have h1 : 0 ≤ (k : Int) * (p : Int) ^ l.2 := Int.mul_nonneg (by omega) (by omega)
    refine ⟨by omega, ?_, ⟨k, by rw [Int.mul_comm]; omega⟩⟩
    have h2 : ((k : Int) + 1) * (p : Int) ^ l.2 ≤ ((p ^ (e - l.2) : Nat) : Int) * (p : Int) ^ l.2 := Int.mul_le_mul_of_nonneg_right (by omega) (by omega)
    rw [Int.add_mul, Int.one_mul, Int.mul_comm _ ((p : Int) ^ l.2), Int.mul_comm _ ((p : Int) ^ l.2), ← e1] at h2
    rw [Int.mul_comm]
    omega
  · rintro ⟨x0, x1, k, hk⟩
    have hk0 : 0 ≤ k := by
      refine Int.le_of_lt_add_one (Int.lt_of_not_ge fun h => ?_)
      have h2 : (p : Int) ^ l.2 * (k + 1) ≤ (p : Int) ^ l.2 * 0 := Int.mul_le_mul_of_nonneg_left h (by omega)
      rw [Int.mul_add, Int.mul_one, Int.mul_zero] at h2
      omega
    have hk1 : k < ((p ^ (e - l.2) : Nat) : Int) := by
      refine Int.lt_of_not_ge fun h => ?_
      have h2 : (p : Int) ^ l.2 * ((p ^ (e - l.2) : Nat) : Int) ≤ (p : Int) ^ l.2 * k := Int.mul_le_mul_of_nonneg_left h (by omega)
      omega
    refine ⟨k.toNat, List.mem_range.mpr (by omega), ?_⟩
    rw [show ((k.toNat : Nat) : Int) = k by omega, Int.mul_comm]
    omega
theorem lotZ_nodup {p e : Nat} (hp : PrimeN p) (l : Lot) : (lotZ p e l).Nodup := by
  have P := ipos hp l.2
  refine nodup_map_inj (fun a b h => ?_) List.nodup_range
  have h1 : (a : Int) * (p : Int) ^ l.2 = (b : Int) * (p : Int) ^ l.2 := by omega
  have := Int.eq_of_mul_eq_mul_right (by omega) h1
  omega
theorem listZ_nodup {p e : Nat} (hp : PrimeN p) : ∀ {lots : List Lot}, (∀ l ∈ lots, WFL p e l) → (∀ x : Int, lots.countP (hasL p x) ≤ 1) → (listZ p e lots).Nodup
  | [], _, _ => List.nodup_nil
  | l :: r, W, h => by
    show (lotZ p e l ++ listZ p e r).Nodup
    have hr : ∀ x : Int, r.countP (hasL p x) ≤ 1 := fun x => by
      have := h x
      rw [List.countP_cons] at this
      omega
    refine List.nodup_append.mpr ⟨lotZ_nodup hp l, listZ_nodup hp (fun l' hl => W l' (List.mem_cons_of_mem _ hl)) hr, fun x hx y hy e => ?_⟩
    subst e
    obtain ⟨_, _, h1⟩ := (lotZ_mem hp (W l List.mem_cons_self) x).mp hx
    obtain ⟨l', hl', hx'⟩ := List.mem_flatMap.mp hy
    obtain ⟨_, _, h2⟩ := (lotZ_mem hp (W l' (List.mem_cons_of_mem _ hl')) x).mp hx'
    have h3 := h x
    rw [List.countP_cons, if_pos h1] at h3
    have h4 := List.countP_pos_iff.mpr ⟨l', hl', h2⟩
    omega
theorem listZ_is {p e : Nat} {zs : List Int} {lots : List Lot} (hp : PrimeN p) (Z : ZLots p e zs lots []) : IsZ zs (p ^ e) (listZ p e lots) := by
  have hc : ∀ x : Int, lots.countP (hasL p x) = if (p : Int) ^ e ∣ ev zs x then 1 else 0 := fun x => by
    have := Z.cnt x
    rw [List.countP_nil] at this
    exact this
  refine ⟨listZ_nodup hp Z.wl fun x => by rw [hc x]; split <;> omega, fun x => ?_⟩
  rw [Int.natCast_pow]
  unfold listZ
  rw [List.mem_flatMap]
  constructor
  · rintro ⟨l, hl, hx⟩
    obtain ⟨h0, h1, h2⟩ := (lotZ_mem hp (Z.wl l hl) x).mp hx
    refine ⟨h0, h1, ?_⟩
    have h3 := List.countP_pos_iff.mpr ⟨l, hl, h2⟩
    rw [hc x] at h3
    by_cases h : (p : Int) ^ e ∣ ev zs x
    · exact h
    · rw [if_neg h] at h3
      omega
  · rintro ⟨h0, h1, h2⟩
    have h3 := hc x
    rw [if_pos h2] at h3
    obtain ⟨l, hl, h4⟩ := List.countP_pos_iff.mp (show 0 < lots.countP (hasL p x) by omega)
    exact ⟨l, hl, (lotZ_mem hp (Z.wl l hl) x).mpr ⟨h0, h1, h4⟩⟩
theorem listZ_len (p e : Nat) : ∀ lots : List Lot, (listZ p e lots).length = (lots.map fun l => p ^ (e - l.2)).sum
  | [] => rfl
  | l :: r => by
    show (lotZ p e l ++ listZ p e r).length = _
    rw [List.length_append, listZ_len p e r]
    unfold lotZ
    simp
/-! ### two numbers without a common divisor -/
def pairsOf (S Z : List Int) : List (Int × Int) := S.flatMap fun r => Z.map fun z => (r, z)
theorem pairsOf_nodup {Z : List Int} (hZ : Z.Nodup) : ∀ {S : List Int}, S.Nodup → (pairsOf S Z).Nodup
  | [], _ => List.nodup_nil
  | r :: S, h => by
    obtain ⟨h1, h2⟩ := List.nodup_cons.mp h
    refine List.nodup_append.mpr ⟨nodup_map_inj (fun a b e => (Prod.mk.inj e).2) hZ, pairsOf_nodup hZ h2, fun x hx y hy e => ?_⟩
    subst e
    obtain ⟨z, _, rfl⟩ := List.mem_map.mp hx
    obtain ⟨r', hr', hz⟩ := List.mem_flatMap.mp hy
    obtain ⟨z', _, e⟩ := List.mem_map.mp hz
    have := (Prod.mk.inj e).1
    subst this
    exact h1 hr'
theorem pairsOf_mem {S Z : List Int} {r z : Int} : (r, z) ∈ pairsOf S Z ↔ r ∈ S ∧ z ∈ Z := by
  unfold pairsOf
  rw [List.mem_flatMap]
  constructor
  · rintro ⟨r', hr', hz⟩
    obtain ⟨z', hz', e⟩ := List.mem_map.mp hz
    obtain ⟨rfl, rfl⟩ := Prod.mk.inj e
    exact ⟨hr', hz'⟩
  · rintro ⟨h1, h2⟩
    exact ⟨r, h1, List.mem_map.mpr ⟨z, h2, rfl⟩⟩
theorem pairsOf_len (Z : List Int) : ∀ S : List Int, (pairsOf S Z).length = S.length * Z.length
  | [] => by simp [pairsOf]
  | r :: S => by
    show (Z.map (fun z => (r, z)) ++ pairsOf S Z).length = _
    rw [List.length_append, pairsOf_len Z S, List.length_map, List.length_cons, Nat.succ_mul, Nat.add_comm]
/-- x is put together of the pair's rests -/
def PutOf (N q : Nat) (x : Int) (y : Int × Int) : Prop := 0 ≤ x ∧ x < ((N * q : Nat) : Int) ∧ (N : Int) ∣ x - y.1 ∧ (q : Int) ∣ x - y.2
theorem dvd_mul_of_coprime {N q : Nat} (h : Nat.Coprime N q) {x : Int} (h1 : (N : Int) ∣ x) (h2 : (q : Int) ∣ x) : ((N * q : Nat) : Int) ∣ x :=
  Int.ofNat_dvd_left.mpr (h.mul_dvd_of_dvd_of_dvd (Int.ofNat_dvd_left.mp h1) (Int.ofNat_dvd_left.mp h2))
theorem emod_eq_of {N : Nat} {x r : Int} (h0 : 0 ≤ r) (h1 : r < (N : Int)) (h : (N : Int) ∣ x - r) : x % (N : Int) = r := by
  rw [emod_of_dvd_sub h, Int.emod_eq_of_lt h0 h1]
theorem put_all {zs : List Int} {N q : Nat} {S Z R : List Int} (hN : 0 < N) (hq : 0 < q) (hc : Nat.Coprime N q) (hS : IsZ zs N S) (hZ : IsZ zs q Z) (hl : R.length = (pairsOf S Z).length)
    (hR : ∀ (i : Nat) x y, R[i]? = some x → (pairsOf S Z)[i]? = some y → PutOf N q x y) : IsZ zs (N * q) R := by
  have hmap : R.map (fun x => (x % (N : Int), x % (q : Int))) = pairsOf S Z := by
    refine List.ext_getElem? fun i => ?_
    rw [List.getElem?_map]
    by_cases hi : i < R.length
    · obtain ⟨x, hx⟩ : ∃ x, R[i]? = some x := ⟨R[i], List.getElem?_eq_getElem hi⟩
      obtain ⟨⟨r, z⟩, hy⟩ : ∃ y, (pairsOf S Z)[i]? = some y := ⟨(pairsOf S Z)[i]'(by omega), List.getElem?_eq_getElem _⟩
      obtain ⟨_, _, h1, h2⟩ := hR i x (r, z) hx hy
      obtain ⟨mr, mz⟩ := pairsOf_mem.mp (List.mem_of_getElem? hy)
      obtain ⟨r0, r1, _⟩ := (hS.2 r).mp mr
      obtain ⟨z0, z1, _⟩ := (hZ.2 z).mp mz
      rw [hx, hy, Option.map_some, emod_eq_of r0 r1 h1, emod_eq_of z0 z1 h2]
    · rw [List.getElem?_eq_none (by omega), List.getElem?_eq_none (by omega)]
      rfl
  refine ⟨nodup_of_map (by rw [hmap]; exact pairsOf_nodup hZ.1 hS.1), fun x => ?_⟩
  have key : ∀ x : Int, (((N * q : Nat) : Int) ∣ ev zs x ↔ (N : Int) ∣ ev zs (x % (N : Int)) ∧ (q : Int) ∣ ev zs (x % (q : Int))) := fun x => by
    have c : ∀ n : Nat, (n : Int) ∣ ev zs (x % (n : Int)) ↔ (n : Int) ∣ ev zs x := fun n => by
      have h1 := ev_congr (dvd_sub_of_emod (n := (n : Int)) (x := x) (y := x % (n : Int)) (Int.emod_emod ..)) zs
      constructor
      · intro h
        have h2 := Int.dvd_sub h h1
        rw [show ev zs (x % (n : Int)) - (ev zs (x % (n : Int)) - ev zs x) = ev zs x by omega] at h2
        exact h2
      · intro h
        have h2 := Int.dvd_add h1 h
        rw [Int.sub_add_cancel] at h2
        exact h2
    rw [c N, c q]
    constructor
    · intro h
      exact ⟨Int.dvd_trans ⟨(q : Int), by rw [Int.natCast_mul]⟩ h, Int.dvd_trans ⟨(N : Int), by rw [Int.natCast_mul, Int.mul_comm]⟩ h⟩
    · rintro ⟨h1, h2⟩
      exact dvd_mul_of_coprime hc h1 h2
  constructor
  · intro hx
    obtain ⟨i, hi⟩ := List.getElem?_of_mem hx
    have hil := (List.getElem?_eq_some_iff.mp hi).1
    obtain ⟨y, hy⟩ : ∃ y, (pairsOf S Z)[i]? = some y := ⟨(pairsOf S Z)[i]'(by omega), List.getElem?_eq_getElem _⟩
    obtain ⟨h0, h1, _, _⟩ := hR i x y hi hy
    refine ⟨h0, h1, (key x).mpr ?_⟩
    have hm : (x % (N : Int), x % (q : Int)) ∈ pairsOf S Z := by
      rw [← hmap]
      exact List.mem_map.mpr ⟨x, hx, rfl⟩
    obtain ⟨mr, mz⟩ := pairsOf_mem.mp hm
    exact ⟨((hS.2 _).mp mr).2.2, ((hZ.2 _).mp mz).2.2⟩
  · rintro ⟨h0, h1, h2⟩
    obtain ⟨k1, k2⟩ := (key x).mp h2
    have hm : (x % (N : Int), x % (q : Int)) ∈ pairsOf S Z := pairsOf_mem.mpr ⟨(hS.2 _).mpr ⟨Int.emod_nonneg _ (by omega), Int.emod_lt_of_pos _ (by omega), k1⟩, (hZ.2 _).mpr ⟨Int.emod_nonneg _ (by omega), Int.emod_lt_of_pos _ (by omega), k2⟩⟩
    rw [← hmap] at hm
    obtain ⟨x', hx', e⟩ := List.mem_map.mp hm
    obtain ⟨e1, e2⟩ := Prod.mk.inj e
    obtain ⟨i, hi⟩ := List.getElem?_of_mem hx'
    have hil := (List.getElem?_eq_some_iff.mp hi).1
    obtain ⟨y, hy⟩ : ∃ y, (pairsOf S Z)[i]? = some y := ⟨(pairsOf S Z)[i]'(by omega), List.getElem?_eq_getElem _⟩
    obtain ⟨g0, g1, _, _⟩ := hR i x' y hi hy
    have hd := dvd_mul_of_coprime hc (dvd_sub_of_emod e1) (dvd_sub_of_emod e2)
    have : x' = x := by
      have h5 := emod_of_dvd_sub hd
      rw [Int.emod_eq_of_lt g0 g1, Int.emod_eq_of_lt h0 h1] at h5
      exact h5
    rw [← this]
    exact hx'
theorem bezout (a b : Nat) : ∃ u v : Int, u * a + v * b = (Nat.gcd a b : Nat) := by
  induction a, b using Nat.gcd.induction with
  | H0 n => exact ⟨0, 1, by rw [Nat.gcd_zero_left]; omega⟩
  | H1 m n h ih =>
    obtain ⟨u, v, e⟩ := ih
    refine ⟨v - u * (n / m : Nat), u, ?_⟩
    have h1 : ((n % m : Nat) : Int) = n - (n / m : Nat) * m := by
      have := Nat.div_add_mod n m
      rw [Nat.mul_comm] at this
      have h2 : (((n / m) * m + n % m : Nat) : Int) = n := by rw [this]
      rw [Int.natCast_add, Int.natCast_mul] at h2
      omega
    rw [h1] at e
    rw [Nat.gcd_rec, ← e, Int.sub_mul, Int.mul_sub, Int.mul_assoc]
    omega
theorem zL_mul {zs : List Int} {N q : Nat} (hN : 0 < N) (hq : 0 < q) (hc : Nat.Coprime N q) : (zL zs (N * q)).length = (zL zs N).length * (zL zs q).length := by
  obtain ⟨u, v, e⟩ := bezout N q
  have e : u * N + v * q = 1 := by
    rw [e, show Nat.gcd N q = 1 from hc]
    rfl
  have hNq : 0 < N * q := Nat.mul_pos hN hq
  have h := put_all (zs := zs) (R := (pairsOf (zL zs N) (zL zs q)).map fun y => (y.1 * (v * q) + y.2 * (u * N)) % ((N * q : Nat) : Int)) hN hq hc (zL_is zs N) (zL_is zs q) (by rw [List.length_map]) (fun i x y hx hy => by
    rw [List.getElem?_map, hy] at hx
    have hx' := Option.some.inj hx
    obtain ⟨r, z⟩ := y
    have hx' : (r * (v * q) + z * (u * N)) % ((N * q : Nat) : Int) = x := hx'
    have hd : ((N * q : Nat) : Int) ∣ x - (r * (v * q) + z * (u * N)) := by
      rw [← hx']
      exact dvd_sub_of_emod (Int.emod_emod ..)
    refine ⟨by rw [← hx']; exact Int.emod_nonneg _ (by omega), by rw [← hx']; exact Int.emod_lt_of_pos _ (by omega), ?_, ?_⟩
    · have h1 : (N : Int) ∣ x - (r * (v * q) + z * (u * N)) := Int.dvd_trans ⟨(q : Int), by rw [Int.natCast_mul]⟩ hd
      have h2 : (N : Int) ∣ r * (v * q) + z * (u * N) - r := by
        have h3 : r * (v * q) + z * (u * N) - r = N * (z * u - r * u) := by
          rw [show v * (q : Int) = 1 - u * N by omega, Int.mul_sub, Int.mul_sub, Int.mul_one, Int.mul_left_comm (N : Int) z u, Int.mul_left_comm (N : Int) r u, Int.mul_comm u (N : Int)]
          omega
        rw [h3]
        exact Int.dvd_mul_right ..
      have h4 := Int.dvd_add h1 h2
      rw [show x - (r * (v * q) + z * (u * N)) + (r * (v * q) + z * (u * N) - r) = x - r by omega] at h4
      exact h4
    · have h1 : (q : Int) ∣ x - (r * (v * q) + z * (u * N)) := Int.dvd_trans ⟨(N : Int), by rw [Int.natCast_mul, Int.mul_comm]⟩ hd
      have h2 : (q : Int) ∣ r * (v * q) + z * (u * N) - z := by
        have h3 : r * (v * q) + z * (u * N) - z = q * (r * v - z * v) := by
          rw [show u * (N : Int) = 1 - v * q by omega, Int.mul_sub, Int.mul_sub, Int.mul_one, Int.mul_left_comm (q : Int) z v, Int.mul_left_comm (q : Int) r v, Int.mul_comm v (q : Int)]
          omega
        rw [h3]
        exact Int.dvd_mul_right ..
      have h4 := Int.dvd_add h1 h2
      rw [show x - (r * (v * q) + z * (u * N)) + (r * (v * q) + z * (u * N) - z) = x - z by omega] at h4
      exact h4)
  rw [← h.len, List.length_map, pairsOf_len]
/-- the primes of a number, and how it is put together of their powers -/
def Chain : Nat → List (Nat × Nat) → Nat → Prop
  | N, [], n => N = n
  | N, (p, e) :: r, n => PrimeN p ∧ 1 ≤ e ∧ e ≤ 1000 ∧ p ^ (e + 1) ≤ 8388608 ∧ p ≤ 1000 ∧ Nat.Coprime N (p ^ e) ∧ N * p ^ e ≤ 1000000 ∧ p ^ e ≤ 1000000 ∧ Chain (N * p ^ e) r n
theorem Chain.lok : ∀ {l : List (Nat × Nat)} {N n : Nat}, Chain N l n → LOk l
  | [], _, _, _ => fun x h => (by cases h)
  | (p, e) :: r, N, n, h => fun x hx => by
    obtain ⟨h1, h2, h3, h4, h5, h6, h7, h8, h9⟩ := h
    rcases List.mem_cons.mp hx with hx | hx
    · rw [hx]
      exact ⟨h1.1, h2, h3, h8⟩
    · exact Chain.lok h9 x hx
def zProd (zs : List Int) : List (Nat × Nat) → Nat → Nat
  | [], f => f
  | (p, e) :: l, f => zProd zs l (f * (zL zs (p ^ e)).length)
theorem zProd_eq {zs : List Int} : ∀ {l : List (Nat × Nat)} {N n : Nat}, 0 < N → Chain N l n → zProd zs l (zL zs N).length = (zL zs n).length
  | [], _, _, _, h => by rw [show _ = _ from h]; rfl
  | (p, e) :: l, N, n, hN, h => by
    obtain ⟨h1, _, _, _, _, h6, _, _, h9⟩ := h
    show zProd zs l ((zL zs N).length * (zL zs (p ^ e)).length) = _
    rw [← zL_mul hN (ppos h1 e) h6]
    exact zProd_eq (Nat.mul_pos hN (ppos h1 e)) h9
end RW

set_option maxHeartbeats 4000000
namespace RW
open PySem PySem.Spec PyProof.Rows L2
section
variable {X : Cx}
/-- list(range(a, b, c)) -/
def tRg3 (ta : TA) : TE := fun σ H Q => ta σ H fun vs H1 => ∃ (i j c : Int) (n : Nat), vs = [.int i, .int j, .int c] ∧ RgC i j c n ∧ n ≤ 2 ^ 24 ∧ ∀ q, H1 q = none → Q (.ref q) (upd H1 q (.lst ((List.range n).map fun (k : Nat) => V.int (i + (k : Int) * c))))
theorem vals_rg3 {i c : Int} {n : Nat} {acc : Array Value} (h : ItemsOf (fun j v => ∃ t, v = .int (i + j * c) t) acc n) : Vals ((List.range n).map fun (k : Nat) => V.int (i + (k : Int) * c)) acc.toList := by
  have e : acc.toList.length = n := by rw [Array.length_toList]; exact h.1
  rw [← e]
  refine vals_of_get acc.toList _ fun j u hj => ?_
  obtain ⟨t, rfl⟩ := h.2 j u (by rw [← hj, Array.getElem?_toList])
  exact ⟨t, rfl⟩
theorem pe_listRg3 {a b c : Expr} {ta : TA} {p p2 pos pos2 : Pos} (hc : X.calm = true) (hg : Gl X "list") (hm : X.mg "list" = none) (hg2 : Gl X "range") (hm2 : X.mg "range" = none) (ha : PA X [a, b, c] ta)
    (na : starEach [Expr.Call (.Name "range" p2) [a, b, c] [] pos2] X.env = (false, eval (.Call (.Name "range" p2) [a, b, c] [] pos2) X.env) :: starEach [] X.env := by rfl)
    (hs : starEach [a, b, c] X.env = (false, eval a X.env) :: starEach [b, c] X.env := by rfl) (hpl : (backTo pos2 (starEach [b, c] X.env)).any (·.1) = false := by rfl) :
    PE X (.Call (.Name "list" p) [.Call (.Name "range" p2) [a, b, c] [] pos2] [] pos) (tRg3 ta) := by
  refine ⟨fun pins s σ H Q I h => ?_⟩
  refine Call_ (ld_blt I hg hm boot_list (PyProof.Rows.callWith_type1 (args_cons ?_ na) na))
  refine Call_ (ld_blt I hg2 hm2 boot_range (PyProof.Rows.callWith_type1 (thn (ha.run pos2 pins s σ H _ I h) fun us s1 ⟨vs, H1, I1, r1, q1⟩ => ?_) hs hpl))
  obtain ⟨i, j, k, n, e, ⟨c0, c1, c2, c3⟩, hn, q⟩ := q1
  subst e
  cases r1 with
  | cons ra rr =>
    cases rr with
    | cons rb rr =>
      cases rr with
      | cons rc rr =>
        cases rr
        obtain ⟨t, rfl⟩ := ra
        obtain ⟨t', rfl⟩ := rb
        obtain ⟨t'', rfl⟩ := rc
        refine call_range_3 c0 ?_ (.inl (PyProof.noPylong_small c1))
        have I2 : Inv X pins σ H1 { s1 with heap := s1.heap.push { cls := .type "range", data := .fields #[.int i t, .int j t', .int k t''] } } := I1.kept (t' := s1.toks) fun b o e => Heap.get?_push_of_some _ e
        refine args_nil ?_
        refine call_list_range (n := n) (I2.ok.hd hc) (IsRange.new ..) c2 c3 hn fun h' tk acc c' hk e' hi => ?_
        refine ⟨.ref _, upd H1 _ (.lst ((List.range n).map fun (k' : Nat) => V.int (i + (k' : Int) * k))), I2.laid hk (Nat.le_refl _) (show ObjOk X.prog X.w _ _ _ (.lst _) from ⟨?_, acc.toList, c', vals_rg3 hi, ?_⟩), rfl, q _ (I2.hok.fresh (Nat.le_refl _))⟩
        · rw [List.length_map, List.length_range, sizeLine_eq]
          exact hn
        · rw [Array.toArray_toList]
          exact e'
end
theorem rgc_of {p e j : Nat} {r : Int} (hp : PrimeN p) (hE : p ^ e ≤ 8388608) (je : j ≤ e) (r0 : 0 ≤ r) (r1 : r < (p : Int) ^ j) : RgC r ((p : Int) ^ e) ((p : Int) ^ j) (p ^ (e - j)) := by
  have Pj := ipos hp j
  have hpe : (p : Int) ^ e ≤ 8388608 := by
    have : ((p ^ e : Nat) : Int) = (p : Int) ^ e := Int.natCast_pow p e
    omega
  have hpj : (p : Int) ^ j ≤ (p : Int) ^ e := Int.le_of_dvd (ipos hp e) (pow_dvd_pow' _ je)
  have n1 : 1 ≤ p ^ (e - j) := ppos hp _
  have e1 : (p : Int) ^ e = (p : Int) ^ j * ((p ^ (e - j) : Nat) : Int) := by
    rw [Int.natCast_pow, ← Int.pow_add]
    congr 1
    omega
  have hs : Builtin.Range.rangeSize r ((p : Int) ^ e) ((p : Int) ^ j) = ((p ^ (e - j) : Nat) : Int) := by
    unfold Builtin.Range.rangeSize
    rw [if_pos Pj, if_pos (by omega)]
    have h2 : (p : Int) ^ e - r - 1 = ((p : Int) ^ j - r - 1) + (p : Int) ^ j * (((p ^ (e - j) : Nat) : Int) - 1) := by
      rw [e1, Int.mul_sub, Int.mul_one]
      omega
    rw [h2, Int.add_mul_ediv_left _ _ (by omega), Int.ediv_eq_zero_of_lt (by omega) (by omega)]
    omega
  have hn : ((p ^ (e - j) : Nat) : Int) ≤ 8388608 := by
    have : p ^ (e - j) ≤ p ^ e := Nat.pow_le_pow_right (by have := hp.1; omega) (by omega)
    omega
  refine ⟨by omega, by omega, ?_, hs⟩
  unfold Builtin.Range.small
  rw [hs, if_pos Pj]
  have f : ∀ x : Int, 0 ≤ x → x ≤ 100000000 → Builtin.Range.rangeFitsLong x = true := fun x h0 h1 => by
    unfold Builtin.Range.rangeFitsLong
    simp
    omega
  rw [f _ r0 (by omega), f _ (by omega) (by omega), f _ (by omega) (by omega), f _ (by omega) (by omega), f _ (by omega) (by omega)]
  simp
/-- what is asked of a prime, a power, a sum -/
structure FOk (p e : Nat) (zs : List Int) : Prop where
  hp : PrimeN p
  hE : p ^ (e + 1) ≤ 8388608
  len : zs.length ≤ 18
  ne : zs ≠ []
  small : ∀ t ∈ zs, t.natAbs < 1073741824
theorem FOk.pe {p e : Nat} {zs : List Int} (h : FOk p e zs) : p ^ e ≤ 8388608 := Nat.le_trans (Nat.pow_le_pow_right (by have := h.hp.1; omega) (by omega)) h.hE
theorem sumTake {f : Lot → Nat} (l : List Lot) (i : Nat) : ((l.take i).map f).sum ≤ (l.map f).sum := by
  conv => rhs; rw [← List.take_append_drop i l]
  rw [List.map_append, List.sum_append]
  omega
section
variable {P : Program} {w : World} {K : PySem.W.Frag} {mg : Str → Option Value} {base : Heap} {CK CW : Addr}
def sp_count_for (K : PySem.W.Frag) : Sp := fun vs H Q _ => ∃ (a : Addr) (p e : Nat) (zs : List Int), vs = [.ref a, .int p, .int e] ∧ SqT K H a (iv zs) ∧ FOk p e zs ∧ ∀ H', Same H H' → Q (.int ((zL zs (p ^ e)).length : Nat)) H'
theorem ok_count_for (T : Txt K mg CK CW) : Ok P w K mg base 5 "count_for" ["terms", "prime", "often"] (sp_count_for K) := by
  refine T.d_count_for.ok (k := 4) sc_count_for (fun _ _ _ _ _ _ us hl => match us, hl with | [_, _, _], _ => rfl) (fun vs H Q E h => ?_) (fun f cdv A outer s H vs Q E hr h => ?_)
  · obtain ⟨_, _, _, _, rfl, _⟩ := h
    rfl
  · obtain ⟨a, p, e, zs, rfl, hS, ok, q⟩ := h
    refine ⟨_, (pss_cons (ps_set (i := 3) sc_count_for.nd rfl (.inl rfl) pe_int)
      (pss_cons (ps_for PassesOwn.never rfl (pi_list (pe_ok (ok_zero_lots T) (hr.mono (by decide)) (by rfl) (pa_cons (pv 0) (pa_cons (pv 1) (pa_cons (pv 2) pa_nil))))) (pg_tup rfl (pgs_cons (pg_name (i := 4) sc_count_for.nd rfl (.inl rfl)) (pgs_cons (pg_name (i := 5) sc_count_for.nd rfl (.inl rfl)) pgs_nil))) (pss_one (ps_set (i := 3) sc_count_for.nd rfl (.inl rfl) (pe_op op_add (pv 3) (pe_ifExp (pt_cmpR op_le (pv 5) (pv 2) (nomark _)) (pe_ok (ok_raised T) (hr.mono (by decide)) (by rfl) (pa_cons (pv 1) (pa_cons (pe_op op_sub (pv 2) (pv 5)) pa_nil))) pe_int)))))
      (pss_one (ps_ret (pv 3))))), ?_⟩
    have hp := ok.hp
    have p2 := hp.1
    refine ⟨_, rfl, _, rfl, _, rfl, a, p, e, zs, rfl, hS, hp, ok.hE, ok.len, ok.ne, ok.small, fun H1 fo xs lots s1 hfo hxs Z => ⟨fo, rfl, ⟨_, SqL.of hfo⟩, for_list (K := K) (a := fo) (xs := xs) (fun i σ H' => ∃ (z4 z5 : Option V), σ = [some (.ref a), some (.int p), some (.int e), some (.int (((lots.take i).map fun l => p ^ (e - l.2)).sum : Nat)), z4, z5] ∧ H' = H1)
      ⟨none, none, rfl, rfl⟩ (fun i σ H' _ ⟨_, _, _, e⟩ => by rw [e]; exact SqL.of hfo) ?_ ?_⟩⟩
    · rintro i x σ H' hi ⟨z4, z5, rfl, rfl⟩
      obtain ⟨⟨r, j⟩, hy, t, rfl, ht⟩ := pairedGet hxs hi
      have W := Z.wl _ (List.mem_of_getElem? hy)
      have je : j ≤ e := W.je
      have pj : (p : Int) ^ (e - j) < 9223372036854775808 := by
        have h1 : p ^ (e - j) ≤ p ^ (e + 1) := Nat.pow_le_pow_right (by omega) (by omega)
        have h2 : ((p ^ (e - j) : Nat) : Int) = (p : Int) ^ (e - j) := Int.natCast_pow p _
        have := ok.hE
        omega
      have ek : ((e : Int) - (j : Int)).toNat = e - j := by omega
      refine ⟨t, _, rfl, SqT.of ht, rfl, _, _, rfl, _, _, rfl, rfl, ?_⟩
      refine ⟨_, rfl, _, rfl, _, rfl, _, _, rfl, rfl, _, rfl, itD (show (j : Int) ≤ (e : Int) by omega) ⟨_, rfl, _, rfl, _, rfl, _, _, rfl, rfl, p, (e : Int) - (j : Int), rfl, by omega, by omega, by rw [ek]; exact pj, _, _, rfl, rfl, some (.int r), some (.int j), ?_, rfl⟩⟩
      rw [ek, List.take_add_one, hy, List.map_append, List.sum_append, Int.natCast_add]
      show [_, _, _, some (V.int (_ + (p : Int) ^ (e - j))), _, _] = _
      rw [← Int.natCast_pow]
      simp
    · rintro σ H' ⟨z4, z5, rfl, rfl⟩
      refine ⟨_, rfl, ?_⟩
      rw [Paired.length hxs, List.take_of_length_le (Nat.le_refl _), ← listZ_len, (listZ_is hp Z).len]
      exact q _ s1
def sp_list_for (K : PySem.W.Frag) : Sp := fun vs H Q _ => ∃ (a : Addr) (p e : Nat) (zs : List Int), vs = [.ref a, .int p, .int e] ∧ SqT K H a (iv zs) ∧ FOk p e zs ∧ ∀ H' fo Z, Same H H' → H' fo = some (.lst (iv Z)) → IsZ zs (p ^ e) Z → Q (.ref fo) H'
theorem ok_list_for (T : Txt K mg CK CW) : Ok P w K mg base 5 "list_for" ["terms", "prime", "often"] (sp_list_for K) := by
  refine T.d_list_for.ok (k := 4) sc_list_for (fun _ _ _ _ _ _ us hl => match us, hl with | [_, _, _], _ => rfl) (fun vs H Q E h => ?_) (fun f cdv A outer s H vs Q E hr h => ?_)
  · obtain ⟨_, _, _, _, rfl, _⟩ := h
    rfl
  · obtain ⟨a, p, e, zs, rfl, hS, ok, q⟩ := h
    refine ⟨_, (pss_cons (ps_par (i := 3) (j := 4) (by rfl) sc_list_for.nd rfl rfl (by decide) rfl rfl (pa_cons (pe_ok (ok_raised T) (hr.mono (by decide)) (by rfl) (pa_cons (pv 1) (pa_cons (pv 2) pa_nil))) (pa_cons (pe_lst pa_nil) pa_nil)) (by rfl))
      (pss_cons (ps_for PassesOwn.never rfl (pi_list (pe_ok (ok_zero_lots T) (hr.mono (by decide)) (by rfl) (pa_cons (pv 0) (pa_cons (pv 1) (pa_cons (pv 2) pa_nil))))) (pg_tup rfl (pgs_cons (pg_name (i := 5) sc_list_for.nd rfl (.inl rfl)) (pgs_cons (pg_name (i := 6) sc_list_for.nd rfl (.inl rfl)) pgs_nil))) (pss_one (ps_expr (pe_bm PySem.F.plainAttrs_list PySem.F.slot_list_extend PySem.F.type_list_extend mt_extend (pv 4) (pa_cons (pe_listRg3 rfl (by rfl) T.b_list (by rfl) T.b_range (pa_cons (pv 5) (pa_cons (pv 3) (pa_cons (pe_ok (ok_raised T) (hr.mono (by decide)) (by rfl) (pa_cons (pv 1) (pa_cons (pv 6) pa_nil))) pa_nil)))) pa_nil)))))
      (pss_one (ps_ret (pv 4))))), ?_⟩
    have hp := ok.hp
    have p2 := hp.1
    have hpe := ok.pe
    have big : sizeLine = 16777216 := sizeLine_eq
    have ipe : (p : Int) ^ e ≤ 8388608 := by
      have : ((p ^ e : Nat) : Int) = (p : Int) ^ e := Int.natCast_pow p e
      omega
    refine ⟨_, rfl, _, rfl, p, e, rfl, by omega, by omega, by rw [Int.toNat_natCast]; omega, Nat.zero_le _, fun fo nfo => ⟨_, _, rfl, ?_⟩⟩
    rw [Int.toNat_natCast]
    have S1 := same_upd (o := .lst []) nfo
    refine ⟨_, rfl, _, rfl, _, rfl, a, p, e, zs, rfl, S1.tup hS, hp, ok.hE, ok.len, ok.ne, ok.small, fun H1 lo xs lots s1 hlo hxs Z => ?_⟩
    have nlf : lo ≠ fo ∨ lots = [] := by
      by_cases h : lo = fo
      · right
        rw [h, s1 _ _ upd_same] at hlo
        have e1 := HO.lst.inj (Option.some.inj hlo)
        have l1 := Paired.length hxs
        rw [← e1] at l1
        exact List.eq_nil_of_length_eq_zero l1.symm
      · exact .inl h
    have hsum : (lots.map fun l => p ^ (e - l.2)).sum ≤ 8388608 := by
      rw [← listZ_len, (listZ_is hp Z).len]
      exact Nat.le_trans (zL_len_le _ _) hpe
    refine ⟨lo, rfl, ⟨_, SqL.of hlo⟩, for_list (K := K) (a := lo) (xs := xs) (fun i σ H' => ∃ (z5 z6 : Option V), σ = [some (.ref a), some (.int p), some (.int e), some (.int ((p : Int) ^ e)), some (.ref fo), z5, z6] ∧ Same H H' ∧ H' lo = some (.lst xs) ∧ H' fo = some (.lst (iv (listZ p e (lots.take i)))) ∧ Paired (LtAt H') xs lots)
      ⟨none, none, rfl, S1.trans s1, hlo, s1 _ _ upd_same, hxs⟩ (fun i σ H' _ ⟨_, _, _, _, e, _⟩ => SqL.of e) ?_ ?_⟩
    · rintro i x σ H2 hi ⟨z5, z6, rfl, s2, hlo2, hfo2, hxs2⟩
      obtain ⟨⟨r, j⟩, hy, t, rfl, ht⟩ := pairedGet hxs2 hi
      have W := Z.wl _ (List.mem_of_getElem? hy)
      have nlf' : lo ≠ fo := by
        rcases nlf with h | h
        · exact h
        · rw [h] at hy
          cases hy
      have je : j ≤ e := W.je
      have pj : (p : Int) ^ j ≤ (p : Int) ^ e := Int.le_of_dvd (ipos hp e) (pow_dvd_pow' _ je)
      have hst := sumTake (f := fun l => p ^ (e - l.2)) lots (i + 1)
      rw [List.take_add_one, hy, List.map_append, List.sum_append] at hst
      have hst2 : ((lots.take i).map fun l => p ^ (e - l.2)).sum + p ^ (e - j) ≤ 8388608 := by
        have h1 : (List.map (fun (l : Lot) => p ^ (e - l.2)) (some ((r, j) : Lot)).toList).sum = p ^ (e - j) := by simp
        omega
      refine ⟨t, _, rfl, SqT.of ht, rfl, _, _, rfl, _, _, rfl, rfl, ?_⟩
      refine ⟨_, rfl, .inl ⟨rfl, _, SqL.of hfo2⟩, _, rfl, _, rfl, _, rfl, _, rfl, p, j, rfl, by omega, by omega, by rw [Int.toNat_natCast]; omega, ?_⟩
      rw [Int.toNat_natCast]
      have n24 : p ^ (e - j) ≤ 2 ^ 24 := by
        have : (2 : Nat) ^ 24 = 16777216 := by decide
        omega
      refine ⟨r, (p : Int) ^ e, (p : Int) ^ j, p ^ (e - j), rfl, rgc_of hp hpe je W.r0 W.r1, n24, fun D nD => ?_⟩
      have SD := same_upd (o := .lst ((List.range (p ^ (e - j))).map fun (k : Nat) => V.int (r + (k : Int) * (p : Int) ^ j))) nD
      refine ⟨fo, D, _, _, rfl, rfl, SD _ _ hfo2, upd_same, ?_, some (.int r), some (.int j), rfl, (s2.trans SD).wr nfo, ?_, ?_, pairedMap (fun v l h => (h.same SD).wr (SD _ _ hfo2)) hxs2⟩
      · rw [ivLen, listZ_len, List.length_map, List.length_range]
        omega
      · rw [upd_ne nlf']
        exact SD _ _ hlo2
      · rw [upd_same, List.take_add_one, hy]
        show _ = some (HO.lst (iv (listZ p e (lots.take i ++ [(r, j)]))))
        unfold listZ
        rw [List.flatMap_append, iv, iv, List.map_append]
        simp only [List.flatMap_cons, List.flatMap_nil, List.append_nil]
        unfold lotZ
        rw [List.map_map]
        rfl
    · rintro σ H2 ⟨z5, z6, rfl, s2, hlo2, hfo2, hxs2⟩
      rw [Paired.length hxs2, List.take_of_length_le (Nat.le_refl _)] at hfo2
      exact ⟨_, rfl, q _ fo _ s2 hfo2 (listZ_is hp Z)⟩
end
end RW

set_option maxHeartbeats 4000000
namespace RW
open PySem PySem.Spec PyProof.Rows L2
theorem Chain.mem : ∀ {l : List (Nat × Nat)} {N n : Nat}, Chain N l n → ∀ x ∈ l, PrimeN x.1 ∧ 1 ≤ x.2 ∧ x.1 ^ (x.2 + 1) ≤ 8388608 ∧ x.1 ≤ 1000 ∧ x.1 ^ x.2 ≤ 1000000
  | [], _, _, _ => fun x h => (by cases h)
  | (p, e) :: r, N, n, h => fun x hx => by
    obtain ⟨h1, h2, h3, h4, h5, h6, h7, h8, h9⟩ := h
    rcases List.mem_cons.mp hx with hx | hx
    · rw [hx]
      exact ⟨h1, h2, h4, h5, h8⟩
    · exact Chain.mem h9 x hx
/-- what is asked of a sum -/
structure ZOk (zs : List Int) : Prop where
  len : zs.length ≤ 18
  ne : zs ≠ []
  small : ∀ t ∈ zs, t.natAbs < 1073741824
theorem ZOk.f {zs : List Int} (h : ZOk zs) {p e : Nat} (h1 : PrimeN p) (h2 : p ^ (e + 1) ≤ 8388608) : FOk p e zs := ⟨h1, h2, h.len, h.ne, h.small⟩
/-- a fact by n with the rest r -/
def FcAt (n : Nat) (H : Hp) (v : V) (r : Int) : Prop := ∃ t, v = V.ref t ∧ H t = some (.tup [.int r, .int n])
theorem FcAt.same {n : Nat} {H H' : Hp} {v : V} {r : Int} (s : Same H H') : FcAt n H v r → FcAt n H' v r := fun ⟨t, e, h⟩ => ⟨t, e, s _ _ h⟩
theorem FcAt.wr {n : Nat} {H : Hp} {v : V} {r : Int} {q : Addr} {xs ys : List V} (hq : H q = some (.lst xs)) : FcAt n H v r → FcAt n (upd H q (.lst ys)) v r := fun ⟨t, e, h⟩ => ⟨t, e, by rw [upd_ne (ne_of h hq (fun z => by cases z))]; exact h⟩
section
variable {P : Program} {w : World} {K : PySem.W.Frag} {mg : Str → Option Value} {base : Heap} {CK CW : Addr}
def sp_check_apart : Sp := fun vs H Q _ => ∃ (n : Nat) (l : List (Nat × Nat)), vs = [.int n] ∧ 1 ≤ n ∧ n ≤ 1000000 ∧ apart n = some l ∧ (∀ x ∈ l, x.1 ≤ 1000) ∧ ∀ H' p xs, Same H H' → H' p = some (.tup xs) → Prs H' xs l → Q (.ref p) H'
theorem ok_check_apart (T : Txt K mg CK CW) : Ok P w K mg base 2 "check_apart" ["base"] sp_check_apart := by
  refine T.d_check_apart.ok (k := 1) sc_check_apart (fun _ _ _ _ _ _ us hl => match us, hl with | [_], _ => rfl) (fun vs H Q E h => ?_) (fun f cdv A outer s H vs Q E hr h => ?_)
  · obtain ⟨_, _, rfl, _⟩ := h
    rfl
  · obtain ⟨n, l, rfl, n1, n2, hl, hk, q⟩ := h
    refine ⟨_, (pss_cons (ps_set (i := 1) sc_check_apart.nd rfl (.inl rfl) (pe_ok (ok_apart_of T) (hr.mono (by decide)) (by rfl) (pa_cons (pv 0) pa_nil)))
      (pss_cons (ps_for PassesOwn.never rfl (pi_tup (pv 1)) (pg_tup rfl (pgs_cons (pg_name (i := 2) sc_check_apart.nd rfl (.inl rfl)) (pgs_cons (pg_name (i := 3) sc_check_apart.nd rfl (.inl rfl)) pgs_nil))) (pss_one (ps_if (pt_cmpR op_gt (pv 2) (pe_cst (by rfl) T.c_MOST_PRIME) (nomark _)) (pss_one ps_never) pss_nil)))
      (pss_one (ps_ret (pv 1))))), ?_⟩
    refine ⟨_, rfl, n, l, rfl, n1, n2, hl, fun H1 p xs s1 hp hxs => ⟨_, rfl, p, rfl, ⟨_, SqT.of hp⟩, for_tup (a := p) (xs := xs) (K := K) (fun i σ H' => ∃ (z2 z3 : Option V), σ = [some (.int n), some (.ref p), z2, z3] ∧ H' = H1)
      ⟨none, none, rfl, rfl⟩ (fun i σ H' _ ⟨_, _, _, e⟩ => by rw [e]; exact SqT.of hp) ?_ ?_⟩⟩
    · rintro i x σ H' hi ⟨z2, z3, rfl, rfl⟩
      obtain ⟨⟨pr, of⟩, hy, t, rfl, ht⟩ := pairedGet hxs hi
      have hm : pr ≤ 1000 := hk _ (List.mem_of_getElem? hy)
      exact ⟨t, _, rfl, SqT.of ht, rfl, _, _, rfl, _, _, rfl, rfl, _, rfl, _, _, rfl, rfl, _, rfl, itDF (by show ¬ (1000 : Int) < pr; omega) ⟨_, _, rfl, rfl⟩⟩
    · rintro σ H' ⟨z2, z3, rfl, rfl⟩
      exact ⟨_, rfl, q _ p xs s1 hp hxs⟩
def sp_count_by (K : PySem.W.Frag) : Sp := fun vs H Q _ => ∃ (a b : Addr) (zs : List Int) (l : List (Nat × Nat)) (n : Nat) (xs : List V), vs = [.ref a, .ref b] ∧ SqT K H a (iv zs) ∧ H b = some (.tup xs) ∧ Prs H xs l ∧ Chain 1 l n ∧ ZOk zs ∧ ∀ H', Same H H' → Q (.int ((zL zs n).length : Nat)) H'
theorem ok_count_by (T : Txt K mg CK CW) : Ok P w K mg base 6 "count_by" ["terms", "apart"] (sp_count_by K) := by
  refine T.d_count_by.ok (k := 5) sc_count_by (fun _ _ _ _ _ _ us hl => match us, hl with | [_, _], _ => rfl) (fun vs H Q E h => ?_) (fun f cdv A outer s H vs Q E hr h => ?_)
  · obtain ⟨_, _, _, _, _, _, rfl, _⟩ := h
    rfl
  · obtain ⟨a, b, zs, l, n, xs, rfl, hS, hb, hxs, hc, ok, q⟩ := h
    refine ⟨_, (pss_cons (ps_set (i := 2) sc_count_by.nd rfl (.inl rfl) pe_int)
      (pss_cons (ps_for PassesOwn.never rfl (pi_tup (pv 1)) (pg_tup rfl (pgs_cons (pg_name (i := 3) sc_count_by.nd rfl (.inl rfl)) (pgs_cons (pg_name (i := 4) sc_count_by.nd rfl (.inl rfl)) pgs_nil))) (pss_one (ps_set (i := 2) sc_count_by.nd rfl (.inl rfl) (pe_op op_mul (pv 2) (pe_ok (ok_count_for T) (hr.mono (by decide)) (by rfl) (pa_cons (pv 0) (pa_cons (pv 3) (pa_cons (pv 4) pa_nil))))))))
      (pss_one (ps_ret (pv 2))))), ?_⟩
    have hz := zProd_eq (zs := zs) (by decide) hc
    rw [zL_one] at hz
    refine ⟨_, rfl, b, rfl, ⟨_, SqT.of hb⟩, for_tup (a := b) (xs := xs) (K := K) (fun i σ H' => ∃ (f : Nat) (z3 z4 : Option V), σ = [some (.ref a), some (.ref b), some (.int f), z3, z4] ∧ Same H H' ∧ zProd zs (l.drop i) f = (zL zs n).length)
      ⟨1, none, none, rfl, Same.refl _, hz⟩ (fun i σ H' _ ⟨_, _, _, _, s, _⟩ => s.tup (SqT.of hb)) ?_ ?_⟩
    · rintro i x σ H1 hi ⟨f, z3, z4, rfl, s1, hf⟩
      obtain ⟨⟨pr, of⟩, hy, t, rfl, ht⟩ := pairedGet (Prs.same s1 hxs) hi
      obtain ⟨m1, m2, m3, m4, m5⟩ := Chain.mem hc _ (List.mem_of_getElem? hy)
      have hd : l.drop i = (pr, of) :: l.drop (i + 1) := by
        obtain ⟨hlt, e⟩ := List.getElem?_eq_some_iff.mp hy
        rw [← e]
        exact List.drop_eq_getElem_cons hlt
      rw [hd] at hf
      have hle : (zL zs (pr ^ of)).length ≤ pr ^ of := zL_len_le _ _
      have m5 : pr ^ of ≤ 1000000 := m5
      refine ⟨t, _, rfl, SqT.of ht, rfl, _, _, rfl, _, _, rfl, rfl, ?_⟩
      exact ⟨_, rfl, _, rfl, _, rfl, _, rfl, a, pr, of, zs, rfl, s1.tup hS, ok.f m1 m3, fun H2 s2 => ⟨_, _, rfl, rfl, .inr ⟨by omega, by omega⟩, f * (zL zs (pr ^ of)).length, _, _, by rw [Int.natCast_mul]; rfl, s1.trans s2, hf⟩⟩
    · rintro σ H1 ⟨f, z3, z4, rfl, s1, hf⟩
      rw [List.drop_eq_nil_of_le (by rw [Paired.length hxs]; exact Nat.le_refl _)] at hf
      refine ⟨_, rfl, ?_⟩
      rw [show f = (zL zs n).length from hf]
      exact q _ s1
theorem SumOk.z {zs : List Int} (h : SumOk zs) : ZOk zs := ⟨by have := h.2.1; omega, fun e => by have := h.1; rw [e] at this; simp at this, fun t ht => by have := h.2.2.1 t ht; omega⟩
def sp_count_zeros (_K : PySem.W.Frag) : Sp := fun vs H Q _ => ∃ (a : Addr) (n : Nat) (zs : List Int) (l : List (Nat × Nat)), vs = [.ref a, .int n] ∧ H a = some (.tup (iv zs)) ∧ SumOk zs ∧ 1 ≤ n ∧ n ≤ 1000000 ∧ apart n = some l ∧ Chain 1 l n ∧ ∀ H', Same H H' → Q (.int ((zL zs n).length : Nat)) H'
theorem ok_count_zeros (T : Txt K mg CK CW) : Ok P w K mg base 7 "count_zeros" ["terms", "base"] (sp_count_zeros K) := by
  refine T.d_count_zeros.ok (k := 6) sc_count_zeros (fun _ _ _ _ _ _ us hl => match us, hl with | [_, _], _ => rfl) (fun vs H Q E h => ?_) (fun f cdv A outer s H vs Q E hr h => ?_)
  · obtain ⟨_, _, _, _, rfl, _⟩ := h
    rfl
  · obtain ⟨a, n, zs, l, rfl, hS, ok, n1, n2, hl, hc, q⟩ := h
    refine ⟨_, (pss_cons (ps_expr (pe_ok (ok_check_sum T) (hr.mono (by decide)) (by rfl) (pa_cons (pv 0) pa_nil)))
      (pss_cons (ps_expr (pe_ok (ok_check_base T) (hr.mono (by decide)) (by rfl) (pa_cons (pv 1) pa_nil)))
      (pss_one (ps_ret (pe_ok (ok_count_by T) (hr.mono (by decide)) (by rfl) (pa_cons (pv 0) (pa_cons (pe_ok (ok_check_apart T) (hr.mono (by decide)) (by rfl) (pa_cons (pv 1) pa_nil)) pa_nil))))))), ?_⟩
    refine ⟨_, rfl, a, zs, rfl, hS, ok, fun H1 s1 => ⟨_, rfl, n, rfl, by omega, by omega, _, rfl, _, rfl, n, l, rfl, n1, n2, hl, fun x hx => (Chain.mem hc x hx).2.2.2.1, fun H2 b xs s2 hb hxs => ⟨a, b, zs, l, n, xs, rfl, (s1.trans s2).tup (SqT.of hS), hb, hxs, hc, ok.z, fun H3 s3 => q _ ((s1.trans s2).trans s3)⟩⟩⟩
def sp_zeros_of (_K : PySem.W.Frag) : Sp := fun vs H Q _ => ∃ (a : Addr) (n : Nat) (zs : List Int) (l : List (Nat × Nat)), vs = [.ref a, .int n] ∧ H a = some (.tup (iv zs)) ∧ ZOk zs ∧ 1 ≤ n ∧ n ≤ 900 ∧ apart n = some l ∧ Chain 1 l n ∧ ∀ H' p, Same H H' → H' p = some (.tup (iv (zL zs n))) → Q (.ref p) H'
abbrev sp_zeros (_K : PySem.W.Frag) : Sp := fun vs H Q _ => ∃ (a : Addr) (n : Nat) (zs : List Int) (l : List (Nat × Nat)), vs = [.ref a, .int n] ∧ H a = some (.tup (iv zs)) ∧ SumOk zs ∧ 1 ≤ n ∧ n ≤ 900 ∧ apart n = some l ∧ Chain 1 l n ∧ ∀ H' p, Same H H' → H' p = some (.tup (iv (zL zs n))) → Q (.ref p) H'
theorem Chain.le : ∀ {l : List (Nat × Nat)} {N n : Nat}, 0 < N → Chain N l n → N ≤ n
  | [], _, _, _, h => Nat.le_of_eq h
  | (p, e) :: r, N, n, hN, h => by
    obtain ⟨h1, _, _, _, _, _, _, _, h9⟩ := h
    have p0 := ppos h1 e
    have := Chain.le (Nat.mul_pos hN p0) h9
    have : N * 1 ≤ N * p ^ e := Nat.mul_le_mul_left _ p0
    omega
theorem pairs_at {S Z : List Int} {i j : Nat} {r z : Int} (hr : S[i]? = some r) (hz : Z[j]? = some z) : (pairsOf S Z)[i * Z.length + j]? = some (r, z) := by
  induction S generalizing i with
  | nil => cases hr
  | cons s S ih =>
    show ((Z.map fun z => (s, z)) ++ pairsOf S Z)[i * Z.length + j]? = some (r, z)
    have jl := (List.getElem?_eq_some_iff.mp hz).1
    cases i with
    | zero =>
      have e := Option.some.inj hr
      subst e
      rw [Nat.zero_mul, Nat.zero_add, List.getElem?_append_left (by simpa using jl), List.getElem?_map, hz]
      rfl
    | succ i =>
      rw [List.getElem?_append_right (by rw [List.length_map, Nat.succ_mul]; omega), List.length_map, show (i + 1) * Z.length + j - Z.length = i * Z.length + j by rw [Nat.succ_mul]; omega]
      exact ih hr
theorem ok_zeros_of (T : Txt K mg CK CW) : Ok P w K mg base 7 "zeros_of" ["terms", "base"] (sp_zeros_of K) := by
  refine T.d_zeros_of.ok (k := 6) sc_zeros_of (fun _ _ _ _ _ _ us hl => match us, hl with | [_, _], _ => rfl) (fun vs H Q E h => ?_) (fun f cdv A outer s H vs Q E hr h => ?_)
  · obtain ⟨_, _, _, _, rfl, _⟩ := h
    rfl
  · obtain ⟨a, n, zs, l, rfl, hS, ok, n1, n2, hl, hc, q⟩ := h
    refine ⟨_, (pss_cons (ps_set (i := 2) sc_zeros_of.nd rfl (.inl rfl) (pe_ok (ok_check_apart T) (hr.mono (by decide)) (by rfl) (pa_cons (pv 1) pa_nil)))
      (pss_cons (ps_if (pt_cmpR op_gt (pe_ok (ok_count_by T) (hr.mono (by decide)) (by rfl) (pa_cons (pv 0) (pa_cons (pv 2) pa_nil))) (pe_cst (by rfl) T.c_MOST_LISTED) (nomark _)) (pss_one ps_never) pss_nil)
      (pss_cons (ps_set (i := 3) sc_zeros_of.nd rfl (.inl rfl) (pe_lst (pa_cons (pe_tup (pa_cons pe_int (pa_cons pe_int pa_nil))) pa_nil)))
      (pss_cons (ps_for PassesOwn.never rfl (pi_tup (pv 2)) (pg_tup rfl (pgs_cons (pg_name (i := 4) sc_zeros_of.nd rfl (.inl rfl)) (pgs_cons (pg_name (i := 5) sc_zeros_of.nd rfl (.inl rfl)) pgs_nil))) (pss_cons (ps_set (i := 6) sc_zeros_of.nd rfl (.inr rfl) (pe_ok (ok_raised T) (hr.mono (by decide)) (by rfl) (pa_cons (pv 4) (pa_cons (pv 5) pa_nil))))
      (pss_cons (ps_set (i := 7) sc_zeros_of.nd rfl (.inr rfl) (pe_ifExp (pt_cmpR (op_neNil hr.units0) (pv 3) (pe_lst pa_nil) (nomark _)) (pe_ok (ok_list_for T) (hr.mono (by decide)) (by rfl) (pa_cons (pv 0) (pa_cons (pv 4) (pa_cons (pv 5) pa_nil)))) (pe_lst pa_nil)))
      (pss_one (ps_setLc2 (i := 3) (own := [("fact", 8), ("rest", 9)]) (wi1 := iList K (tVar 7)) (vs1 := [9]) (g := (gName 8)) rfl sc_zeros_of.nd rfl rfl (sw_true rfl rfl rfl (by decide +kernel)) (pi_list (pv 3)) (blkOk_by (own := [("fact", 8), ("rest", 9)]) (N := ["terms", "base", "apart", "found", "prime", "often", "whole", "own", "fact", "rest"]) (sc := defScope s_zeros_of) (by decide +kernel)) (by decide) (fun _ _ _ _ _ => (pg_name (i := 8) sc_zeros_of.nd rfl (.inl rfl))) (fun _ _ _ _ _ => pts_nil) (fun _ _ _ _ _ => (pi_list (pv 7))) (fun _ _ _ _ _ => (pg_name (i := 9) sc_zeros_of.nd rfl (.inl rfl))) (fun _ _ _ _ _ => pts_nil) (fun _ _ _ _ _ => (pe_ok (ok_put_together T) (hr.mono (by decide)) (by rfl) (pa_cons (pv 8) (pa_cons (pe_tup (pa_cons (pv 9) (pa_cons (pv 6) pa_nil))) pa_nil)))))))))
      (pss_one (ps_ret (pe_tupleOf (by rfl) T.b_tuple (pe_callB cr_sortedI (by rfl) T.b_sorted (by decide +kernel) (pa_cons (pe_lc (own := [("fact", 8)]) (te := tOp (rIxT K) (tVar 8) (tC (.int 0))) (g := (gName 8)) rfl sc_zeros_of.nd (pi_list (pv 3)) (blkOk_by (own := [("fact", 8)]) (N := ["terms", "base", "apart", "found", "prime", "often", "whole", "own", "fact", "rest"]) (sc := defScope s_zeros_of) (by decide +kernel)) (fun _ _ _ _ _ => (pg_name (i := 8) sc_zeros_of.nd rfl (.inl rfl))) (fun _ _ _ _ _ => pts_nil) (fun _ _ _ _ _ => (pe_ix ix_tup (pv 8) pe_int (fun _ _ => rfl)))) pa_nil))))))))), ?_⟩
    have big : sizeLine = 16777216 := sizeLine_eq
    refine ⟨_, rfl, n, l, rfl, n1, by omega, hl, fun x hx => (Chain.mem hc x hx).2.2.2.1, fun H1 b xs s1 hb hxs => ?_⟩
    have hle : (zL zs n).length ≤ n := zL_len_le _ _
    refine ⟨_, rfl, _, rfl, a, b, zs, l, n, xs, rfl, s1.tup (SqT.of hS), hb, hxs, hc, ok, fun H2 s2 => ⟨_, _, rfl, rfl, _, rfl, itDF (by show ¬ (5000 : Int) < ((zL zs n).length : Nat); omega) ?_⟩⟩
    refine ⟨by show 2 ≤ sizeLine; decide, fun t0 nt0 => ⟨by show 1 ≤ sizeLine; decide, fun f0 nf0 => ?_⟩⟩
    have S3 := same_upd (o := .tup [.int 0, .int 1]) nt0
    have S4 := same_upd (o := .lst [.ref t0]) nf0
    have s24 : Same H2 _ := S3.trans S4
    have s12 : Same H _ := (s1.trans s2).trans s24
    have hb4 := s24 _ _ (s2 _ _ hb)
    refine ⟨_, rfl, b, rfl, ⟨_, SqT.of hb4⟩, for_tup (a := b) (xs := xs) (K := K) (fun i σ H' => ∃ (fo : Addr) (ys : List V) (N : Nat) (S : List Int) (z4 z5 z6 z7 : Option V), σ = [some (.ref a), some (.int n), some (.ref b), some (.ref fo), z4, z5, z6, z7, none, none] ∧ Same H H' ∧ H' b = some (.tup xs) ∧ Prs H' xs l ∧
        H' fo = some (.lst ys) ∧ Paired (FcAt N H') ys S ∧ IsZ zs N S ∧ 0 < N ∧ Chain N (l.drop i) n)
      ⟨f0, [.ref t0], 1, [0], none, none, none, none, rfl, s12, hb4, Prs.same (s2.trans s24) hxs, upd_same, .cons ⟨t0, rfl, S4 _ _ upd_same⟩ .nil, ?_, by decide, hc⟩ (fun i σ H' _ ⟨_, _, _, _, _, _, _, _, _, _, h, _⟩ => SqT.of h) ?_ ?_⟩
    · refine ⟨by simp, fun x => ?_⟩
      rw [List.mem_singleton]
      exact ⟨fun h => by rw [h]; exact ⟨by omega, by omega, Int.one_dvd _⟩, fun ⟨h0, h1, _⟩ => by omega⟩
    · rintro i x σ H5 hi ⟨fo, ys, N, S, z4, z5, z6, z7, rfl, s5, hb5, hxs5, hfo5, hys5, hSz, N0, hch⟩
      obtain ⟨⟨p, e⟩, hy, t, rfl, ht⟩ := pairedGet hxs5 hi
      have hd : l.drop i = (p, e) :: l.drop (i + 1) := by
        obtain ⟨hlt, e⟩ := List.getElem?_eq_some_iff.mp hy
        rw [← e]
        exact List.drop_eq_getElem_cons hlt
      rw [hd] at hch
      obtain ⟨c1, c2, c3, c4, c5, c6, c7, c8, c9⟩ := hch
      have p0 := ppos c1 e
      have hle2 := Chain.le (Nat.mul_pos N0 p0) c9
      have hNn : N ≤ n := Nat.le_trans (by have : N * 1 ≤ N * p ^ e := Nat.mul_le_mul_left _ p0; omega) hle2
      have hqn : p ^ e ≤ n := Nat.le_trans (by have : 1 * p ^ e ≤ N * p ^ e := Nat.mul_le_mul_right _ N0; omega) hle2
      have ipe : ((p ^ e : Nat) : Int) = (p : Int) ^ e := Int.natCast_pow p e
      refine ⟨t, _, rfl, SqT.of ht, rfl, _, _, rfl, _, _, rfl, rfl, ?_⟩
      refine ⟨_, rfl, _, rfl, p, e, rfl, by omega, by have := c1.1; omega, by rw [Int.toNat_natCast]; omega, ?_⟩
      rw [Int.toNat_natCast]
      -- own
      have sl : S.length ≤ N := by
        rw [hSz.len]
        exact zL_len_le _ _
      have ly := Paired.length hys5
      refine ⟨_, rfl, Nat.zero_le _, fun q0 nq0 => ⟨fo, q0, ys, rfl, rfl, SqL.of (same_upd nq0 _ _ hfo5), SqL.of upd_same, _, rfl, ?_⟩⟩
      have Sq := same_upd (o := .lst []) nq0
      -- what is done with the own ones
      have go : ∀ (H6 : Hp) (ow : Addr) (W : List Int), Same H5 H6 → H6 ow = some (.lst (iv W)) → (ys ≠ [] → IsZ zs (p ^ e) W) → ∀ D : Ends,
          (∀ H' fo' (ys' : List V) (S' : List Int), Same H H' → H' b = some (.tup xs) → Prs H' xs l → H' fo' = some (.lst ys') → Paired (FcAt (N * p ^ e) H') ys' S' → IsZ zs (N * p ^ e) S' → D.nx [some (.ref a), some (.int n), some (.ref b), some (.ref fo'), some (.int p), some (.int e), some (.int ((p : Int) ^ e)), some (.ref ow), none, none] H') →
          tAsg (tLc2 (iList K (tVar 3)) (gName 8) tYes (iList K (tVar 7)) (gName 9) tYes (tCall (sp_put_together K) [] E0 (tCons (tVar 8) (tCons (tTup (tCons (tVar 9) (tCons (tVar 6) tNil))) tNil))) [8, 9] [9]) (gName 3) D
            [some (.ref a), some (.int n), some (.ref b), some (.ref fo), some (.int p), some (.int e), some (.int ((p : Int) ^ e)), some (.ref ow), none, none] H6 := by
        intro H6 ow W s6 how hW D hD
        refine ⟨_, rfl, fo, rfl, ⟨_, SqL.of (s6 _ _ hfo5)⟩, fun L nL => ?_⟩
        have wl : ys ≠ [] → W.length ≤ p ^ e := fun h => by
          rw [(hW h).len]
          exact zL_len_le _ _
        have lenOk : ∀ i j : Nat, i < ys.length → j ≤ W.length → ∀ R : List Int, R.length = i * W.length + j → R.length ≤ 810000 := fun i j hi hj R hR => by
          have h1 := wl (fun h => by rw [h] at hi; simp at hi)
          have h2 : i * W.length ≤ N * W.length := Nat.mul_le_mul_right _ (by omega)
          have h3 : N * W.length ≤ N * p ^ e := Nat.mul_le_mul_left _ h1
          omega
        -- the word of both loops
        let Pv : Nat → Nat → Hp → Prop := fun i j H' => ∃ (us : List V) (R : List Int), Same H6 H' ∧ H' L = some (.lst us) ∧ Paired (FcAt (N * p ^ e) H') us R ∧ R.length = i * W.length + j ∧ ∀ (k : Nat) x y, R[k]? = some x → (pairsOf S W)[k]? = some y → PutOf N (p ^ e) x y
        refine ⟨fun i m H' => m = ys.length - i ∧ i ≤ ys.length ∧ Pv i 0 H', ⟨ys.length, by simp, Nat.zero_le _, [], [], same_upd nL, upd_same, .nil, by simp, fun k x y h => by cases h⟩, ?_⟩
        rintro i' m H7 ⟨rfl, hi', us, R, s7, hL7, hus, hRl, hRp⟩
        by_cases hlt : i' < ys.length
        · have hyne : ys ≠ [] := fun h => by rw [h] at hlt; simp at hlt
          have hWz := hW hyne
          have hfo7 := s7 _ _ (s6 _ _ hfo5)
          refine .inr ⟨⟨ys, ys[i'], SqL.of hfo7, List.getElem?_eq_getElem hlt⟩, Pv (i' + 1) 0, fun H' p' => ⟨ys.length - (i' + 1), by omega, rfl, hlt, p'⟩, fun x H' yl => ?_⟩
          obtain ⟨rfl, hx⟩ := yl
          have hx := hx ys (SqL.of hfo7)
          obtain ⟨r, hr, tr, rfl, htr⟩ := pairedGet hys5 hx
          refine ⟨rfl, ?_⟩
          refine ⟨_, rfl, ow, rfl, ⟨_, SqL.of (s7 _ _ how)⟩, fun j k H' => k = W.length - j ∧ j ≤ W.length ∧ Pv i' j H', ⟨W.length, by simp, Nat.zero_le _, us, R, s7, hL7, hus, hRl, hRp⟩, ?_⟩
          rintro j k H8 ⟨rfl, hj, us, R, s8, hL8, hus, hRl, hRp⟩
          have how8 := s8 _ _ how
          by_cases hjl : j < W.length
          · refine .inr ⟨⟨iv W, V.int W[j], SqL.of how8, ivAt (List.getElem?_eq_getElem hjl)⟩, Pv i' (j + 1), fun H' p' => ⟨W.length - (j + 1), by omega, rfl, hjl, p'⟩, fun x H' yl => ?_⟩
            obtain ⟨rfl, hx2⟩ := yl
            have hx2 := hx2 (iv W) (SqL.of how8)
            obtain ⟨z, hz, rfl⟩ := ivGet hx2
            have hzm := (hWz.2 z).mp (List.mem_of_getElem? hz)
            refine ⟨rfl, _, rfl, _, rfl, _, rfl, by show 2 ≤ sizeLine; decide, fun u nu => ?_⟩
            have Su := same_upd (o := .tup [.int z, .int ((p : Int) ^ e)]) nu
            have htr8 : SqT K (upd H' u (.tup [.int z, .int ((p : Int) ^ e)])) tr [.int r, .int N] := SqT.of (Su _ _ (s8 _ _ (s6 _ _ htr)))
            have hgc : Int.gcd (N : Int) ((p : Int) ^ e) = 1 := by
              rw [← ipe]
              exact c6
            refine ⟨tr, u, r, N, z, (p : Int) ^ e, rfl, htr8, SqT.of upd_same, by omega, by omega, by omega, by omega, hgc, fun H9 tt rr s9 htt r0 r1 d1 d2 => ?_⟩
            have s89 : Same H' H9 := Su.trans s9
            have hRb := lenOk i' j hlt (by omega) R hRl
            have hmul : (N : Int) * (p : Int) ^ e = ((N * p ^ e : Nat) : Int) := by rw [Int.natCast_mul, ipe]
            refine ⟨us, s89 _ _ hL8, by rw [Paired.length hus]; omega, us ++ [.ref tt], R ++ [rr], (s8.trans s89).wr (s6.free nL |> fun _ => nL), upd_same, ?_, by rw [List.length_append, hRl]; rfl, fun k x y hk hk2 => ?_⟩
            · refine pairedSnoc (pairedMap (fun v l h => (h.same s89).wr (s89 _ _ hL8)) hus) ⟨tt, rfl, ?_⟩
              rw [upd_ne (ne_of htt (s89 _ _ hL8) (fun z => by cases z)), ← hmul]
              exact htt
            · by_cases hkl : k < R.length
              · rw [List.getElem?_append_left hkl] at hk
                exact hRp k x y hk hk2
              · have hke : k = R.length := by
                  have := (List.getElem?_eq_some_iff.mp hk).1
                  rw [List.length_append] at this
                  simp at this
                  omega
                subst hke
                rw [List.getElem?_append_right (Nat.le_refl _), Nat.sub_self] at hk
                have e1 := Option.some.inj hk
                subst e1
                rw [hRl, pairs_at hr hz] at hk2
                have e2 := Option.some.inj hk2
                subst e2
                exact ⟨r0, by rw [← hmul]; exact r1, d1, by rw [ipe]; exact d2⟩
          · have hje : j = W.length := by omega
            subst hje
            exact .inl ⟨⟨iv W, SqL.of how8, by rw [ivLen]; omega⟩, us, R, s8, hL8, hus, by rw [hRl, Nat.succ_mul, Nat.add_zero], hRp⟩
        · have hie : i' = ys.length := by omega
          subst hie
          refine .inl ⟨⟨ys, SqL.of (s7 _ _ (s6 _ _ hfo5)), Nat.le_refl _⟩, ?_⟩
          have hRS : R.length = (pairsOf S W).length := by rw [hRl, pairsOf_len, ly, Nat.add_zero]
          refine hD H7 L us R (s5.trans (s6.trans s7)) ((s6.trans s7) _ _ hb5) (Prs.same (s6.trans s7) hxs5) hL7 hus ?_
          by_cases hyn : ys = []
          · have hSn : S = [] := by
              rw [hyn] at ly
              exact List.eq_nil_of_length_eq_zero ly.symm
            subst hSn
            exact put_all N0 p0 c6 hSz (zL_is zs (p ^ e)) (by rw [hRS, pairsOf_len, pairsOf_len]; simp) (fun k x y _ h => by cases h)
          · exact put_all N0 p0 c6 hSz (hW hyn) hRS hRp
      by_cases hyn : ys = []
      · subst hyn
        refine iteF ⟨Nat.zero_le _, fun ow now => ?_⟩
        refine go _ ow [] (Sq.trans (same_upd now)) upd_same (fun h => absurd rfl h) ⟨_, _, _, _⟩ fun H' fo' ys' S' g1 g2 g3 g4 g5 g6 => ⟨fo', ys', N * p ^ e, S', _, _, _, _, rfl, g1, g2, g3, g4, g5, g6, Nat.mul_pos N0 p0, c9⟩
      · have e1 : (!ys.isEmpty) = true := by
          cases ys with
          | nil => exact absurd rfl hyn
          | cons _ _ => rfl
        rw [e1]
        refine iteT ⟨_, rfl, _, rfl, _, rfl, a, p, e, zs, rfl, (s5.trans Sq).tup (SqT.of hS), ok.f c1 c4, fun H6 ow W s6 how hW => ?_⟩
        refine go _ ow W (Sq.trans s6) how (fun _ => hW) ⟨_, _, _, _⟩ fun H' fo' ys' S' g1 g2 g3 g4 g5 g6 => ⟨fo', ys', N * p ^ e, S', _, _, _, _, rfl, g1, g2, g3, g4, g5, g6, Nat.mul_pos N0 p0, c9⟩
    · rintro σ H5 ⟨fo, ys, N, S, z4, z5, z6, z7, rfl, s5, hb5, hxs5, hfo5, hys5, hSz, N0, hch⟩
      rw [List.drop_eq_nil_of_le (by rw [Paired.length hxs]; exact Nat.le_refl _)] at hch
      have hN : N = n := hch
      subst hN
      have ly := Paired.length hys5
      have sl : S.length ≤ N := by
        rw [hSz.len]
        exact zL_len_le _ _
      refine ⟨_, rfl, fo, rfl, ⟨_, SqL.of hfo5⟩, fun D hD => lc_list (K := K) (a := fo) (xs := ys) (fun j H' => Same H5 H' ∧ H' D = some (.lst (iv (S.take j)))) ⟨same_upd hD, upd_same⟩ (fun j H' _ h => h.1.seq (SqL.of hfo5)) ?_ ?_⟩
      · rintro j x H6 hj ⟨s6, e6⟩
        obtain ⟨r, hr, tr, rfl, htr⟩ := pairedGet hys5 hj
        have jl := (List.getElem?_eq_some_iff.mp hr).1
        refine ⟨rfl, _, rfl, tr, _, 0, _, rfl, rfl, SqT.of (s6 _ _ htr), atI_nat (j := 0) rfl, _, e6, ?_, s6.wr hD, ?_⟩
        · rw [ivLen, List.length_take]
          omega
        · rw [upd_same, List.take_add_one, hr, iv, iv, List.map_append]
          rfl
      · rintro H6 ⟨s6, e6⟩
        rw [ly, List.take_of_length_le (Nat.le_refl _)] at e6
        refine ⟨D, S, rfl, SqL.of e6, fun ns' p hp hs np => ?_⟩
        have hns := hSz.sorted hp hs
        subst hns
        exact .inl ⟨p, _, rfl, SqL.of upd_same, fun p2 np2 => q _ p2 (((s5.trans s6).lay np).lay np2) upd_same⟩
theorem ok_zeros (T : Txt K mg CK CW) : Ok P w K mg base 8 "zeros" ["terms", "base"] (sp_zeros K) := by
  refine T.d_zeros.ok (k := 7) sc_zeros (fun _ _ _ _ _ _ us hl => match us, hl with | [_, _], _ => rfl) (fun vs H Q E h => ?_) (fun f cdv A outer s H vs Q E hr h => ?_)
  · obtain ⟨_, _, _, _, rfl, _⟩ := h
    rfl
  · obtain ⟨a, n, zs, l, rfl, hS, ok, n1, n2, hl, hc, q⟩ := h
    refine ⟨_, (pss_cons (ps_expr (pe_ok (ok_check_sum T) (hr.mono (by decide)) (by rfl) (pa_cons (pv 0) pa_nil)))
      (pss_cons (ps_expr (pe_ok (ok_check_base T) (hr.mono (by decide)) (by rfl) (pa_cons (pv 1) pa_nil)))
      (pss_one (ps_ret (pe_ok (ok_zeros_of T) (hr.mono (by decide)) (by rfl) (pa_cons (pv 0) (pa_cons (pv 1) pa_nil))))))), ?_⟩
    exact ⟨_, rfl, a, zs, rfl, hS, ok, fun H1 s1 => ⟨_, rfl, n, rfl, by omega, by omega, _, rfl, _, rfl, a, n, zs, l, rfl, s1 _ _ hS, ok.z, n1, n2, hl, hc, fun H2 p s2 hp => q _ p (s1.trans s2) hp⟩⟩
end
end RW

/-! plain mathematics: the parts of a sum by how manifold their zeros are; mirrors with their bounds built in -/
namespace RW
def content (zs : List Int) : Nat := zs.foldl (fun a t => Int.gcd a t) 0
def primO (zs : List Int) : Option (List Int) :=
  if zs ≠ [] ∧ 0 < content zs ∧ content zs < 1073741824 then some (zs.map fun t => t.fdiv (if 0 < zs.getLastD 0 then (content zs : Int) else -(content zs : Int))) else none
/-- a multiple is taken off, place by place -/
def subGo (top : Int) : List Int → Nat → List Int → List Int
  | L, _, [] => L
  | L, s, t :: r => subGo top (L.set s (L.getD s 0 - top * t)) (s + 1) r
theorem subGo_len (top : Int) : ∀ (r : List Int) (L : List Int) (s : Nat), (subGo top L s r).length = L.length
  | [], _, _ => rfl
  | t :: r, L, s => by
    unfold subGo
    rw [subGo_len top r, List.length_set]
def sm (i : Int) : Prop := i.natAbs < 1073741824
instance (i : Int) : Decidable (sm i) := by unfold sm; infer_instance
def rbF : Nat → List Int → List Int → Option (List Int)
  | 0, _, _ => none
  | k + 1, left, other =>
    if other.length ≤ left.length ∧ left ≠ [0] then
      if left.length ≤ 500 ∧ other ≠ [] ∧ sm (left.getLastD 0) ∧ sm (other.getLastD 0) then
        rbF k (if 1 < left.length then trim (subGo (left.getLastD 0) (left.map (· * other.getLastD 0)) (left.length - other.length) other).dropLast else [0]) other
      else none
    else some left
def cpF : Nat → List Int → List Int → Option (List Int)
  | 0, _, _ => none
  | k + 1, one, other => if other ≠ [0] then (primO other).bind fun o => (rbF 20 (trim one) o).bind fun r => (if r.length ≤ 100 then cpF k o r else none) else some one
def cpO (one other : List Int) : Option (List Int) := (primO (trim one)).bind fun o => cpF 20 o (trim other)
def qF : Nat → List Int → List Int → List Int → Option (List Int)
  | 0, _, _, _ => none
  | k + 1, left, found, other =>
    if other.length ≤ left.length then
      if found.length ≤ 500 ∧ left.length ≤ 500 ∧ other ≠ [] ∧ sm (left.getLastD 0) ∧ 0 < other.getLastD 0 ∧ sm (other.getLastD 0) then
        qF k (subGo (left.getLastD 0 / other.getLastD 0) left (left.length - other.length) other).dropLast (found ++ [left.getLastD 0 / other.getLastD 0]) other
      else none
    else some found.reverse
/-- all that is asked of the sum c + x x -/
def SqOk (c : Int) : Prop := trim [c, 0, 1] = [c, 0, 1] ∧ primO [c, 0, 1] = some [c, 0, 1] ∧ slope [c, 0, 1] = [0, 2] ∧ cpO [c, 0, 1] [0, 2] = some [1] ∧ qF 20 [c, 0, 1] [] [1] = some [c, 0, 1] ∧ qF 20 [1] [] [1] = some [1] ∧ content [c, 0, 1] = 1
instance (c : Int) : Decidable (SqOk c) := by unfold SqOk; infer_instance
set_option maxRecDepth 100000 in
theorem sqOk_all : ∀ k : Fin 401, k.val ≠ 200 → SqOk ((k.val : Int) - 200) := by decide +kernel
theorem sqOk {c : Int} (h0 : c ≠ 0) (h1 : -200 ≤ c) (h2 : c ≤ 200) : SqOk c := by
  have := sqOk_all ⟨(c + 200).toNat, by omega⟩ (by show (c + 200).toNat ≠ 200; omega)
  rw [show (((⟨(c + 200).toNat, by omega⟩ : Fin 401).val : Nat) : Int) - 200 = c by show (((c + 200).toNat : Nat) : Int) - 200 = c; omega] at this
  exact this
end RW

set_option maxHeartbeats 4000000
namespace RW
open PySem PySem.Spec PyProof.Rows L2
theorem atLast {zs : List Int} (h : zs ≠ []) : atI (iv zs) (-1) = some (V.int (zs.getLastD 0)) := by
  rcases List.eq_nil_or_concat zs with e | ⟨ys, z, e⟩
  · exact absurd e h
  · rw [List.concat_eq_append] at e
    subst e
    rw [iv, List.map_append]
    have : (ys ++ [z]).getLastD 0 = z := by
      rw [List.getLastD_eq_getLast?]
      simp
    rw [this]
    exact atI_last _ _
theorem cut_init (xs : List V) : cutV xs none (some (-1)) = xs.dropLast := by
  unfold cutV
  rw [HT.sIx_none]
  show List.take (((-1 : Int) + (xs.length : Int)).toNat - 0) (xs.drop 0) = _
  rw [List.drop_zero, List.dropLast_eq_take]
  congr 1
  omega
theorem ivInit (zs : List Int) : (iv zs).dropLast = iv zs.dropLast := by
  rw [iv, iv, List.map_dropLast]
theorem shapedLst (zs : List Int) : SeqAt.shaped (.list (zs.map PyData.int)) = true := by
  unfold SeqAt.shaped
  have h1 : PyData.canLay0 (.list (zs.map PyData.int)) = true := canInts zs
  have h2 : PyData.depth (.list (zs.map PyData.int)) = PyData.depthAll (zs.map PyData.int) + 1 := rfl
  rw [h1, h2, depthInts]
  rfl
theorem eqvLst (xs ys : List Int) : PyData.eqv (.list (xs.map PyData.int)) (.list (ys.map PyData.int)) = decide (xs = ys) := eqvInts xs ys
/-- a list is not another -/
theorem neLst {K : PySem.W.Frag} {H : Hp} {a b : Addr} {xs ys : List Int} {Q : VK} (ha : SqL K H a (iv xs)) (hb : SqL K H b (iv ys)) (q : Q (.bl (!decide (xs = ys))) H) : rNeD K (.ref a) (.ref b) H Q := by
  refine ⟨_, _, .lst ha (dpInts xs), .lst hb (dpInts ys), shapedLst xs, shapedLst ys, ?_⟩
  rw [eqvLst]
  exact q
theorem subGo_get (top : Int) (L : List Int) (s : Nat) {t : Int} {o : List Int} {i : Nat} (h : o[i]? = some t) : subGo top L s (o.drop i) = subGo top (L.set s (L.getD s 0 - top * t)) (s + 1) (o.drop (i + 1)) := by
  obtain ⟨hl, e⟩ := List.getElem?_eq_some_iff.mp h
  rw [List.drop_eq_getElem_cons hl, e]
  rfl
theorem getD_at {L : List Int} {s : Nat} (h : s < L.length) : L[s]? = some (L.getD s 0) := by
  rw [List.getD_eq_getElem?_getD, List.getElem?_eq_getElem h]
  rfl
section
variable {P : Program} {w : World} {K : PySem.W.Frag} {mg : Str → Option Value} {base : Heap} {CK CW : Addr}
def sp_content_of (K : PySem.W.Frag) : Sp := fun vs H Q _ => ∃ (a : Addr) (zs : List Int), vs = [.ref a] ∧ SqT K H a (iv zs) ∧ Q (.int (content zs : Nat)) H
def sp_content_ofL (K : PySem.W.Frag) : Sp := fun vs H Q _ => ∃ (a : Addr) (zs : List Int), vs = [.ref a] ∧ SqL K H a (iv zs) ∧ Q (.int (content zs : Nat)) H
theorem ok_content_of (T : Txt K mg CK CW) : Ok P w K mg base 2 "content_of" ["terms"] (sp_content_of K) := by
  refine T.d_content_of.ok (k := 1) sc_content_of (fun _ _ _ _ _ _ us hl => match us, hl with | [_], _ => rfl) (fun vs H Q E h => ?_) (fun f cdv A outer s H vs Q E hr h => ?_)
  · obtain ⟨_, _, rfl, _⟩ := h
    rfl
  · obtain ⟨a, zs, rfl, hS, q⟩ := h
    refine ⟨_, (pss_cons (ps_set (i := 1) sc_content_of.nd rfl (.inl rfl) pe_int)
      (pss_cons (ps_for PassesOwn.never rfl (pi_tup (pv 0)) (pg_name (i := 2) sc_content_of.nd rfl (.inl rfl)) (pss_one (ps_set (i := 1) sc_content_of.nd rfl (.inl rfl) (pe_ok (ok_common_of T) (hr.mono (by decide)) (by rfl) (pa_cons (pv 1) (pa_cons (pv 2) pa_nil))))))
      (pss_one (ps_ret (pv 1))))), ?_⟩
    refine ⟨_, rfl, a, rfl, ⟨_, hS⟩, for_tup (a := a) (xs := iv zs) (K := K) (fun i σ H' => ∃ (f : Nat) (z2 : Option V), σ = [some (.ref a), some (.int f), z2] ∧ H' = H ∧ (zs.drop i).foldl (fun a t => Int.gcd a t) f = content zs)
      ⟨0, none, rfl, rfl, rfl⟩ (fun i σ H' _ ⟨_, _, _, e, _⟩ => by rw [e]; exact hS) ?_ ?_⟩
    · rintro i x σ H1 hi ⟨f, z2, rfl, rfl, hf⟩
      obtain ⟨t, ht, rfl⟩ := ivGet hi
      obtain ⟨hl, e⟩ := List.getElem?_eq_some_iff.mp ht
      rw [List.drop_eq_getElem_cons hl, e] at hf
      exact ⟨_, rfl, _, rfl, _, _, rfl, _, _, rfl, rfl, hf⟩
    · rintro σ H1 ⟨f, z2, rfl, rfl, hf⟩
      rw [List.drop_eq_nil_of_le (by rw [ivLen]; exact Nat.le_refl _)] at hf
      refine ⟨_, rfl, ?_⟩
      rw [show f = content zs from hf]
      exact q
theorem ok_content_ofL (T : Txt K mg CK CW) : Ok P w K mg base 2 "content_of" ["terms"] (sp_content_ofL K) := by
  refine T.d_content_of.ok (k := 1) sc_content_of (fun _ _ _ _ _ _ us hl => match us, hl with | [_], _ => rfl) (fun vs H Q E h => ?_) (fun f cdv A outer s H vs Q E hr h => ?_)
  · obtain ⟨_, _, rfl, _⟩ := h
    rfl
  · obtain ⟨a, zs, rfl, hS, q⟩ := h
    refine ⟨_, (pss_cons (ps_set (i := 1) sc_content_of.nd rfl (.inl rfl) pe_int)
      (pss_cons (ps_for PassesOwn.never rfl (pi_list (pv 0)) (pg_name (i := 2) sc_content_of.nd rfl (.inl rfl)) (pss_one (ps_set (i := 1) sc_content_of.nd rfl (.inl rfl) (pe_ok (ok_common_of T) (hr.mono (by decide)) (by rfl) (pa_cons (pv 1) (pa_cons (pv 2) pa_nil))))))
      (pss_one (ps_ret (pv 1))))), ?_⟩
    refine ⟨_, rfl, a, rfl, ⟨_, hS⟩, for_list (a := a) (xs := iv zs) (K := K) (fun i σ H' => ∃ (f : Nat) (z2 : Option V), σ = [some (.ref a), some (.int f), z2] ∧ H' = H ∧ (zs.drop i).foldl (fun a t => Int.gcd a t) f = content zs)
      ⟨0, none, rfl, rfl, rfl⟩ (fun i σ H' _ ⟨_, _, _, e, _⟩ => by rw [e]; exact hS) ?_ ?_⟩
    · rintro i x σ H1 hi ⟨f, z2, rfl, rfl, hf⟩
      obtain ⟨t, ht, rfl⟩ := ivGet hi
      obtain ⟨hl, e⟩ := List.getElem?_eq_some_iff.mp ht
      rw [List.drop_eq_getElem_cons hl, e] at hf
      exact ⟨_, rfl, _, rfl, _, _, rfl, _, _, rfl, rfl, hf⟩
    · rintro σ H1 ⟨f, z2, rfl, rfl, hf⟩
      rw [List.drop_eq_nil_of_le (by rw [ivLen]; exact Nat.le_refl _)] at hf
      refine ⟨_, rfl, ?_⟩
      rw [show f = content zs from hf]
      exact q
def sp_primitive (K : PySem.W.Frag) : Sp := fun vs H Q _ => ∃ (a : Addr) (zs ys : List Int), vs = [.ref a] ∧ SqL K H a (iv zs) ∧ zs.length ≤ 1000 ∧ primO zs = some ys ∧ ∀ H' p, Same H H' → H' p = some (.lst (iv ys)) → Q (.ref p) H'
theorem ok_primitive (T : Txt K mg CK CW) : Ok P w K mg base 3 "primitive" ["terms"] (sp_primitive K) := by
  refine T.d_primitive.ok (k := 2) sc_primitive (fun _ _ _ _ _ _ us hl => match us, hl with | [_], _ => rfl) (fun vs H Q E h => ?_) (fun f cdv A outer s H vs Q E hr h => ?_)
  · obtain ⟨_, _, _, rfl, _⟩ := h
    rfl
  · obtain ⟨a, zs, ys, rfl, hS, hl, hp, q⟩ := h
    refine ⟨_, (pss_cons (ps_set (i := 1) sc_primitive.nd rfl (.inr rfl) (pe_ifExp (pt_cmpR op_gt (pe_ix ix_list (pv 0) (pe_un un_neg pe_int) (fun _ _ => rfl)) pe_int (nomark _)) (pe_ok (ok_content_ofL T) (hr.mono (by decide)) (by rfl) (pa_cons (pv 0) pa_nil)) (pe_un un_neg (pe_ok (ok_content_ofL T) (hr.mono (by decide)) (by rfl) (pa_cons (pv 0) pa_nil)))))
      (pss_one (ps_ret (pe_lc (own := [("term", 2)]) (g := (gName 2)) rfl sc_primitive.nd (pi_list (pv 0)) (blkOk_by (own := [("term", 2)]) (N := ["terms", "part", "term"]) (sc := defScope s_primitive) (by decide +kernel)) (fun _ _ _ _ _ => (pg_name (i := 2) sc_primitive.nd rfl (.inl rfl))) (fun _ _ _ _ _ => pts_nil) (fun _ _ _ _ _ => (pe_op op_fdivN (pv 2) (pv 1))))))), ?_⟩
    unfold primO at hp
    by_cases hc : zs ≠ [] ∧ 0 < content zs ∧ content zs < 1073741824
    · rw [if_pos hc] at hp
      have hp := Option.some.inj hp
      obtain ⟨c1, c2, c3⟩ := hc
      have fin : ∀ part : Int, (zs.map fun t => t.fdiv part) = ys → part ≠ 0 → part.natAbs < 1073741824 → ∀ D : Addr, H D = none → _ := fun part e p0 p1 D hD => lc_list (K := K) (a := a) (xs := iv zs) (σ := [some (.ref a), some (.int part), none]) (H1 := H) (D := D) (vs := [2]) (g := gName 2) (tt := tYes) (te := tOp (rI CDivN fun i j => V.int (i.fdiv j)) (tVar 2) (tVar 1)) (Qd := fun H2 => Q (.ref D) H2)
        (fun i H' => Same H H' ∧ H' D = some (.lst (iv ((zs.take i).map fun t => t.fdiv part)))) ⟨same_upd hD, upd_same⟩ (fun i H' _ h => h.1.seq hS)
          (by
            rintro i x H2 hi ⟨s2, e2⟩
            obtain ⟨t, ht, rfl⟩ := ivGet hi
            have ilt := (List.getElem?_eq_some_iff.mp ht).1
            refine ⟨rfl, _, rfl, _, rfl, _, _, rfl, rfl, ⟨p0, p1⟩, _, e2, ?_, s2.wr hD, ?_⟩
            · rw [ivLen, List.length_map, List.length_take]
              exact small1000 (by omega)
            · rw [upd_same, List.take_add_one, ht, iv, iv, List.map_append, List.map_append]
              rfl)
          (by
            rintro H2 ⟨s2, e2⟩
            rw [ivLen, List.take_of_length_le (Nat.le_refl _), e] at e2
            exact q _ D s2 e2)
      refine ⟨_, rfl, _, rfl, _, _, _, _, rfl, rfl, hS, atLast c1, _, _, rfl, rfl, _, rfl, ?_⟩
      refine it2 (fun h0 => ?_) (fun h0 => ?_)
      · have h0 : 0 < zs.getLastD 0 := h0
        rw [if_pos h0] at hp
        exact ⟨_, rfl, a, zs, rfl, hS, _, rfl, a, rfl, ⟨_, hS⟩, fun D hD => fin _ hp (by omega) (by omega) D hD⟩
      · have h0 : ¬ 0 < zs.getLastD 0 := h0
        rw [if_neg h0] at hp
        exact ⟨_, rfl, a, zs, rfl, hS, _, rfl, _, rfl, a, rfl, ⟨_, hS⟩, fun D hD => fin _ hp (by omega) (by omega) D hD⟩
    · rw [if_neg hc] at hp
      cases hp
def sp_rest_behind (K : PySem.W.Frag) : Sp := fun vs H Q _ => ∃ (a b : Addr) (xs ys zs : List Int), vs = [.ref a, .ref b] ∧ SqL K H a (iv xs) ∧ SqL K H b (iv ys) ∧ rbF 20 (trim xs) ys = some zs ∧ ∀ H' p, Same H H' → H' p = some (.lst (iv zs)) → Q (.ref p) H'
theorem ok_rest_behind (T : Txt K mg CK CW) : Ok P w K mg base 2 "rest_behind" ["one", "other"] (sp_rest_behind K) := by
  refine T.d_rest_behind.ok (k := 1) sc_rest_behind (fun _ _ _ _ _ _ us hl => match us, hl with | [_, _], _ => rfl) (fun vs H Q E h => ?_) (fun f cdv A outer s H vs Q E hr h => ?_)
  · obtain ⟨_, _, _, _, _, rfl, _⟩ := h
    rfl
  · obtain ⟨a, b, xs, ys, zs, rfl, hA, hB, hz, q⟩ := h
    refine ⟨_, (pss_cons (ps_set (i := 2) sc_rest_behind.nd rfl (.inl rfl) (pe_ok (ok_trimmed T) (hr.mono (by decide)) (by rfl) (pa_cons (pv 0) pa_nil)))
      (pss_cons (ps_while PassesOwn.never (PW.pt (pw_and (pt_cmpR op_ge (pe_callB call_len_seq (by rfl) T.b_len PySem.boot_len (pa_cons (pv 2) pa_nil)) (pe_callB call_len_seq (by rfl) T.b_len PySem.boot_len (pa_cons (pv 1) pa_nil)) (nomark _)) (pw_and1 (pt_cmpR (op_neD hr.units) (pv 2) (pe_lst (pa_cons pe_int pa_nil)) (nomark _))))) (pss_cons (ps_par (i := 3) (j := 4) (by rfl) sc_rest_behind.nd rfl rfl (by decide) rfl rfl (pa_cons (pe_ix ix_list (pv 2) (pe_un un_neg pe_int) (fun _ _ => rfl)) (pa_cons (pe_op op_sub (pe_callB call_len_seq (by rfl) T.b_len PySem.boot_len (pa_cons (pv 2) pa_nil)) (pe_callB call_len_seq (by rfl) T.b_len PySem.boot_len (pa_cons (pv 1) pa_nil))) pa_nil)) (by rfl))
      (pss_cons (ps_setLc (i := 2) (own := [("term", 5)]) (te := tOp (rI CMul fun i j => V.int (i * j)) (tVar 5) (tOp (rIxL K) (tVar 1) (tUn (rU fun i => V.int (-i)) (tC (V.int 1))))) (g := (gName 5)) rfl sc_rest_behind.nd rfl rfl (sw_true rfl rfl rfl (by decide +kernel)) (pi_list (pv 2)) (blkOk_by (own := [("term", 5)]) (N := ["one", "other", "left", "top", "shift", "term", "index"]) (sc := defScope s_rest_behind) (by decide +kernel)) (fun _ _ _ _ _ => (pg_name (i := 5) sc_rest_behind.nd rfl (.inl rfl))) (fun _ _ _ _ _ => pts_nil) (fun _ _ _ _ _ => (pe_op op_mul (pv 5) (pe_ix ix_list (pv 1) (pe_un un_neg pe_int) (fun _ _ => rfl)))))
      (pss_cons (ps_for PassesOwn.never rfl (pi_enum (by rfl) T.b_enumerate (pa_cons (pv 1) pa_nil)) (pg_tup rfl (pgs_cons (pg_name (i := 6) sc_rest_behind.nd rfl (.inl rfl)) (pgs_cons (pg_name (i := 5) sc_rest_behind.nd rfl (.inl rfl)) pgs_nil))) (pss_one (ps_augS (pv 2) (pe_op op_add (pv 6) (pv 4)) pget_list (pe_op op_mul (pv 3) (pv 5)) ip_sub set_list)))
      (pss_one (ps_set (i := 2) sc_rest_behind.nd rfl (.inl rfl) (pe_ifExp (pt_cmpR op_gt (pe_callB call_len_seq (by rfl) T.b_len PySem.boot_len (pa_cons (pv 2) pa_nil)) pe_int (nomark _)) (pe_ok (ok_trimmed T) (hr.mono (by decide)) (by rfl) (pa_cons (pe_slice sl_list (pv 2) po_none (po_some (pe_un un_neg pe_int))) pa_nil)) (pe_lst (pa_cons pe_int pa_nil)))))))))
      (pss_one (ps_ret (pv 2))))), ?_⟩
    refine ⟨_, rfl, a, xs, rfl, .inl hA, fun H1 l s1 _ hl => ?_⟩
    refine ⟨fun m σ H' => ∃ (l : Addr) (cur : List Int) (z3 z4 z5 z6 : Option V), σ = [some (.ref a), some (.ref b), some (.ref l), z3, z4, z5, z6] ∧ rbF m cur ys = some zs ∧ H' l = some (.lst (iv cur)) ∧ Same H H', ⟨20, l, _, none, none, none, none, rfl, hz, hl, s1⟩, ?_⟩
    rintro m σ H2 ⟨l, cur, z3, z4, z5, z6, rfl, hr, hc, s2⟩
    cases m with
    | zero => cases hr
    | succ m =>
    unfold rbF at hr
    have hB2 := s2.seq hB
    refine ⟨_, rfl, l, _, rfl, .inl (SqL.of hc), _, rfl, b, _, rfl, .inl hB2, _, _, rfl, rfl, _, rfl, ?_⟩
    refine it2 (fun h1 => ?_) (fun h1 => ?_)
    · rw [ivLen, ivLen] at h1
      refine ⟨_, rfl, by show 1 ≤ sizeLine; decide, fun z nz => ?_⟩
      have s3 := same_upd (o := .lst [.int 0]) nz
      have hc3 := s3 _ _ hc
      have s23 := s2.trans s3
      refine neLst (K := K) (xs := cur) (ys := [0]) (SqL.of hc3) (SqL.of upd_same) ?_
      refine ⟨_, rfl, itN2 (fun h2 => ?_) (fun h2 => ?_)⟩
      · rw [if_pos ⟨by omega, h2⟩] at hr
        by_cases hk : cur.length ≤ 500 ∧ ys ≠ [] ∧ sm (cur.getLastD 0) ∧ sm (ys.getLastD 0)
        · rw [if_pos hk] at hr
          obtain ⟨k1, k2, k3, k4⟩ := hk
          unfold sm at k3 k4
          have y0 : 0 < ys.length := List.length_pos_iff.mpr k2
          have c0 : cur ≠ [] := List.length_pos_iff.mp (by omega)
          have hb3 := s23.seq hB
          have hat := atLast c0
          have hbt := atLast k2
          generalize htop : cur.getLastD 0 = top at *
          generalize hob : ys.getLastD 0 = ob at *
          generalize hsh : cur.length - ys.length = sh at *
          refine ⟨fun σ' H' => ∃ m', m' < m + 1 ∧ _, fun _ _ h => h, ?_⟩
          refine ⟨_, rfl, _, rfl, _, _, _, _, rfl, rfl, SqL.of hc3, hat, _, rfl, l, _, rfl, .inl (SqL.of hc3), _, rfl, b, _, rfl, .inl hb3, _, _, rfl, rfl, _, _, rfl, ?_⟩
          have esh : ((iv cur).length : Int) - ((iv ys).length : Int) = (sh : Int) := by rw [ivLen, ivLen]; omega
          refine ⟨_, rfl, l, rfl, ⟨_, SqL.of hc3⟩, fun D hD => lc_list (K := K) (a := l) (xs := iv cur) (fun i H' => Same (upd H2 z (.lst [.int 0])) H' ∧ H' D = some (.lst (iv ((cur.take i).map (· * ob))))) ⟨same_upd hD, upd_same⟩ (fun i H' _ h => h.1.seq (SqL.of hc3)) ?_ ?_⟩
          · rintro i x H3 hi ⟨s4, e4⟩
            obtain ⟨t, ht, rfl⟩ := ivGet hi
            have ilt := (List.getElem?_eq_some_iff.mp ht).1
            refine ⟨rfl, _, rfl, _, rfl, _, rfl, _, _, _, _, rfl, rfl, s4.seq hb3, hbt, _, _, rfl, rfl, .inr ⟨by omega, by omega⟩, _, e4, ?_, s4.wr hD, ?_⟩
            · rw [ivLen, List.length_map, List.length_take]
              exact small1000 (by omega)
            · rw [upd_same, List.take_add_one, ht, iv, iv, List.map_append, List.map_append]
              rfl
          · rintro H3 ⟨s4, e4⟩
            rw [ivLen, List.take_of_length_le (Nat.le_refl _)] at e4
            have s34 : Same H H3 := s23.trans s4
            have nD : H D = none := s23.free hD
            have lD : ∀ (M : List Int) (j : Nat), j + ys.length ≤ M.length → True := fun _ _ _ => trivial
            refine ⟨_, rfl, b, _, rfl, s34.seq hB, for_it (walk_enum (xs := iv ys)) (fun i σ H' => ∃ (z5 z6 : Option V) (M : List Int), σ = [some (.ref a), some (.ref b), some (.ref D), some (.int top), some (.int (((iv cur).length : Int) - ((iv ys).length : Int))), z5, z6] ∧
                Same H H' ∧ H' D = some (.lst (iv M)) ∧ M.length = cur.length ∧ subGo top M (sh + i) (ys.drop i) = subGo top (cur.map (· * ob)) sh ys)
              ⟨_, _, _, rfl, s34, e4, by simp, rfl⟩ (fun i σ H' _ ⟨_, _, _, _, s, _⟩ => s.seq hB) ?_ ?_⟩
            · rintro j x σ H4 H5 hj ⟨z5, z6, M, rfl, s5, eD, hM, hs⟩ ⟨T, x', y', rfl, nT, rfl, f1, f2⟩
              obtain rfl := Option.some.inj f1
              obtain ⟨t, ht, rfl⟩ := ivGet f2
              have jl := (List.getElem?_eq_some_iff.mp ht).1
              have nTD : D ≠ T := ne_of_none eD nT
              have hv := getD_at (L := M) (s := sh + j) (by omega)
              have ej : (j : Int) + (((iv cur).length : Int) - ((iv ys).length : Int)) = ((sh + j : Nat) : Int) := by rw [esh]; omega
              rw [subGo_get _ _ _ ht] at hs
              refine ⟨T, _, rfl, SqT.of upd_same, rfl, _, _, rfl, _, _, rfl, rfl, ?_⟩
              refine ⟨_, rfl, _, rfl, _, rfl, _, _, rfl, rfl, D, _, ((sh + j : Nat) : Int), _, rfl, congrArg V.int ej, SqL.of (by rw [upd_ne nTD]; exact eD), atI_nat (ivAt hv), _, rfl, _, rfl, _, _, rfl, rfl, .inl ⟨by omega, by omega⟩, _, _, rfl, rfl, ?_⟩
              refine ⟨D, _, ((sh + j : Nat) : Int), sh + j, rfl, congrArg V.int ej, by rw [upd_ne nTD]; exact eD, ?_, _, _, M.set (sh + j) (M.getD (sh + j) 0 - top * t), rfl, (s5.lay nT).wr nD, ?_, by rw [List.length_set]; exact hM, hs⟩
              · rw [ivLen]
                unfold ixN
                rw [if_pos (by omega), if_pos (by omega)]
                rfl
              · rw [upd_same, iv, iv, List.map_set]
            · rintro σ H4 ⟨z5, z6, M, rfl, s5, eD, hM, hs⟩
              rw [List.drop_eq_nil_of_le (by rw [ivLen]; exact Nat.le_refl _)] at hs
              have hs : M = subGo top (cur.map (· * ob)) sh ys := hs
              refine ⟨_, rfl, D, _, rfl, .inl (SqL.of eD), _, _, rfl, rfl, _, rfl, it2 (fun h3 => ?_) (fun h3 => ?_)⟩
              · rw [ivLen] at h3
                rw [if_pos (by omega), ← hs] at hr
                refine ⟨_, rfl, _, rfl, _, rfl, D, _, rfl, SqL.of eD, fun N nN => ?_⟩
                rw [cut_init, ivInit]
                have s6 := s5.lay (o := .lst (iv M.dropLast)) nN
                refine ⟨N, M.dropLast, rfl, .inl (SqL.of upd_same), fun H6 l6 s7 _ hl6 => ?_⟩
                exact ⟨m, by omega, l6, _, _, _, _, _, rfl, hr, hl6, s6.trans s7⟩
              · rw [ivLen] at h3
                rw [if_neg (by omega)] at hr
                refine ⟨by show 1 ≤ sizeLine; decide, fun N nN => ?_⟩
                exact ⟨m, by omega, N, [0], _, _, _, _, rfl, hr, upd_same, s5.lay nN⟩
        · rw [if_neg hk] at hr
          cases hr
      · rw [if_neg (fun e => e.2 h2)] at hr
        have hr := Option.some.inj hr
        subst hr
        exact ⟨_, rfl, q _ l s23 hc3⟩
    · rw [ivLen, ivLen] at h1
      rw [if_neg (fun e => h1 (by omega))] at hr
      have hr := Option.some.inj hr
      subst hr
      exact iteF ⟨_, rfl, q _ l s2 hc⟩
def sp_common_part (K : PySem.W.Frag) : Sp := fun vs H Q _ => ∃ (a b : Addr) (xs ys zs : List Int), vs = [.ref a, .ref b] ∧ SqL K H a (iv xs) ∧ SqL K H b (iv ys) ∧ xs.length ≤ 100 ∧ ys.length ≤ 100 ∧ cpO xs ys = some zs ∧ ∀ H' p, Same H H' → H' p = some (.lst (iv zs)) → Q (.ref p) H'
theorem primO_len {xs ys : List Int} (h : primO xs = some ys) : ys.length = xs.length := by
  unfold primO at h
  split at h
  · have h := Option.some.inj h
    rw [← h, List.length_map]
  · cases h
theorem ok_common_part (T : Txt K mg CK CW) : Ok P w K mg base 4 "common_part" ["one", "other"] (sp_common_part K) := by
  refine T.d_common_part.ok (k := 3) sc_common_part (fun _ _ _ _ _ _ us hl => match us, hl with | [_, _], _ => rfl) (fun vs H Q E h => ?_) (fun f cdv A outer s H vs Q E hr h => ?_)
  · obtain ⟨_, _, _, _, _, rfl, _⟩ := h
    rfl
  · obtain ⟨a, b, xs, ys, zs, rfl, hA, hB, lx, ly, hz, q⟩ := h
    refine ⟨_, (pss_cons (ps_par (i := 0) (j := 1) (by rfl) sc_common_part.nd rfl rfl (by decide) rfl rfl (pa_cons (pe_ok (ok_primitive T) (hr.mono (by decide)) (by rfl) (pa_cons (pe_ok (ok_trimmed T) (hr.mono (by decide)) (by rfl) (pa_cons (pv 0) pa_nil)) pa_nil)) (pa_cons (pe_ok (ok_trimmed T) (hr.mono (by decide)) (by rfl) (pa_cons (pv 1) pa_nil)) pa_nil)) (by rfl))
      (pss_cons (ps_while PassesOwn.never (pt_cmpR (op_neD hr.units) (pv 1) (pe_lst (pa_cons pe_int pa_nil)) (nomark _)) (pss_cons (ps_set (i := 1) sc_common_part.nd rfl (.inl rfl) (pe_ok (ok_primitive T) (hr.mono (by decide)) (by rfl) (pa_cons (pv 1) pa_nil)))
      (pss_one (ps_par (i := 0) (j := 1) (by rfl) sc_common_part.nd rfl rfl (by decide) rfl rfl (pa_cons (pv 1) (pa_cons (pe_ok (ok_rest_behind T) (hr.mono (by decide)) (by rfl) (pa_cons (pv 0) (pa_cons (pv 1) pa_nil))) pa_nil)) (by rfl)))))
      (pss_one (ps_ret (pv 0))))), ?_⟩
    unfold cpO at hz
    cases hp : primO (trim xs) with
    | none =>
      rw [hp] at hz
      cases hz
    | some o =>
    rw [hp] at hz
    have tx := trim_len xs
    have ty := trim_len ys
    refine ⟨_, rfl, a, xs, rfl, .inl hA, fun H1 l s1 _ hl => ⟨l, _, o, rfl, SqL.of hl, by omega, hp, fun H2 a2 s2 h2 => ?_⟩⟩
    refine ⟨_, rfl, b, ys, rfl, .inl ((s1.trans s2).seq hB), fun H3 b3 s3 _ h3 => ⟨_, _, rfl, ?_⟩⟩
    refine ⟨fun m σ H' => ∃ (a b : Addr) (x y : List Int), σ = [some (.ref a), some (.ref b)] ∧ cpF m x y = some zs ∧ H' a = some (.lst (iv x)) ∧ H' b = some (.lst (iv y)) ∧ Same H H' ∧ y.length ≤ 100, ⟨20, a2, b3, o, _, rfl, hz, s3 _ _ h2, h3, (s1.trans s2).trans s3, by omega⟩, ?_⟩
    rintro m σ H4 ⟨a4, b4, x, y, rfl, hr, hx, hy, s4, l4⟩
    cases m with
    | zero => cases hr
    | succ m =>
    unfold cpF at hr
    refine ⟨_, rfl, by show 1 ≤ sizeLine; decide, fun z nz => ?_⟩
    have s5 := same_upd (o := .lst [.int 0]) nz
    refine neLst (K := K) (xs := y) (ys := [0]) (SqL.of (s5 _ _ hy)) (SqL.of upd_same) ?_
    refine ⟨_, rfl, itN2 (fun h2 => ?_) (fun h2 => ?_)⟩
    · rw [if_pos h2] at hr
      cases hpy : primO y with
      | none =>
        rw [hpy] at hr
        cases hr
      | some o2 =>
      rw [hpy] at hr
      have hr : ((rbF 20 (trim x) o2).bind fun r => if r.length ≤ 100 then cpF m o2 r else none) = some zs := hr
      cases hrb : rbF 20 (trim x) o2 with
      | none =>
        rw [hrb] at hr
        cases hr
      | some r =>
      rw [hrb] at hr
      have hr : (if r.length ≤ 100 then cpF m o2 r else none) = some zs := hr
      by_cases rl : r.length ≤ 100
      case neg =>
        rw [if_neg rl] at hr
        cases hr
      rw [if_pos rl] at hr
      refine ⟨fun σ' H' => ∃ m', m' < m + 1 ∧ _, fun _ _ h => h, ?_⟩
      refine ⟨_, rfl, b4, y, o2, rfl, SqL.of (s5 _ _ hy), by omega, hpy, fun H6 b6 s6 h6 => ?_⟩
      refine ⟨_, rfl, _, rfl, _, rfl, a4, b6, x, o2, r, rfl, SqL.of (s6 _ _ (s5 _ _ hx)), SqL.of h6, hrb, fun H7 c7 s7 h7 => ?_⟩
      exact ⟨_, _, rfl, m, by omega, b6, c7, o2, r, rfl, hr, s7 _ _ h6, h7, ((s4.trans s5).trans s6).trans s7, rl⟩
    · rw [if_neg (fun e => e h2)] at hr
      have hr := Option.some.inj hr
      subst hr
      exact ⟨_, rfl, q _ a4 (s4.trans s5) (s5 _ _ hx)⟩
def sp_quotient (K : PySem.W.Frag) : Sp := fun vs H Q _ => ∃ (a b : Addr) (xs ys zs : List Int), vs = [.ref a, .ref b] ∧ SqL K H a (iv xs) ∧ SqL K H b (iv ys) ∧ qF 20 xs [] ys = some zs ∧ ∀ H' p, Same H H' → H' p = some (.lst (iv zs)) → Q (.ref p) H'
theorem ok_quotient (T : Txt K mg CK CW) : Ok P w K mg base 1 "quotient" ["one", "other"] (sp_quotient K) := by
  refine T.d_quotient.ok (k := 0) sc_quotient (fun _ _ _ _ _ _ us hl => match us, hl with | [_, _], _ => rfl) (fun vs H Q E h => ?_) (fun f cdv A outer s H vs Q E hr h => ?_)
  · obtain ⟨_, _, _, _, _, rfl, _⟩ := h
    rfl
  · obtain ⟨a, b, xs, ys, zs, rfl, hA, hB, hz, q⟩ := h
    refine ⟨_, (pss_cons (ps_par (i := 2) (j := 3) (by rfl) sc_quotient.nd rfl rfl (by decide) rfl rfl (pa_cons (pe_callTy call_list_of (by rfl) T.b_list boot_list (pa_cons (pv 0) pa_nil)) (pa_cons (pe_lst pa_nil) pa_nil)) (by rfl))
      (pss_cons (ps_while PassesOwn.never (pt_cmpR op_ge (pe_callB call_len_seq (by rfl) T.b_len PySem.boot_len (pa_cons (pv 2) pa_nil)) (pe_callB call_len_seq (by rfl) T.b_len PySem.boot_len (pa_cons (pv 1) pa_nil)) (nomark _)) (pss_cons (ps_par (i := 4) (j := 5) (by rfl) sc_quotient.nd rfl rfl (by decide) rfl rfl (pa_cons (pe_op op_fdiv (pe_ix ix_list (pv 2) (pe_un un_neg pe_int) (fun _ _ => rfl)) (pe_ix ix_list (pv 1) (pe_un un_neg pe_int) (fun _ _ => rfl))) (pa_cons (pe_op op_sub (pe_callB call_len_seq (by rfl) T.b_len PySem.boot_len (pa_cons (pv 2) pa_nil)) (pe_callB call_len_seq (by rfl) T.b_len PySem.boot_len (pa_cons (pv 1) pa_nil))) pa_nil)) (by rfl))
      (pss_cons (ps_expr (pe_bm PySem.F.plainAttrs_list PySem.F.slot_list_append PySem.F.type_list_append mt_append (pv 3) (pa_cons (pv 4) pa_nil)))
      (pss_cons (ps_for PassesOwn.never rfl (pi_enum (by rfl) T.b_enumerate (pa_cons (pv 1) pa_nil)) (pg_tup rfl (pgs_cons (pg_name (i := 6) sc_quotient.nd rfl (.inl rfl)) (pgs_cons (pg_name (i := 7) sc_quotient.nd rfl (.inl rfl)) pgs_nil))) (pss_one (ps_augS (pv 2) (pe_op op_add (pv 6) (pv 5)) pget_list (pe_op op_mul (pv 4) (pv 7)) ip_sub set_list)))
      (pss_one (ps_expr (pe_bm0 PySem.F.plainAttrs_list PySem.F.slot_list_pop PySem.F.type_list_pop mt_pop (pv 2))))))))
      (pss_one (ps_ret (pe_revL (pv 3)))))), ?_⟩
    refine ⟨_, rfl, a, iv xs, rfl, .inl hA, fun l nl => ⟨by show 0 ≤ sizeLine; decide, fun fo nfo => ⟨_, _, rfl, ?_⟩⟩⟩
    have nfl : fo ≠ l := fun e => by rw [e, upd_same] at nfo; cases nfo
    have nfoH : H fo = none := (same_upd nl).free nfo
    refine ⟨fun m σ H' => ∃ (cur fnd : List Int) (z4 z5 z6 z7 : Option V), σ = [some (.ref a), some (.ref b), some (.ref l), some (.ref fo), z4, z5, z6, z7] ∧ qF m cur fnd ys = some zs ∧ H' l = some (.lst (iv cur)) ∧ H' fo = some (.lst (iv fnd)) ∧ Same H H', ⟨20, xs, [], none, none, none, none, rfl, hz, by rw [upd_ne nfl.symm]; exact upd_same, upd_same, (same_upd nl).lay nfo⟩, ?_⟩
    rintro m σ H2 ⟨cur, fnd, z4, z5, z6, z7, rfl, hr, hc, hf, s2⟩
    cases m with
    | zero => cases hr
    | succ m =>
    unfold qF at hr
    have hB2 := s2.seq hB
    refine ⟨_, rfl, l, _, rfl, .inl (SqL.of hc), _, rfl, b, _, rfl, .inl hB2, _, _, rfl, rfl, _, rfl, it2 (fun h1 => ?_) (fun h1 => ?_)⟩
    · rw [ivLen, ivLen] at h1
      rw [if_pos (by omega)] at hr
      by_cases hk : fnd.length ≤ 500 ∧ cur.length ≤ 500 ∧ ys ≠ [] ∧ sm (cur.getLastD 0) ∧ 0 < ys.getLastD 0 ∧ sm (ys.getLastD 0)
      · rw [if_pos hk] at hr
        obtain ⟨k0, k1, k2, k3, k4, k5⟩ := hk
        unfold sm at k3 k5
        have y0 : 0 < ys.length := List.length_pos_iff.mpr k2
        have c0 : cur ≠ [] := List.length_pos_iff.mp (by omega)
        have hat := atLast c0
        have hbt := atLast k2
        have esh : ((iv cur).length : Int) - ((iv ys).length : Int) = ((cur.length - ys.length : Nat) : Int) := by rw [ivLen, ivLen]; omega
        generalize hsh : cur.length - ys.length = sh at *
        have tb : (cur.getLastD 0 / ys.getLastD 0).natAbs < 1073741824 := Nat.lt_of_le_of_lt (Int.natAbs_ediv_le_natAbs _ _) k3
        refine ⟨fun σ' H' => ∃ m', m' < m + 1 ∧ _, fun _ _ h => h, ?_⟩
        refine ⟨_, rfl, _, rfl, _, _, _, _, rfl, rfl, SqL.of hc, hat, _, rfl, _, rfl, _, _, _, _, rfl, rfl, hB2, hbt, _, _, rfl, rfl, ⟨k4, by omega⟩, ?_⟩
        refine ⟨_, rfl, l, _, rfl, .inl (SqL.of hc), _, rfl, b, _, rfl, .inl hB2, _, _, rfl, rfl, _, _, rfl, ?_⟩
        refine ⟨_, rfl, .inl ⟨rfl, _, SqL.of hf⟩, _, rfl, fo, _, _, rfl, rfl, hf, by rw [ivLen]; exact small1000 (by omega), ?_⟩
        have lfo : l ≠ fo := nfl.symm
        have s3 : Same H _ := s2.wr (o := .lst (iv fnd ++ [V.int (cur.getLastD 0 / ys.getLastD 0)])) nfoH
        refine ⟨_, rfl, b, _, rfl, s3.seq hB, for_it (walk_enum (xs := iv ys)) (fun i σ H' => ∃ (z6 z7 : Option V) (M : List Int), σ = [some (.ref a), some (.ref b), some (.ref l), some (.ref fo), some (.int (cur.getLastD 0 / ys.getLastD 0)), some (.int (((iv cur).length : Int) - ((iv ys).length : Int))), z6, z7] ∧
            Same H H' ∧ H' fo = some (.lst (iv (fnd ++ [cur.getLastD 0 / ys.getLastD 0]))) ∧ H' l = some (.lst (iv M)) ∧ M.length = cur.length ∧ subGo (cur.getLastD 0 / ys.getLastD 0) M (sh + i) (ys.drop i) = subGo (cur.getLastD 0 / ys.getLastD 0) cur sh ys)
          ⟨_, _, cur, rfl, s3, ?_, by rw [upd_ne lfo]; exact hc, rfl, rfl⟩ (fun i σ H' _ ⟨_, _, _, _, s, _⟩ => s.seq hB) ?_ ?_⟩
        · rw [upd_same, iv, iv, List.map_append]
          rfl
        · rintro j x σ H4 H5 hj ⟨z6, z7, M, rfl, s5, eF, eD, hM, hs⟩ ⟨T, x', y', rfl, nT, rfl, f1, f2⟩
          obtain rfl := Option.some.inj f1
          obtain ⟨t, ht, rfl⟩ := ivGet f2
          have jl := (List.getElem?_eq_some_iff.mp ht).1
          have nTD : l ≠ T := ne_of_none eD nT
          have nTF : fo ≠ T := ne_of_none eF nT
          have hv := getD_at (L := M) (s := sh + j) (by omega)
          have ej : (j : Int) + (((iv cur).length : Int) - ((iv ys).length : Int)) = ((sh + j : Nat) : Int) := by rw [esh]; omega
          rw [subGo_get _ _ _ ht] at hs
          refine ⟨T, _, rfl, SqT.of upd_same, rfl, _, _, rfl, _, _, rfl, rfl, ?_⟩
          refine ⟨_, rfl, _, rfl, _, rfl, _, _, rfl, rfl, l, _, ((sh + j : Nat) : Int), _, rfl, congrArg V.int ej, SqL.of (by rw [upd_ne nTD]; exact eD), atI_nat (ivAt hv), _, rfl, _, rfl, _, _, rfl, rfl, .inl ⟨by omega, by omega⟩, _, _, rfl, rfl, ?_⟩
          refine ⟨l, _, ((sh + j : Nat) : Int), sh + j, rfl, congrArg V.int ej, by rw [upd_ne nTD]; exact eD, ?_, _, _, M.set (sh + j) (M.getD (sh + j) 0 - cur.getLastD 0 / ys.getLastD 0 * t), rfl, (s5.lay nT).wr nl, ?_, ?_, by rw [List.length_set]; exact hM, hs⟩
          · rw [ivLen]
            unfold ixN
            rw [if_pos (by omega), if_pos (by omega)]
            rfl
          · rw [upd_ne lfo.symm, upd_ne nTF]
            exact eF
          · rw [upd_same, iv, iv, List.map_set]
        · rintro σ H4 ⟨z6, z7, M, rfl, s5, eF, eD, hM, hs⟩
          rw [List.drop_eq_nil_of_le (by rw [ivLen]; exact Nat.le_refl _)] at hs
          have hs : M = subGo (cur.getLastD 0 / ys.getLastD 0) cur sh ys := hs
          rw [← hs] at hr
          have ml : (iv M).length - 1 < (iv M).length := by rw [ivLen]; omega
          refine ⟨_, rfl, .inl ⟨rfl, _, SqL.of eD⟩, l, _, _, rfl, rfl, eD, List.getElem?_eq_getElem ml, m, by omega, M.dropLast, _, _, _, _, _, rfl, hr, ?_, ?_, s5.wr nl⟩
          · rw [upd_same, ivInit]
          · rw [upd_ne lfo.symm]
            exact eF
      · rw [if_neg hk] at hr
        cases hr
    · rw [ivLen, ivLen] at h1
      rw [if_neg (fun e => h1 (by omega))] at hr
      have hr := Option.some.inj hr
      subst hr
      refine ⟨_, rfl, fo, _, rfl, SqL.of hf, fun r nr => ?_⟩
      refine q _ r (s2.lay nr) ?_
      rw [upd_same, iv, iv, List.map_reverse]
def sp_manifold_parts (_K : PySem.W.Frag) : Sp := fun vs H Q _ => ∃ (a : Addr) (c : Int), vs = [.ref a] ∧ H a = some (.tup (iv [c, 0, 1])) ∧ SqOk c ∧ ∀ H' p t o, Same H H' → H' p = some (.lst [.ref t]) → H' t = some (.tup [.int 1, .ref o]) → H' o = some (.lst (iv [c, 0, 1])) → Q (.ref p) H'
theorem ok_manifold_parts (T : Txt K mg CK CW) : Ok P w K mg base 5 "manifold_parts" ["terms"] (sp_manifold_parts K) := by
  refine T.d_manifold_parts.ok (k := 4) sc_manifold_parts (fun _ _ _ _ _ _ us hl => match us, hl with | [_], _ => rfl) (fun vs H Q E h => ?_) (fun f cdv A outer s H vs Q E hr h => ?_)
  · obtain ⟨_, _, rfl, _⟩ := h
    rfl
  · obtain ⟨a, c, rfl, hA, ⟨g1, g2, g3, g4, g5, g6, g7⟩, q⟩ := h
    refine ⟨_, (pss_cons (ps_par3 (i := 1) (j := 2) (l := 3) (by rfl) sc_manifold_parts.nd rfl rfl rfl (by decide) (by decide) (by decide) rfl rfl rfl (pa_cons (pe_ok (ok_primitive T) (hr.mono (by decide)) (by rfl) (pa_cons (pe_ok (ok_trimmed T) (hr.mono (by decide)) (by rfl) (pa_cons (pv 0) pa_nil)) pa_nil)) (pa_cons (pe_lst pa_nil) (pa_cons pe_int pa_nil))) (by rfl))
      (pss_cons (ps_if (pt_cmpR op_eq (pe_callB call_len_seq (by rfl) T.b_len PySem.boot_len (pa_cons (pv 1) pa_nil)) pe_int (nomark _)) (pss_one (ps_ret (pv 2))) pss_nil)
      (pss_cons (ps_set (i := 4) sc_manifold_parts.nd rfl (.inl rfl) (pe_ok (ok_common_part T) (hr.mono (by decide)) (by rfl) (pa_cons (pv 1) (pa_cons (pe_ok (ok_slope_of T) (hr.mono (by decide)) (by rfl) (pa_cons (pv 1) pa_nil)) pa_nil))))
      (pss_cons (ps_set (i := 5) sc_manifold_parts.nd rfl (.inl rfl) (pe_ok (ok_quotient T) (hr.mono (by decide)) (by rfl) (pa_cons (pv 1) (pa_cons (pv 4) pa_nil))))
      (pss_cons (ps_while PassesOwn.never (pt_cmpR op_gt (pe_callB call_len_seq (by rfl) T.b_len PySem.boot_len (pa_cons (pv 5) pa_nil)) pe_int (nomark _)) (pss_cons (ps_set (i := 6) sc_manifold_parts.nd rfl (.inl rfl) (pe_ifExp (pt_cmpR op_gt (pe_callB call_len_seq (by rfl) T.b_len PySem.boot_len (pa_cons (pv 4) pa_nil)) pe_int (nomark _)) (pe_ok (ok_common_part T) (hr.mono (by decide)) (by rfl) (pa_cons (pv 5) (pa_cons (pv 4) pa_nil))) (pe_lst (pa_cons pe_int pa_nil))))
      (pss_cons (ps_set (i := 7) sc_manifold_parts.nd rfl (.inl rfl) (pe_ok (ok_quotient T) (hr.mono (by decide)) (by rfl) (pa_cons (pv 5) (pa_cons (pv 6) pa_nil))))
      (pss_cons (ps_if (pt_cmpR op_gt (pe_callB call_len_seq (by rfl) T.b_len PySem.boot_len (pa_cons (pv 7) pa_nil)) pe_int (nomark _)) (pss_one (ps_expr (pe_bm PySem.F.plainAttrs_list PySem.F.slot_list_append PySem.F.type_list_append mt_append (pv 2) (pa_cons (pe_tup (pa_cons (pv 3) (pa_cons (pv 7) pa_nil))) pa_nil)))) pss_nil)
      (pss_one (ps_par3 (i := 5) (j := 4) (l := 3) (by rfl) sc_manifold_parts.nd rfl rfl rfl (by decide) (by decide) (by decide) rfl rfl rfl (pa_cons (pv 6) (pa_cons (pe_ok (ok_quotient T) (hr.mono (by decide)) (by rfl) (pa_cons (pv 4) (pa_cons (pv 6) pa_nil))) (pa_cons (pe_op op_add (pv 3) pe_int) pa_nil))) (by rfl)))))))
      (pss_one (ps_ret (pv 2)))))))), ?_⟩
    refine ⟨_, rfl, a, _, rfl, .inr (SqT.of hA), fun H1 w s1 _ hw => ?_⟩
    rw [g1] at hw
    refine ⟨w, _, _, rfl, SqL.of hw, by simp, g2, fun H2 wh s2 hwh => ⟨by show 0 ≤ sizeLine; decide, fun fo nfo => ?_⟩⟩
    have s3 := same_upd (o := .lst []) nfo
    have hwh3 := s3 _ _ hwh
    refine ⟨_, _, _, rfl, ?_⟩
    refine ⟨_, rfl, wh, _, rfl, .inl (SqL.of hwh3), rfl, _, rfl, itV2 (fun e => ?_) (fun _ => ?_)⟩
    · rw [ivLen] at e
      exact absurd e (by simp)
    refine ⟨_, rfl, _, rfl, wh, _, rfl, SqL.of hwh3, by simp, fun H4 sl s4 hsl => ?_⟩
    rw [g3] at hsl
    refine ⟨wh, sl, _, _, [1], rfl, SqL.of (s4 _ _ hwh3), SqL.of hsl, by simp, by simp, g4, fun H5 re s5 hre => ?_⟩
    have hwh5 := s5 _ _ (s4 _ _ hwh3)
    refine ⟨_, rfl, _, rfl, wh, re, _, _, _, rfl, SqL.of hwh5, SqL.of hre, g5, fun H6 si s6 hsi => ?_⟩
    have hfo6 : H6 fo = some (.lst []) := s6 _ _ (s5 _ _ (s4 _ _ upd_same))
    have s26 : Same H H6 := ((((s1.trans s2).trans s3).trans s4).trans s5).trans s6
    have nfoH : H fo = none := (s1.trans s2).free nfo
    have hre6 := s6 _ _ hre
    refine ⟨fun m σ H' => (m = 1 ∧ σ = [some (.ref a), some (.ref wh), some (.ref fo), some (.int 1), some (.ref re), some (.ref si), none, none] ∧ H' = H6) ∨
      (m = 0 ∧ ∃ (e : Int) (z4 z6 z7 : Option V) (t o si : Addr), σ = [some (.ref a), some (.ref wh), some (.ref fo), some (.int e), z4, some (.ref si), z6, z7] ∧ Same H H' ∧ H' fo = some (.lst [.ref t]) ∧ H' t = some (.tup [.int 1, .ref o]) ∧ H' o = some (.lst (iv [c, 0, 1])) ∧ H' si = some (.lst (iv [1]))), ⟨1, .inl ⟨rfl, rfl, rfl⟩⟩, ?_⟩
    rintro m σ H7 (⟨rfl, rfl, rfl⟩ | ⟨rfl, e, z4, z6, z7, t, o, si', rfl, s7, hf7, ht7, ho7, hs7⟩)
    · refine ⟨_, rfl, si, _, rfl, .inl (SqL.of hsi), _, _, rfl, rfl, _, rfl, itD (by rw [ivLen]; show (1 : Int) < 3; decide) ?_⟩
      refine ⟨fun σ' H' => ∃ m', m' < 1 ∧ _, fun _ _ h => h, ?_⟩
      refine ⟨_, rfl, re, _, rfl, .inl (SqL.of hre6), _, _, rfl, rfl, _, rfl, itDF (by rw [ivLen]; show ¬ (1 : Int) < 1; decide) ?_⟩
      refine ⟨by show 1 ≤ sizeLine; decide, fun ag nag => ?_⟩
      have s8 := same_upd (o := .lst [.int 1]) nag
      refine ⟨_, rfl, _, rfl, si, ag, _, [1], _, rfl, SqL.of (s8 _ _ hsi), SqL.of upd_same, g5, fun H8 o s9 ho => ?_⟩
      refine ⟨_, rfl, o, _, rfl, .inl (SqL.of ho), _, _, rfl, rfl, _, rfl, itD (by rw [ivLen]; show (1 : Int) < 3; decide) ?_⟩
      have s89 := s8.trans s9
      have hfo8 := s89 _ _ hfo6
      refine ⟨_, rfl, .inl ⟨rfl, _, SqL.of hfo8⟩, _, rfl, _, rfl, by show 2 ≤ sizeLine; decide, fun t nt => ?_⟩
      have s10 := same_upd (o := .tup [.int 1, .ref o]) nt
      have hfo10 := s10 _ _ hfo8
      refine ⟨fo, _, _, rfl, rfl, hfo10, by show 0 < sizeLine; decide, ?_⟩
      have s11 : Same H _ := ((s26.trans s89).trans s10).wr (o := .lst [.ref t]) nfoH
      have nt0 : fo ≠ t := ne_of_none hfo8 nt
      have no : fo ≠ o := fun e => by rw [← e, hfo8] at ho; cases ho
      have nre : fo ≠ re := fun e => by rw [← e] at hre6; rw [hfo6] at hre6; cases hre6
      have nag2 : fo ≠ ag := ne_of_none hfo6 nag
      have hag : upd (upd H8 t (.tup [.int 1, .ref o])) fo (.lst [.ref t]) ag = some (.lst (iv [1])) := by
        rw [upd_ne nag2.symm]
        exact s10 _ _ (s9 _ _ upd_same)
      refine ⟨_, rfl, _, rfl, _, rfl, re, ag, _, _, [1], rfl, SqL.of ?_, SqL.of hag, g6, fun H9 r s12 hr => ?_⟩
      · rw [upd_ne nre.symm]
        exact s10 _ _ (s89 _ _ hre6)
      · refine ⟨_, rfl, _, _, rfl, rfl, _, _, _, rfl, 0, by omega, .inr ⟨rfl, _, _, _, _, t, o, ag, rfl, s11.trans s12, s12 _ _ upd_same, s12 _ _ ?_, s12 _ _ ?_, s12 _ _ hag⟩⟩
        · rw [upd_ne nt0.symm]
          exact upd_same
        · rw [upd_ne no.symm]
          exact s10 _ _ ho
    · refine ⟨_, rfl, si', _, rfl, .inl (SqL.of hs7), _, _, rfl, rfl, _, rfl, itDF (by rw [ivLen]; show ¬ (1 : Int) < 1; decide) ?_⟩
      exact ⟨_, rfl, q _ fo t o s7 hf7 ht7 ho7⟩
end
end RW

set_option maxHeartbeats 4000000
namespace RW
open PySem PySem.Spec PyProof.Rows L2
/-- a knot with one part: where it begins, its depth, how often the prime was left out, its part's sum -/
structure Kn where
  origin : Int
  depth : Nat
  free : Nat
  zs : List Int
def PtAt (H : Hp) (t : Addr) (free : Nat) (zs : List Int) : Prop := ∃ o, H t = some (.tup [.int 1, .int free, .ref o]) ∧ H o = some (.lst (iv zs))
def knF (pl : Addr) (origin : Int) (depth : Nat) : List (Str × V) := [("parts", .ref pl), ("origin", .int origin), ("depth", .int depth)]
def KnAt (CK : Addr) (H : Hp) (k : Addr) (kn : Kn) : Prop := ∃ dx pl t, H k = some (.ins CK dx (knF pl kn.origin kn.depth)) ∧ H pl = some (.lst [.ref t]) ∧ PtAt H t kn.free kn.zs
theorem PtAt.same {H H' : Hp} {t : Addr} {f : Nat} {zs : List Int} (s : Same H H') : PtAt H t f zs → PtAt H' t f zs := fun ⟨o, h1, h2⟩ => ⟨o, s _ _ h1, s _ _ h2⟩
theorem KnAt.same {CK : Addr} {H H' : Hp} {t : Addr} {kn : Kn} (s : Same H H') : KnAt CK H t kn → KnAt CK H' t kn := fun ⟨dx, pl, o, h1, h2, h3⟩ => ⟨dx, pl, o, s _ _ h1, s _ _ h2, h3.same s⟩
theorem PtAt.off {CW dx : Addr} {H H' : Hp} {t y : Addr} {f : Nat} {zs : List Int} {fs : List (Str × V)} (hy : H y = some (.ins CW dx fs)) (h : ∀ b u, b ≠ y → H b = some u → H' b = some u) : PtAt H t f zs → PtAt H' t f zs := fun ⟨o, h1, h2⟩ =>
  ⟨o, h _ _ (fun z => by rw [z, hy] at h1; cases h1) h1, h _ _ (fun z => by rw [z, hy] at h2; cases h2) h2⟩
theorem KnAt.off {CK CW dx : Addr} {H H' : Hp} {t y : Addr} {kn : Kn} (hy : H y = some (.ins CW dx [])) (h : ∀ b u, b ≠ y → H b = some u → H' b = some u) : KnAt CK H t kn → KnAt CK H' t kn := fun ⟨dx', pl, o, h1, h2, h3⟩ =>
  ⟨dx', pl, o, h _ _ (fun z => by rw [z, hy] at h1; cases h1) h1, h _ _ (fun z => by rw [z, hy] at h2; cases h2) h2, h3.off hy h⟩
/-- an endless zero: its knot, its rest, its depth -/
structure Wy where
  kn : Kn
  rest : Int
  deep : Int
def wyF (k t : Addr) (rest deep : Int) : List (Str × V) := [("knot", .ref k), ("part", .ref t), ("rest", .int rest), ("often", .int 1), ("deep", .int deep)]
def WyAt (CK CW : Addr) (H : Hp) (v : V) (wy : Wy) : Prop := ∃ y dx k t, v = .ref y ∧ H y = some (.ins CW dx (wyF k t wy.rest wy.deep)) ∧ KnAt CK H k wy.kn ∧ PtAt H t wy.kn.free wy.kn.zs
theorem WyAt.same {CK CW : Addr} {H H' : Hp} {v : V} {wy : Wy} (s : Same H H') : WyAt CK CW H v wy → WyAt CK CW H' v wy := fun ⟨y, dx, k, t, e, h1, h2, h3⟩ => ⟨y, dx, k, t, e, s _ _ h1, h2.same s, h3.same s⟩
/-- what an __init__ leaves: all as it was, but for the new thing -/
def NewAt (H H' : Hp) (x : Addr) : Prop := ∀ b, b ≠ x → H' b = H b
theorem made_same {H1 H2 : Hp} {x dx : Addr} {o o' : HO} (nx : H1 x = none) (nd : H1 dx = none) (h : NewAt (upd (upd H1 dx o) x o') H2 x) : Same H1 H2 := fun b u e => by
  have hb : b ≠ x := ne_of_none e nx
  have hd : b ≠ dx := ne_of_none e nd
  rw [h b hb, upd_ne hb, upd_ne hd]
  exact e
section
variable {P : Program} {w : World} {K : PySem.W.Frag} {mg : Str → Option Value} {base : Heap} {CK CW : Addr}
def sp_Knot_init (CK : Addr) : Sp := fun vs H Q _ => ∃ (x dx pl : Addr) (o : Int) (d : Nat), vs = [.ref x, .ref pl, .int o, .int d] ∧ H x = some (.ins CK dx []) ∧ ∀ H', NewAt H H' x → H' x = some (.ins CK dx (knF pl o d)) → Q .non H'
theorem ok_Knot_init (T : Txt K mg CK CW) : MkOk P w K mg base 1 "Knot" CK ["self", "parts", "origin", "depth"] (sp_Knot_init CK) := by
  refine T.kmk.ok (k := 0) sc_Knot_init (fun _ _ _ _ _ _ us hl => match us, hl with | [_, _, _, _], _ => rfl) (fun vs H Q E h => ?_) (fun f cdv A outer s H vs Q E hr h => ?_)
  · obtain ⟨_, _, _, _, _, rfl, _⟩ := h
    rfl
  · obtain ⟨x, dx, pl, o, d, rfl, hx, q⟩ := h
    refine ⟨_, (pss_cons (ps_fld (pv 0) (pv 1) rfl)
      (pss_cons (ps_fld (pv 0) (pv 2) rfl)
      (pss_one (ps_fld (pv 0) (pv 3) rfl)))), ?_⟩
    refine ⟨_, rfl, _, rfl, x, CK, dx, [], rfl, hx, T.kcl, T.k_parts, by decide, ?_⟩
    refine ⟨_, rfl, _, rfl, x, CK, dx, _, rfl, upd_same, T.kcl, T.k_origin, by show 1 < 1000; decide, ?_⟩
    refine ⟨_, rfl, _, rfl, x, CK, dx, _, rfl, upd_same, T.kcl, T.k_depth, by show 2 < 1000; decide, ?_⟩
    refine q _ (fun b hb => ?_) ?_
    · rw [upd_ne hb, upd_ne hb, upd_ne hb]
    · rw [upd_same]
      rfl
def sp_Knot_weight (_K : PySem.W.Frag) (CK : Addr) : Sp := fun vs H Q _ => ∃ (k : Addr) (kn : Kn), vs = [.ref k] ∧ KnAt CK H k kn ∧ ∀ H', Same H H' → Q (.int kn.free) H'
theorem ok_Knot_weight (T : Txt K mg CK CW) : MethOk P w K mg base 1 CK "weight" ["self"] (sp_Knot_weight K CK) := by
  refine T.kweight.ok (k := 0) sc_Knot_weight (fun _ _ _ _ _ _ us hl => match us, hl with | [_], _ => rfl) (fun vs H Q E h => ?_) (fun f cdv A outer s H vs Q E hr h => ?_)
  · obtain ⟨_, _, rfl, _⟩ := h
    rfl
  · obtain ⟨k, kn, rfl, ⟨dx, pl, t, hk, hpl, o, ht, ho⟩, q⟩ := h
    refine ⟨_, (pss_one (ps_ret (pe_callB (cr_sum rfl) (by rfl) T.b_sum (by decide +kernel) (pa_cons (pe_lc (own := [("often", 1), ("free", 2), ("terms", 3)]) (g := (gTup K 3 (gCons (gName 1) (gCons (gName 2) (gCons (gName 3) gNil))))) rfl sc_Knot_weight.nd (pi_list (pe_fld (pv 0) rfl)) (blkOk_by (own := [("often", 1), ("free", 2), ("terms", 3)]) (N := ["self", "often", "free", "terms"]) (sc := defScope s_Knot_weight) (by decide +kernel)) (fun _ _ _ _ _ => (pg_tup rfl (pgs_cons (pg_name (i := 1) sc_Knot_weight.nd rfl (.inl rfl)) (pgs_cons (pg_name (i := 2) sc_Knot_weight.nd rfl (.inl rfl)) (pgs_cons (pg_name (i := 3) sc_Knot_weight.nd rfl (.inl rfl)) pgs_nil))))) (fun _ _ _ _ _ => pts_nil) (fun _ _ _ _ _ => (pe_op op_mul (pv 1) (pv 2)))) pa_nil)))), ?_⟩
    refine ⟨_, rfl, k, CK, dx, _, .ref pl, rfl, hk, T.kcl, T.k_parts, rfl, pl, rfl, ⟨_, SqL.of hpl⟩, fun D hD => lc_list (K := K) (a := pl) (xs := [.ref t]) (fun i H' => Same H H' ∧ H' D = some (.lst (iv ([(kn.free : Int)].take i)))) ⟨same_upd hD, upd_same⟩ (fun i H' _ h => SqL.of (h.1 _ _ hpl)) ?_ ?_⟩
    · rintro i x H1 hi ⟨s1, e1⟩
      have i0 : i = 0 := by
        have := (List.getElem?_eq_some_iff.mp hi).1
        simp at this
        omega
      subst i0
      have hx : V.ref t = x := Option.some.inj hi
      subst hx
      refine ⟨t, _, rfl, SqT.of (s1 _ _ ht), rfl, _, _, rfl, _, _, rfl, _, _, rfl, rfl, rfl, _, rfl, _, rfl, _, _, rfl, rfl, .inl ⟨by decide, by decide⟩, _, e1, by show 0 < sizeLine; decide, s1.wr hD, ?_⟩
      rw [upd_same]
      show some (HO.lst [V.int (1 * (kn.free : Int))]) = _
      rw [Int.one_mul]
      rfl
    · rintro H1 ⟨s1, e1⟩
      refine ⟨D, [(kn.free : Int)], rfl, SqL.of e1, ?_⟩
      show Q (.int ((kn.free : Int) + 0)) H1
      rw [Int.add_zero]
      exact q _ s1
def sp_first_knot (CK : Addr) : Sp := fun vs H Q _ => ∃ (a : Addr) (c : Int) (p : Int), vs = [.ref a, .int p] ∧ H a = some (.tup (iv [c, 0, 1])) ∧ SqOk c ∧ ∀ H' k, Same H H' → KnAt CK H' k ⟨0, 0, 0, [c, 0, 1]⟩ → Q (.ref k) H'
theorem ok_first_knot (T : Txt K mg CK CW) : Ok P w K mg base 6 "first_knot" ["terms", "prime"] (sp_first_knot CK) := by
  refine T.d_first_knot.ok (k := 5) sc_first_knot (fun _ _ _ _ _ _ us hl => match us, hl with | [_, _], _ => rfl) (fun vs H Q E h => ?_) (fun f cdv A outer s H vs Q E hr h => ?_)
  · obtain ⟨_, _, _, rfl, _⟩ := h
    rfl
  · obtain ⟨a, c, p, rfl, hA, hc, q⟩ := h
    refine ⟨_, (pss_one (ps_ret (pe_makeO (ok_Knot_init T) (hr.mono (by decide)) (by rfl) (pa_cons (pe_lc (own := [("often", 2), ("own", 3)]) (g := (gTup K 2 (gCons (gName 2) (gCons (gName 3) gNil)))) rfl sc_first_knot.nd (pi_list (pe_ok (ok_manifold_parts T) (hr.mono (by decide)) (by rfl) (pa_cons (pv 0) pa_nil))) (blkOk_by (own := [("often", 2), ("own", 3)]) (N := ["terms", "prime", "often", "own"]) (sc := defScope s_first_knot) (by decide +kernel)) (fun _ _ _ _ _ => (pg_tup rfl (pgs_cons (pg_name (i := 2) sc_first_knot.nd rfl (.inl rfl)) (pgs_cons (pg_name (i := 3) sc_first_knot.nd rfl (.inl rfl)) pgs_nil)))) (fun _ _ _ _ _ => pts_nil) (fun _ _ _ _ _ => (pe_tup (pa_cons (pv 2) (pa_cons pe_int (pa_cons (pv 3) pa_nil)))))) (pa_cons pe_int (pa_cons pe_int pa_nil)))))), ?_⟩
    refine ⟨_, rfl, a, c, rfl, hA, hc, fun H1 m t o s1 hm ht ho => ?_⟩
    refine ⟨m, rfl, ⟨_, SqL.of hm⟩, fun D hD => lc_list (K := K) (a := m) (xs := [.ref t]) (fun i H' => Same H1 H' ∧ ((i = 0 ∧ H' D = some (.lst [])) ∨ (i = 1 ∧ ∃ t', H' D = some (.lst [.ref t']) ∧ PtAt H' t' 0 [c, 0, 1]))) ⟨same_upd hD, .inl ⟨rfl, upd_same⟩⟩ (fun i H' _ h => SqL.of (h.1 _ _ hm)) ?_ ?_⟩
    · rintro i x H2 hi ⟨s2, e2⟩
      have i0 : i = 0 := by
        have := (List.getElem?_eq_some_iff.mp hi).1
        simp at this
        omega
      subst i0
      have hx : V.ref t = x := Option.some.inj hi
      subst hx
      obtain ⟨_, e2⟩ | ⟨h, _⟩ := e2
      case inr => cases h
      refine ⟨t, _, rfl, SqT.of (s2 _ _ ht), rfl, _, _, rfl, _, _, rfl, rfl, rfl, _, rfl, _, rfl, by show 3 ≤ sizeLine; decide, fun t' nt' => ?_⟩
      have s3 := same_upd (o := .tup [.int 1, .int 0, .ref o]) nt'
      have s23 := s2.trans s3
      refine ⟨_, s3 _ _ e2, by show 0 < sizeLine; decide, s23.wr hD, .inr ⟨rfl, t', by rw [upd_same]; rfl, o, ?_, ?_⟩⟩
      · rw [upd_ne (ne_of_none e2 nt').symm]
        exact upd_same
      · rw [upd_ne (ne_of_none ho hD)]
        exact s23 _ _ ho
    · rintro H2 ⟨s2, e2⟩
      obtain ⟨h, _⟩ | ⟨_, t', e2, hp⟩ := e2
      case inl => cases h
      refine fun x dx nx nd ne => ⟨x, dx, D, 0, 0, rfl, upd_same, fun H3 hN h3 => ⟨rfl, ?_⟩⟩
      have s3 := made_same nx nd hN
      exact q _ x ((s1.trans s2).trans s3) ⟨dx, D, t', h3, s3 _ _ e2, hp.same s3⟩
def sp_knot_above (K : PySem.W.Frag) (CK : Addr) : Sp := fun vs H Q _ => ∃ (k : Addr) (kn : Kn) (p : Nat) (r : Int), vs = [.ref k, .int p, .int r] ∧ KnAt CK H k kn ∧ kn.zs.length ≤ 50 ∧ 2 ≤ p ∧ p < 1000 ∧ 0 ≤ r ∧ r < p ∧ kn.depth ≤ 3 ∧ (∃ t ∈ ledIn kn.zs r p, t ≠ 0) ∧ (∀ t ∈ ledIn kn.zs r p, t.natAbs < 1073741824) ∧ (ledIn kn.zs r p).length ≤ 100 ∧
  ∀ H' k' (m : Nat) (own : List Int), Same H H' → KnAt CK H' k' ⟨kn.origin + r * (p : Int) ^ kn.depth, kn.depth + 1, kn.free + m, own⟩ → ledIn kn.zs r p = own.map ((p : Int) ^ m * ·) → (∃ t ∈ own, t % (p : Int) ≠ 0) → Q (.ref k') H'
theorem ok_knot_above (T : Txt K mg CK CW) : Ok P w K mg base 3 "knot_above" ["knot", "prime", "rest"] (sp_knot_above K CK) := by
  refine T.d_knot_above.ok (k := 2) sc_knot_above (fun _ _ _ _ _ _ us hl => match us, hl with | [_, _, _], _ => rfl) (fun vs H Q E h => ?_) (fun f cdv A outer s H vs Q E hr h => ?_)
  · obtain ⟨_, _, _, _, rfl, _⟩ := h
    rfl
  · obtain ⟨k, kn, p, r, rfl, hk, hl, p2, p3, r0, r1, hd, nz, sml, ll, q⟩ := h
    have hk0 := hk
    obtain ⟨dx, pl, t, hk, hpl, o, ht, ho⟩ := hk
    refine ⟨_, (pss_cons (ps_set (i := 3) sc_knot_above.nd rfl (.inl rfl) (pe_lst pa_nil))
      (pss_cons (ps_for PassesOwn.never rfl (pi_list (pe_fld (pv 0) rfl)) (pg_tup rfl (pgs_cons (pg_name (i := 4) sc_knot_above.nd rfl (.inl rfl)) (pgs_cons (pg_name (i := 5) sc_knot_above.nd rfl (.inl rfl)) (pgs_cons (pg_name (i := 6) sc_knot_above.nd rfl (.inl rfl)) pgs_nil)))) (pss_cons (ps_asg (pe_ok (ok_freed T) (hr.mono (by decide)) (by rfl) (pa_cons (pe_ok (ok_led_in T) (hr.mono (by decide)) (by rfl) (pa_cons (pv 6) (pa_cons (pv 2) (pa_cons (pv 1) pa_nil)))) (pa_cons (pv 1) pa_nil))) (pg_tup rfl (pgs_cons (pg_name (i := 7) sc_knot_above.nd rfl (.inl rfl)) (pgs_cons (pg_name (i := 8) sc_knot_above.nd rfl (.inl rfl)) pgs_nil))))
      (pss_one (ps_expr (pe_bm PySem.F.plainAttrs_list PySem.F.slot_list_append PySem.F.type_list_append mt_append (pv 3) (pa_cons (pe_tup (pa_cons (pv 4) (pa_cons (pe_op op_add (pv 5) (pv 7)) (pa_cons (pv 8) pa_nil)))) pa_nil))))))
      (pss_one (ps_ret (pe_makeO (ok_Knot_init T) (hr.mono (by decide)) (by rfl) (pa_cons (pv 3) (pa_cons (pe_op op_add (pe_fld (pv 0) rfl) (pe_op op_mul (pv 2) (pe_ok (ok_raised T) (hr.mono (by decide)) (by rfl) (pa_cons (pv 1) (pa_cons (pe_fld (pv 0) rfl) pa_nil))))) (pa_cons (pe_op op_add (pe_fld (pv 0) rfl) pe_int) pa_nil)))))))), ?_⟩
    refine ⟨by show 0 ≤ sizeLine; decide, fun pa npa => ?_⟩
    have s0 := same_upd (o := .lst []) npa
    refine ⟨_, rfl, k, CK, dx, _, .ref pl, rfl, s0 _ _ hk, T.kcl, T.k_parts, rfl, pl, rfl, ⟨_, SqL.of (s0 _ _ hpl)⟩, for_list (K := K) (a := pl) (xs := [.ref t]) (fun i σ H' => ∃ (z4 z5 z6 z7 z8 : Option V), σ = [some (.ref k), some (.int p), some (.int r), some (.ref pa), z4, z5, z6, z7, z8] ∧ Same H H' ∧ ((i = 0 ∧ H' pa = some (.lst [])) ∨ (i = 1 ∧ ∃ t' m own, H' pa = some (.lst [.ref t']) ∧ PtAt H' t' (kn.free + m) own ∧ ledIn kn.zs r p = own.map ((p : Int) ^ m * ·) ∧ ∃ t ∈ own, t % (p : Int) ≠ 0)))
      ⟨_, _, _, _, _, rfl, s0, .inl ⟨rfl, upd_same⟩⟩ (fun i σ H' _ ⟨_, _, _, _, _, _, s, _⟩ => SqL.of (s _ _ hpl)) ?_ ?_⟩
    · rintro i x σ H2 hi ⟨z4, z5, z6, z7, z8, rfl, s2, e2⟩
      have i0 : i = 0 := by
        have := (List.getElem?_eq_some_iff.mp hi).1
        simp at this
        omega
      subst i0
      have hx : V.ref t = x := Option.some.inj hi
      subst hx
      obtain ⟨_, e2⟩ | ⟨h, _⟩ := e2
      case inr => cases h
      refine ⟨t, _, rfl, SqT.of (s2 _ _ ht), rfl, _, _, rfl, _, _, rfl, _, _, rfl, rfl, ?_⟩
      refine ⟨_, rfl, _, rfl, _, rfl, o, kn.zs, r, p, rfl, SqL.of (s2 _ _ ho), by omega, r0, by omega, by omega, by omega, fun H3 l s3 hl3 => ?_⟩
      refine ⟨_, rfl, l, _, p, rfl, SqL.of hl3, ll, by omega, by omega, nz, sml, fun H4 u r4 m own s4 nr hu hr4 e4 h4 => ?_⟩
      refine ⟨u, _, rfl, SqT.of hu, rfl, _, _, rfl, _, _, rfl, rfl, ?_⟩
      have s24 := s3.trans s4
      have e24 := s24 _ _ e2
      refine ⟨_, rfl, .inl ⟨rfl, _, SqL.of e24⟩, _, rfl, _, rfl, _, rfl, _, _, rfl, rfl, _, rfl, by show 3 ≤ sizeLine; decide, fun t' nt' => ?_⟩
      have s5 := same_upd (o := .tup [.int 1, .int ((kn.free : Int) + (m : Int)), .ref r4]) nt'
      refine ⟨pa, _, _, rfl, rfl, s5 _ _ e24, by show 0 < sizeLine; decide, _, _, _, _, _, rfl, ((s2.trans s24).trans s5).wr npa, .inr ⟨rfl, t', m, own, upd_same, ⟨r4, ?_, ?_⟩, e4, h4⟩⟩
      · rw [upd_ne (ne_of_none e24 nt').symm, upd_same]
        show some (HO.tup [.int 1, .int ((kn.free : Int) + (m : Int)), .ref r4]) = some (HO.tup [.int 1, .int ((kn.free + m : Nat) : Int), .ref r4])
        rw [Int.natCast_add]
      · rw [upd_ne (fun z => by rw [z] at nr; have := s3 _ _ e2; rw [nr] at this; cases this)]
        exact s5 _ _ hr4
    · rintro σ H2 ⟨z4, z5, z6, z7, z8, rfl, s2, e2⟩
      obtain ⟨h, _⟩ | ⟨_, t', m, own, e2, hp, h1, h2⟩ := e2
      case inl => cases h
      have pb : (p : Int) ^ kn.depth < 9223372036854775808 := by
        have a1 : p ^ kn.depth ≤ p ^ 3 := Nat.pow_le_pow_right (by omega) hd
        have a2 : p ^ 3 ≤ 1000 ^ 3 := Nat.pow_le_pow_left (by omega) 3
        have a3 : ((p ^ kn.depth : Nat) : Int) = (p : Int) ^ kn.depth := Int.natCast_pow p _
        omega
      refine ⟨_, rfl, _, rfl, k, CK, dx, _, _, rfl, s2 _ _ hk, T.kcl, T.k_origin, rfl, ?_⟩
      refine ⟨_, rfl, _, rfl, _, rfl, k, CK, dx, _, _, rfl, s2 _ _ hk, T.kcl, T.k_depth, rfl, p, kn.depth, rfl, by omega, by omega, by rw [Int.toNat_natCast]; exact pb, ?_⟩
      rw [Int.toNat_natCast]
      refine ⟨_, _, rfl, rfl, .inl ⟨by omega, by omega⟩, _, _, rfl, rfl, _, rfl, k, CK, dx, _, _, rfl, s2 _ _ hk, T.kcl, T.k_depth, rfl, _, _, rfl, rfl, ?_⟩
      refine fun x dx' nx nd ne => ⟨x, dx', pa, _, kn.depth + 1, by rw [Int.natCast_succ]; rfl, upd_same, fun H3 hN h3 => ⟨rfl, ?_⟩⟩
      have s3 := made_same nx nd hN
      exact q _ x m own (s2.trans s3) ⟨dx', pa, t', h3, s3 _ _ e2, hp.same s3⟩ h1 h2
/-- a knot with all that belongs to it -/
def KnX (CK : Addr) (H : Hp) (k dx pl t o : Addr) (kn : Kn) : Prop := H k = some (.ins CK dx (knF pl kn.origin kn.depth)) ∧ H pl = some (.lst [.ref t]) ∧ H t = some (.tup [.int 1, .int kn.free, .ref o]) ∧ H o = some (.lst (iv kn.zs))
def sp_own_zeros (K : PySem.W.Frag) (CK : Addr) : Sp := fun vs H Q _ => ∃ (k dx pl t o : Addr) (kn : Kn) (p r : Int), vs = [.ref k, .int p, .int r] ∧ KnX CK H k dx pl t o kn ∧ 0 < p ∧ p < 1000 ∧
  ∀ H' D, Same H H' → ((ev kn.zs r % p ≠ 0 ∧ H' D = some (.lst [])) ∨ (ev kn.zs r % p = 0 ∧ H' D = some (.lst [.ref t]))) → Q (.ref D) H'
theorem ok_own_zeros (T : Txt K mg CK CW) : Ok P w K mg base 2 "own_zeros" ["knot", "prime", "rest"] (sp_own_zeros K CK) := by
  refine T.d_own_zeros.ok (k := 1) sc_own_zeros (fun _ _ _ _ _ _ us hl => match us, hl with | [_, _, _], _ => rfl) (fun vs H Q E h => ?_) (fun f cdv A outer s H vs Q E hr h => ?_)
  · obtain ⟨_, _, _, _, _, _, _, _, rfl, _⟩ := h
    rfl
  · obtain ⟨k, dx, pl, t, o, kn, p, r, rfl, ⟨hk, hpl, ht, ho⟩, p0, p1, q⟩ := h
    refine ⟨_, (pss_one (ps_ret (pe_lc (own := [("part", 3)]) (tt := tTest (tOp rEq (tCall (sp_rest_of_value K) [] E0 (tCons (tOp (rIxT K) (tVar 3) (tC (.int 2))) (tCons (tVar 2) (tCons (tVar 1) tNil)))) (tC (.int 0)))) (g := (gName 3)) rfl sc_own_zeros.nd (pi_list (pe_fld (pv 0) rfl)) (blkOk_by (own := [("part", 3)]) (N := ["knot", "prime", "rest", "part"]) (sc := defScope s_own_zeros) (by decide +kernel)) (fun _ _ _ _ _ => (pg_name (i := 3) sc_own_zeros.nd rfl (.inl rfl))) (fun _ _ _ _ _ => (pts_one (pt_cmpR op_eq (pe_ok (ok_rest_of_value T) (hr.mono (by decide)) (by rfl) (pa_cons (pe_ix ix_tup (pv 3) pe_int (fun _ _ => rfl)) (pa_cons (pv 2) (pa_cons (pv 1) pa_nil)))) pe_int (nomark _)))) (fun _ _ _ _ _ => (pv 3))))), ?_⟩
    refine ⟨_, rfl, k, CK, dx, _, .ref pl, rfl, hk, T.kcl, T.k_parts, rfl, pl, rfl, ⟨_, SqL.of hpl⟩, fun D hD => lc_list (K := K) (a := pl) (xs := [.ref t]) (fun i H' => Same H H' ∧ ((i = 0 ∧ H' D = some (.lst [])) ∨ (i = 1 ∧ ((ev kn.zs r % p ≠ 0 ∧ H' D = some (.lst [])) ∨ (ev kn.zs r % p = 0 ∧ H' D = some (.lst [.ref t])))))) ⟨same_upd hD, .inl ⟨rfl, upd_same⟩⟩ (fun i H' _ h => SqL.of (h.1 _ _ hpl)) ?_ ?_⟩
    · rintro i x H1 hi ⟨s1, e1⟩
      have i0 : i = 0 := by
        have := (List.getElem?_eq_some_iff.mp hi).1
        simp at this
        omega
      subst i0
      have hx : V.ref t = x := Option.some.inj hi
      subst hx
      obtain ⟨_, e1⟩ | ⟨h, _⟩ := e1
      case inr => cases h
      refine ⟨rfl, _, rfl, t, _, _, _, rfl, rfl, SqT.of (s1 _ _ ht), rfl, _, rfl, _, rfl, o, kn.zs, r, p, rfl, SqL.of (s1 _ _ ho), p0, by omega, fun H2 s2 => ⟨rfl, _, rfl, itV2 (fun h0 => ?_) (fun h0 => ?_)⟩⟩
      · exact ⟨_, rfl, _, s2 _ _ e1, by show 0 < sizeLine; decide, (s1.trans s2).wr hD, .inr ⟨rfl, .inr ⟨h0, upd_same⟩⟩⟩
      · exact ⟨s1.trans s2, .inr ⟨rfl, .inl ⟨h0, s2 _ _ e1⟩⟩⟩
    · rintro H1 ⟨s1, e1⟩
      obtain ⟨h, _⟩ | ⟨_, e1⟩ := e1
      case inl => cases h
      exact q _ D s1 e1
def sp_Way_init (_K : PySem.W.Frag) (CK CW : Addr) : Sp := fun vs H Q _ => ∃ (y dx k t : Addr) (kn : Kn) (r e : Int), vs = [.ref y, .ref k, .ref t, .int r, .int e] ∧ H y = some (.ins CW dx []) ∧ KnAt CK H k kn ∧ PtAt H t kn.free kn.zs ∧ kn.depth ≤ 3 ∧
  ∀ H', (∀ b u, b ≠ y → H b = some u → H' b = some u) → H' y = some (.ins CW dx (wyF k t r (e + kn.free - kn.depth))) → Q .non H'
theorem ok_Way_init (T : Txt K mg CK CW) : MkOk P w K mg base 2 "Way" CW ["self", "knot", "part", "rest", "extra"] (sp_Way_init K CK CW) := by
  refine T.wmk.ok (k := 1) sc_Way_init (fun _ _ _ _ _ _ us hl => match us, hl with | [_, _, _, _, _], _ => rfl) (fun vs H Q E h => ?_) (fun f cdv A outer s H vs Q E hr h => ?_)
  · obtain ⟨_, _, _, _, _, _, _, rfl, _⟩ := h
    rfl
  · obtain ⟨y, dx, k, t, kn, r, e, rfl, hy, hk, hp, hd, q⟩ := h
    obtain ⟨o, ht, ho⟩ := hp
    refine ⟨_, (pss_cons (ps_fld (pv 0) (pv 1) rfl)
      (pss_cons (ps_fld (pv 0) (pv 2) rfl)
      (pss_cons (ps_fld (pv 0) (pv 3) rfl)
      (pss_cons (ps_fld (pv 0) (pe_ix ix_tup (pv 2) pe_int (fun _ _ => rfl)) rfl)
      (pss_one (ps_fld (pv 0) (pe_op op_sub (pe_op op_add (pv 4) (pe_methO0 (pv 1) T.kcl (ok_Knot_weight T) (hr.mono (by decide)))) (pe_op op_mul (pe_ix ix_tup (pv 2) pe_int (fun _ _ => rfl)) (pe_fld (pv 1) rfl))) rfl)))))), ?_⟩
    refine ⟨_, rfl, _, rfl, y, CW, dx, [], rfl, hy, T.wcl, T.w_knot, by decide, ?_⟩
    refine ⟨_, rfl, _, rfl, y, CW, dx, _, rfl, upd_same, T.wcl, T.w_part, by show 1 < 1000; decide, ?_⟩
    refine ⟨_, rfl, _, rfl, y, CW, dx, _, rfl, upd_same, T.wcl, T.w_rest, by show 2 < 1000; decide, ?_⟩
    have hty : t ≠ y := fun z => by rw [z, hy] at ht; cases ht
    have htu : ∀ o1 o2 o3, upd (upd (upd H y o1) y o2) y o3 t = H t := fun o1 o2 o3 => by rw [upd_ne hty, upd_ne hty, upd_ne hty]
    have htv : ∀ o1 o2 o3 o4, upd (upd (upd (upd H y o1) y o2) y o3) y o4 t = H t := fun o1 o2 o3 o4 => by rw [upd_ne hty, upd_ne hty, upd_ne hty, upd_ne hty]
    have hoff : ∀ o1 o2 o3 o4, ∀ b u, b ≠ y → H b = some u → upd (upd (upd (upd H y o1) y o2) y o3) y o4 b = some u := fun o1 o2 o3 o4 b u hb e => by rw [upd_ne hb, upd_ne hb, upd_ne hb, upd_ne hb]; exact e
    refine ⟨_, rfl, t, _, _, _, rfl, rfl, SqT.of ((htu _ _ _).trans ht), rfl, _, rfl, y, CW, dx, _, rfl, upd_same, T.wcl, T.w_often, by show 3 < 1000; decide, ?_⟩
    have hk5 := hk
    obtain ⟨dxk, pl, t', hkk, _⟩ := hk5
    have hky : k ≠ y := fun z => by rw [z, hy] at hkk; cases hkk
    refine ⟨_, rfl, _, rfl, k, dxk, _, rfl, hoff _ _ _ _ _ _ hky hkk, rfl, k, kn, rfl, hk.off hy (hoff _ _ _ _), fun H5 s5 => ?_⟩
    refine ⟨_, _, rfl, rfl, _, rfl, t, _, _, _, rfl, rfl, SqT.of (s5 _ _ ((htv _ _ _ _).trans ht)), rfl, _, rfl, k, CK, dxk, _, _, rfl, s5 _ _ (hoff _ _ _ _ _ _ hky hkk), T.kcl, T.k_depth, rfl, _, _, rfl, rfl, .inl ⟨by decide, by decide⟩, _, _, rfl, rfl, ?_⟩
    refine ⟨_, rfl, y, CW, dx, _, rfl, s5 _ _ upd_same, T.wcl, T.w_deep, by show 4 < 1000; decide, ?_⟩
    refine q _ (fun b u hb e => ?_) ?_
    · rw [upd_ne hb]
      exact s5 _ _ (hoff _ _ _ _ _ _ hb e)
    · rw [upd_same, show e + (kn.free : Int) - (kn.depth : Int) = e + (kn.free : Int) - 1 * (kn.depth : Int) by omega]
      rfl
/-- what is asked of an endless zero by a prime -/
structure WyOk (p : Nat) (wy : Wy) : Prop where
  len : wy.kn.zs.length ≤ 50
  depth : wy.kn.depth ≤ 3
  o0 : 0 ≤ wy.kn.origin
  o1 : wy.kn.origin ≤ 100
  r0 : 0 ≤ wy.rest
  r1 : wy.rest < p
  z : (p : Int) ∣ ev wy.kn.zs wy.rest
  d : dv wy.kn.zs wy.rest % (p : Int) ≠ 0
  e : wy.deep = if p = 2 then 1 else 0
def sp_Way_rest_by (_K : PySem.W.Frag) (CK CW : Addr) : Sp := fun vs H Q _ => ∃ (v : V) (wy : Wy) (p : Nat), vs = [v, .int p, .int 9] ∧ WyAt CK CW H v wy ∧ WyOk p wy ∧ PrimeN p ∧ p ≤ 31 ∧ ∀ H' z, Same H H' → 0 ≤ z → z < 1152921504606846976 → Q (.int z) H'
theorem ok_Way_rest_by (T : Txt K mg CK CW) : MethOk P w K mg base 3 CW "rest_by" ["self", "prime", "often"] (sp_Way_rest_by K CK CW) := by
  refine T.wrest_by.ok (k := 2) sc_Way_rest_by (fun _ _ _ _ _ _ us hl => match us, hl with | [_, _, _], _ => rfl) (fun vs H Q E h => ?_) (fun f cdv A outer s H vs Q E hr h => ?_)
  · obtain ⟨_, _, _, rfl, _⟩ := h
    rfl
  · obtain ⟨v, wy, p, rfl, ⟨y, dx, k, t, rfl, hy, hk, o, ht, ho⟩, ok, hp, p31, q⟩ := h
    refine ⟨_, (pss_cons (ps_set (i := 3) sc_Way_rest_by.nd rfl (.inl rfl) (pe_ok (ok_lifted T) (hr.mono (by decide)) (by rfl) (pa_cons (pe_ix ix_tup (pe_fld (pv 0) rfl) pe_int (fun _ _ => rfl)) (pa_cons (pv 1) (pa_cons (pe_callB (call_max2 rfl) (by rfl) T.b_max (by decide +kernel) (pa_cons pe_int (pa_cons (pe_op op_sub (pv 2) (pe_fld (pe_fld (pv 0) rfl) rfl)) pa_nil))) (pa_cons (pe_fld (pv 0) rfl) pa_nil))))))
      (pss_one (ps_ret (pe_op op_mod (pe_op op_add (pe_fld (pe_fld (pv 0) rfl) rfl) (pe_op op_mul (pe_ok (ok_raised T) (hr.mono (by decide)) (by rfl) (pa_cons (pv 1) (pa_cons (pe_fld (pe_fld (pv 0) rfl) rfl) pa_nil))) (pv 3))) (pe_ok (ok_raised T) (hr.mono (by decide)) (by rfl) (pa_cons (pv 1) (pa_cons (pv 2) pa_nil))))))), ?_⟩
    have p2 := hp.1
    have pk : ∀ j, j ≤ 9 → (p : Int) ^ j < 4611686018427387904 ∧ 1 ≤ (p : Int) ^ j ∧ (p : Int) ^ j ≤ 26439622160671 := fun j hj => by
      have a1 : p ^ j ≤ p ^ 9 := Nat.pow_le_pow_right (by omega) hj
      have a2 : p ^ 9 ≤ 31 ^ 9 := Nat.pow_le_pow_left (by omega) 9
      have a3 : ((p ^ j : Nat) : Int) = (p : Int) ^ j := Int.natCast_pow p _
      have a4 : 0 < p ^ j := Nat.pos_of_ne_zero fun z => by
        rw [Nat.pow_eq_zero] at z
        omega
      have a5 : (31 : Nat) ^ 9 = 26439622160671 := by decide
      omega
    obtain ⟨dxk, pl, t', hkk, hkl, hkp⟩ := hk
    have okd := ok.depth
    have hmax : (if (9 : Int) - (wy.kn.depth : Int) > 1 then (9 : Int) - (wy.kn.depth : Int) else 1) = ((9 - wy.kn.depth : Nat) : Int) := by
      rw [if_pos (by omega)]
      omega
    refine ⟨_, rfl, y, CW, dx, _, _, rfl, hy, T.wcl, T.w_part, rfl, t, _, _, _, rfl, rfl, SqT.of ht, rfl, ?_⟩
    refine ⟨_, rfl, _, rfl, _, rfl, y, CW, dx, _, _, rfl, hy, T.wcl, T.w_knot, rfl, k, CK, dxk, _, _, rfl, hkk, T.kcl, T.k_depth, rfl, _, _, rfl, rfl, _, _, rfl, ?_⟩
    refine ⟨_, rfl, y, CW, dx, _, _, rfl, hy, T.wcl, T.w_rest, rfl, ?_⟩
    have k9 := pk (9 - wy.kn.depth) (by omega)
    refine ⟨o, wy.kn.zs, p, 9 - wy.kn.depth, wy.rest, by rw [← hmax]; rfl, SqL.of ho, by have := ok.len; omega, hp, by omega, by omega, ok.r0, ok.r1, ok.z, ok.d, fun H1 z s1 z0 z1 _ _ => ?_⟩
    have kd := pk wy.kn.depth (by omega)
    have kn9 := pk 9 (by omega)
    refine ⟨_, rfl, y, CW, dx, _, _, rfl, s1 _ _ hy, T.wcl, T.w_knot, rfl, k, CK, dxk, _, _, rfl, s1 _ _ hkk, T.kcl, T.k_origin, rfl, ?_⟩
    refine ⟨_, rfl, _, rfl, y, CW, dx, _, _, rfl, s1 _ _ hy, T.wcl, T.w_knot, rfl, k, CK, dxk, _, _, rfl, s1 _ _ hkk, T.kcl, T.k_depth, rfl, p, wy.kn.depth, rfl, by omega, by omega, by rw [Int.toNat_natCast]; omega, ?_⟩
    rw [Int.toNat_natCast]
    refine ⟨_, rfl, _, _, rfl, rfl, .inl ⟨by omega, by omega⟩, _, _, rfl, rfl, ?_⟩
    refine ⟨_, rfl, _, rfl, p, 9, rfl, by omega, by omega, by show (p : Int) ^ 9 < _; omega, _, _, rfl, rfl, by show 0 < (p : Int) ^ 9; omega, ?_⟩
    refine q _ _ s1 (Int.emod_nonneg _ (by show (p : Int) ^ 9 ≠ 0; omega)) (Int.lt_trans (Int.emod_lt_of_pos _ (by show 0 < (p : Int) ^ 9; omega)) (by show (p : Int) ^ 9 < _; omega))
def sp_Way_alone_from (_K : PySem.W.Frag) (CK CW : Addr) : Sp := fun vs H Q _ => ∃ (v : V) (wy : Wy), vs = [v] ∧ WyAt CK CW H v wy ∧ Q (.int (wy.deep + wy.kn.depth + 1)) H
theorem ok_Way_alone_from (T : Txt K mg CK CW) : MethOk P w K mg base 1 CW "alone_from" ["self"] (sp_Way_alone_from K CK CW) := by
  refine T.walone_from.ok (k := 0) sc_Way_alone_from (fun _ _ _ _ _ _ us hl => match us, hl with | [_], _ => rfl) (fun vs H Q E h => ?_) (fun f cdv A outer s H vs Q E hr h => ?_)
  · obtain ⟨_, _, rfl, _⟩ := h
    rfl
  · obtain ⟨v, wy, rfl, ⟨y, dx, k, t, rfl, hy, hk, o, ht, ho⟩, q⟩ := h
    obtain ⟨dxk, pl, t', hkk, hkl, hkp⟩ := hk
    refine ⟨_, (pss_one (ps_ret (pe_op op_add (pe_op op_add (pe_fld (pv 0) rfl) (pe_op op_mul (pe_fld (pv 0) rfl) (pe_fld (pe_fld (pv 0) rfl) rfl))) pe_int))), ?_⟩
    refine ⟨_, rfl, y, CW, dx, _, _, rfl, hy, T.wcl, T.w_deep, rfl, ?_⟩
    refine ⟨_, rfl, y, CW, dx, _, _, rfl, hy, T.wcl, T.w_often, rfl, ?_⟩
    refine ⟨_, rfl, y, CW, dx, _, _, rfl, hy, T.wcl, T.w_knot, rfl, k, CK, dxk, _, _, rfl, hkk, T.kcl, T.k_depth, rfl, _, _, rfl, rfl, .inl ⟨by decide, by decide⟩, _, _, rfl, rfl, _, _, rfl, rfl, ?_⟩
    show Q (.int (wy.deep + 1 * (wy.kn.depth : Int) + 1)) H
    rw [Int.one_mul]
    exact q
end
end RW

set_option maxHeartbeats 4000000
namespace RW
open PySem PySem.Spec PyProof.Rows L2
/-- one of the primes that are met -/
def SmallP (p : Nat) : Prop := p = 2 ∨ p = 3 ∨ p = 5 ∨ p = 7 ∨ p = 11 ∨ p = 31
def zw (zs : List Int) (p : Nat) (r : Nat) : Bool := decide (ev zs r % (p : Int) = 0) && decide (dv zs r % (p : Int) ≠ 0)
def cnt (zs : List Int) (p i : Nat) : Nat := ((List.range i).filter (zw zs p)).length
theorem cnt_succ (zs : List Int) (p i : Nat) : cnt zs p (i + 1) = cnt zs p i + if zw zs p i = true then 1 else 0 := by
  unfold cnt
  rw [List.range_succ, List.filter_append, List.length_append]
  cases h : zw zs p i <;> simp [h]
/-- how many endless zeros there are -/
def nW (c : Int) (p : Nat) : Nat := if p = 2 then (if c % 8 = 7 then 2 else 0) else cnt [c, 0, 1] p p
/-- the knots that are met -/
def KnOk (c : Int) (p : Nat) (kn : Kn) : Prop := (kn = ⟨0, 0, 0, [c, 0, 1]⟩) ∨ (p = 2 ∧ ∃ d, (kn = ⟨1, 1, 1, [d, 2, 2]⟩ ∧ 2 * d = 1 + c ∧ d % 2 = 1) ∨ (kn = ⟨1, 1, 2, [d, 1, 1]⟩ ∧ 4 * d = 1 + c))
theorem KnOk.free {c : Int} {p : Nat} {kn : Kn} (h : KnOk c p kn) : kn.free ≤ 2 ∧ kn.depth ≤ 1 ∧ kn.zs.length = 3 := by
  rcases h with rfl | ⟨_, d, ⟨rfl, _⟩ | ⟨rfl, _⟩⟩ <;> simp
theorem dv0 (c r : Int) : dv [c, 0, 1] r = 2 * r := by
  show (0 + r * (1 + r * 0)) + r * ((1 + r * 0) + r * (0 + r * 0)) = 2 * r
  simp
  omega
theorem ev0 (c r : Int) : ev [c, 0, 1] r = c + r * r := by
  show c + r * (0 + r * (1 + r * 0)) = c + r * r
  simp
theorem ev1 (d r : Int) : ev [d, 1, 1] r = d + r * (1 + r) := by
  show d + r * (1 + r * (1 + r * 0)) = d + r * (1 + r)
  simp
theorem ev2 (d r : Int) : ev [d, 2, 2] r = d + r * (2 + r * 2) := by
  show d + r * (2 + r * (2 + r * 0)) = d + r * (2 + r * 2)
  simp
theorem dv1 (d r : Int) : dv [d, 1, 1] r = 1 + 2 * r := by
  show (1 + r * (1 + r * 0)) + r * ((1 + r * 0) + r * (0 + r * 0)) = 1 + 2 * r
  simp
  omega
theorem sp_odd {p : Nat} (h : SmallP p) (h2 : p ≠ 2) {r : Nat} (hr : r < p) (h0 : 2 * (r : Int) % (p : Int) = 0) : r = 0 := by
  rcases h with rfl | rfl | rfl | rfl | rfl | rfl
  · exact absurd rfl h2
  all_goals omega
/-- a zero with a slope is an endless zero -/
theorem KnOk.way {c : Int} {p : Nat} {kn : Kn} (h : KnOk c p kn) (hp : SmallP p) {r : Nat} (hr : r < p) (hz : ev kn.zs r % (p : Int) = 0) (hd : dv kn.zs r % (p : Int) ≠ 0) : WyOk p ⟨kn, r, 0 + kn.free - kn.depth⟩ := by
  have hl := h.free
  refine ⟨by show kn.zs.length ≤ 50; omega, by show kn.depth ≤ 3; omega, ?_, ?_, by show (0 : Int) ≤ (r : Int); omega, by show (r : Int) < (p : Int); omega, Int.dvd_of_emod_eq_zero hz, hd, ?_⟩
  · rcases h with rfl | ⟨_, d, ⟨rfl, _⟩ | ⟨rfl, _⟩⟩ <;> simp
  · rcases h with rfl | ⟨_, d, ⟨rfl, _⟩ | ⟨rfl, _⟩⟩ <;> simp
  · rcases h with rfl | ⟨rfl, d, ⟨rfl, e, o⟩ | ⟨rfl, e⟩⟩
    · show (0 : Int) + ((0 : Nat) : Int) - ((0 : Nat) : Int) = _
      by_cases h2 : p = 2
      · subst h2
        rw [show dv [c, 0, 1] r = 2 * (r : Int) from dv0 c r] at hd
        omega
      · rw [if_neg h2]
        rfl
    · exfalso
      have hz : ev [d, 2, 2] (r : Int) % ((2 : Nat) : Int) = 0 := hz
      rw [ev2] at hz
      have : r = 0 ∨ r = 1 := by omega
      rcases this with rfl | rfl
      · simp at hz
        omega
      · simp at hz
        omega
    · rfl
/-- a zero without a slope is met but once -/
theorem KnOk.above {c : Int} {p : Nat} {kn : Kn} (h : KnOk c p kn) (hp : SmallP p) (hc : c % (p : Int) ≠ 0) {r : Nat} (hr : r < p) (hz : ev kn.zs r % (p : Int) = 0) (hd : dv kn.zs r % (p : Int) = 0) : kn = ⟨0, 0, 0, [c, 0, 1]⟩ ∧ p = 2 ∧ r = 1 := by
  rcases h with rfl | ⟨rfl, d, ⟨rfl, e, o⟩ | ⟨rfl, e⟩⟩
  · have hz : ev [c, 0, 1] (r : Int) % (p : Int) = 0 := hz
    have hd : dv [c, 0, 1] (r : Int) % (p : Int) = 0 := hd
    rw [ev0] at hz
    rw [dv0] at hd
    by_cases h2 : p = 2
    · subst h2
      refine ⟨rfl, rfl, ?_⟩
      have : r = 0 ∨ r = 1 := by omega
      rcases this with rfl | rfl
      · exact absurd (by simpa using hz) hc
      · rfl
    · have := sp_odd hp h2 hr hd
      subst this
      exact absurd (by simpa using hz) hc
  · exfalso
    have hz : ev [d, 2, 2] (r : Int) % ((2 : Nat) : Int) = 0 := hz
    rw [ev2] at hz
    have : r = 0 ∨ r = 1 := by omega
    rcases this with rfl | rfl
    · simp at hz
      omega
    · simp at hz
      omega
  · exfalso
    have hd : dv [d, 1, 1] (r : Int) % ((2 : Nat) : Int) = 0 := hd
    rw [dv1] at hd
    omega
theorem led_sq (c : Int) (h0 : c ≠ 0) : ledIn [c, 0, 1] 1 2 = [c + 1, 4, 4] := by
  have h : ledGo 1 2 [c, 0, 1] = [c + 1, 4, 4, 0] := by
    simp [ledGo, lin]
    omega
  unfold ledIn
  rw [h]
  simp [trim, trimF]
/-- the knot above -/
theorem KnOk.next {c : Int} (hc : c % 2 ≠ 0) {m : Nat} {own : List Int} (h : ledIn [c, 0, 1] 1 2 = own.map ((2 : Int) ^ m * ·)) (ho : ∃ t ∈ own, t % 2 ≠ 0) : KnOk c 2 ⟨1, 1, m, own⟩ := by
  rw [led_sq c (fun z => by rw [z] at hc; exact hc rfl)] at h
  match own, h with
  | [x, y, z], h =>
    have h := h
    simp only [List.map_cons, List.map_nil, List.cons.injEq, and_true] at h
    obtain ⟨h1, h2, h3⟩ := h
    match m, h1, h2, h3 with
    | 0, h1, h2, h3 =>
      exfalso
      rw [Int.pow_zero, Int.one_mul] at h1 h2 h3
      obtain ⟨t, ht, hm⟩ := ho
      simp at ht
      rcases ht with rfl | rfl | rfl <;> omega
    | 1, h1, h2, h3 =>
      rw [Int.pow_succ, Int.pow_zero, Int.one_mul] at h1 h2 h3
      have hy : y = 2 := by omega
      have hz : z = 2 := by omega
      subst hy hz
      refine .inr ⟨rfl, x, .inl ⟨rfl, by omega, ?_⟩⟩
      obtain ⟨t, ht, hm⟩ := ho
      simp at ht
      rcases ht with rfl | rfl
      · omega
      · omega
    | 2, h1, h2, h3 =>
      have h1 : c + 1 = 4 * x := h1
      have h2 : 4 = 4 * y := h2
      have h3 : 4 = 4 * z := h3
      have hy : y = 1 := by omega
      have hz : z = 1 := by omega
      subst hy hz
      exact .inr ⟨rfl, x, .inr ⟨rfl, by omega⟩⟩
    | m + 3, h1, h2, h3 =>
      exfalso
      rw [Int.pow_add] at h2
      have h2 : (4 : Int) = 2 ^ m * 8 * y := h2
      rw [Int.mul_right_comm] at h2
      omega
  | [], h => cases h
  | [_], h => simp at h
  | [_, _], h => simp at h
  | _ :: _ :: _ :: _ :: _, h => simp at h
/-- all rests of a knot, none without a slope -/
theorem KnOk.all {c : Int} {p : Nat} {kn : Kn} (h : KnOk c p kn) (hp : SmallP p) (hc : c % (p : Int) ≠ 0) (hn : ∀ r : Nat, r < p → ev kn.zs r % (p : Int) = 0 → dv kn.zs r % (p : Int) ≠ 0) : cnt kn.zs p p = nW c p := by
  unfold nW
  rcases h with rfl | ⟨rfl, d, ⟨rfl, e, o⟩ | ⟨rfl, e⟩⟩
  · by_cases h2 : p = 2
    · subst h2
      exfalso
      have := hn 1 (by decide) (by show ev [c, 0, 1] ((1 : Nat) : Int) % ((2 : Nat) : Int) = 0; rw [ev0]; simp; omega)
      exact this (by show dv [c, 0, 1] ((1 : Nat) : Int) % ((2 : Nat) : Int) = 0; rw [dv0]; rfl)
    · rw [if_neg h2]
  · rw [if_pos rfl, if_neg (by omega)]
    show (List.filter (zw [d, 2, 2] 2) [0, 1]).length = 0
    have z0 : zw [d, 2, 2] 2 0 = false := by
      unfold zw
      rw [decide_eq_false (by rw [ev2]; simp; omega)]
      rfl
    have z1 : zw [d, 2, 2] 2 1 = false := by
      unfold zw
      rw [decide_eq_false (by rw [ev2]; simp; omega)]
      rfl
    simp [z0, z1]
  · rw [if_pos rfl]
    show (List.filter (zw [d, 1, 1] 2) [0, 1]).length = _
    have z0 : zw [d, 1, 1] 2 0 = decide (d % 2 = 0) := by
      unfold zw
      rw [ev1, dv1]
      simp
    have z1 : zw [d, 1, 1] 2 1 = decide (d % 2 = 0) := by
      unfold zw
      rw [ev1, dv1]
      simp
      try omega
    by_cases hd : d % 2 = 0
    · rw [if_pos (by omega)]
      simp [z0, z1, hd]
    · rw [if_neg (by omega)]
      simp [z0, z1, hd]
end RW

set_option maxHeartbeats 4000000
namespace RW
open PySem PySem.Spec PyProof.Rows L2
theorem SmallP.two {p : Nat} (h : SmallP p) : 2 ≤ p ∧ p ≤ 31 := by
  rcases h with rfl | rfl | rfl | rfl | rfl | rfl <;> decide
theorem KnAt.x {CK : Addr} {H : Hp} {k : Addr} {kn : Kn} : KnAt CK H k kn → ∃ dx pl t o, KnX CK H k dx pl t o kn := fun ⟨dx, pl, t, h1, h2, o, h3, h4⟩ => ⟨dx, pl, t, o, h1, h2, h3, h4⟩
theorem KnX.at {CK : Addr} {H : Hp} {k dx pl t o : Addr} {kn : Kn} : KnX CK H k dx pl t o kn → KnAt CK H k kn := fun ⟨h1, h2, h3, h4⟩ => ⟨dx, pl, t, h1, h2, o, h3, h4⟩
theorem KnX.pt {CK : Addr} {H : Hp} {k dx pl t o : Addr} {kn : Kn} : KnX CK H k dx pl t o kn → PtAt H t kn.free kn.zs := fun ⟨h1, h2, h3, h4⟩ => ⟨o, h3, h4⟩
theorem KnX.same {CK : Addr} {H H' : Hp} {k dx pl t o : Addr} {kn : Kn} (s : Same H H') : KnX CK H k dx pl t o kn → KnX CK H' k dx pl t o kn := fun ⟨h1, h2, h3, h4⟩ => ⟨s _ _ h1, s _ _ h2, s _ _ h3, s _ _ h4⟩
theorem KnX.wr {CK : Addr} {H : Hp} {k dx pl t o : Addr} {kn : Kn} {q : Addr} {xs ys : List V} (hq : H q = some (.lst xs)) (n1 : pl ≠ q) (n2 : o ≠ q) : KnX CK H k dx pl t o kn → KnX CK (upd H q (.lst ys)) k dx pl t o kn := fun ⟨h1, h2, h3, h4⟩ => by
  refine ⟨?_, ?_, ?_, ?_⟩
  · rw [upd_ne (fun z => by rw [z, hq] at h1; cases h1)]
    exact h1
  · rw [upd_ne n1]
    exact h2
  · rw [upd_ne (fun z => by rw [z, hq] at h3; cases h3)]
    exact h3
  · rw [upd_ne n2]
    exact h4
/-- an endless zero that was found; no list of it stands at fo or at ah -/
def WysAt (CK CW fo ah : Addr) (H : Hp) (v : V) (wy : Wy) : Prop := ∃ y dx k dk pl t o, v = .ref y ∧ H y = some (.ins CW dx (wyF k t wy.rest wy.deep)) ∧ KnX CK H k dk pl t o wy.kn ∧ pl ≠ fo ∧ pl ≠ ah ∧ o ≠ fo ∧ o ≠ ah
theorem WysAt.at {CK CW fo ah : Addr} {H : Hp} {v : V} {wy : Wy} : WysAt CK CW fo ah H v wy → WyAt CK CW H v wy := fun ⟨y, dx, k, dk, pl, t, o, e, h1, h2, _⟩ => ⟨y, dx, k, t, e, h1, h2.at, h2.pt⟩
theorem WysAt.same {CK CW fo ah : Addr} {H H' : Hp} {v : V} {wy : Wy} (s : Same H H') : WysAt CK CW fo ah H v wy → WysAt CK CW fo ah H' v wy := fun ⟨y, dx, k, dk, pl, t, o, e, h1, h2, h3⟩ => ⟨y, dx, k, dk, pl, t, o, e, s _ _ h1, h2.same s, h3⟩
theorem WysAt.wrF {CK CW fo ah : Addr} {H : Hp} {v : V} {wy : Wy} {xs ys : List V} (hq : H fo = some (.lst xs)) : WysAt CK CW fo ah H v wy → WysAt CK CW fo ah (upd H fo (.lst ys)) v wy := fun ⟨y, dx, k, dk, pl, t, o, e, h1, h2, n1, n2, n3, n4⟩ =>
  ⟨y, dx, k, dk, pl, t, o, e, by rw [upd_ne (fun z => by rw [z, hq] at h1; cases h1)]; exact h1, h2.wr hq n1 n3, n1, n2, n3, n4⟩
theorem WysAt.wrA {CK CW fo ah : Addr} {H : Hp} {v : V} {wy : Wy} {xs ys : List V} (hq : H ah = some (.lst xs)) : WysAt CK CW fo ah H v wy → WysAt CK CW fo ah (upd H ah (.lst ys)) v wy := fun ⟨y, dx, k, dk, pl, t, o, e, h1, h2, n1, n2, n3, n4⟩ =>
  ⟨y, dx, k, dk, pl, t, o, e, by rw [upd_ne (fun z => by rw [z, hq] at h1; cases h1)]; exact h1, h2.wr hq n2 n4, n1, n2, n3, n4⟩
theorem ev_led {c : Int} (h0 : c ≠ 0) : ∃ t ∈ ledIn [c, 0, 1] 1 2, t ≠ 0 := ⟨4, by rw [led_sq c h0]; simp, by decide⟩
section
variable {P : Program} {w : World} {K : PySem.W.Frag} {mg : Str → Option Value} {base : Heap} {CK CW : Addr}
/-- a sum -x + r r, a prime that does not divide x -/
structure SqP (c : Int) (p : Nat) : Prop where
  ok : SqOk c
  sp : SmallP p
  hc : c % (p : Int) ≠ 0
  b0 : -200 ≤ c
  b1 : c ≤ 200
def sp_ways_and_bound (_K : PySem.W.Frag) (CK CW : Addr) : Sp := fun vs H Q _ => ∃ (a : Addr) (c : Int) (p : Nat), vs = [.ref a, .int p] ∧ H a = some (.tup (iv [c, 0, 1])) ∧ SqP c p ∧
  ∀ H' u fo xs ws (b : Nat), Same H H' → b ≤ 3 → H' u = some (.tup [.ref fo, .int b]) → H' fo = some (.lst xs) → Paired (WyAt CK CW H') xs ws → (∀ wy ∈ ws, WyOk p wy) → ws.length = nW c p → Q (.ref u) H'
theorem ok_ways_and_bound (T : Txt K mg CK CW) : Ok P w K mg base 7 "ways_and_bound" ["terms", "prime"] (sp_ways_and_bound K CK CW) := by
  refine T.d_ways_and_bound.ok (k := 6) sc_ways_and_bound (fun _ _ _ _ _ _ us hl => match us, hl with | [_, _], _ => rfl) (fun vs H Q E h => ?_) (fun f cdv A outer s H vs Q E hr h => ?_)
  · obtain ⟨_, _, _, rfl, _⟩ := h
    rfl
  · obtain ⟨a, c, p, rfl, hA, ⟨ok, hp, hc, b0, b1⟩, q⟩ := h
    have p2 := hp.two
    have c0 : c ≠ 0 := fun z => by rw [z] at hc; simp at hc
    refine ⟨_, (pss_cons (ps_par3 (i := 2) (j := 3) (l := 4) (by rfl) sc_ways_and_bound.nd rfl rfl rfl (by decide) (by decide) (by decide) rfl rfl rfl (pa_cons (pe_ok (ok_often_of T) (hr.mono (by decide)) (by rfl) (pa_cons (pe_ok (ok_content_of T) (hr.mono (by decide)) (by rfl) (pa_cons (pv 0) pa_nil)) (pa_cons (pv 1) pa_nil))) (pa_cons (pe_lst pa_nil) (pa_cons pe_int pa_nil))) (by rfl))
      (pss_cons (ps_set (i := 5) sc_ways_and_bound.nd rfl (.inl rfl) (pe_lst (pa_cons (pe_ok (ok_first_knot T) (hr.mono (by decide)) (by rfl) (pa_cons (pv 0) (pa_cons (pv 1) pa_nil))) pa_nil)))
      (pss_cons (ps_while PassesOwn.never (pt_cmpR (op_neNil hr.units0) (pv 5) (pe_lst pa_nil) (nomark _)) (pss_cons (ps_set (i := 6) sc_ways_and_bound.nd rfl (.inl rfl) (pe_bm0 PySem.F.plainAttrs_list PySem.F.slot_list_pop PySem.F.type_list_pop mt_pop (pv 5)))
      (pss_one (ps_for PassesOwn.never rfl (pi_range1 (by rfl) T.b_range (pa_cons (pv 1) pa_nil)) (pg_name (i := 7) sc_ways_and_bound.nd rfl (.inl rfl)) (pss_cons (ps_set (i := 8) sc_ways_and_bound.nd rfl (.inl rfl) (pe_ok (ok_own_zeros T) (hr.mono (by decide)) (by rfl) (pa_cons (pv 6) (pa_cons (pv 1) (pa_cons (pv 7) pa_nil)))))
      (pss_one (ps_if (pt_cmpR (op_eqNil hr.units0) (pv 8) (pe_lst pa_nil) (nomark _)) (pss_one (ps_set (i := 4) sc_ways_and_bound.nd rfl (.inl rfl) (pe_callB (call_max2 rfl) (by rfl) T.b_max (by decide +kernel) (pa_cons (pv 4) (pa_cons (pe_op op_add (pe_op op_add (pv 2) (pe_methO0 (pv 6) T.kcl (ok_Knot_weight T) (hr.mono (by decide)))) pe_int) pa_nil))))) (pss_one (ps_if (PW.pt (pw_and (pt_cmpR op_eq (pe_callB call_len_seq (by rfl) T.b_len PySem.boot_len (pa_cons (pv 8) pa_nil)) pe_int (nomark _)) (pw_and1 (pt_cmpR op_ne (pe_ok (ok_rest_of_value T) (hr.mono (by decide)) (by rfl) (pa_cons (pe_ok (ok_slope_of T) (hr.mono (by decide)) (by rfl) (pa_cons (pe_ix ix_tup (pe_ix ix_list (pv 8) pe_int (fun _ _ => rfl)) pe_int (fun _ _ => rfl)) pa_nil)) (pa_cons (pv 7) (pa_cons (pv 1) pa_nil)))) pe_int (nomark _))))) (pss_cons (ps_expr (pe_bm PySem.F.plainAttrs_list PySem.F.slot_list_append PySem.F.type_list_append mt_append (pv 3) (pa_cons (pe_makeO (ok_Way_init T) (hr.mono (by decide)) (by rfl) (pa_cons (pv 6) (pa_cons (pe_ix ix_list (pv 8) pe_int (fun _ _ => rfl)) (pa_cons (pv 7) (pa_cons (pv 2) pa_nil))))) pa_nil)))
      (pss_one (ps_set (i := 4) sc_ways_and_bound.nd rfl (.inl rfl) (pe_callB (call_max2 rfl) (by rfl) T.b_max (by decide +kernel) (pa_cons (pv 4) (pa_cons (pe_methO0 (pe_ix ix_list (pv 3) (pe_un un_neg pe_int) (fun _ _ => rfl)) T.wcl (ok_Way_alone_from T) (hr.mono (by decide))) pa_nil)))))) (pss_one (ps_expr (pe_bm PySem.F.plainAttrs_list PySem.F.slot_list_append PySem.F.type_list_append mt_append (pv 5) (pa_cons (pe_ok (ok_knot_above T) (hr.mono (by decide)) (by rfl) (pa_cons (pv 6) (pa_cons (pv 1) (pa_cons (pv 7) pa_nil)))) pa_nil)))))))))))))
      (pss_one (ps_ret (pe_tup (pa_cons (pv 3) (pa_cons (pv 4) pa_nil)))))))), ?_⟩
    refine ⟨_, rfl, a, _, rfl, SqT.of hA, ?_⟩
    rw [ok.2.2.2.2.2.2]
    refine ⟨_, rfl, 1, p, rfl, by decide, by omega, by omega, fun e m he hm => ?_⟩
    have e0 : e = 0 := by
      match e, he with
      | 0, _ => rfl
      | e + 1, he =>
        exfalso
        rw [Int.pow_succ, Int.mul_assoc, Int.mul_left_comm] at he
        have h1 : (p : Int) ∣ 1 := ⟨_, he⟩
        have := Int.le_of_dvd (by decide) h1
        omega
    subst e0
    refine ⟨by show 0 ≤ sizeLine; decide, fun fo nfo => ⟨_, _, _, rfl, ?_⟩⟩
    have s1 := same_upd (o := .lst []) nfo
    refine ⟨_, rfl, _, rfl, a, c, p, rfl, s1 _ _ hA, ok, fun H1 k s2 hk => ⟨by show 1 ≤ sizeLine; decide, fun ah nah => ?_⟩⟩
    have s3 := same_upd (o := .lst [.ref k]) nah
    have hfo1 := s2 _ _ upd_same
    have fa : fo ≠ ah := ne_of_none hfo1 nah
    obtain ⟨dx, pl, t, o, hkx⟩ := hk.x
    refine ⟨fun m σ H' => ∃ (z6 z7 z8 : Option V) (b : Nat), σ = [some (.ref a), some (.int p), some (.int 0), some (.ref fo), some (.int b), some (.ref ah), z6, z7, z8] ∧ Same H H' ∧ b ≤ 3 ∧
        ((∃ kn k dx pl t o, m = 2 - kn.depth ∧ KnOk c p kn ∧ H' fo = some (.lst []) ∧ H' ah = some (.lst [.ref k]) ∧ KnX CK H' k dx pl t o kn ∧ pl ≠ fo ∧ pl ≠ ah ∧ o ≠ fo ∧ o ≠ ah) ∨
         (m = 0 ∧ ∃ xs ws, H' fo = some (.lst xs) ∧ H' ah = some (.lst []) ∧ Paired (WysAt CK CW fo ah H') xs ws ∧ (∀ wy ∈ ws, WyOk p wy) ∧ ws.length = nW c p)),
      ⟨2, none, none, none, 0, rfl, (s1.trans s2).trans s3, by decide, .inl ⟨_, k, dx, pl, t, o, rfl, .inl rfl, s3 _ _ hfo1, upd_same, hkx.same s3, ?_, ?_, ?_, ?_⟩⟩, ?_⟩
    · intro z
      have h2 := hkx.2.1
      rw [z, hfo1] at h2
      cases h2
    · exact ne_of_none hkx.2.1 nah
    · intro z
      have h2 := hkx.2.2.2
      rw [z, hfo1] at h2
      cases h2
    · exact ne_of_none hkx.2.2.2 nah
    rintro m σ H2 ⟨z6, z7, z8, b, rfl, s4, hb, h2⟩
    rcases h2 with ⟨kn, k2, dx2, pl2, t2, o2, rfl, hkn, hfo, hah, hx, n1, n2, n3, n4⟩ | ⟨rfl, xs, ws, hfo, hah, hxs, hok, hn⟩
    · have hf := hkn.free
      refine ⟨_, rfl, by show 0 ≤ sizeLine; decide, fun z nz => ?_⟩
      have s5 := same_upd (o := .lst []) nz
      have s45 := s4.trans s5
      have hah5 := s5 _ _ hah
      refine ⟨ah, z, _, rfl, rfl, SqL.of hah5, SqL.of upd_same, _, rfl, iteT ?_⟩
      refine ⟨fun σ' H' => ∃ m', m' < 2 - kn.depth ∧ _, fun _ _ h => h, ?_⟩
      have nahH : H ah = none := (s1.trans s2).free nah
      refine ⟨_, rfl, .inl ⟨rfl, _, SqL.of hah5⟩, ah, _, _, rfl, rfl, hah5, rfl, ?_⟩
      refine ⟨_, rfl, p, rfl, by omega, by omega, for_range (lo := 0) (n := p) (fun i σ H' => ∃ (z7 z8 : Option V) (b : Nat) (xs : List V) (ws : List Wy) (ys : List V), σ = [some (.ref a), some (.int p), some (.int 0), some (.ref fo), some (.int b), some (.ref ah), some (.ref k2), z7, z8] ∧ Same H H' ∧ b ≤ 3 ∧
          H' fo = some (.lst xs) ∧ H' ah = some (.lst ys) ∧ KnX CK H' k2 dx2 pl2 t2 o2 kn ∧ Paired (WysAt CK CW fo ah H') xs ws ∧ (∀ wy ∈ ws, WyOk p wy) ∧ ws.length = cnt kn.zs p i ∧
          ((ys = [] ∧ ∀ r : Nat, r < i → ev kn.zs r % (p : Int) = 0 → dv kn.zs r % (p : Int) ≠ 0) ∨ (i = 2 ∧ p = 2 ∧ kn.depth = 0 ∧ ws = [] ∧ ∃ k' dx' pl' t' o' kn', ys = [.ref k'] ∧ KnX CK H' k' dx' pl' t' o' kn' ∧ KnOk c p kn' ∧ kn'.depth = 1 ∧ pl' ≠ fo ∧ pl' ≠ ah ∧ o' ≠ fo ∧ o' ≠ ah)))
        ⟨_, _, b, [], [], [], rfl, s45.wr nahH, hb, ?_, upd_same, (hx.same s5).wr hah5 n2 n4, .nil, by simp, rfl, .inl ⟨rfl, fun r h => absurd h (by omega)⟩⟩ ?_ ?_⟩
      · rw [upd_ne fa]
        exact s5 _ _ hfo
      · rintro i σ H3 hi ⟨z7, z8, b, xs, ws, ys, rfl, s6, hb6, hfo6, hah6, hx6, hxs6, hok6, hn6, hys⟩
        obtain ⟨rfl, hys⟩ | ⟨h1, h2, _⟩ := hys
        case inr => omega
        have e0 : (0 : Int) + (i : Int) = (i : Int) := by omega
        have hlen := Paired.length hxs6
        have hcl : cnt kn.zs p i ≤ i := by
          unfold cnt
          exact Nat.le_trans (List.length_filter_le _ _) (by rw [List.length_range]; exact Nat.le_refl _)
        refine ⟨_, rfl, _, rfl, _, rfl, k2, dx2, pl2, t2, o2, kn, p, i, congrArg (fun z => [V.ref k2, V.int p, V.int z]) e0, hx6, by omega, by omega, fun H4 D s7 hown => ?_⟩
        refine ⟨_, rfl, by show 0 ≤ sizeLine; decide, fun z' nz' => ?_⟩
        have s8 := same_upd (o := .lst []) nz'
        have s78 := s7.trans s8
        have s68 := s6.trans s78
        rcases hown with ⟨hv, hD⟩ | ⟨hv, hD⟩
        · -- no zero at this rest
          refine ⟨D, z', _, rfl, rfl, SqL.of (s8 _ _ hD), SqL.of upd_same, _, rfl, iteT ?_⟩
          have hx8 := hx6.same s78
          refine ⟨_, rfl, _, rfl, _, rfl, k2, dx2, _, rfl, hx8.1, rfl, k2, kn, rfl, hx8.at, fun H5 s9 => ?_⟩
          refine ⟨_, _, rfl, rfl, _, _, rfl, rfl, _, _, rfl, ?_⟩
          obtain ⟨b', hb', hb3⟩ : ∃ b' : Nat, (if (0 : Int) + (kn.free : Int) + 1 > (b : Int) then (0 : Int) + (kn.free : Int) + 1 else (b : Int)) = (b' : Int) ∧ b' ≤ 3 := by
            split
            · exact ⟨kn.free + 1, by omega, by omega⟩
            · exact ⟨b, rfl, hb6⟩
          have s789 := s78.trans s9
          refine ⟨_, _, b', xs, ws, [], by rw [← hb']; rfl, s6.trans s789, hb3, s789 _ _ hfo6, s789 _ _ hah6, hx6.same s789, pairedMap (fun v l h => h.same s789) hxs6, hok6, ?_, .inl ⟨rfl, fun r hr hz => ?_⟩⟩
          · rw [hn6, cnt_succ, if_neg]
            · rfl
            · unfold zw
              rw [decide_eq_false hv]
              simp
          · by_cases hri : r < i
            · exact hys r hri hz
            · have : r = i := by omega
              subst this
              exact absurd hz hv
        · refine ⟨D, z', _, rfl, rfl, SqL.of (s8 _ _ hD), SqL.of upd_same, _, rfl, iteF ?_⟩
          have hD8 := s8 _ _ hD
          have hx8 := hx6.same s78
          refine ⟨_, rfl, D, _, rfl, .inl (SqL.of hD8), rfl, _, rfl, itD rfl ?_⟩
          refine ⟨_, rfl, D, _, _, _, rfl, rfl, SqL.of hD8, rfl, t2, _, _, _, rfl, rfl, SqT.of hx8.2.2.1, rfl, o2, kn.zs, rfl, SqL.of hx8.2.2.2, by omega, fun H5 l s9 hl => ?_⟩
          refine ⟨_, rfl, _, rfl, l, _, i, p, congrArg (fun z => [V.ref l, V.int z, V.int p]) e0, SqL.of hl, by omega, by omega, fun H6 s10 => ?_⟩
          rw [ev_slope]
          have s710 : Same H3 H6 := (s78.trans s9).trans s10
          have s810 := s9.trans s10
          have hx10 := hx6.same s710
          refine ⟨rfl, _, rfl, itNV2 (fun hd => ?_) (fun hd => ?_)⟩
          · -- a way
            have hzw : zw kn.zs p i = true := by
              unfold zw
              rw [decide_eq_true hv, decide_eq_true hd]
              rfl
            have hfo10 := s710 _ _ hfo6
            have hD10 := s810 _ _ hD8
            refine ⟨_, rfl, .inl ⟨rfl, _, SqL.of hfo10⟩, _, rfl, _, rfl, D, _, _, _, rfl, rfl, SqL.of hD10, rfl, _, rfl, _, rfl, fun y dy ny nd ne => ?_⟩
            have s11 : Same H6 (upd (upd H6 dy (.own y)) y (.ins CW dy [])) := (same_upd nd).lay (by rw [upd_ne ne.symm]; exact ny)
            refine ⟨y, dy, k2, t2, kn, i, 0, congrArg (fun z => [V.ref y, V.ref k2, V.ref t2, V.int z, V.int 0]) e0, upd_same, (hx10.same s11).at, (hx10.same s11).pt, by omega, fun H7 hN h7 => ⟨rfl, ?_⟩⟩
            have s12 : Same H6 H7 := fun b u e => hN b u (ne_of_none e ny) (s11 _ _ e)
            have hfo12 := s12 _ _ hfo10
            refine ⟨fo, _, _, rfl, rfl, hfo12, small1000 (by omega), ?_⟩
            have s312 := s710.trans s12
            have hy8 : upd H7 fo (.lst (xs ++ [.ref y])) y = some (.ins CW dy (wyF k2 t2 i (0 + kn.free - kn.depth))) := by
              rw [upd_ne (fun z => by rw [z, hfo12] at h7; cases h7)]
              exact h7
            have hw : WysAt CK CW fo ah (upd H7 fo (.lst (xs ++ [.ref y]))) (.ref y) ⟨kn, i, 0 + kn.free - kn.depth⟩ := ⟨y, dy, k2, dx2, pl2, t2, o2, rfl, hy8, (hx6.same s312).wr hfo12 n1 n3, n1, n2, n3, n4⟩
            refine ⟨_, rfl, _, rfl, _, rfl, fo, _, _, _, rfl, rfl, SqL.of upd_same, atI_last _ _, y, dy, _, rfl, hy8, rfl, .ref y, _, rfl, hw.at, _, _, rfl, ?_⟩
            obtain ⟨b', hb', hb3⟩ : ∃ b' : Nat, (if (0 : Int) + (kn.free : Int) - (kn.depth : Int) + (kn.depth : Int) + 1 > (b : Int) then (0 : Int) + (kn.free : Int) - (kn.depth : Int) + (kn.depth : Int) + 1 else (b : Int)) = (b' : Int) ∧ b' ≤ 3 := by
              split
              · exact ⟨kn.free + 1, by omega, by omega⟩
              · exact ⟨b, rfl, hb6⟩
            refine ⟨_, _, b', xs ++ [.ref y], ws ++ [⟨kn, i, 0 + kn.free - kn.depth⟩], [], by rw [← hb']; rfl, (s6.trans s312).wr nfo, hb3, upd_same, ?_, (hx6.same s312).wr hfo12 n1 n3, pairedSnoc (pairedMap (fun v l h => (h.same s312).wrF hfo12) hxs6) hw, fun wy hwy => ?_, ?_, .inl ⟨rfl, fun r hr hz => ?_⟩⟩
            · rw [upd_ne fa.symm]
              exact s312 _ _ hah6
            · rcases List.mem_append.mp hwy with hwy | hwy
              · exact hok6 _ hwy
              · rw [List.mem_singleton.mp hwy]
                exact hkn.way hp hi hv hd
            · rw [List.length_append, hn6, cnt_succ, if_pos hzw]
              rfl
            · by_cases hri : r < i
              · exact hys r hri hz
              · have : r = i := by omega
                subst this
                exact hd
          · -- above
            obtain ⟨rfl, rfl, rfl⟩ := hkn.above hp hc hi hv hd
            have hah10 := s710 _ _ hah6
            have led : ledIn [c, 0, 1] 1 2 = [c + 1, 4, 4] := led_sq c c0
            have ledm : ∀ t ∈ ledIn [c, 0, 1] 1 2, t.natAbs < 1073741824 := by
              rw [led]
              intro t ht
              simp at ht
              rcases ht with rfl | rfl <;> omega
            have ledl : (ledIn [c, 0, 1] 1 2).length ≤ 100 := by
              rw [led]
              simp
            refine ⟨_, rfl, .inl ⟨rfl, _, SqL.of hah10⟩, _, rfl, _, rfl, _, rfl, k2, _, 2, 1, rfl, hx10.at, by simp, by decide, by decide, by decide, by decide, by simp, ev_led c0, ledm, ledl, fun H7 k' m own s11 hk' h1 h2 => ?_⟩
            obtain ⟨dx', pl', t', o', hx'⟩ : ∃ dx' pl' t' o', KnX CK H7 k' dx' pl' t' o' ⟨1, 1, m, own⟩ := by
              have hk2 : KnAt CK H7 k' ⟨1, 1, 0 + m, own⟩ := hk'
              rw [Nat.zero_add m] at hk2
              exact hk2.x
            have hah11 := s11 _ _ hah10
            have hfo11 := s11 _ _ (s710 _ _ hfo6)
            have hkn' : KnOk c 2 ⟨1, 1, m, own⟩ := KnOk.next hc h1 h2
            have hws : ws = [] := List.eq_nil_of_length_eq_zero (by
              rw [hn6]
              show (List.filter (zw [c, 0, 1] 2) [0]).length = 0
              have z0 : zw [c, 0, 1] 2 0 = false := by
                unfold zw
                rw [decide_eq_false (by rw [ev0]; simpa using hc)]
                rfl
              simp [z0])
            subst hws
            cases hxs6
            have f1 : pl' ≠ ah := fun z => by
              have h2 := hx'.2.1
              rw [z, hah11] at h2
              cases h2
            have f2 : pl' ≠ fo := fun z => by
              have h2 := hx'.2.1
              rw [z, hfo11] at h2
              cases h2
            have hl3 := hkn'.free.2.2
            have f3 : o' ≠ ah := fun z => by
              have h2 := hx'.2.2.2
              rw [z, hah11] at h2
              have h3 := congrArg List.length (HO.lst.inj (Option.some.inj h2))
              rw [ivLen] at h3
              simp at h3 hl3
              omega
            have f4 : o' ≠ fo := fun z => by
              have h2 := hx'.2.2.2
              rw [z, hfo11] at h2
              have h3 := congrArg List.length (HO.lst.inj (Option.some.inj h2))
              rw [ivLen] at h3
              simp at h3 hl3
              omega
            have s311 := s710.trans s11
            refine ⟨ah, _, _, rfl, rfl, hah11, small1000 (by decide), _, _, b, [], [], [.ref k'], rfl, (s6.trans s311).wr nahH, hb6, ?_, upd_same, (hx6.same s311).wr hah11 n2 n4, .nil, by simp, ?_, .inr ⟨rfl, rfl, rfl, rfl, k', dx', pl', t', o', ⟨1, 1, m, own⟩, rfl, ?_, hkn', rfl, f2, f1, f4, f3⟩⟩
            · rw [upd_ne fa]
              exact hfo11
            · rw [cnt_succ, ← hn6, if_neg]
              · rfl
              · unfold zw
                rw [show decide (dv [c, 0, 1] ((1 : Nat) : Int) % ((2 : Nat) : Int) ≠ 0) = false from decide_eq_false fun h => h hd]
                simp
            · exact hx'.wr hah11 f1 f3
      · rintro σ H3 ⟨z7, z8, b, xs, ws, ys, rfl, s6, hb6, hfo6, hah6, hx6, hxs6, hok6, hn6, hys⟩
        rcases hys with ⟨rfl, hys⟩ | ⟨_, e2, hd0, rfl, k', dx', pl', t', o', kn', rfl, hx', hkn', hd', m1, m2, m3, m4⟩
        · exact ⟨0, by omega, _, _, _, b, rfl, s6, hb6, .inr ⟨rfl, xs, ws, hfo6, hah6, hxs6, hok6, hn6.trans (hkn.all hp hc hys)⟩⟩
        · cases hxs6
          exact ⟨1, by omega, _, _, _, b, rfl, s6, hb6, .inl ⟨kn', k', dx', pl', t', o', by omega, hkn', hfo6, hah6, hx', m1, m2, m3, m4⟩⟩
    · refine ⟨_, rfl, by show 0 ≤ sizeLine; decide, fun z nz => ?_⟩
      have s5 := same_upd (o := .lst []) nz
      refine ⟨ah, z, _, rfl, rfl, SqL.of (s5 _ _ hah), SqL.of upd_same, _, rfl, iteF ?_⟩
      refine ⟨_, rfl, _, rfl, by show 2 ≤ sizeLine; decide, fun u nu => ?_⟩
      have s6 := same_upd (o := .tup [.ref fo, .int b]) nu
      exact q _ u fo xs ws b ((s4.trans s5).trans s6) hb upd_same (s6 _ _ (s5 _ _ hfo)) (pairedMap (fun v l h => (h.same (s5.trans s6)).at) hxs) hok hn
end
end RW

set_option maxHeartbeats 4000000
namespace RW
open PySem PySem.Spec PyProof.Rows L2
/-! ### two or none -/
theorem ev0_mod (c : Int) (p r : Nat) : ev [c, 0, 1] r % (p : Int) = ev [c % (p : Int), 0, 1] r % (p : Int) := by
  rw [ev0, ev0, Int.emod_add_emod]
theorem zw_mod (c : Int) (p r : Nat) : zw [c, 0, 1] p r = zw [c % (p : Int), 0, 1] p r := by
  unfold zw
  rw [ev0_mod, dv0, dv0]
theorem cnt_mod (c : Int) (p i : Nat) : cnt [c, 0, 1] p i = cnt [c % (p : Int), 0, 1] p i := by
  unfold cnt
  rw [List.filter_congr fun r _ => zw_mod c p r]
def hasRoot (c : Int) (p : Nat) : Bool := if p = 2 then decide (c % 8 = 7) else decide (rootsL (-c) 2 p ≠ [])
theorem cnt_all : ∀ p ∈ [3, 5, 7, 11, 31], ∀ k : Fin 31, k.val < p → k.val ≠ 0 → cnt [((k.val : Nat) : Int), 0, 1] p p = if rootsL (-((k.val : Nat) : Int)) 2 p ≠ [] then 2 else 0 := by decide +kernel
theorem rootsL_mod (c : Int) (p : Nat) : rootsL (-c) 2 p = rootsL (-(c % (p : Int))) 2 p := by
  unfold rootsL
  congr 1
  refine List.filter_congr fun r _ => ?_
  have h : -c % (p : Int) = -(c % (p : Int)) % (p : Int) := Int.emod_eq_emod_iff_emod_sub_eq_zero.mpr (Int.emod_eq_zero_of_dvd ⟨-(c / p), by rw [Int.mul_neg]; have := Int.mul_ediv_add_emod c p; omega⟩)
  rw [h]
theorem nW_root {c : Int} {p : Nat} (h : SqP c p) : nW c p = if hasRoot c p = true then 2 else 0 := by
  unfold nW hasRoot
  obtain ⟨_, sp, hc, _, _⟩ := h
  by_cases h2 : p = 2
  · rw [if_pos h2, if_pos h2]
    by_cases h7 : c % 8 = 7
    · rw [if_pos h7, decide_eq_true h7, if_pos rfl]
    · rw [if_neg h7, decide_eq_false h7, if_neg Bool.false_ne_true]
  · rw [if_neg h2, if_neg h2]
    have p2 := sp.two
    have m0 := Int.emod_nonneg c (show (p : Int) ≠ 0 by omega)
    have m1 := Int.emod_lt_of_pos c (show 0 < (p : Int) by omega)
    have := cnt_all p (by rcases sp with rfl | rfl | rfl | rfl | rfl | rfl <;> first | exact absurd rfl h2 | decide) ⟨(c % (p : Int)).toNat, by omega⟩ (by show (c % (p : Int)).toNat < p; omega) (by show (c % (p : Int)).toNat ≠ 0; omega)
    rw [cnt_mod, rootsL_mod]
    have e : (((c % (p : Int)).toNat : Nat) : Int) = c % (p : Int) := by omega
    have this : cnt [(((c % (p : Int)).toNat : Nat) : Int), 0, 1] p p = if rootsL (-(((c % (p : Int)).toNat : Nat) : Int)) 2 p ≠ [] then 2 else 0 := this
    rw [e] at this
    rw [this]
    by_cases hr : rootsL (-(c % (p : Int))) 2 p ≠ []
    · rw [if_pos hr, decide_eq_true hr, if_pos rfl]
    · rw [if_neg hr, decide_eq_false hr, if_neg Bool.false_ne_true]
theorem SmallP.prime {p : Nat} (h : SmallP p) : PrimeN p := by
  have f : ∀ q ∈ [2, 3, 5, 7, 11, 31], ∀ d : Fin 32, d.val ∣ q → d.val = 1 ∨ d.val = q := by decide
  have hm : p ∈ [2, 3, 5, 7, 11, 31] := by rcases h with rfl | rfl | rfl | rfl | rfl | rfl <;> decide
  refine ⟨h.two.1, fun d hd => f p hm ⟨d, ?_⟩ hd⟩
  have := Nat.le_of_dvd (by have := h.two.1; omega) hd
  have := h.two.2
  omega
def dpt (p : Nat) : Nat := if p = 2 then 1 else 0
/-- a tuple of whole numbers -/
def TpAt (H : Hp) (v : V) (ns : List Int) : Prop := ∃ t, v = V.ref t ∧ H t = some (.tup (iv ns))
theorem TpAt.same {H H' : Hp} {v : V} {ns : List Int} (s : Same H H') : TpAt H v ns → TpAt H' v ns := fun ⟨t, e, h⟩ => ⟨t, e, s _ _ h⟩
theorem TpAt.wr {H : Hp} {v : V} {ns : List Int} {q : Addr} {xs ys : List V} (hq : H q = some (.lst xs)) : TpAt H v ns → TpAt (upd H q (.lst ys)) v ns := fun ⟨t, e, h⟩ => ⟨t, e, by rw [upd_ne (ne_of h hq (fun z => by cases z))]; exact h⟩
theorem dpTps {K : PySem.W.Frag} {H : Hp} {ns : List Int} : ∀ {ys : List V}, (∀ y ∈ ys, TpAt H y ns) → DpAll K H ys (List.replicate ys.length (.tuple (ns.map PyData.int)))
  | [], _ => .nil
  | y :: ys, h => by
    obtain ⟨t, rfl, ht⟩ := h y List.mem_cons_self
    exact .cons (.tup (SqT.of ht) (dpInts ns)) (dpTps fun x hx => h x (List.mem_cons_of_mem _ hx))
section
variable {P : Program} {w : World} {K : PySem.W.Frag} {mg : Str → Option Value} {base : Heap} {CK CW : Addr}
def sp_check_at (_K : PySem.W.Frag) : Sp := fun vs H Q _ => ∃ (a : Addr) (c : Int) (p : Nat), vs = [.ref a, .int p] ∧ H a = some (.tup (iv [c, 0, 1])) ∧ SqP c p ∧ ∀ H', Same H H' → Q .non H'
theorem ok_check_at (T : Txt K mg CK CW) : Ok P w K mg base 5 "check_at" ["terms", "prime"] (sp_check_at K) := by
  refine T.d_check_at.ok (k := 4) sc_check_at (fun _ _ _ _ _ _ us hl => match us, hl with | [_, _], _ => rfl) (fun vs H Q E h => ?_) (fun f cdv A outer s H vs Q E hr h => ?_)
  · obtain ⟨_, _, _, rfl, _⟩ := h
    rfl
  · obtain ⟨a, c, p, rfl, hA, hs, q⟩ := h
    have p2 := hs.sp.two
    have b0 := hs.b0
    have b1 := hs.b1
    refine ⟨_, (pss_cons (ps_expr (pe_ok (ok_check_some_sum T) (hr.mono (by decide)) (by rfl) (pa_cons (pv 0) pa_nil)))
      (pss_one (ps_expr (pe_ok (ok_check_prime T) (hr.mono (by decide)) (by rfl) (pa_cons (pv 1) pa_nil))))), ?_⟩
    refine ⟨_, rfl, a, [c, 0, 1], rfl, hA, ⟨by simp, by simp, fun z hz => ?_, 1, rfl, by decide⟩, fun H1 s1 => ?_⟩
    · simp at hz
      rcases hz with rfl | rfl | rfl <;> omega
    · refine ⟨_, rfl, p, rfl, by omega, by omega, fun s h0 h1 h2 hm => ?_, fun H2 s2 => q _ (s1.trans s2)⟩
      obtain ⟨n, rfl⟩ : ∃ n : Nat, s = n := ⟨s.toNat, by omega⟩
      have hd : n ∣ p := Int.natCast_dvd_natCast.mp (Int.dvd_of_emod_eq_zero hm)
      rcases hs.sp.prime.2 n hd with h | h <;> omega
def sp_told_count (_K : PySem.W.Frag) : Sp := fun vs H Q _ => ∃ (a : Addr) (p : Nat) (e : Int) (ys : List V), vs = [.ref a, .int p, .int e] ∧ H a = some (.tup ys) ∧ (∀ y ∈ ys, TpAt H y [dpt p, 1]) ∧ 2 ≤ p ∧ p ≤ 31 ∧ ∀ z, Q (.int z) H
theorem dpt_le (p : Nat) : dpt p ≤ 1 := by
  unfold dpt
  split <;> omega
theorem ok_told_count (T : Txt K mg CK CW) : Ok P w K mg base 2 "told_count" ["pairs", "prime", "often"] (sp_told_count K) := by
  refine T.d_told_count.ok (k := 1) sc_told_count (fun _ _ _ _ _ _ us hl => match us, hl with | [_, _, _], _ => rfl) (fun vs H Q E h => ?_) (fun f cdv A outer s H vs Q E hr h => ?_)
  · obtain ⟨_, _, _, _, rfl, _⟩ := h
    rfl
  · obtain ⟨a, p, e, ys, rfl, hA, hys, p2, p3, q⟩ := h
    have d1 := dpt_le p
    refine ⟨_, (pss_cons (ps_set (i := 3) sc_told_count.nd rfl (.inl rfl) pe_int)
      (pss_cons (ps_for PassesOwn.never rfl (pi_tup (pv 0)) (pg_tup rfl (pgs_cons (pg_name (i := 4) sc_told_count.nd rfl (.inl rfl)) (pgs_cons (pg_name (i := 5) sc_told_count.nd rfl (.inl rfl)) pgs_nil))) (pss_cons (ps_set (i := 6) sc_told_count.nd rfl (.inl rfl) (pe_op op_add (pv 2) (pe_op op_fdiv (pe_op op_sub (pv 4) (pv 2)) (pv 5))))
      (pss_cons (ps_if (pt_cmpR op_lt (pv 6) pe_int (nomark _)) (pss_one (ps_ret pe_non)) pss_nil)
      (pss_one (ps_set (i := 3) sc_told_count.nd rfl (.inl rfl) (pe_op op_add (pv 3) (pe_ok (ok_raised T) (hr.mono (by decide)) (by rfl) (pa_cons (pv 1) (pa_cons (pv 6) pa_nil)))))))))
      (pss_one (ps_ret (pv 3))))), ?_⟩
    refine ⟨_, rfl, a, rfl, ⟨_, SqT.of hA⟩, for_tup (a := a) (xs := ys) (K := K) (fun i σ H' => ∃ (z : Int) (z4 z5 z6 : Option V), σ = [some (.ref a), some (.int p), some (.int e), some (.int z), z4, z5, z6] ∧ H' = H)
      ⟨0, none, none, none, rfl, rfl⟩ (fun i σ H' _ ⟨_, _, _, _, _, h⟩ => by rw [h]; exact SqT.of hA) ?_ ?_⟩
    · rintro i x σ H1 hi ⟨z, z4, z5, z6, rfl, rfl⟩
      obtain ⟨t, rfl, ht⟩ := hys _ (List.mem_of_getElem? hi)
      refine ⟨t, _, rfl, SqT.of ht, rfl, _, _, rfl, _, _, rfl, rfl, ?_⟩
      refine ⟨_, rfl, _, rfl, _, rfl, _, _, rfl, rfl, _, rfl, _, _, rfl, rfl, ⟨by decide, by decide⟩, _, _, rfl, rfl, ?_⟩
      have hpow : e + ((dpt p : Int) - e) / 1 = (dpt p : Int) := by
        rw [Int.ediv_one]
        omega
      refine ⟨_, rfl, _, _, rfl, rfl, _, rfl, itDF (by show ¬ e + ((dpt p : Int) - e) / 1 < 0; rw [hpow]; omega) ?_⟩
      refine ⟨_, rfl, _, rfl, _, rfl, p, dpt p, congrArg (fun z => [V.int p, V.int z]) hpow, by omega, by omega, ?_, ?_⟩
      · rw [Int.toNat_natCast]
        have a1 : p ^ dpt p ≤ p ^ 1 := Nat.pow_le_pow_right (by omega) d1
        have a3 : ((p ^ dpt p : Nat) : Int) = (p : Int) ^ dpt p := Int.natCast_pow p _
        rw [Nat.pow_one] at a1
        omega
      · exact ⟨_, _, rfl, rfl, _, _, _, _, rfl, rfl⟩
    · rintro σ H1 ⟨z, z4, z5, z6, rfl, rfl⟩
      exact ⟨_, rfl, q z⟩
theorem WyOk.dp {p : Nat} {wy : Wy} (h : WyOk p wy) : wy.deep = (dpt p : Int) := by
  rw [h.e]
  unfold dpt
  split <;> rfl
theorem ev_sm {c : Int} {p : Nat} (h : SqP c p) {e : Nat} (he : e ≤ 2) : FOk p e [c, 0, 1] := by
  have p2 := h.sp.two
  have b0 := h.b0
  have b1 := h.b1
  refine ⟨h.sp.prime, ?_, by simp, by simp, fun t ht => ?_⟩
  · have a1 : p ^ (e + 1) ≤ p ^ 3 := Nat.pow_le_pow_right (by omega) (by omega)
    have a2 : p ^ 3 ≤ 31 ^ 3 := Nat.pow_le_pow_left (by omega) 3
    omega
  · simp at ht
    rcases ht with rfl | rfl | rfl <;> omega
theorem nW_le {c : Int} {p : Nat} (h : SqP c p) : nW c p ≤ 2 := by
  rw [nW_root h]
  split <;> omega
def sp_rule_of (_K : PySem.W.Frag) : Sp := fun vs H Q _ => ∃ (a : Addr) (c : Int) (p : Nat), vs = [.ref a, .int p] ∧ H a = some (.tup (iv [c, 0, 1])) ∧ SqP c p ∧
  ∀ H' u pr ys (b : Int), Same H H' → H' u = some (.tup [.int b, .ref pr]) → H' pr = some (.tup ys) → ys.length = nW c p → (∀ y ∈ ys, TpAt H' y [dpt p, 1]) → Q (.ref u) H'
theorem ok_rule_of (T : Txt K mg CK CW) : Ok P w K mg base 8 "rule_of" ["terms", "prime"] (sp_rule_of K) := by
  refine T.d_rule_of.ok (k := 7) sc_rule_of (fun _ _ _ _ _ _ us hl => match us, hl with | [_, _], _ => rfl) (fun vs H Q E h => ?_) (fun f cdv A outer s H vs Q E hr h => ?_)
  · obtain ⟨_, _, _, rfl, _⟩ := h
    rfl
  · obtain ⟨a, c, p, rfl, hA, hs, q⟩ := h
    have p2 := hs.sp.two
    have n2 := nW_le hs
    have d1 := dpt_le p
    refine ⟨_, (pss_cons (ps_asg (pe_ok (ok_ways_and_bound T) (hr.mono (by decide)) (by rfl) (pa_cons (pv 0) (pa_cons (pv 1) pa_nil))) (pg_tup rfl (pgs_cons (pg_name (i := 2) sc_rule_of.nd rfl (.inl rfl)) (pgs_cons (pg_name (i := 3) sc_rule_of.nd rfl (.inl rfl)) pgs_nil))))
      (pss_cons (ps_set (i := 4) sc_rule_of.nd rfl (.inl rfl) (pe_tupleOf (by rfl) T.b_tuple (pe_callB (cr_sortT (d := 2) (B := 2 ^ 60) (by decide)) (by rfl) T.b_sorted (by decide +kernel) (pa_cons (pe_lc (own := [("way", 5)]) (te := tTup (tCons (tFld K (tVar 5) "deep") (tCons (tFld K (tVar 5) "often") tNil))) (g := (gName 5)) rfl sc_rule_of.nd (pi_list (pv 2)) (blkOk_by (own := [("way", 5)]) (N := ["terms", "prime", "ways", "bound", "pairs", "way"]) (sc := defScope s_rule_of) (by decide +kernel)) (fun _ _ _ _ _ => (pg_name (i := 5) sc_rule_of.nd rfl (.inl rfl))) (fun _ _ _ _ _ => pts_nil) (fun _ _ _ _ _ => (pe_tup (pa_cons (pe_fld (pv 5) rfl) (pa_cons (pe_fld (pv 5) rfl) pa_nil))))) pa_nil))))
      (pss_cons (ps_while PassesOwn.never (PW.pt (pw_and (pt_cmpR op_gt (pv 3) pe_int (nomark _)) (pw_and1 (pt_cmpR op_eq (pe_ok (ok_count_for T) (hr.mono (by decide)) (by rfl) (pa_cons (pv 0) (pa_cons (pv 1) (pa_cons (pe_op op_sub (pv 3) pe_int) pa_nil)))) (pe_ok (ok_told_count T) (hr.mono (by decide)) (by rfl) (pa_cons (pv 4) (pa_cons (pv 1) (pa_cons (pe_op op_sub (pv 3) pe_int) pa_nil)))) (nomark _))))) (pss_one (ps_set (i := 3) sc_rule_of.nd rfl (.inl rfl) (pe_op op_sub (pv 3) pe_int))))
      (pss_one (ps_ret (pe_tup (pa_cons (pv 3) (pa_cons (pv 4) pa_nil)))))))), ?_⟩
    refine ⟨_, rfl, _, rfl, a, c, p, rfl, hA, hs, fun H1 u fo xs ws b s1 hb hu hfo hxs hok hn => ?_⟩
    refine ⟨u, _, rfl, SqT.of hu, rfl, _, _, rfl, _, _, rfl, rfl, ?_⟩
    have hlen := Paired.length hxs
    refine ⟨_, rfl, fo, rfl, ⟨_, SqL.of hfo⟩, fun D hD => lc_list (K := K) (a := fo) (xs := xs) (fun i H' => Same H1 H' ∧ ∃ acc, H' D = some (.lst acc) ∧ acc.length = i ∧ ∀ y ∈ acc, TpAt H' y [dpt p, 1]) ⟨same_upd hD, [], upd_same, rfl, by simp⟩ (fun i H' _ h => SqL.of (h.1 _ _ hfo)) ?_ ?_⟩
    · rintro i x H2 hi ⟨s2, acc, e2, hl, ha⟩
      have ilt := (List.getElem?_eq_some_iff.mp hi).1
      obtain ⟨wy, hw, y, dx, k, t, rfl, hy, _⟩ := pairedGet hxs hi
      have wok := hok _ (List.mem_of_getElem? hw)
      refine ⟨rfl, _, rfl, y, CW, dx, _, _, rfl, s2 _ _ hy, T.wcl, T.w_deep, rfl, _, rfl, y, CW, dx, _, _, rfl, s2 _ _ hy, T.wcl, T.w_often, rfl, by show 2 ≤ sizeLine; decide, fun t' nt' => ?_⟩
      have s3 := same_upd (o := .tup [.int wy.deep, .int 1]) nt'
      have e3 := s3 _ _ e2
      refine ⟨acc, e3, small1000 (by omega), (s2.trans s3).wr hD, _, upd_same, by rw [List.length_append, hl]; rfl, fun y hy => ?_⟩
      rcases List.mem_append.mp hy with hy | hy
      · exact ((ha y hy).same s3).wr e3
      · rw [List.mem_singleton.mp hy]
        refine TpAt.wr e3 ⟨t', rfl, ?_⟩
        rw [upd_same, wok.dp]
        rfl
    · rintro H2 ⟨s2, acc, e2, hl, ha⟩
      refine ⟨D, acc, rfl, SqL.of e2, by omega, fun x hx => ?_, fun ys so hperm _ nso => ?_⟩
      · obtain ⟨t, rfl, ht⟩ := ha x hx
        refine ⟨_, ⟨t, rfl, SqT.of ht⟩, rfl, fun m hm => ?_⟩
        simp at hm
        rcases hm with rfl | rfl
        · refine ⟨by omega, ?_⟩
          have : (2 : Int) ^ 60 = 1152921504606846976 := by decide
          omega
        · decide
      · have s3 := same_upd (o := .lst ys) nso
        refine .inl ⟨so, ys, rfl, SqL.of upd_same, fun pr npr => ?_⟩
        have s4 := same_upd (o := .tup ys) npr
        have s34 := s3.trans s4
        have hys : ∀ y ∈ ys, TpAt (upd (upd H2 so (.lst ys)) pr (.tup ys)) y [dpt p, 1] := fun y hy => (ha y (hperm.mem_iff.mp hy)).same s34
        have hyl : ys.length = nW c p := by rw [hperm.length_eq, hl, hlen, hn]
        have s04 := (s1.trans s2).trans s34
        refine ⟨fun m σ H' => ∃ b : Nat, m = b ∧ b ≤ 3 ∧ σ = [some (.ref a), some (.int p), some (.ref fo), some (.int b), some (.ref pr), none] ∧ Same H H' ∧ H' pr = some (.tup ys) ∧ ∀ y ∈ ys, TpAt H' y [dpt p, 1], ⟨b, b, rfl, hb, rfl, s04, upd_same, hys⟩, ?_⟩
        rintro m σ H3 ⟨b2, rfl, hb2, rfl, s5, hpr, hys3⟩
        have fin : ∀ H4, Same H3 H4 → _ := fun H4 s6 => (⟨_, rfl, _, rfl, by show 2 ≤ sizeLine; decide, fun u2 nu2 => q _ u2 pr ys m ((s5.trans s6).lay nu2) upd_same (same_upd nu2 _ _ (s6 _ _ hpr)) hyl fun y hy => ((hys3 y hy).same s6).same (same_upd nu2)⟩ :
          (tRet (tTup (tCons (tVar 3) (tCons (tVar 4) tNil)))) { nx := fun _ H' => Q .non H', rt := Q } [some (.ref a), some (.int p), some (.ref fo), some (.int m), some (.ref pr), none] H4)
        refine ⟨_, rfl, _, _, rfl, rfl, _, rfl, it2 (fun h0 => ?_) (fun h0 => iteF (fin _ (Same.refl _)))⟩
        have h0 : 0 < m := by omega
        have eb : (m : Int) - 1 = ((m - 1 : Nat) : Int) := by omega
        refine ⟨_, rfl, _, rfl, _, rfl, _, _, rfl, rfl, a, p, m - 1, [c, 0, 1], congrArg (fun z => [V.ref a, V.int p, V.int z]) eb, SqT.of (s5 _ _ hA), ev_sm hs (by omega), fun H4 s6 => ?_⟩
        refine ⟨_, rfl, _, rfl, _, rfl, _, _, rfl, rfl, pr, p, (m : Int) - 1, ys, rfl, s6 _ _ hpr, fun y hy => (hys3 y hy).same s6, p2.1, p2.2, fun z => ⟨rfl, _, rfl, ?_⟩⟩
        refine itV2 (fun _ => ?_) (fun _ => fin _ s6)
        refine ⟨fun σ' H' => ∃ m', m' < m ∧ _, fun _ _ h => h, ?_⟩
        exact ⟨_, rfl, _, _, rfl, rfl, m - 1, by omega, m - 1, rfl, by omega, by rw [← eb]; rfl, s5.trans s6, s6 _ _ hpr, fun y hy => (hys3 y hy).same s6⟩
def sp_endless (_K : PySem.W.Frag) : Sp := fun vs H Q _ => ∃ (a : Addr) (c : Int) (p : Nat), vs = [.ref a, .int p, .int 9] ∧ H a = some (.tup (iv [c, 0, 1])) ∧ SqP c p ∧
  ∀ H' pr ys, Same H H' → H' pr = some (.tup ys) → ys.length = nW c p → (∀ y ∈ ys, ∃ z, TpAt H' y [z, 1, dpt p]) → Q (.ref pr) H'
theorem ok_endless (T : Txt K mg CK CW) : Ok P w K mg base 8 "endless" ["terms", "prime", "often"] (sp_endless K) := by
  refine T.d_endless.ok (k := 7) sc_endless (fun _ _ _ _ _ _ us hl => match us, hl with | [_, _, _], _ => rfl) (fun vs H Q E h => ?_) (fun f cdv A outer s H vs Q E hr h => ?_)
  · obtain ⟨_, _, _, rfl, _⟩ := h
    rfl
  · obtain ⟨a, c, p, rfl, hA, hs, q⟩ := h
    have p2 := hs.sp.two
    have n2 := nW_le hs
    have d1 := dpt_le p
    refine ⟨_, (pss_cons (ps_expr (pe_ok (ok_check_at T) (hr.mono (by decide)) (by rfl) (pa_cons (pv 0) (pa_cons (pv 1) pa_nil))))
      (pss_cons (ps_expr (pe_ok (ok_check_often T) (hr.mono (by decide)) (by rfl) (pa_cons (pv 2) pa_nil)))
      (pss_cons (ps_set (i := 3) sc_endless.nd rfl (.inl rfl) (pe_ix ix_tup (pe_ok (ok_ways_and_bound T) (hr.mono (by decide)) (by rfl) (pa_cons (pv 0) (pa_cons (pv 1) pa_nil))) pe_int (fun _ _ => rfl)))
      (pss_one (ps_ret (pe_tupleOf (by rfl) T.b_tuple (pe_callB (cr_sortT (d := 3) (B := 2 ^ 60) (by decide)) (by rfl) T.b_sorted (by decide +kernel) (pa_cons (pe_lc (own := [("way", 4)]) (te := tTup (tCons (tMeth CW "rest_by" (sp_Way_rest_by K CK CW) [] E0 (tVar 4) (tCons (tVar 1) (tCons (tVar 2) tNil))) (tCons (tFld K (tVar 4) "often") (tCons (tFld K (tVar 4) "deep") tNil)))) (g := (gName 4)) rfl sc_endless.nd (pi_list (pv 3)) (blkOk_by (own := [("way", 4)]) (N := ["terms", "prime", "often", "ways", "way"]) (sc := defScope s_endless) (by decide +kernel)) (fun _ _ _ _ _ => (pg_name (i := 4) sc_endless.nd rfl (.inl rfl))) (fun _ _ _ _ _ => pts_nil) (fun _ _ _ _ _ => (pe_tup (pa_cons (pe_methO (pv 4) T.wcl (ok_Way_rest_by T) (hr.mono (by decide)) (pa_cons (pv 1) (pa_cons (pv 2) pa_nil))) (pa_cons (pe_fld (pv 4) rfl) (pa_cons (pe_fld (pv 4) rfl) pa_nil)))))) pa_nil)))))))), ?_⟩
    refine ⟨_, rfl, _, rfl, a, c, p, rfl, hA, hs, fun H0 s0 => ?_⟩
    refine ⟨_, rfl, 9, rfl, by decide, by decide, ?_⟩
    refine ⟨_, rfl, _, rfl, a, c, p, rfl, s0 _ _ hA, hs, fun H1 u fo xs ws b s1 hb hu hfo hxs hok hn => ?_⟩
    refine ⟨u, _, _, _, rfl, rfl, SqT.of hu, rfl, ?_⟩
    have hlen := Paired.length hxs
    refine ⟨_, rfl, fo, rfl, ⟨_, SqL.of hfo⟩, fun D hD => lc_list (K := K) (a := fo) (xs := xs) (fun i H' => Same H1 H' ∧ ∃ acc, H' D = some (.lst acc) ∧ acc.length = i ∧ ∀ y ∈ acc, ∃ z, 0 ≤ z ∧ z < 1152921504606846976 ∧ TpAt H' y [z, 1, dpt p]) ⟨same_upd hD, [], upd_same, rfl, by simp⟩ (fun i H' _ h => SqL.of (h.1 _ _ hfo)) ?_ ?_⟩
    · rintro i x H2 hi ⟨s2, acc, e2, hl, ha⟩
      have ilt := (List.getElem?_eq_some_iff.mp hi).1
      obtain ⟨wy, hw, hwy⟩ := pairedGet hxs hi
      have hwy0 := hwy
      obtain ⟨y, dx, k, t, rfl, hy, _⟩ := hwy
      have wok := hok _ (List.mem_of_getElem? hw)
      refine ⟨rfl, _, rfl, y, dx, _, rfl, s2 _ _ hy, rfl, _, rfl, _, rfl, .ref y, wy, p, rfl, hwy0.same s2, wok, hs.sp.prime, p2.2, fun H3 z s3 z0 z1 => ?_⟩
      have hy3 := s3 _ _ (s2 _ _ hy)
      refine ⟨_, rfl, y, CW, dx, _, _, rfl, hy3, T.wcl, T.w_often, rfl, _, rfl, y, CW, dx, _, _, rfl, hy3, T.wcl, T.w_deep, rfl, by show 3 ≤ sizeLine; decide, fun t' nt' => ?_⟩
      have s4 := same_upd (o := .tup [.int z, .int 1, .int wy.deep]) nt'
      have s34 := s3.trans s4
      have e3 := s34 _ _ e2
      refine ⟨acc, e3, small1000 (by omega), (s2.trans s34).wr hD, _, upd_same, by rw [List.length_append, hl]; rfl, fun y hy => ?_⟩
      rcases List.mem_append.mp hy with hy | hy
      · obtain ⟨z', a0, a1, a2⟩ := ha y hy
        exact ⟨z', a0, a1, (a2.same s34).wr e3⟩
      · rw [List.mem_singleton.mp hy]
        refine ⟨z, z0, z1, TpAt.wr e3 ⟨t', rfl, ?_⟩⟩
        rw [upd_same, wok.dp]
        rfl
    · rintro H2 ⟨s2, acc, e2, hl, ha⟩
      refine ⟨D, acc, rfl, SqL.of e2, by omega, fun x hx => ?_, fun ys so hperm _ nso => ?_⟩
      · obtain ⟨z, z0, z1, t, rfl, ht⟩ := ha x hx
        refine ⟨_, ⟨t, rfl, SqT.of ht⟩, rfl, fun m hm => ?_⟩
        have : (2 : Int) ^ 60 = 1152921504606846976 := by decide
        simp at hm
        rcases hm with rfl | rfl | rfl
        · exact ⟨z0, by omega⟩
        · decide
        · exact ⟨by omega, by omega⟩
      · have s3 := same_upd (o := .lst ys) nso
        refine .inl ⟨so, ys, rfl, SqL.of upd_same, fun pr npr => ?_⟩
        have s4 := same_upd (o := .tup ys) npr
        have s34 := s3.trans s4
        refine q _ pr ys (((s0.trans s1).trans s2).trans s34) upd_same (by rw [hperm.length_eq, hl, hlen, hn]) fun y hy => ?_
        obtain ⟨z, _, _, a2⟩ := ha y (hperm.mem_iff.mp hy)
        exact ⟨z, a2.same s34⟩
def sp_has_all_powers (_K : PySem.W.Frag) : Sp := fun vs H Q _ => ∃ (a : Addr) (c : Int) (p : Nat), vs = [.ref a, .int p] ∧ H a = some (.tup (iv [c, 0, 1])) ∧ SqP c p ∧ ∀ H', Same H H' → Q (.bl (hasRoot c p)) H'
theorem ok_has_all_powers (T : Txt K mg CK CW) : Ok P w K mg base 8 "has_all_powers" ["terms", "prime"] (sp_has_all_powers K) := by
  refine T.d_has_all_powers.ok (k := 7) sc_has_all_powers (fun _ _ _ _ _ _ us hl => match us, hl with | [_, _], _ => rfl) (fun vs H Q E h => ?_) (fun f cdv A outer s H vs Q E hr h => ?_)
  · obtain ⟨_, _, _, rfl, _⟩ := h
    rfl
  · obtain ⟨a, c, p, rfl, hA, hs, q⟩ := h
    refine ⟨_, (pss_cons (ps_expr (pe_ok (ok_check_at T) (hr.mono (by decide)) (by rfl) (pa_cons (pv 0) (pa_cons (pv 1) pa_nil))))
      (pss_one (ps_ret (pe_cmpR (op_neNil hr.units0) (pe_ix ix_tup (pe_ok (ok_ways_and_bound T) (hr.mono (by decide)) (by rfl) (pa_cons (pv 0) (pa_cons (pv 1) pa_nil))) pe_int (fun _ _ => rfl)) (pe_lst pa_nil) (nomark _))))), ?_⟩
    refine ⟨_, rfl, _, rfl, a, c, p, rfl, hA, hs, fun H0 s0 => ?_⟩
    refine ⟨_, rfl, _, rfl, a, c, p, rfl, s0 _ _ hA, hs, fun H1 u fo xs ws b s1 hb hu hfo hxs hok hn => ?_⟩
    refine ⟨u, _, _, _, rfl, rfl, SqT.of hu, rfl, by show 0 ≤ sizeLine; decide, fun z nz => ?_⟩
    have s2 := same_upd (o := .lst []) nz
    refine ⟨fo, z, xs, rfl, rfl, SqL.of (s2 _ _ hfo), SqL.of upd_same, ?_⟩
    have hlen := Paired.length hxs
    rw [hn, nW_root hs] at hlen
    have e : (if true = true then !xs.isEmpty else xs.isEmpty) = hasRoot c p := by
      rw [if_pos rfl]
      cases hh : hasRoot c p with
      | true =>
        rw [hh, if_pos rfl] at hlen
        cases xs with
        | nil => cases hlen
        | cons => rfl
      | false =>
        rw [hh, if_neg Bool.false_ne_true] at hlen
        cases xs with
        | nil => rfl
        | cons => cases hlen
    rw [e]
    exact q _ ((s0.trans s1).trans s2)
theorem shapedTps (n : Nat) (d : Nat) (h : n ≤ 2) : SeqAt.shaped (.tuple (List.replicate n (.tuple ([(d : Int), 1].map PyData.int)))) = true := by
  match n, h with
  | 0, _ => rfl
  | 1, _ => rfl
  | 2, _ => rfl
def sp_first_power_without (_K : PySem.W.Frag) : Sp := fun vs H Q _ => ∃ (a : Addr) (c : Int) (p : Nat), vs = [.ref a, .int p] ∧ H a = some (.tup (iv [c, 0, 1])) ∧ SqP c p ∧ ∀ H' v, Same H H' → ((hasRoot c p = true ∧ v = .non) ∨ (hasRoot c p = false ∧ ∃ b : Int, v = .int b)) → Q v H'
theorem ok_first_power_without (T : Txt K mg CK CW) : Ok P w K mg base 9 "first_power_without" ["terms", "prime"] (sp_first_power_without K) := by
  refine T.d_first_power_without.ok (k := 8) sc_first_power_without (fun _ _ _ _ _ _ us hl => match us, hl with | [_, _], _ => rfl) (fun vs H Q E h => ?_) (fun f cdv A outer s H vs Q E hr h => ?_)
  · obtain ⟨_, _, _, rfl, _⟩ := h
    rfl
  · obtain ⟨a, c, p, rfl, hA, hs, q⟩ := h
    refine ⟨_, (pss_cons (ps_expr (pe_ok (ok_check_at T) (hr.mono (by decide)) (by rfl) (pa_cons (pv 0) (pa_cons (pv 1) pa_nil))))
      (pss_cons (ps_asg (pe_ok (ok_rule_of T) (hr.mono (by decide)) (by rfl) (pa_cons (pv 0) (pa_cons (pv 1) pa_nil))) (pg_tup rfl (pgs_cons (pg_name (i := 2) sc_first_power_without.nd rfl (.inl rfl)) (pgs_cons (pg_name (i := 3) sc_first_power_without.nd rfl (.inl rfl)) pgs_nil))))
      (pss_one (ps_ret (pe_ifExp (pt_cmpR (op_eqD hr.units) (pv 3) (pe_tup pa_nil) (nomark _)) (pv 2) pe_non))))), ?_⟩
    refine ⟨_, rfl, _, rfl, a, c, p, rfl, hA, hs, fun H0 s0 => ?_⟩
    refine ⟨_, rfl, _, rfl, a, c, p, rfl, s0 _ _ hA, hs, fun H1 u pr ys b s1 hu hpr hn hys => ?_⟩
    refine ⟨u, _, rfl, SqT.of hu, rfl, _, _, rfl, _, _, rfl, rfl, ?_⟩
    refine ⟨_, rfl, by show 0 ≤ sizeLine; decide, fun z nz => ?_⟩
    have s2 := same_upd (o := .tup []) nz
    have s02 := (s0.trans s1).trans s2
    refine ⟨_, _, .tup (SqT.of (s2 _ _ hpr)) (dpTps fun y hy => (hys y hy).same s2), .tup (SqT.of upd_same) .nil, ?_, rfl, _, rfl, ?_⟩
    · exact shapedTps _ _ (by rw [hn]; exact nW_le hs)
    · rw [hn, nW_root hs]
      cases hh : hasRoot c p with
      | true => exact iteF (q _ _ s02 (.inl ⟨hh, rfl⟩))
      | false => exact iteT ⟨_, rfl, q _ _ s02 (.inr ⟨hh, b, rfl⟩)⟩
end
end RW

set_option maxHeartbeats 4000000
namespace RW
open PySem PySem.Spec PyProof.Rows L2
/-! ### a tuple times none or one -/
theorem times1 (l : Addr) (its : Array Value) (n : Nat) (dd : Option Addr) (sl : Array (Option Value)) (u : Tok) :
    Meets (Builtin.«tuple.__mul__» ⟨[.ref l, .int 1 u], []⟩) (fun _ R s => s.heap.get? l = some { cls := .type "tuple", dict := dd, data := .seq its n, slots := sl } ∧ R (.ok (.ret (.ref l))) s) :=
  .of_wp fun prog w A R s h => by
    obtain ⟨hp, g, d, tk, os⟩ := s
    obtain ⟨hget, h⟩ := h
    have aa := AutoSeq1.idx_int
    (wp_walk using wpAny_loadPart' hget)
    exact ⟨_, rfl, h⟩
theorem times0 (l : Addr) (its : Array Value) (n : Nat) (dd : Option Addr) (sl : Array (Option Value)) (u : Tok) (c1 : (its.isEmpty || (0 : Int) == 1) = false) :
    Meets (Builtin.«tuple.__mul__» ⟨[.ref l, .int 0 u], []⟩) (fun _ R s => s.heap.get? l = some { cls := .type "tuple", dict := dd, data := .seq its n, slots := sl } ∧ R (.ok (.ret (.ref s.heap.objs.size))) { s with heap := s.heap.push { cls := .type "tuple", data := .seq #[] } }) :=
  .of_wp fun prog w A R s h => by
    obtain ⟨hp, g, d, tk, os⟩ := s
    obtain ⟨hget, h⟩ := h
    have aa := AutoSeq1.idx_int
    (wp_walk using wpAny_loadPart' hget)
    refine wpAny_ite_false (decide_eq_false (fun e => by rw [c1] at e; cases e)) ?_
    (wp_walk using wpAny_loadPart' hget)
    exact ⟨_, rfl, h⟩
section
variable {X : Cx}
/-- a tuple times k, k from 0: times 1 it is itself -/
def rRepS (K : PySem.W.Frag) : R2 := fun x y H Q => ∃ l k xs, x = .ref l ∧ y = .int k ∧ SqT K H l xs ∧ xs ≠ [] ∧ 0 ≤ k ∧ k ≤ 1000 ∧ xs.length ≤ 1000 ∧ (k = 1 → Q (.ref l) H) ∧ (k ≠ 1 → ∀ p, H p = none → Q (.ref p) (upd H p (.tup (List.replicate k.toNat xs).flatten)))
theorem op_repA : OpR X (binaryOp .Mult) (rRepS X.K) := by
  intro pins s σ H x y v u Q I rx ry h
  obtain ⟨l, k, xs, rfl, rfl, hT, hne, h1, h2, hz, q1, q2⟩ := h
  by_cases k2 : 2 ≤ k
  · exact op_repT pins s σ H _ _ v u Q I rx ry ⟨l, k, xs, rfl, rfl, hT, hne, k2, h2, hz, q2 (by omega)⟩
  obtain rfl : v = .ref l := rx
  obtain ⟨tk, rfl⟩ := ry
  obtain ⟨its, r, ⟨⟨cls, dd, data, sl⟩, ho, hc, n, hd⟩, hs⟩ := I.tuple hT
  simp only at hc hd
  subst hc hd
  have hi : its.toArray.isEmpty = false := by
    cases its with
    | nil =>
      cases r
      exact absurd rfl hne
    | cons a b => rfl
  have tl : s.TypeIs (.ref l) "tuple" := ⟨_, ho, rfl⟩
  by_cases k1 : k = 1
  · subst k1
    exact wpAny_binaryOp_repeat_ref (T := "tuple") (U := "int") (by decide) tl (fun z => typeIs_int z 1 tk) noFill_tuple_mul F.fills_int_mul F.slot_int_rmul repeat_tuple F.slot_int_index.lookup
      (call_meets F.slot_int_rmul (typeIs_int s 1 tk) F.entry_int_rmul (F.args_int_rmul_2 _ _) (int_rmul_tuple 1 tk l its.toArray n dd sl) ⟨ho, rfl, tl, call_meets F.slot_tuple_mul tl F.entry_tuple_mul (F.args_tuple_mul_2 _ _) (times1 l its.toArray n dd sl tk) ⟨ho, .ref l, H, I, rfl, q1 rfl⟩⟩)
  · have k0 : k = 0 := by omega
    subst k0
    refine wpAny_binaryOp_repeat_ref (T := "tuple") (U := "int") (by decide) tl (fun z => typeIs_int z 0 tk) noFill_tuple_mul F.fills_int_mul F.slot_int_rmul repeat_tuple F.slot_int_index.lookup
      (call_meets F.slot_int_rmul (typeIs_int s 0 tk) F.entry_int_rmul (F.args_int_rmul_2 _ _) (int_rmul_tuple 0 tk l its.toArray n dd sl) ⟨ho, rfl, tl, call_meets F.slot_tuple_mul tl F.entry_tuple_mul (F.args_tuple_mul_2 _ _) (times0 l its.toArray n dd sl tk (by rw [hi]; rfl)) ⟨ho, ?_⟩⟩)
    refine ⟨.ref s.heap.objs.size, _, I.laid (t' := s.toks) (o := .tup []) (fun b ob e => Heap.get?_push_of_some _ e) (Nat.le_refl _) ?_, rfl, q2 (by decide) _ (I.hok.fresh (Nat.le_refl _))⟩
    exact ⟨Nat.zero_le _, [], .nil, IsTup.new _ _⟩
end
/-! ### a call by keywords alone, in the parameters' order -/
structure OkK (P : Program) (w : World) (K : PySem.W.Frag) (mg : Str → Option Value) (base : Heap) (k : Nat) (x : Str) (ps : List Str) (sp : Sp) : Prop where
  ex : ∃ f fd, mg x = some (.ref f) ∧ PySem.W.keepIn K (.ref f) = true ∧ (∀ (s : Shared) (us : List Value), us.length = ps.length → BindsTo s fd ⟨[], ps.zip us⟩ (ps.zip us)) ∧ FnOk P w K mg base CX0 k f fd ps sp
theorem DefAt.okK {P : Program} {w : World} {K : PySem.W.Frag} {mg : Str → Option Value} {base : Heap} {x : Str} {st : Stmt} {N ps : List Str} {k : Nat} {sp : Sp} (D : DefAt K mg x st) (S : FnScope N ps (defScope st))
    (hb : ∀ (kV doc pm : Value) (an : Option Addr) (cdv ct : Value) (us : List Value), us.length = ps.length → bindArgs (PySem.W.fnOf x x (defArgs st) (defBody st) (defScope st) .none kV doc pm an cdv ct) ⟨[], ps.zip us⟩ = pure (ps.zip us))
    (len : ∀ vs H Q E, sp vs H Q E → vs.length = ps.length) (hbody : BodyOk P w K mg base N x st k sp) : OkK P w K mg base (k + 1) x ps sp := by
  obtain ⟨f, fd, m, F⟩ := D.ex
  have F0 := F
  obtain ⟨⟨oc, od, kV, doc, pm, an, cdv, ct, osl, rfl, lk, hcd⟩, kp⟩ := F
  exact ⟨f, _, m, kp, fun s us hl => BindsTo.of_eq (hb kV doc pm an cdv ct us hl), F0.ok S len (hbody f)⟩
def tCallKw (sp : Sp) (t : TA) : TE := fun σ H Q => t σ H fun vs H1 => sp vs H1 Q E0
theorem pe_okK {X : Cx} {k : Nat} {x : Str} {ps : List Str} {sp : Sp} {p pos : Pos} {kws : List Keyword} {t : TA} (O : OkK X.prog X.w X.K X.mg X.base k x ps sp) (hr : Room k X.A) (hg : Gl X x) (hkw : PK X kws t)
    (hall : (backToKw pos (keywordEach kws X.env)).all (·.1.isSome) = true := by rfl) (hks : (backToKw pos (keywordEach kws X.env)).filterMap (·.1) = ps := by rfl) (hdb : (x == ("__debug__" : Str)) = false := by decide)
    (hpl : ((backTo pos (starEach [] X.env)).any (·.1) || (backToKw pos (keywordEach kws X.env)).any (·.1.isNone)) = false := by rfl) :
    PE X (.Call (.Name x p) [] kws pos) (tCallKw sp t) := by
  obtain ⟨f, fd, hm, kp, hb, F⟩ := O.ex
  refine ⟨fun pins s σ H Q I h => wpAny_Call_Name_kw (ld_glob I hg hm (PySem.W.callWith_KW0 (h₀ := X.base) I.ok.mod.kin kp hall (thn (hkw.run pos pins s σ H _ I h) fun ws s2 ⟨vs, H2, I2, rz, q2⟩ => ⟨I2.kIn, ?_⟩) hpl) hdb)⟩
  rw [hks]
  have hl : ws.length = ps.length := by rw [← rz.length]; exact F.len _ _ _ _ q2
  refine wpAny_call (codeAny_mono (F.run X.A X.stack s2 H2 ⟨[], ps.zip ws⟩ ws vs Q E0 hr I2.env0 (hb s2 ws hl) rz q2) fun r s' hq => ?_)
  match r, hq with
  | .error e, hq => exact pass0 pins σ H2 s2 e s' I2 hq
  | .ok (.ret u), hq => exact I2.after hq
  | .ok .next, hq => exact hq.elim
  | .ok .brk, hq => exact hq.elim
  | .ok .cont, hq => exact hq.elim
section
variable {P : Program} {w : World} {K : PySem.W.Frag} {mg : Str → Option Value} {base : Heap} {CK CW : Addr}
theorem ok_count_rootsK (T : Txt K mg CK CW) : OkK P w K mg base (4 + 1) "count_roots" ["number", "power", "base"] sp_count_roots := by
  refine T.d_count_roots.okK (k := 4) sc_count_roots (fun _ _ _ _ _ _ us hl => match us, hl with | [_, _, _], _ => rfl) (fun vs H Q E h => ?_) (fun f cdv A outer s H vs Q E hr h => ?_)
  · obtain ⟨_, _, _, _, rfl, _⟩ := h
    rfl
  · obtain ⟨n, m, b, l, rfl, n0, n1, m0, m1, b0, b1, hg, hl, lok, q⟩ := h
    refine ⟨_, (pss_cons (ps_expr (pe_ok (ok_check_number T) (hr.mono (by decide)) (by rfl) (pa_cons (pv 0) pa_nil)))
      (pss_cons (ps_expr (pe_ok (ok_check_power T) (hr.mono (by decide)) (by rfl) (pa_cons (pv 1) pa_nil)))
      (pss_cons (ps_expr (pe_ok (ok_check_base T) (hr.mono (by decide)) (by rfl) (pa_cons (pv 2) pa_nil)))
      (pss_cons (ps_expr (pe_ok (ok_check_open T) (hr.mono (by decide)) (by rfl) (pa_cons (pv 0) (pa_cons (pv 2) pa_nil))))
      (pss_one (ps_ret (pe_ok (ok_count_roots_of T) (hr.mono (by decide)) (by rfl) (pa_cons (pv 0) (pa_cons (pv 1) (pa_cons (pv 2) pa_nil)))))))))), ?_⟩
    exact ⟨_, rfl, n, rfl, n0, n1, _, rfl, m, rfl, by omega, by omega, _, rfl, b, rfl, by omega, by omega, _, rfl, _, rfl, n, b, rfl, hg, _, rfl, _, rfl, _, rfl, n, m, b, l, rfl, m0, b0, b1, hl, lok, q⟩
end
end RW

/-! plain mathematics: the numbers up to 150, by computing -/
namespace RW
/-! ### primes, what a number is made of -/
def isP (p : Nat) : Bool := decide (2 ≤ p) && (List.range p).all fun d => decide (d < 2) || decide (p % d ≠ 0)
theorem isP_prime {p : Nat} (h : isP p = true) : PrimeN p := by
  unfold isP at h
  rw [Bool.and_eq_true, List.all_eq_true] at h
  have h2 := of_decide_eq_true h.1
  refine ⟨h2, fun d hd => ?_⟩
  have hle := Nat.le_of_dvd (by omega) hd
  by_cases h1 : d < 2
  · match d, h1, hd with
    | 0, _, hd => exact absurd (Nat.eq_zero_of_zero_dvd hd) (by omega)
    | 1, _, _ => exact .inl rfl
  · by_cases he : d = p
    · exact .inr he
    · have := h.2 d (List.mem_range.mpr (by omega))
      rw [Bool.or_eq_true] at this
      rcases this with q | q
      · exact absurd (of_decide_eq_true q) h1
      · exact absurd (Nat.mod_eq_zero_of_dvd hd) (of_decide_eq_true q)
theorem prime_isP {p : Nat} (h : PrimeN p) : isP p = true := by
  unfold isP
  rw [Bool.and_eq_true, List.all_eq_true]
  refine ⟨decide_eq_true h.1, fun d hd => ?_⟩
  rw [Bool.or_eq_true]
  by_cases h1 : d < 2
  · exact .inl (decide_eq_true h1)
  · refine .inr (decide_eq_true fun e => ?_)
    have := List.mem_range.mp hd
    rcases h.2 d (Nat.dvd_of_mod_eq_zero e) with q | q <;> omega
def chainB : Nat → List (Nat × Nat) → Nat → Bool
  | N, [], n => decide (N = n)
  | N, (p, e) :: r, n => isP p && decide (1 ≤ e) && decide (e ≤ 7) && decide (p ≤ 150) && decide (p ^ e ≤ 150) && decide (p ^ (e + 1) ≤ 8388608) && decide (Nat.gcd N (p ^ e) = 1) && decide (N * p ^ e ≤ 150) && chainB (N * p ^ e) r n
/-- of small prime powers alone -/
def Small (l : List (Nat × Nat)) : Prop := ∀ x ∈ l, PrimeN x.1 ∧ 1 ≤ x.2 ∧ x.2 ≤ 7 ∧ x.1 ≤ 150 ∧ x.1 ^ x.2 ≤ 150
theorem chainB_ok : ∀ {l : List (Nat × Nat)} {N n : Nat}, chainB N l n = true → Chain N l n ∧ Small l
  | [], N, n, h => ⟨(of_decide_eq_true (p := N = n) h : N = n), fun x hx => (by cases hx)⟩
  | (p, e) :: r, N, n, h => by
    unfold chainB at h
    simp only [Bool.and_eq_true, decide_eq_true_eq] at h
    obtain ⟨⟨⟨⟨⟨⟨⟨⟨h1, h2⟩, h3⟩, h4⟩, h5⟩, h6⟩, h7⟩, h8⟩, h9⟩ := h
    obtain ⟨c, s⟩ := chainB_ok h9
    refine ⟨⟨isP_prime h1, h2, by omega, h6, by omega, h7, by omega, by omega, c⟩, fun x hx => ?_⟩
    rcases List.mem_cons.mp hx with hx | hx
    · rw [hx]
      exact ⟨isP_prime h1, h2, h3, h4, h5⟩
    · exact s x hx
def apartB (n : Nat) : Bool := match apart n with | none => false | some l => chainB 1 l n
theorem apartB_all : ∀ k : Fin 150, apartB (k.val + 1) = true := by decide +kernel
theorem apart_small {n : Nat} (h1 : 1 ≤ n) (h2 : n ≤ 150) : ∃ l, apart n = some l ∧ Chain 1 l n ∧ Small l := by
  have h := apartB_all ⟨n - 1, by omega⟩
  rw [show (⟨n - 1, by omega⟩ : Fin 150).val + 1 = n by show n - 1 + 1 = n; omega] at h
  unfold apartB at h
  cases ha : apart n with
  | none =>
    rw [ha] at h
    cases h
  | some l =>
    rw [ha] at h
    exact ⟨l, rfl, chainB_ok h⟩
/-! ### r to the m-th less x -/
def rootSum (m : Nat) (x : Int) : List Int := (-x) :: (List.replicate (m - 1) 0 ++ [1])
theorem ev_mono (r : Int) : ∀ j : Nat, ev (List.replicate j 0 ++ [1]) r = r ^ j
  | 0 => by
    show 1 + r * 0 = r ^ 0
    rw [Int.mul_zero, Int.pow_zero]
    rfl
  | j + 1 => by
    show 0 + r * ev (List.replicate j 0 ++ [1]) r = r ^ (j + 1)
    rw [ev_mono r j, Int.pow_succ, Int.mul_comm]
    omega
theorem ev_rootSum {m : Nat} (hm : 1 ≤ m) (x r : Int) : ev (rootSum m x) r = r ^ m - x := by
  show -x + r * ev (List.replicate (m - 1) 0 ++ [1]) r = r ^ m - x
  rw [ev_mono]
  have : r * r ^ (m - 1) = r ^ m := by
    rw [Int.mul_comm, ← Int.pow_succ]
    congr 1
    omega
  omega
theorem zL_root {m : Nat} (hm : 1 ≤ m) (x : Int) (n : Nat) : zL (rootSum m x) n = rootsL x m n := by
  unfold zL rootsL
  congr 1
  refine List.filter_congr fun r _ => ?_
  rw [ev_rootSum hm]
  by_cases h : (n : Int) ∣ (r : Int) ^ m - x
  · rw [decide_eq_true h, decide_eq_true (emod_of_dvd_sub h)]
  · rw [decide_eq_false h, decide_eq_false fun e => h (dvd_sub_of_emod e)]
theorem pow_emod_congr {n x y : Int} (h : n ∣ y - x) (k : Nat) : y ^ k % n = x ^ k % n := by
  have := ev_congr h (List.replicate k 0 ++ [1])
  rw [ev_mono, ev_mono] at this
  exact emod_of_dvd_sub this
/-! ### many counts at once: the digits of a large number -/
def evB : List Nat → Nat
  | [] => 0
  | c :: r => c + 256 * evB r
def inc : List Nat → Nat → List Nat
  | [], _ => []
  | c :: r, 0 => (c + 1) :: r
  | c :: r, j + 1 => c :: inc r j
theorem inc_len : ∀ (l : List Nat) (j : Nat), (inc l j).length = l.length
  | [], _ => rfl
  | _ :: _, 0 => rfl
  | _ :: r, j + 1 => by
    show (inc r j).length + 1 = r.length + 1
    rw [inc_len r j]
theorem evB_inc : ∀ (l : List Nat) (j : Nat), j < l.length → evB (inc l j) = evB l + 256 ^ j
  | [], _, h => absurd h (Nat.not_lt_zero _)
  | c :: r, 0, _ => by
    show c + 1 + 256 * evB r = c + 256 * evB r + 256 ^ 0
    rw [Nat.pow_zero]
    omega
  | c :: r, j + 1, h => by
    show c + 256 * evB (inc r j) = c + 256 * evB r + 256 ^ (j + 1)
    rw [evB_inc r j (Nat.lt_of_succ_lt_succ h), Nat.pow_succ]
    omega
theorem inc_get : ∀ (l : List Nat) (j i : Nat), j < l.length → (inc l j).getD i 0 = l.getD i 0 + if i = j then 1 else 0
  | [], _, _, h => absurd h (Nat.not_lt_zero _)
  | c :: r, 0, 0, _ => rfl
  | c :: r, 0, i + 1, _ => rfl
  | c :: r, j + 1, 0, _ => rfl
  | c :: r, j + 1, i + 1, h => by
    show (inc r j).getD i 0 = r.getD i 0 + if i + 1 = j + 1 then 1 else 0
    rw [inc_get r j i (Nat.lt_of_succ_lt_succ h)]
    by_cases e : i = j
    · rw [if_pos e, if_pos (by omega)]
    · rw [if_neg e, if_neg (by omega)]
theorem evB_digit : ∀ (l : List Nat) (i : Nat), (∀ k, l.getD k 0 < 256) → evB l / 256 ^ i % 256 = l.getD i 0
  | [], i, _ => by
    show 0 / 256 ^ i % 256 = 0
    rw [Nat.zero_div]
  | c :: r, 0, h => by
    have h0 : c < 256 := h 0
    show (c + 256 * evB r) / 256 ^ 0 % 256 = c
    rw [Nat.pow_zero, Nat.div_one]
    omega
  | c :: r, i + 1, h => by
    have h0 : c < 256 := h 0
    show (c + 256 * evB r) / 256 ^ (i + 1) % 256 = r.getD i 0
    rw [← evB_digit r i fun k => h (k + 1), Nat.pow_succ, Nat.mul_comm (256 ^ i), ← Nat.div_div_eq_div_mul]
    congr 2
    omega
def hist (f : Nat → Nat) : Nat → Nat
  | 0 => 0
  | k + 1 => hist f k + 256 ^ f k
def hists (f : Nat → Nat) (n : Nat) : Nat → List Nat
  | 0 => List.replicate n 0
  | k + 1 => inc (hists f n k) (f k)
theorem hists_len (f : Nat → Nat) (n : Nat) : ∀ k, (hists f n k).length = n
  | 0 => List.length_replicate
  | k + 1 => by
    show (inc (hists f n k) (f k)).length = n
    rw [inc_len, hists_len f n k]
theorem evB_zero : ∀ n, evB (List.replicate n 0) = 0
  | 0 => rfl
  | n + 1 => by
    show 0 + 256 * evB (List.replicate n 0) = 0
    rw [evB_zero n]
theorem hist_eq (f : Nat → Nat) (n : Nat) (hf : ∀ k, f k < n) : ∀ k, evB (hists f n k) = hist f k
  | 0 => evB_zero n
  | k + 1 => by
    show evB (inc (hists f n k) (f k)) = hist f k + 256 ^ f k
    rw [evB_inc _ _ (by rw [hists_len]; exact hf k), hist_eq f n hf k]
theorem hists_get (f : Nat → Nat) (n : Nat) (hf : ∀ k, f k < n) (i : Nat) : ∀ k, (hists f n k).getD i 0 = ((List.range k).filter fun r => decide (f r = i)).length
  | 0 => by
    show (List.replicate n 0).getD i 0 = 0
    rw [List.getD_eq_getElem?_getD, List.getElem?_replicate]
    split <;> rfl
  | k + 1 => by
    show (inc (hists f n k) (f k)).getD i 0 = _
    rw [inc_get _ _ _ (by rw [hists_len]; exact hf k), hists_get f n hf i k, List.range_succ, List.filter_append, List.length_append]
    by_cases e : f k = i
    · rw [if_pos e.symm]
      simp [e]
    · rw [if_neg fun z => e z.symm]
      simp [e]
theorem hist_digit (f : Nat → Nat) (n k i : Nat) (hf : ∀ k, f k < n) (hk : k < 256) : hist f k / 256 ^ i % 256 = ((List.range k).filter fun r => decide (f r = i)).length := by
  rw [← hist_eq f n hf k, evB_digit, hists_get f n hf]
  intro j
  rw [hists_get f n hf]
  have := List.length_filter_le (fun r => decide (f r = j)) (List.range k)
  rw [List.length_range] at this
  omega
/-! ### how many roots there are by a prime's power -/
def rootsByN (x m pc wh : Nat) : Nat := if x ^ (pc / Nat.gcd m pc) % wh = 1 % wh then Nat.gcd m pc else 0
def rootsInN (x m p e : Nat) : Nat :=
  if 2 < p ∨ e < 3 then rootsByN x m (p ^ e - p ^ e / p) (p ^ e) else if m % 2 = 1 then 1 else if x % 4 = 1 then 2 * rootsByN x m (p ^ e / 4) (p ^ e) else 0
theorem rootsBy_nat {n : Int} {x m pc wh : Nat} (h : (wh : Int) ∣ n - x) : rootsBy n m pc wh = rootsByN x m pc wh := by
  unfold rootsBy rootsByN
  have e : n ^ (pc / Nat.gcd m pc) % (wh : Int) = ((x ^ (pc / Nat.gcd m pc) % wh : Nat) : Int) := by
    rw [pow_emod_congr h, Int.natCast_emod, Int.natCast_pow]
  rw [e]
  by_cases h2 : x ^ (pc / Nat.gcd m pc) % wh = 1 % wh
  · rw [if_pos h2, if_pos (by rw [h2]; rfl)]
  · rw [if_neg h2, if_neg fun z => h2 (by
      have z : ((x ^ (pc / Nat.gcd m pc) % wh : Nat) : Int) = ((1 % wh : Nat) : Int) := z
      exact Int.ofNat.inj z)]
theorem rootsIn_nat {n : Int} {x m p e : Nat} (hp : 2 ≤ p) (h : ((p ^ e : Nat) : Int) ∣ n - x) : rootsIn n m p e = rootsInN x m p e := by
  unfold rootsIn rootsInN
  rw [rootsBy_nat h, rootsBy_nat h]
  by_cases h1 : 2 < p ∨ e < 3
  · rw [if_pos h1, if_pos h1]
  · rw [if_neg h1, if_neg h1]
    have p2 : p = 2 := by omega
    subst p2
    have h4 : (4 : Int) ∣ n - x := by
      refine Int.dvd_trans ?_ h
      refine Int.natCast_dvd_natCast.mpr (?_ : 4 ∣ 2 ^ e)
      exact Nat.pow_dvd_pow 2 (show 2 ≤ e by omega)
    have e4 := emod_of_dvd_sub h4
    by_cases h5 : x % 4 = 1
    · rw [if_pos h5, if_pos (show n % 4 = 1 by rw [e4]; omega)]
    · rw [if_neg h5, if_neg (show ¬ n % 4 = 1 by rw [e4]; omega)]
def fR (m q r : Nat) : Nat := r ^ m % q
def rootB (m p e : Nat) : Bool := let q := p ^ e; let h := hist (fR m q) q; (List.range q).all fun x => decide (Nat.gcd x p ≠ 1) || decide (h / 256 ^ x % 256 = rootsInN x m p e)
def rootAll : Bool := (List.range 151).all fun p => !isP p || (List.range 8).all fun e => decide (e = 0) || decide (150 < p ^ e) || (List.range 8).all fun m => decide (m = 0) || rootB m p e
theorem dvd_pow_self' (p : Nat) {e : Nat} (h : 0 < e) : p ∣ p ^ e := by
  obtain ⟨k, rfl⟩ : ∃ k, e = k + 1 := ⟨e - 1, by omega⟩
  rw [Nat.pow_succ]
  exact Nat.dvd_mul_left ..
theorem rootAll_ok : rootAll = true := by decide +kernel
theorem roots_count {p e m : Nat} (hp : PrimeN p) (h150 : p ≤ 150) (e1 : 1 ≤ e) (e7 : e ≤ 7) (hq : p ^ e ≤ 150) (m1 : 1 ≤ m) (m7 : m ≤ 7) {x : Int} (hx : Int.gcd x p = 1) : rootsIn x m p e = (rootsL x m (p ^ e)).length := by
  have q0 : 0 < p ^ e := ppos hp e
  have hR := rootAll_ok
  unfold rootAll at hR
  rw [List.all_eq_true] at hR
  have h1 := hR p (List.mem_range.mpr (by omega))
  rw [prime_isP hp, Bool.not_true, Bool.false_or, List.all_eq_true] at h1
  have h2 := h1 e (List.mem_range.mpr (by omega))
  rw [decide_eq_false (by omega), decide_eq_false (by omega), Bool.false_or, Bool.false_or, List.all_eq_true] at h2
  have h3 := h2 m (List.mem_range.mpr (by omega))
  rw [decide_eq_false (by omega), Bool.false_or] at h3
  unfold rootB at h3
  rw [List.all_eq_true] at h3
  have x0 := Int.emod_nonneg x (show ((p ^ e : Nat) : Int) ≠ 0 by omega)
  have x1 := Int.emod_lt_of_pos x (show 0 < ((p ^ e : Nat) : Int) by omega)
  obtain ⟨y, hy⟩ : ∃ y : Nat, x % ((p ^ e : Nat) : Int) = y := ⟨(x % ((p ^ e : Nat) : Int)).toNat, by omega⟩
  have hd : ((p ^ e : Nat) : Int) ∣ x - y := by
    rw [← hy]
    exact ⟨x / ((p ^ e : Nat) : Int), by have := Int.mul_ediv_add_emod x ((p ^ e : Nat) : Int); omega⟩
  have h4 := h3 y (List.mem_range.mpr (by omega))
  have hpd : (p : Int) ∣ ((p ^ e : Nat) : Int) := Int.natCast_dvd_natCast.mpr (dvd_pow_self' p (by omega))
  have hg : Nat.gcd y p = 1 := by
    have g1 : (Nat.gcd y p : Int) ∣ x := by
      have a1 : ((Nat.gcd y p : Nat) : Int) ∣ (y : Int) := Int.natCast_dvd_natCast.mpr (Nat.gcd_dvd_left ..)
      have a2 : ((Nat.gcd y p : Nat) : Int) ∣ (p : Int) := Int.natCast_dvd_natCast.mpr (Nat.gcd_dvd_right ..)
      have a3 := Int.dvd_add (Int.dvd_trans a2 (Int.dvd_trans hpd hd)) a1
      rw [show x - (y : Int) + y = x by omega] at a3
      exact a3
    have g2 : ((Nat.gcd y p : Nat) : Int) ∣ (p : Int) := Int.natCast_dvd_natCast.mpr (Nat.gcd_dvd_right ..)
    have g3 := Int.dvd_coe_gcd g1 g2
    rw [hx] at g3
    have g4 : Nat.gcd y p ∣ 1 := Int.natCast_dvd_natCast.mp g3
    exact Nat.dvd_one.mp g4
  rw [decide_eq_false (fun z => z hg), Bool.false_or] at h4
  have h5 := of_decide_eq_true h4
  rw [hist_digit (fR m (p ^ e)) (p ^ e) (p ^ e) y (fun k => Nat.mod_lt _ q0) (by omega)] at h5
  rw [rootsIn_nat hp.1 hd, ← h5]
  unfold rootsL
  rw [List.length_map]
  congr 1
  refine List.filter_congr fun r _ => ?_
  unfold fR
  have e1 : (r : Int) ^ m % ((p ^ e : Nat) : Int) = ((r ^ m % p ^ e : Nat) : Int) := by
    rw [Int.natCast_emod, Int.natCast_pow r m]
  rw [e1, hy]
  by_cases h : r ^ m % p ^ e = y
  · rw [decide_eq_true h, decide_eq_true (by rw [h])]
  · have hz : ¬ (((r ^ m % p ^ e : Nat) : Int) = (y : Int)) := fun z => h (Int.ofNat.inj z)
    rw [decide_eq_false h, decide_eq_false hz]
theorem countRoots_eq {m : Nat} (m1 : 1 ≤ m) (m7 : m ≤ 7) {x : Int} : ∀ {l : List (Nat × Nat)} (f : Nat), Small l → (∀ y ∈ l, Int.gcd x y.1 = 1) → countRoots x m l f = zProd (rootSum m x) l f
  | [], _, _, _ => rfl
  | (p, e) :: l, f, hs, hg => by
    obtain ⟨a1, a2, a3, a4, a5⟩ := hs _ List.mem_cons_self
    show countRoots x m l (f * rootsIn x m p e) = zProd (rootSum m x) l (f * (zL (rootSum m x) (p ^ e)).length)
    rw [zL_root m1, roots_count a1 a4 a2 a3 a5 m1 m7 (hg _ List.mem_cons_self)]
    exact countRoots_eq m1 m7 _ (fun y hy => hs y (List.mem_cons_of_mem _ hy)) fun y hy => hg y (List.mem_cons_of_mem _ hy)
theorem Chain.dvd : ∀ {l : List (Nat × Nat)} {N n : Nat}, Chain N l n → N ∣ n ∧ ∀ y ∈ l, y.1 ∣ n
  | [], N, n, h => ⟨by rw [show N = n from h]; exact Nat.dvd_refl _, fun y hy => (by cases hy)⟩
  | (p, e) :: l, N, n, h => by
    obtain ⟨h1, h2, _, _, _, h6, _, _, h9⟩ := h
    obtain ⟨d1, d2⟩ := Chain.dvd h9
    refine ⟨Nat.dvd_trans (Nat.dvd_mul_right ..) d1, fun y hy => ?_⟩
    rcases List.mem_cons.mp hy with hy | hy
    · rw [hy]
      exact Nat.dvd_trans (dvd_pow_self' p (by omega)) (Nat.dvd_trans (Nat.dvd_mul_left ..) d1)
    · exact d2 y hy
theorem countRoots_ok {m n : Nat} (m1 : 1 ≤ m) (m7 : m ≤ 7) {x : Int} {l : List (Nat × Nat)} (hc : Chain 1 l n) (hs : Small l) (hg : Int.gcd x n = 1) : countRoots x m l 1 = (rootsL x m n).length := by
  rw [countRoots_eq m1 m7 1 hs, ← zL_root m1, ← zProd_eq (by decide) hc, zL_one]
  intro y hy
  have hd := (Chain.dvd hc).2 y hy
  have h1 : Int.gcd x y.1 ∣ Int.gcd x n := Int.gcd_dvd_gcd_of_dvd_right x (Int.natCast_dvd_natCast.mpr hd)
  rw [hg] at h1
  exact Nat.dvd_one.mp h1
end RW

set_option maxHeartbeats 4000000
namespace RW
open PySem PySem.Spec PyProof.Rows L2
/-- the heap as it was, but for what stands at a -/
def SameX (a : Addr) (H H' : Hp) : Prop := ∀ b u, b ≠ a → H b = some u → H' b = some u
theorem SameX.of {a : Addr} {H H' : Hp} (s : Same H H') : SameX a H H' := fun b u _ e => s b u e
theorem SameX.trans {a : Addr} {H H1 H2 : Hp} (s : SameX a H H1) (t : SameX a H1 H2) : SameX a H H2 := fun b u n e => t b u n (s b u n e)
theorem SameX.upd {a : Addr} {H : Hp} {o : HO} : SameX a H (upd H a o) := fun b u n e => by rw [upd_ne n]; exact e
/-- a cup: what is left of a large number, and what is mixed -/
def CupAt (H : Hp) (a : Addr) : Prop := ∃ n m : Int, 0 ≤ n ∧ 0 ≤ m ∧ m < 2147483497 ∧ H a = some (.lst [.int n, .int m])
theorem CupAt.same {H H' : Hp} {a : Addr} (s : Same H H') : CupAt H a → CupAt H' a := fun ⟨n, m, h1, h2, h3, h⟩ => ⟨n, m, h1, h2, h3, s _ _ h⟩
section
variable {P : Program} {w : World} {K : PySem.W.Frag} {mg : Str → Option Value} {base : Heap} {CK CW : Addr}
def sp_l_sip : Sp := fun vs H Q _ => ∃ (a : Addr) (k : Int), vs = [.ref a, .int k] ∧ CupAt H a ∧ 1 ≤ k ∧ k ≤ 1000 ∧ ∀ H' d, SameX a H H' → CupAt H' a → 0 ≤ d → d < k → Q (.int d) H'
theorem ok_l_sip (T : Txt K mg CK CW) : Ok P w K mg base 1 "_law_sip" ["_law_cup_here", "_law_many"] sp_l_sip := by
  refine T.d_l_sip.ok (k := 0) sc_l_sip (fun _ _ _ _ _ _ us hl => match us, hl with | [_, _], _ => rfl) (fun vs H Q E h => ?_) (fun f cdv A outer s H vs Q E hr h => ?_)
  · obtain ⟨_, _, rfl, _⟩ := h
    rfl
  · obtain ⟨a, k, rfl, ⟨n, m, n0, m0, m1, hA⟩, k1, k2, q⟩ := h
    refine ⟨_, (pss_cons (ps_if (pt_cmpR op_gt (pe_ix ix_list (pv 0) pe_int (fun _ _ => rfl)) pe_int (nomark _)) (pss_cons (ps_asg (pe_callB call_divmodW (by rfl) T.b_divmod (by decide +kernel) (pa_cons (pe_ix ix_list (pv 0) pe_int (fun _ _ => rfl)) (pa_cons (pv 1) pa_nil))) (pg_tup rfl (pgs_cons (pg_sub (pv 0) pe_int set_list) (pgs_cons (pg_name (i := 2) sc_l_sip.nd rfl (.inl rfl)) pgs_nil))))
      (pss_one (ps_ret (pv 2)))) pss_nil)
      (pss_cons (ps_asg (pe_op op_mod (pe_callTy call_int1 (by rfl) T.b_int boot_int (pa_cons (pe_op op_add (pe_op op_mul (pe_ix ix_list (pv 0) pe_int (fun _ _ => rfl)) pe_int) pe_int) pa_nil)) pe_int) (pg_sub (pv 0) pe_int set_list))
      (pss_one (ps_ret (pe_op op_mod (pe_callTy call_int1 (by rfl) T.b_int boot_int (pa_cons (pe_op op_fdiv (pe_ix ix_list (pv 0) pe_int (fun _ _ => rfl)) pe_int) pa_nil)) (pv 1)))))), ?_⟩
    refine ⟨_, rfl, a, _, _, _, rfl, rfl, SqL.of hA, rfl, _, _, rfl, rfl, _, rfl, it2 (fun h0 => ?_) (fun h0 => ?_)⟩
    · refine ⟨_, rfl, a, _, _, _, rfl, rfl, SqL.of hA, rfl, _, rfl, _, _, rfl, ⟨by omega, PyProof.noPylong_small (by omega)⟩, fun t nt => ?_⟩
      have s1 := same_upd (o := .tup [.int (n / k), .int (n % k)]) nt
      have hA1 := s1 _ _ hA
      refine ⟨t, _, rfl, SqT.of upd_same, rfl, _, _, rfl, _, rfl, a, _, 0, 0, rfl, rfl, hA1, rfl, _, _, rfl, rfl, ?_⟩
      exact ⟨_, rfl, q _ _ ((SameX.of s1).trans .upd) ⟨n / k, m, Int.ediv_nonneg n0 (by omega), m0, m1, upd_same⟩ (Int.emod_nonneg _ (by omega)) (Int.emod_lt_of_pos _ (by omega))⟩
    · refine ⟨_, rfl, a, _, _, _, rfl, rfl, SqL.of hA, rfl, _, _, rfl, rfl, .inl ⟨by omega, by omega⟩, _, _, rfl, rfl, .inl ⟨_, rfl, _, _, rfl, rfl, by show (0 : Int) < 2147483497; decide, ?_⟩⟩
      refine ⟨_, rfl, a, _, 1, 1, rfl, rfl, hA, rfl, ?_⟩
      have b0 : 0 ≤ (m * 52511 + 12043) % 2147483497 := Int.emod_nonneg _ (by decide)
      have b1 : (m * 52511 + 12043) % 2147483497 < 2147483497 := Int.emod_lt_of_pos _ (by decide)
      refine ⟨_, rfl, a, _, _, _, rfl, rfl, SqL.of upd_same, rfl, _, _, rfl, rfl, ⟨by decide, by decide⟩, .inl ⟨_, rfl, _, rfl, _, _, rfl, rfl, by show 0 < k; omega, ?_⟩⟩
      exact q _ _ .upd ⟨n, _, n0, b0, b1, upd_same⟩ (Int.emod_nonneg _ (by omega)) (Int.emod_lt_of_pos _ (by omega))
def sp_l_any (_K : PySem.W.Frag) : Sp := fun vs H Q _ => ∃ (a b : Addr) (xs : List Int), vs = [.ref a, .ref b] ∧ CupAt H a ∧ H b = some (.lst (iv xs)) ∧ b ≠ a ∧ xs ≠ [] ∧ xs.length ≤ 1000 ∧ ∀ H' z, SameX a H H' → CupAt H' a → z ∈ xs → Q (.int z) H'
theorem ok_l_any (T : Txt K mg CK CW) : Ok P w K mg base 2 "_law_any" ["_law_cup_here", "_law_some"] (sp_l_any K) := by
  refine T.d_l_any.ok (k := 1) sc_l_any (fun _ _ _ _ _ _ us hl => match us, hl with | [_, _], _ => rfl) (fun vs H Q E h => ?_) (fun f cdv A outer s H vs Q E hr h => ?_)
  · obtain ⟨_, _, _, rfl, _⟩ := h
    rfl
  · obtain ⟨a, b, xs, rfl, hC, hB, ne, hx, hl, q⟩ := h
    refine ⟨_, (pss_one (ps_ret (pe_ix ix_list (pv 1) (pe_ok (ok_l_sip T) (hr.mono (by decide)) (by rfl) (pa_cons (pv 0) (pa_cons (pe_callB call_len_seq (by rfl) T.b_len PySem.boot_len (pa_cons (pv 1) pa_nil)) pa_nil))) (fun _ _ => rfl)))), ?_⟩
    have hp := List.length_pos_iff.mpr hx
    refine ⟨_, rfl, _, rfl, _, rfl, b, _, rfl, .inl (SqL.of hB), a, _, rfl, hC, by rw [ivLen]; omega, by rw [ivLen]; omega, fun H1 d s1 hC1 d0 d1 => ?_⟩
    rw [ivLen] at d1
    obtain ⟨j, rfl⟩ : ∃ j : Nat, d = j := ⟨d.toNat, by omega⟩
    have hj : j < xs.length := by omega
    exact ⟨b, _, _, _, rfl, rfl, SqL.of (s1 _ _ ne hB), atI_nat (ivAt (List.getElem?_eq_getElem hj)), q _ _ s1 hC1 (List.getElem_mem hj)⟩
def sp_l_root_sum (_K : PySem.W.Frag) : Sp := fun vs H Q _ => ∃ (m : Nat) (x : Int), vs = [.int m, .int x] ∧ 1 ≤ m ∧ m ≤ 10 ∧ ∀ H' p, Same H H' → H' p = some (.tup (iv (rootSum m x))) → Q (.ref p) H'
theorem ok_l_root_sum (T : Txt K mg CK CW) : Ok P w K mg base 1 "_law_root_sum" ["_law_many", "_law_x"] (sp_l_root_sum K) := by
  refine T.d_l_root_sum.ok (k := 0) sc_l_root_sum (fun _ _ _ _ _ _ us hl => match us, hl with | [_, _], _ => rfl) (fun vs H Q E h => ?_) (fun f cdv A outer s H vs Q E hr h => ?_)
  · obtain ⟨_, _, rfl, _⟩ := h
    rfl
  · obtain ⟨m, x, rfl, m1, m2, q⟩ := h
    refine ⟨_, (pss_one (ps_ret (pe_op op_catA (pe_op op_catA (pe_tup (pa_cons (pe_op op_sub pe_int (pv 1)) pa_nil)) (pe_op op_repA (pe_tup (pa_cons pe_int pa_nil)) (pe_op op_sub (pv 0) pe_int))) (pe_tup (pa_cons pe_int pa_nil))))), ?_⟩
    have big : sizeLine = 16777216 := sizeLine_eq
    refine ⟨_, rfl, _, _, rfl, rfl, by show 1 ≤ sizeLine; decide, fun p1 n1 => ⟨by show 1 ≤ sizeLine; decide, fun p2 n2 => ?_⟩⟩
    have s1 := same_upd (o := .tup [.int (0 - x)]) n1
    have s2 := same_upd (o := .tup [.int 0]) n2
    refine ⟨_, rfl, _, _, rfl, rfl, p2, _, [.int 0], rfl, rfl, SqT.of upd_same, by simp, by omega, by omega, by simp, fun k1 => ?_, fun k1 p3 n3 => ?_⟩
    · obtain rfl : m = 2 := by omega
      refine ⟨p1, p2, _, _, rfl, rfl, SqT.of (s2 _ _ upd_same), SqT.of upd_same, by show 2 ≤ sizeLine; omega, (fun e => by cases e), (fun _ e => by cases e), fun _ _ p5 n5 => ⟨by show 1 ≤ sizeLine; omega, fun p6 n6 => ?_⟩⟩
      have s5 := same_upd (o := .tup [.int (0 - x), .int 0]) n5
      have s6 := same_upd (o := .tup [.int 1]) n6
      refine ⟨p5, p6, _, _, rfl, rfl, SqT.of (s6 _ _ upd_same), SqT.of upd_same, by show 3 ≤ sizeLine; omega, (fun e => by cases e), (fun _ e => by cases e), fun _ _ p7 n7 => q _ p7 ((((s1.trans s2).trans s5).trans s6).lay n7) ?_⟩
      rw [upd_same]
      show some (HO.tup [V.int (0 - x), V.int 0, V.int 1]) = _
      rw [Int.zero_sub]
      rfl
    · have s3 := same_upd (o := .tup (List.replicate ((m : Int) - 1).toNat [V.int 0]).flatten) n3
      have e3 : (List.replicate ((m : Int) - 1).toNat [V.int 0]).flatten = iv (List.replicate (m - 1) 0) := by
        rw [show ((m : Int) - 1).toNat = m - 1 by omega, iv, List.map_replicate]
        have f : ∀ j : Nat, (List.replicate j [V.int 0]).flatten = List.replicate j (V.int 0) := fun j => by
          induction j with
          | zero => rfl
          | succ j ih => rw [List.replicate_succ, List.flatten_cons, ih, List.replicate_succ]; rfl
        exact f _
      refine ⟨p1, p3, _, _, rfl, rfl, SqT.of (s3 _ _ (s2 _ _ upd_same)), SqT.of upd_same, by rw [e3, ivLen, List.length_replicate]; show 1 + (m - 1) ≤ sizeLine; omega, (fun e => by cases e), fun _ e0 => ?_, fun _ e0 p5 n5 => ?_⟩
      · obtain rfl : m = 1 := by
          rw [e3] at e0
          have := congrArg List.length e0
          rw [ivLen, List.length_replicate] at this
          simp at this
          omega
        refine ⟨by show 1 ≤ sizeLine; omega, fun p6 n6 => ?_⟩
        have s6 := same_upd (o := .tup [.int 1]) n6
        refine ⟨p1, p6, _, _, rfl, rfl, SqT.of (s6 _ _ (s3 _ _ (s2 _ _ upd_same))), SqT.of upd_same, by show 2 ≤ sizeLine; omega, (fun e => by cases e), (fun _ e => by cases e), fun _ _ p7 n7 => q _ p7 ((((s1.trans s2).trans s3).trans s6).lay n7) ?_⟩
        rw [upd_same]
        show some (HO.tup [V.int (0 - x), V.int 1]) = _
        rw [Int.zero_sub]
        rfl
      · refine ⟨by show 1 ≤ sizeLine; omega, fun p6 n6 => ?_⟩
        rw [e3] at n6 ⊢
        have s5 := same_upd (o := .tup ([.int (0 - x)] ++ (List.replicate ((m : Int) - 1).toNat [V.int 0]).flatten)) n5
        rw [e3] at s5 s3
        have s6 := same_upd (o := .tup [.int 1]) n6
        refine ⟨p5, p6, _, _, rfl, rfl, SqT.of (s6 _ _ upd_same), SqT.of upd_same, ?_, (fun e => by cases e), (fun _ e => by cases e), fun _ _ p7 n7 => q _ p7 ((((s1.trans s2).trans s3).trans s5 |>.trans s6).lay n7) ?_⟩
        · show ([V.int (0 - x)] ++ iv (List.replicate (m - 1) 0)).length + 1 ≤ sizeLine
          rw [List.length_append, ivLen, List.length_replicate]
          show 1 + (m - 1) + 1 ≤ sizeLine
          omega
        · rw [upd_same]
          show some (HO.tup (([V.int (0 - x)] ++ iv (List.replicate (m - 1) 0)) ++ [V.int 1])) = _
          rw [Int.zero_sub]
          unfold rootSum
          rw [iv, iv, List.map_cons, List.map_append]
          rfl
def sp_l_cup (K : PySem.W.Frag) : Sp := fun vs H Q _ => ∃ (a : Addr) (ns : List Int) (k : Nat), vs = [.ref a, .int k] ∧ SqL K H a (iv ns) ∧ k ≤ 1000 ∧ ns.length ≤ 1000 ∧ ∀ H' c, Same H H' → H c = none → CupAt H' c → Q (.ref c) H'
theorem ok_l_cup (T : Txt K mg CK CW) : Ok P w K mg base 1 "_law_cup" ["_law_script", "_law_k"] (sp_l_cup K) := by
  refine T.d_l_cup.ok (k := 0) sc_l_cup (fun _ _ _ _ _ _ us hl => match us, hl with | [_, _], _ => rfl) (fun vs H Q E h => ?_) (fun f cdv A outer s H vs Q E hr h => ?_)
  · obtain ⟨_, _, _, rfl, _⟩ := h
    rfl
  · obtain ⟨a, ns, k, rfl, hA, hk, hl, q⟩ := h
    refine ⟨_, (pss_cons (ps_set (i := 2) sc_l_cup.nd rfl (.inl rfl) (pe_ifExp (pt_cmpR op_lt (pv 1) (pe_callB call_len_seq (by rfl) T.b_len PySem.boot_len (pa_cons (pv 0) pa_nil)) (nomark _)) (pe_callTy call_int1 (by rfl) T.b_int boot_int (pa_cons (pe_ix ix_list (pv 0) (pv 1) (fun _ _ => rfl)) pa_nil)) (pe_op op_add (pe_op op_mul pe_int (pv 1)) pe_int)))
      (pss_cons (ps_set (i := 3) sc_l_cup.nd rfl (.inl rfl) (pe_op op_add pe_int (pe_op op_mul pe_int (pv 1))))
      (pss_cons (ps_for PassesOwn.never rfl (pi_list (pe_op op_cat (pe_slice sl_list (pv 0) po_none (po_some pe_int)) (pe_lst (pa_cons (pv 2) pa_nil)))) (pg_name (i := 4) sc_l_cup.nd rfl (.inl rfl)) (pss_one (ps_set (i := 3) sc_l_cup.nd rfl (.inl rfl) (pe_op op_mod (pe_callTy call_int1 (by rfl) T.b_int boot_int (pa_cons (pe_op op_add (pe_op op_add (pe_op op_mul (pv 3) pe_int) (pe_op op_mod (pe_callTy call_int1 (by rfl) T.b_int boot_int (pa_cons (pv 4) pa_nil)) pe_int)) pe_int) pa_nil)) pe_int))))
      (pss_one (ps_ret (pe_lst (pa_cons (pe_ifExp (PW.pt (pw_or (pt_cmpR op_lt (pv 2) pe_int (nomark _)) (pw_or1 (pt_cmpR op_ge (pv 2) (pe_op op_pow pe_int pe_int) (nomark _))))) (pe_callB call_abs (by rfl) T.b_abs (by decide +kernel) (pa_cons (pv 2) pa_nil)) pe_int) (pa_cons (pv 3) pa_nil)))))))), ?_⟩
    refine (show ∀ Qx : VK, (∀ cl : Int, Qx (.int cl) H) → tIf _ _ _ _ H Qx from ?_) _ (fun cl => ?_)
    · intro Qx hq
      refine ⟨_, rfl, _, rfl, a, _, rfl, .inl hA, _, _, rfl, rfl, _, rfl, it2 (fun h0 => ?_) (fun h0 => ?_)⟩
      · have h0 : k < ns.length := by
          have h1 : (k : Int) < ((iv ns).length : Int) := h0
          rw [ivLen] at h1
          omega
        exact ⟨_, rfl, _, rfl, a, _, _, _, rfl, rfl, hA, atI_nat (ivAt (List.getElem?_eq_getElem h0)), .inl ⟨_, rfl, hq _⟩⟩
      · exact ⟨_, rfl, _, _, rfl, rfl, .inl ⟨by decide, by decide⟩, _, _, rfl, rfl, hq _⟩
    refine ⟨_, rfl, _, _, rfl, rfl, .inl ⟨by decide, by decide⟩, _, _, rfl, rfl, ?_⟩
    refine ⟨_, rfl, _, rfl, a, _, rfl, hA, fun p1 n1 => ⟨_, rfl, by show 1 ≤ sizeLine; decide, fun p2 n2 => ?_⟩⟩
    have s1 := same_upd (o := .lst (cutV (iv ns) none (some 9))) n1
    have s2 := same_upd (o := .lst [.int cl]) n2
    have hc : ∃ zs : List Int, cutV (iv ns) none (some 9) = iv zs ∧ zs.length ≤ ns.length := by
      refine ⟨(ns.drop 0).take (min 9 ns.length), ?_, ?_⟩
      · unfold cutV
        rw [ivLen, HT.sIx_none, show (9 : Int) = ((9 : Nat) : Int) from rfl, HT.sIx_nat, iv, iv, List.map_take, List.map_drop]
        rfl
      · rw [List.length_take, List.length_drop]
        omega
    obtain ⟨zs, hz, hzl⟩ := hc
    refine ⟨p1, p2, _, _, rfl, rfl, s2 _ _ upd_same, upd_same, ?_, fun p3 n3 => ?_⟩
    · rw [hz, ivLen]
      exact Nat.le_of_lt (Nat.lt_of_le_of_lt (show zs.length + 1 ≤ 1001 by omega) (by decide))
    have s3 := same_upd (o := .lst (cutV (iv ns) none (some 9) ++ [.int cl])) n3
    have e3 : cutV (iv ns) none (some 9) ++ [V.int cl] = iv (zs ++ [cl]) := by
      rw [hz, iv, iv, List.map_append]
      rfl
    have s03 := (s1.trans s2).trans s3
    refine ⟨p3, rfl, ⟨_, SqL.of upd_same⟩, for_list (K := K) (a := p3) (xs := iv (zs ++ [cl])) (fun i σ H' => ∃ (m : Int) (z4 : Option V), 0 ≤ m ∧ (i ≠ 0 → m < 2147483497) ∧ σ = [some (.ref a), some (.int k), some (.int cl), some (.int m), z4] ∧ H' = upd (upd (upd H p1 (.lst (cutV (iv ns) none (some 9)))) p2 (.lst [.int cl])) p3 (.lst (cutV (iv ns) none (some 9) ++ [.int cl])))
      ⟨_, _, ?_, (fun h => absurd rfl h), rfl, rfl⟩ (fun i σ H' _ ⟨_, _, _, _, _, e⟩ => by rw [e, e3]; exact SqL.of upd_same) ?_ ?_⟩
    · show (0 : Int) ≤ 30103 + 5003 * (k : Int)
      omega
    · rintro i x σ H1 hi ⟨m, z4, m0, m1, rfl, rfl⟩
      obtain ⟨t, ht, rfl⟩ := ivGet hi
      refine ⟨_, rfl, _, _, rfl, rfl, .inr ⟨by decide, by decide⟩, ?_⟩
      refine ⟨_, rfl, .inl ⟨_, rfl, _, _, rfl, rfl, by show (0 : Int) < 2147483497; decide, _, _, rfl, rfl, _, _, rfl, rfl, .inl ⟨_, rfl, _, _, rfl, rfl, by show (0 : Int) < 2147483497; decide, ?_⟩⟩⟩
      exact ⟨_, _, Int.emod_nonneg _ (by decide), (fun _ => Int.emod_lt_of_pos _ (by decide)), rfl, rfl⟩
    · rintro σ H1 ⟨m, z4, m0, m1, rfl, rfl⟩
      rw [ivLen, List.length_append] at m1
      have m1 := m1 (by simp)
      have ab : 0 ≤ (if cl < 0 then -cl else cl) := by
        split <;> omega
      refine ⟨_, rfl, _, _, rfl, rfl, _, rfl, it2 (fun h1 => ?_) (fun h1 => ?_)⟩
      · exact ⟨_, rfl, _, rfl, _, rfl, by show 2 ≤ sizeLine; decide, fun c nc => q _ c (s03.lay nc) (s03.free nc) ⟨_, m, ab, m0, m1, upd_same⟩⟩
      · refine ⟨_, rfl, _, _, rfl, rfl, ⟨by decide, by decide, by decide⟩, _, _, rfl, rfl, _, rfl, it2 (fun h2 => ?_) (fun h2 => ?_)⟩
        · exact ⟨_, rfl, _, rfl, _, rfl, by show 2 ≤ sizeLine; decide, fun c nc => q _ c (s03.lay nc) (s03.free nc) ⟨_, m, ab, m0, m1, upd_same⟩⟩
        · exact ⟨_, rfl, by show 2 ≤ sizeLine; decide, fun c nc => q _ c (s03.lay nc) (s03.free nc) ⟨0, m, Int.le_refl _, m0, m1, upd_same⟩⟩
end
end RW

set_option maxHeartbeats 4000000
namespace RW
open PySem PySem.Spec PyProof.Rows L2
theorem neTup {K : PySem.W.Frag} {H : Hp} {a b : Addr} {xs ys : List Int} {Q : VK} (ha : SqT K H a (iv xs)) (hb : SqT K H b (iv ys)) (q : Q (.bl (!decide (xs = ys))) H) : rNeD K (.ref a) (.ref b) H Q := by
  refine ⟨_, _, .tup ha (dpInts xs), .tup hb (dpInts ys), shapedTup xs, shapedTup ys, ?_⟩
  rw [eqvTup]
  exact q
theorem rootSum_ok {m : Nat} {x : Int} (m1 : 1 ≤ m) (m7 : m ≤ 7) (x0 : -200 ≤ x) (x1 : x ≤ 200) : SumOk (rootSum m x) := by
  have hl : (rootSum m x).length = m + 1 := by
    unfold rootSum
    rw [List.length_cons, List.length_append, List.length_replicate]
    show m - 1 + 1 + 1 = m + 1
    omega
  refine ⟨by omega, by omega, fun z hz => ?_, 1, ?_, by decide⟩
  · unfold rootSum at hz
    rcases List.mem_cons.mp hz with rfl | hz
    · omega
    · rcases List.mem_append.mp hz with hz | hz
      · rw [(List.mem_replicate.mp hz).2]
        omega
      · rw [List.mem_singleton.mp hz]
        omega
  · unfold rootSum
    rw [← List.cons_append, List.getLast?_append]
    rfl
section
variable {P : Program} {w : World} {K : PySem.W.Frag} {mg : Str → Option Value} {base : Heap} {CK CW : Addr}
def sp_l_roots_right (_K : PySem.W.Frag) : Sp := fun vs H Q _ => ∃ (x : Int) (m n : Nat), vs = [.int x, .int m, .int n] ∧ -200 ≤ x ∧ x ≤ 200 ∧ 1 ≤ m ∧ m ≤ 7 ∧ 1 ≤ n ∧ n ≤ 150 ∧ ∀ H', Same H H' → Q (.bl true) H'
theorem ok_l_roots_right (T : Txt K mg CK CW) : Ok P w K mg base 9 "_law_roots_right" ["_law_x", "_law_many", "_law_whole"] (sp_l_roots_right K) := by
  refine T.d_l_roots_right.ok (k := 8) sc_l_roots_right (fun _ _ _ _ _ _ us hl => match us, hl with | [_, _, _], _ => rfl) (fun vs H Q E h => ?_) (fun f cdv A outer s H vs Q E hr h => ?_)
  · obtain ⟨_, _, _, rfl, _⟩ := h
    rfl
  · obtain ⟨x, m, n, rfl, x0, x1, m1, m7, n1, n2, q⟩ := h
    obtain ⟨l, hl, hc, hs⟩ := apart_small n1 n2
    have hz := zL_root m1 x n
    refine ⟨_, (pss_cons (ps_set (i := 3) sc_l_roots_right.nd rfl (.inl rfl) (pe_ok (ok_roots T) (hr.mono (by decide)) (by rfl) (pa_cons (pv 0) (pa_cons (pv 1) (pa_cons (pv 2) pa_nil)))))
      (pss_cons (ps_if (PW.pt (pw_or (pt_cmpR (op_neD hr.units) (pe_ok (ok_zeros T) (hr.mono (by decide)) (by rfl) (pa_cons (pe_ok (ok_l_root_sum T) (hr.mono (by decide)) (by rfl) (pa_cons (pv 1) (pa_cons (pv 0) pa_nil))) (pa_cons (pv 2) pa_nil))) (pv 3) (nomark _)) (pw_or1 (pt_cmpR op_ne (pe_ok (ok_count_zeros T) (hr.mono (by decide)) (by rfl) (pa_cons (pe_ok (ok_l_root_sum T) (hr.mono (by decide)) (by rfl) (pa_cons (pv 1) (pa_cons (pv 0) pa_nil))) (pa_cons (pv 2) pa_nil))) (pe_callB call_len_seq (by rfl) T.b_len PySem.boot_len (pa_cons (pv 3) pa_nil)) (nomark _))))) (pss_one (ps_ret pe_bl)) pss_nil)
      (pss_cons (ps_if (pt_cmpR (op_neD hr.units) (pe_lc (own := [("_law_each", 4)]) (g := (gName 4)) rfl sc_l_roots_right.nd (pi_tup (pv 3)) (blkOk_by (own := [("_law_each", 4)]) (N := ["_law_x", "_law_many", "_law_whole", "_law_due", "_law_each"]) (sc := defScope s_l_roots_right) (by decide +kernel)) (fun _ _ _ _ _ => (pg_name (i := 4) sc_l_roots_right.nd rfl (.inl rfl))) (fun _ _ _ _ _ => (pts_one (pt_cmpR op_ne (pe_ok (ok_power_rest T) (hr.mono (by decide)) (by rfl) (pa_cons (pv 4) (pa_cons (pv 1) (pa_cons (pv 2) pa_nil)))) (pe_op op_mod (pe_callTy call_int1 (by rfl) T.b_int boot_int (pa_cons (pv 0) pa_nil)) (pv 2)) (nomark _)))) (fun _ _ _ _ _ => (pv 4))) (pe_lst pa_nil) (nomark _)) (pss_one (ps_ret pe_bl)) pss_nil)
      (pss_one (ps_ret (pe_or (pe_not (pe_ok (ok_is_open T) (hr.mono (by decide)) (by rfl) (pa_cons (pv 0) (pa_cons (pv 2) pa_nil)))) (pe_one (pe_cmpR op_eq (pe_okK (ok_count_rootsK T) (hr.mono (by decide)) (by rfl) (pk_cons (pv 0) (pk_cons (pv 1) (pk_cons (pv 2) pk_nil)))) (pe_callB call_len_seq (by rfl) T.b_len PySem.boot_len (pa_cons (pv 3) pa_nil)) (nomark _))))))))), ?_⟩
    refine ⟨_, rfl, _, rfl, _, rfl, x, m, n, rfl, by omega, by omega, by omega, n1, by omega, fun H1 due s1 hdue => ?_⟩
    refine ⟨_, rfl, _, rfl, m, x, rfl, m1, by omega, fun H2 rs s2 hrs => ⟨_, rfl, rs, n, _, l, rfl, hrs, rootSum_ok m1 m7 x0 x1, n1, by omega, hl, hc, fun H3 ze s3 hze => ?_⟩⟩
    have s23 := s2.trans s3
    refine ⟨_, rfl, neTup (SqT.of hze) (SqT.of (s23 _ _ hdue)) ?_⟩
    rw [hz, decide_eq_true rfl]
    refine ⟨_, rfl, iteF ?_⟩
    refine ⟨_, rfl, _, rfl, m, x, rfl, m1, by omega, fun H4 rs2 s4 hrs2 => ⟨_, rfl, rs2, n, _, l, rfl, hrs2, rootSum_ok m1 m7 x0 x1, n1, by omega, hl, hc, fun H5 s5 => ?_⟩⟩
    rw [hz]
    have s15 : Same H1 H5 := (s23.trans s4).trans s5
    have hdue5 := s15 _ _ hdue
    refine ⟨_, rfl, due, _, rfl, .inr (SqT.of hdue5), rfl, _, rfl, itNV2 (fun h => absurd (congrArg Int.ofNat (List.length_map (f := V.int)).symm) h) (fun _ => ?_)⟩
    refine ⟨_, rfl, due, rfl, ⟨_, SqT.of hdue5⟩, fun D hD => lc_tup (K := K) (a := due) (xs := iv (rootsL x m n)) (fun i H' => Same H5 H' ∧ H' D = some (.lst [])) ⟨same_upd hD, upd_same⟩ (fun i H' _ h => SqT.of (h.1 _ _ hdue5)) ?_ ?_⟩
    · rintro i y H6 hi ⟨s6, e6⟩
      obtain ⟨r, hr', rfl⟩ := ivGet hi
      have hm := List.mem_of_getElem? hr'
      unfold rootsL at hm
      obtain ⟨r0, hr0, rfl⟩ := List.mem_map.mp hm
      obtain ⟨hr1, hr2⟩ := List.mem_filter.mp hr0
      have hr1 := List.mem_range.mp hr1
      have hr2 := of_decide_eq_true hr2
      refine ⟨rfl, _, rfl, _, rfl, _, rfl, r0, m, n, rfl, by omega, by omega, by omega, by omega, by omega, by omega, ?_⟩
      rw [Int.toNat_natCast]
      refine ⟨_, rfl, .inl ⟨_, rfl, _, rfl, _, _, rfl, rfl, by show (0 : Int) < (n : Int); omega, rfl, _, rfl, itNV2 (fun h => absurd hr2 h) (fun _ => ⟨s6, e6⟩)⟩⟩
    · rintro H6 ⟨s6, e6⟩
      refine ⟨by show 0 ≤ sizeLine; decide, fun z nz => ?_⟩
      have s7 := same_upd (o := .lst []) nz
      refine neLst (K := K) (xs := []) (ys := []) (SqL.of (s7 _ _ e6)) (SqL.of upd_same) ?_
      refine ⟨_, rfl, iteF ?_⟩
      have s17 := (s15.trans s6).trans s7
      have s07 := s1.trans s17
      refine ⟨_, rfl, _, rfl, x, n, rfl, by omega, by omega, by omega, by omega, ?_⟩
      by_cases hg : Int.gcd x n = 1
      · rw [decide_eq_true hg]
        refine ⟨true, rfl, _, rfl, iteF ?_⟩
        refine ⟨_, rfl, _, rfl, _, rfl, x, m, n, l, rfl, by omega, by omega, by omega, by omega, by omega, by omega, hg, hl, hc.lok, fun H8 s8 => ?_⟩
        rw [countRoots_ok m1 m7 hc hs hg]
        refine ⟨_, rfl, due, _, rfl, .inr (SqT.of (s8 _ _ (s17 _ _ hdue))), rfl, ?_⟩
        rw [decV]
        exact bT (Q := Q) (congrArg Int.ofNat (List.length_map (f := V.int)).symm) (q _ (s07.trans s8))
      · rw [decide_eq_false hg]
        exact ⟨false, rfl, _, rfl, iteT (q _ s07)⟩
end
end RW

set_option maxHeartbeats 4000000
namespace RW
open PySem PySem.Spec PyProof.Rows L2
/-! ### repr of a list of two truths -/
def twoD (b c : Bool) : PyData := .list [.bool b, .bool c]
theorem call_repr_bools {X : Cx} (hg : X.A.guards = some []) (hu : X.A.units + 64 < cLine) : CallR X (.builtin "repr") (fun xs H Q => ∃ a b c, xs = [.ref a] ∧ SqL X.K H a [.bl b, .bl c] ∧ Q (.str (twoD b c).shown) H) := by
  intro pins s σ H xs us Q I r h
  obtain ⟨a, b, c, rfl, hS, q⟩ := h
  rw [Vals.ref1 r]
  obtain ⟨as, rd⟩ := Dp.reads I (twoD b c) (.ref a) (.ref a) (.lst hS (.cons (.bl b) (.cons (.bl c) .nil))) rfl
  refine PySem.repr_of_reads' rd (by cases b <;> cases c <;> rfl) (fun e => by cases b <;> cases c <;> cases e) hg (by show X.A.units + (1 + 1) < cLine; omega) (fun _ _ e => e) (fun h' u tk hk => ?_) (by cases b <;> cases c <;> decide +kernel)
  exact ⟨.str _, H, I.kept (t' := tk) hk, ⟨u, rfl⟩, q⟩
/-! ### promises that hold where no repr is under way -/
structure FnOkG (P : Program) (w : World) (K : PySem.W.Frag) (mg : Str → Option Value) (base : Heap) (k : Nat) (f : Addr) (fd : FuncData) (ps : List Str) (sp : Sp) : Prop where
  lenG : ∀ vs H Q E, sp vs H Q E → vs.length = ps.length
  runG : ∀ (A : Around) (out : List Env) (s : Shared) (H : Hp) (ar : Args) (us : List Value) (vs : List V) (Q : VK) (E : XK), A.guards = some [] → Room k A → Env0 P w K mg base A out s H → BindsTo s fd ar (ps.zip us) → Vals vs us → sp vs H Q E →
    codeAny (model P w) A (.call (.ref f) ar) (CR CX0 out P w H s Q E) s
structure OkG (P : Program) (w : World) (K : PySem.W.Frag) (mg : Str → Option Value) (base : Heap) (k : Nat) (x : Str) (ps : List Str) (sp : Sp) : Prop where
  ex : ∃ f fd, mg x = some (.ref f) ∧ PySem.W.keepIn K (.ref f) = true ∧ Binds K fd ps [] ∧ FnOkG P w K mg base k f fd ps sp
theorem DefAt.okG {P : Program} {w : World} {K : PySem.W.Frag} {mg : Str → Option Value} {base : Heap} {x : Str} {st : Stmt} {N ps : List Str} {k : Nat} {sp : Sp} (D : DefAt K mg x st) (S : FnScope N ps (defScope st)) (hb : BindsAs x x st ps) (len : ∀ vs H Q E, sp vs H Q E → vs.length = ps.length)
    (body : ∀ (f : Addr) (cdv : Value) (A : Around) (outer : List Env) (s : Shared) (H : Hp) (vs : List V) (Q : VK) (E : XK), A.guards = some [] → Room k (A.deeper (envOfC x (defScope st) s.heap.objs.size f cdv)) → sp vs H Q E →
      ∃ t, PSs (cxOf CX0 P w K mg base N x (defScope st) f cdv A outer s H E).nox (defBody st) t ∧ t { nx := fun _ H' => Q .non H', rt := Q } (start N vs) H) : OkG P w K mg base (k + 1) x ps sp := by
  obtain ⟨f, fd, hm, F⟩ := D.ex
  refine ⟨f, fd, hm, F.kp, F.binds hb, len, fun A out s H ar us vs Q E hA hr env bind vals want => ?_⟩
  obtain ⟨oc, od, kV, doc, pm, an, cdv, ct, osl, rfl, lk, hcd⟩ := F.ex
  have below : ∀ b o, base.get? b = some o → s.heap.get? b = some o := fun b o e => (env.bs b o e).1
  have kin := env.mod.kin.keeps below
  have nolim := env.mod.nolimit.keeps below
  refine codeAny_call_function hr.depth (kin _ _ lk) rfl S.co S.gen rfl (PySem.W.codeRec_of kin hcd) (bind _ _ _ _ (wpAny_newFunctionEnv_cells S.kind (fun y hy => ?_) fun e1 he s1 xx => ?_))
  · obtain ⟨n, v⟩ := y
    exact (S.par n (List.of_mem_zip hy).1).imp id fun q => ⟨q, PySem.W.cellsFrom_some _ _ _ (.inl q)⟩
  · subst he
    obtain ⟨t, ht, hq⟩ := body f cdv A out s H vs Q E hA (hr.deeper _) want
    have start0 : Inv (cxOf CX0 P w K mg base N x (defScope st) f cdv A out s H E) [] (start N vs) H s1 := inv_start S hr.hd env (len _ _ _ _ want) vals xx
    refine ⟨nolim.keeps xx.toInCall.keep, codeAny_func (wpAny_mono (ht.nox.run [] s1 (start N vs) H _ start0 hq) (fun fl s' hs => ?_) fun e s' hs => hs)⟩
    match fl, hs with
    | .ret u, ⟨v, σ', H', J, rv, q⟩ => exact ⟨v, H', J.os, J.bare, J.base, J.hok, rv, q⟩
    | .next, ⟨σ', H', J, q⟩ => exact ⟨V.non, H', J.os, J.bare, J.base, J.hok, rfl, q⟩
    | .brk, ⟨_, _, _, q⟩ => exact q.elim
    | .cont, ⟨_, _, _, q⟩ => exact q.elim
theorem pe_okG {X : Cx} {k : Nat} {x : Str} {ps : List Str} {sp : Sp} {p pos : Pos} {e : Expr} {es : List Expr} {t : TA} (O : OkG X.prog X.w X.K X.mg X.base k x ps sp) (hA : X.A.guards = some []) (hr : Room k X.A) (hg : Gl X x) (ha : PA X (e :: es) t)
    (hdb : (x == ("__debug__" : Str)) = false := by decide) (he : starEach (e :: es) X.env = (false, eval e X.env) :: starEach es X.env := by rfl) (hpl : (backTo pos (starEach es X.env)).any (·.1) = false := by rfl) :
    PE X (.Call (.Name x p) (e :: es) [] pos) (tCallKw sp t) := by
  obtain ⟨f, fd, hm, kp, bd, F⟩ := O.ex
  refine ⟨fun pins s σ H Q I h => wpAny_Call_Name_kw (ld_glob I hg hm (PySem.W.callWith_K (h₀ := X.base) I.ok.mod.kin kp (thn (ha.run pos pins s σ H _ I h) fun us s1 ⟨vs, H1, I1, r, q⟩ => ⟨I1.kIn, ?_⟩) he hpl) hdb)⟩
  have hl : (us ++ []).length = ps.length := by rw [List.append_nil, ← r.length]; exact F.lenG _ _ _ _ q
  have bt := bd s1 us I1.kIn hl
  rw [List.append_nil] at bt
  refine wpAny_call (codeAny_mono (F.runG X.A X.stack s1 H1 ⟨us, []⟩ us vs Q E0 hA hr I1.env0 bt r q) fun r s' hq => ?_)
  match r, hq with
  | .error e, hq => exact pass0 pins σ H1 s1 e s' I1 hq
  | .ok (.ret u), hq => exact I1.after hq
  | .ok .next, hq => exact hq.elim
  | .ok .brk, hq => exact hq.elim
  | .ok .cont, hq => exact hq.elim
end RW

set_option maxHeartbeats 4000000
namespace RW
open PySem PySem.Spec PyProof.Rows L2
theorem root8 {x : Int} (h : x % 2 ≠ 0) : (!decide (rootsL x 2 8 = [])) = decide (-x % 8 = 7) := by
  have h8 : x % 8 = 1 ∨ x % 8 = 3 ∨ x % 8 = 5 ∨ x % 8 = 7 := by omega
  have hr : rootsL x 2 8 = ((List.range 8).filter fun (r : Nat) => decide ((r : Int) ^ 2 % 8 = x % 8)).map fun (r : Nat) => (r : Int) := rfl
  rw [hr]
  rcases h8 with e | e | e | e
  · rw [e, decide_eq_true (show -x % 8 = 7 by omega)]
    decide
  all_goals
    rw [e, decide_eq_false (show ¬ -x % 8 = 7 by omega)]
    decide
theorem root_near {x : Int} {p : Nat} (h : x % (p : Int) ≠ 0) : (!decide (rootsL x 2 (if p = 2 then 8 else p) = [])) = hasRoot (-x) p := by
  unfold hasRoot
  by_cases h2 : p = 2
  · subst h2
    exact root8 h
  · rw [if_neg h2, if_neg h2, Int.neg_neg]
    by_cases he : rootsL x 2 p = []
    · rw [decide_eq_true he, decide_eq_false (fun z => z he)]
      rfl
    · rw [decide_eq_false he, decide_eq_true he]
      rfl
theorem shapedTpl (n : Nat) (d : Nat) (h : n ≤ 2) : SeqAt.shaped (.list (List.replicate n (.tuple ([1, (d : Int)].map PyData.int)))) = true := by
  match n, h with
  | 0, _ => rfl
  | 1, _ => rfl
  | 2, _ => rfl
theorem eqvTpl (n d : Nat) (h : n ≤ 2) : PyData.eqv (.list (List.replicate n (.tuple ([1, (d : Int)].map PyData.int)))) (.list (List.replicate n (.tuple ([1, (d : Int)].map PyData.int)))) = true := by
  have e : PyData.eqv (.tuple ([1, (d : Int)].map PyData.int)) (.tuple ([1, (d : Int)].map PyData.int)) = true := by
    rw [eqvTup]
    exact decide_eq_true rfl
  match n, h with
  | 0, _ => rfl
  | 1, _ =>
    show (PyData.eqv _ _ && true) = true
    rw [e]
    rfl
  | 2, _ =>
    show (PyData.eqv _ _ && (PyData.eqv _ _ && true)) = true
    rw [e]
    rfl
section
variable {P : Program} {w : World} {K : PySem.W.Frag} {mg : Str → Option Value} {base : Heap} {CK CW : Addr}
def sp_l_squares_right (_K : PySem.W.Frag) : Sp := fun vs H Q _ => ∃ (x : Int) (p : Nat), vs = [.int x, .int p] ∧ -200 ≤ x ∧ x ≤ 200 ∧ SmallP p ∧ ∀ H', Same H H' → Q (.bl true) H'
theorem ok_l_squares_right (T : Txt K mg CK CW  ) : OkG P w K mg base 10 "_law_squares_right" ["_law_x", "_law_p"] (sp_l_squares_right K) := by
  refine T.d_l_squares_right.okG (k := 9) sc_l_squares_right (fun _ _ _ _ _ _ us hl => match us, hl with | [_, _], _ => rfl) (fun vs H Q E h => ?_) (fun f cdv A outer s H vs Q E hA hr h => ?_)
  · obtain ⟨_, _, rfl, _⟩ := h
    rfl
  · obtain ⟨x, p, rfl, x0, x1, hp, q⟩ := h
    have p2 := hp.two
    refine ⟨_, (pss_cons (ps_par (i := 2) (j := 3) (by rfl) sc_l_squares_right.nd rfl rfl (by decide) rfl rfl (pa_cons (pe_ok (ok_l_root_sum T) (hr.mono (by decide)) (by rfl) (pa_cons pe_int (pa_cons (pv 0) pa_nil))) (pa_cons (pe_ifExp (pt_cmpR op_gt (pv 1) pe_int (nomark _)) (pv 1) pe_int) pa_nil)) (by rfl))
      (pss_cons (ps_if (pt_cmpR op_eq (pe_op op_mod (pe_callTy call_int1 (by rfl) T.b_int boot_int (pa_cons (pv 0) pa_nil)) (pv 1)) pe_int (nomark _)) (pss_one (ps_ret pe_bl)) pss_nil)
      (pss_cons (ps_set (i := 4) sc_l_squares_right.nd rfl (.inl rfl) (pe_cmpR (op_neD hr.units) (pe_ok (ok_roots T) (hr.mono (by decide)) (by rfl) (pa_cons (pv 0) (pa_cons pe_int (pa_cons (pv 3) pa_nil)))) (pe_tup pa_nil) (nomark _)))
      (pss_cons (ps_if (pt_cmpR op_ne (pe_callB (call_repr_bools hA hr.units) (by rfl) T.b_repr (by decide +kernel) (pa_cons (pe_lst (pa_cons (pe_ok (ok_has_all_powers T) (hr.mono (by decide)) (by rfl) (pa_cons (pv 2) (pa_cons (pv 1) pa_nil))) (pa_cons (pe_cmpR op_isN (pe_ok (ok_first_power_without T) (hr.mono (by decide)) (by rfl) (pa_cons (pv 2) (pa_cons (pv 1) pa_nil))) pe_non (nomark _)) pa_nil))) pa_nil)) (pe_callB (call_repr_bools hA hr.units) (by rfl) T.b_repr (by decide +kernel) (pa_cons (pe_lst (pa_cons (pv 4) (pa_cons (pv 4) pa_nil))) pa_nil)) (nomark _)) (pss_one (ps_ret pe_bl)) pss_nil)
      (pss_cons (ps_set (i := 5) sc_l_squares_right.nd rfl (.inl rfl) (pe_op op_rep (pe_lst (pa_cons (pe_tup (pa_cons pe_int (pa_cons (pe_ifExp (pt_cmpR op_eq (pv 1) pe_int (nomark _)) pe_int pe_int) pa_nil))) pa_nil)) (pe_ifExp (pt_val (pv 4)) pe_int pe_int)))
      (pss_one (ps_ret (pe_cmpR (op_eqD hr.units) (pe_lc (own := [("_law_each", 6)]) (te := tSl (rSlT K) (tVar 6) (tPart (tC (.int 1))) tNoPart) (g := (gName 6)) rfl sc_l_squares_right.nd (pi_tup (pe_ok (ok_endless T) (hr.mono (by decide)) (by rfl) (pa_cons (pv 2) (pa_cons (pv 1) (pa_cons pe_int pa_nil))))) (blkOk_by (own := [("_law_each", 6)]) (N := ["_law_x", "_law_p", "_law_coeffs", "_law_near", "_law_is_so", "_law_due", "_law_each"]) (sc := defScope s_l_squares_right) (by decide +kernel)) (fun _ _ _ _ _ => (pg_name (i := 6) sc_l_squares_right.nd rfl (.inl rfl))) (fun _ _ _ _ _ => pts_nil) (fun _ _ _ _ _ => (pe_slice sl_tup (pv 6) (po_some pe_int) po_none))) (pv 5) (nomark _))))))))), ?_⟩
    obtain ⟨near, hnear⟩ : ∃ near : Nat, near = if p = 2 then 8 else p := ⟨_, rfl⟩
    have nb : 1 ≤ near ∧ near ≤ 900 := by
      rw [hnear]
      split <;> omega
    refine ⟨_, rfl, 2, x, rfl, by decide, by decide, fun H1 co s1 hco => ?_⟩
    refine (show ∀ Qx : VK, Qx (.int (near : Nat)) H1 → tIf _ _ _ _ _ Qx from ?_) _ ?_
    · intro Qx hq
      refine ⟨_, rfl, _, _, rfl, rfl, _, rfl, it2 (fun h => ⟨_, rfl, ?_⟩) (fun h => ?_)⟩
      · rw [hnear, if_neg (show ¬ p = 2 by intro z; rw [z] at h; exact absurd h (by decide))] at hq
        exact hq
      · rw [hnear, if_pos (show p = 2 by have : ¬ (2 : Int) < p := h; omega)] at hq
        exact hq
    refine ⟨_, _, rfl, ?_⟩
    refine ⟨_, rfl, .inl ⟨_, rfl, _, rfl, _, _, rfl, rfl, by show (0 : Int) < (p : Int); omega, rfl, _, rfl, itV2 (fun h => q _ s1) (fun h => ?_)⟩⟩
    have hc : (-x) % (p : Int) ≠ 0 := fun z => h (by
      have := Int.dvd_of_emod_eq_zero z
      exact Int.emod_eq_zero_of_dvd (Int.dvd_neg.mp this))
    have hs : SqP (-x) p := ⟨sqOk (by intro z; rw [z] at hc; exact hc (Int.zero_emod _)) (by omega) (by omega), hp, hc, by omega, by omega⟩
    have hco : H1 co = some (.tup (iv [-x, 0, 1])) := hco
    refine ⟨_, rfl, _, rfl, x, 2, near, rfl, by omega, by omega, by decide, by omega, by omega, fun H2 ro s2 hro => ⟨by show 0 ≤ sizeLine; decide, fun z nz => ?_⟩⟩
    have s3 := same_upd (o := .tup []) nz
    refine neTup (K := K) (ys := []) (SqT.of (s3 _ _ hro)) (SqT.of upd_same) ?_
    rw [hnear, root_near h]
    have s03 := (s1.trans s2).trans s3
    have hco3 := s3 _ _ (s2 _ _ hco)
    refine ⟨_, rfl, _, rfl, co, -x, p, rfl, hco3, hs, fun H3 s4 => ?_⟩
    refine ⟨_, rfl, _, rfl, co, -x, p, rfl, s4 _ _ hco3, hs, fun H4 v s5 hv => ⟨rfl, by show 2 ≤ sizeLine; decide, fun l nl => ?_⟩⟩
    have hvd : decide (v = V.non) = hasRoot (-x) p := by
      rcases hv with ⟨e, rfl⟩ | ⟨e, b, rfl⟩
      · rw [e]
        rfl
      · rw [e]
        rfl
    rw [hvd]
    have s6 := same_upd (o := .lst [.bl (hasRoot (-x) p), .bl (hasRoot (-x) p)]) nl
    refine ⟨l, _, _, rfl, SqL.of upd_same, ?_⟩
    refine ⟨_, rfl, _, rfl, by show 2 ≤ sizeLine; decide, fun l2 nl2 => ⟨l2, _, _, rfl, SqL.of upd_same, rfl, _, rfl, itN2 (fun ne => absurd rfl ne) (fun _ => ?_)⟩⟩
    have s7 := same_upd (o := .lst [.bl (hasRoot (-x) p), .bl (hasRoot (-x) p)]) nl2
    have s47 := ((s4.trans s5).trans s6).trans s7
    generalize hH5 : upd (upd H4 l (.lst [.bl (hasRoot (-x) p), .bl (hasRoot (-x) p)])) l2 (.lst [.bl (hasRoot (-x) p), .bl (hasRoot (-x) p)]) = H5 at s7 s47 ⊢
    have hs5 : Same H H5 := s03.trans s47
    have hco5 := s47 _ _ hco3
    have n2 := nW_le hs
    have hnr := nW_root hs
    refine ⟨_, rfl, rfl, _, rfl, itV2 (fun e => ?_) (fun e => ?_)⟩
    case' refine_1 =>
      have hdp : dpt p = 1 := if_pos (show p = 2 by omega)
      have e1 : HO.tup (iv [1, (dpt p : Int)]) = HO.tup [V.int 1, V.int 1] := by rw [hdp]; rfl
    case' refine_2 =>
      have hdp : dpt p = 0 := if_neg (show ¬ p = 2 by omega)
      have e1 : HO.tup (iv [1, (dpt p : Int)]) = HO.tup [V.int 1, V.int 0] := by rw [hdp]; rfl
    all_goals
      refine ⟨by show 2 ≤ sizeLine; decide, fun t nt => ⟨by show 1 ≤ sizeLine; decide, fun l3 nl3 => ?_⟩⟩
      have s8 := same_upd (o := .tup (iv [1, dpt p])) nt
      have htp : ∀ H', Same (upd H5 t (.tup (iv [1, dpt p]))) H' → TpAt H' (.ref t) [1, dpt p] := fun H' s => ⟨t, rfl, s _ _ upd_same⟩
      rw [e1] at s8 htp
      refine ⟨_, rfl, _, rfl, ite2 (fun hh => ?_) (fun hh => ?_)⟩
      case' refine_1 =>
        have hk : nW (-x) p = 2 := by rw [hnr, if_pos hh]
        have e2 : (List.replicate (Int.toNat 2) [V.ref t]).flatten = List.replicate (nW (-x) p) (V.ref t) := by rw [hk]; rfl
      case' refine_2 =>
        have hk : nW (-x) p = 0 := by rw [hnr, if_neg hh]
        have e2 : (List.replicate (Int.toNat 0) [V.ref t]).flatten = List.replicate (nW (-x) p) (V.ref t) := by rw [hk]; rfl
      all_goals
        refine ⟨l3, _, _, rfl, rfl, upd_same, by decide, by decide, by show 1 * _ ≤ sizeLine; decide, fun p4 n4 => ?_⟩
        rw [e2]
        have s9 := same_upd (o := .lst [.ref t]) nl3
        have s10 := same_upd (o := .lst (List.replicate (nW (-x) p) (V.ref t))) n4
        have s810 := s9.trans s10
        have s510 := s8.trans s810
        refine ⟨_, rfl, _, rfl, co, -x, p, rfl, s510 _ _ hco5, hs, fun H9 pr ys s11 hpr hyl hys => ?_⟩
        refine ⟨pr, rfl, ⟨_, SqT.of hpr⟩, fun D hD => lc_tup (K := K) (a := pr) (xs := ys) (fun i H' => Same H9 H' ∧ ∃ acc, H' D = some (.lst acc) ∧ acc.length = i ∧ ∀ v ∈ acc, TpAt H' v [1, dpt p]) ⟨same_upd hD, [], upd_same, rfl, by simp⟩ (fun i H' _ h => SqT.of (h.1 _ _ hpr)) ?_ ?_⟩
        · rintro i y H10 hi ⟨s12, acc, e10, hl, ha⟩
          have ilt := (List.getElem?_eq_some_iff.mp hi).1
          obtain ⟨z', t', rfl, ht'⟩ := hys _ (List.mem_of_getElem? hi)
          refine ⟨rfl, _, rfl, _, rfl, t', _, rfl, SqT.of (s12 _ _ ht'), (fun e => absurd (show HT.sIx 3 0 (some 1) = 0 from e.1) (by decide)), fun cc ncc => ?_⟩
          have s13 := same_upd (o := .tup (iv [1, dpt p])) ncc
          have e13 := s13 _ _ e10
          refine ⟨acc, e13, small1000 (by omega), (s12.trans s13).wr hD, _, upd_same, by rw [List.length_append, hl]; rfl, fun v hv => ?_⟩
          rcases List.mem_append.mp hv with hv | hv
          · exact ((ha v hv).same s13).wr e13
          · rw [List.mem_singleton.mp hv]
            exact TpAt.wr e13 ⟨cc, rfl, upd_same⟩
        · rintro H10 ⟨s12, acc, e10, hl, ha⟩
          have hdue := s12 _ _ (s11 _ _ upd_same)
          refine ⟨_, rfl, _, _, .lst (SqL.of e10) (dpTps ha), .lst (SqL.of hdue) (dpTps (ns := [1, dpt p]) fun v hv => ?_), ?_, ?_, ?_⟩
          · rw [(List.mem_replicate.mp hv).2]
            exact htp _ ((s810.trans s11).trans s12)
          · rw [hl, hyl]
            exact shapedTpl _ _ n2
          · rw [List.length_replicate]
            exact shapedTpl _ _ n2
          · rw [hl, hyl, List.length_replicate, eqvTpl _ _ n2]
            exact q _ (((hs5.trans s510).trans s11).trans s12)
end
end RW

set_option maxHeartbeats 4000000
namespace RW
open PySem PySem.Spec PyProof.Rows L2
theorem CupAt.ne {H : Hp} {a b : Addr} (h : CupAt H a) (n : H b = none) : b ≠ a := by
  obtain ⟨_, _, _, _, _, e⟩ := h
  exact (ne_of_none e n).symm
section
variable {P : Program} {w : World} {K : PySem.W.Frag} {mg : Str → Option Value} {base : Heap} {CK CW : Addr}
def sp_l_right (_K : PySem.W.Frag) : Sp := fun vs H Q _ => ∃ a : Addr, vs = [.ref a] ∧ CupAt H a ∧ ∀ H', SameX a H H' → Q (.bl true) H'
theorem ok_l_right (T : Txt K mg CK CW  ) : OkG P w K mg base 11 "_law_right" ["_law_cup_here"] (sp_l_right K) := by
  refine T.d_l_right.okG (k := 10) sc_l_right (fun _ _ _ _ _ _ us hl => match us, hl with | [_], _ => rfl) (fun vs H Q E h => ?_) (fun f cdv A outer s H vs Q E hA hr h => ?_)
  · obtain ⟨_, rfl, _⟩ := h
    rfl
  · obtain ⟨a, rfl, hC, q⟩ := h
    refine ⟨_, (pss_cons (ps_for PassesOwn.never rfl (pi_range1 (by rfl) T.b_range (pa_cons pe_int pa_nil)) (pg_name (i := 1) sc_l_right.nd rfl (.inl rfl)) (pss_cons (ps_par3 (i := 2) (j := 3) (l := 4) (by rfl) sc_l_right.nd rfl rfl rfl (by decide) (by decide) (by decide) rfl rfl rfl (pa_cons (pe_op op_sub (pe_ok (ok_l_sip T) (hr.mono (by decide)) (by rfl) (pa_cons (pv 0) (pa_cons pe_int pa_nil))) pe_int) (pa_cons (pe_op op_add pe_int (pe_ok (ok_l_sip T) (hr.mono (by decide)) (by rfl) (pa_cons (pv 0) (pa_cons pe_int pa_nil)))) (pa_cons (pe_op op_add pe_int (pe_ok (ok_l_sip T) (hr.mono (by decide)) (by rfl) (pa_cons (pv 0) (pa_cons pe_int pa_nil)))) pa_nil))) (by rfl))
      (pss_cons (ps_if (pt_not (pt_val (pe_ok (ok_l_roots_right T) (hr.mono (by decide)) (by rfl) (pa_cons (pe_ok (ok_l_any T) (hr.mono (by decide)) (by rfl) (pa_cons (pv 0) (pa_cons (pe_lst (pa_cons (pv 2) (pa_cons (pv 2) (pa_cons pe_int (pa_cons pe_int (pa_cons (pe_un un_neg pe_int) pa_nil)))))) pa_nil))) (pa_cons (pv 3) (pa_cons (pv 4) pa_nil)))))) (pss_one (ps_ret pe_bl)) pss_nil)
      (pss_one (ps_if (pt_not (pt_val (pe_okG (ok_l_squares_right T) hA (hr.mono (by decide)) (by rfl) (pa_cons (pv 2) (pa_cons (pe_ok (ok_l_any T) (hr.mono (by decide)) (by rfl) (pa_cons (pv 0) (pa_cons (pe_lst (pa_cons pe_int (pa_cons pe_int (pa_cons pe_int (pa_cons pe_int (pa_cons pe_int (pa_cons pe_int (pa_cons pe_int pa_nil)))))))) pa_nil))) pa_nil))))) (pss_one (ps_ret pe_bl)) pss_nil)))))
      (pss_one (ps_ret pe_bl))), ?_⟩
    refine ⟨3, rfl, by decide, by decide, for_range (lo := 0) (n := 3) (fun i σ H' => ∃ (z1 z2 z3 z4 : Option V), σ = [some (.ref a), z1, z2, z3, z4] ∧ SameX a H H' ∧ CupAt H' a) ⟨none, none, none, none, rfl, .of (Same.refl _), hC⟩ ?_ ?_⟩
    · rintro i σ H0 hi ⟨z1, z2, z3, z4, rfl, s0, c0⟩
      refine ⟨_, rfl, a, 400, rfl, c0, by decide, by decide, fun H1 d1 s1 c1 a1 b1 => ?_⟩
      refine ⟨_, _, rfl, rfl, _, rfl, a, 7, rfl, c1, by decide, by decide, fun H2 d2 s2 c2 a2 b2 => ?_⟩
      refine ⟨_, _, rfl, rfl, _, rfl, a, 150, rfl, c2, by decide, by decide, fun H3 d3 s3 c3 a3 b3 => ?_⟩
      refine ⟨_, _, rfl, rfl, _, _, _, rfl, ?_⟩
      obtain ⟨k2, rfl⟩ : ∃ k : Nat, d2 = k := ⟨d2.toNat, by omega⟩
      obtain ⟨k3, rfl⟩ : ∃ k : Nat, d3 = k := ⟨d3.toNat, by omega⟩
      have em : (1 : Int) + (k2 : Int) = ((1 + k2 : Nat) : Int) := by omega
      have en : (1 : Int) + (k3 : Int) = ((1 + k3 : Nat) : Int) := by omega
      refine ⟨_, rfl, _, rfl, _, rfl, _, rfl, by show 5 ≤ sizeLine; decide, fun l nl => ?_⟩
      have t1 := same_upd (o := .lst [.int (d1 - 200), .int (d1 - 200), .int 0, .int 1, .int (-1)]) nl
      refine ⟨a, l, [d1 - 200, d1 - 200, 0, 1, -1], rfl, c3.same t1, upd_same, c3.ne nl, by simp, by simp, fun H4 z s4 c4 hz => ?_⟩
      have hzb : -200 ≤ z ∧ z ≤ 200 := by
        simp at hz
        rcases hz with rfl | rfl | rfl | rfl <;> omega
      refine ⟨_, rfl, _, rfl, z, 1 + k2, 1 + k3, by rw [← em, ← en]; rfl, hzb.1, hzb.2, by omega, by omega, by omega, by omega, fun H5 s5 => ⟨true, rfl, iteF ?_⟩⟩
      have c5 := c4.same s5
      refine ⟨_, rfl, _, rfl, by show 7 ≤ sizeLine; decide, fun l2 nl2 => ?_⟩
      have t2 := same_upd (o := .lst [.int 2, .int 2, .int 3, .int 5, .int 7, .int 11, .int 31]) nl2
      refine ⟨a, l2, [2, 2, 3, 5, 7, 11, 31], rfl, c5.same t2, upd_same, c5.ne nl2, by simp, by simp, fun H6 y s6 c6 hy => ?_⟩
      obtain ⟨p, rfl, hp⟩ : ∃ p : Nat, y = p ∧ SmallP p := by
        simp at hy
        rcases hy with rfl | rfl | rfl | rfl | rfl | rfl
        · exact ⟨2, rfl, .inl rfl⟩
        · exact ⟨3, rfl, .inr (.inl rfl)⟩
        · exact ⟨5, rfl, .inr (.inr (.inl rfl))⟩
        · exact ⟨7, rfl, .inr (.inr (.inr (.inl rfl)))⟩
        · exact ⟨11, rfl, .inr (.inr (.inr (.inr (.inl rfl))))⟩
        · exact ⟨31, rfl, .inr (.inr (.inr (.inr (.inr rfl))))⟩
      refine ⟨d1 - 200, p, rfl, by omega, by omega, hp, fun H7 s7 => ⟨true, rfl, iteF ?_⟩⟩
      refine ⟨_, _, _, _, rfl, ?_, c6.same s7⟩
      exact (((((((s0.trans s1).trans s2).trans s3).trans (.of t1)).trans s4).trans (.of s5)).trans (.of t2)).trans s6 |>.trans (.of s7)
    · rintro σ H0 ⟨z1, z2, z3, z4, rfl, s0, c0⟩
      exact q _ s0
def sp_law (K : PySem.W.Frag) : Sp := fun vs H Q _ => ∃ (a : Addr) (ns : List Int), vs = [.ref a] ∧ SqL K H a (iv ns) ∧ ns.length ≤ 1000 ∧ ∀ H', Q (.bl true) H'
theorem ok_law (T : Txt K mg CK CW) (D : DefAt K mg "law" s_law) : OkG P w K mg base (11 + 1) "law" ["_law_script"] (sp_law K) := by
  refine D.okG (k := 11) sc_law (fun _ _ _ _ _ _ us hl => match us, hl with | [_], _ => rfl) (fun vs H Q E h => ?_) (fun f cdv A outer s H vs Q E hA hr h => ?_)
  · obtain ⟨_, _, rfl, _⟩ := h
    rfl
  · obtain ⟨a, ns, rfl, hA', hl, q⟩ := h
    refine ⟨_, (pss_one (ps_ret (pe_callB (cr_all rfl) (by rfl) T.b_all (by decide +kernel) (pa_cons (pe_lc (own := [("_law_k", 1)]) (g := (gName 1)) rfl sc_law.nd (pi_range1 (by rfl) T.b_range (pa_cons (pe_callB (call_max2 rfl) (by rfl) T.b_max (by decide +kernel) (pa_cons pe_int (pa_cons (pe_callB (call_min2 rfl) (by rfl) T.b_min (by decide +kernel) (pa_cons (pe_callB call_len_seq (by rfl) T.b_len PySem.boot_len (pa_cons (pv 0) pa_nil)) (pa_cons pe_int pa_nil))) pa_nil))) pa_nil)) (blkOk_by (own := [("_law_k", 1)]) (N := ["_law_script", "_law_k"]) (sc := defScope s_law) (by decide +kernel)) (fun _ _ _ _ _ => (pg_name (i := 1) sc_law.nd rfl (.inl rfl))) (fun _ _ _ _ _ => pts_nil) (fun _ _ _ _ _ => (pe_okG (ok_l_right T) hA (hr.mono (by decide)) (by rfl) (pa_cons (pe_ok (ok_l_cup T) (hr.mono (by decide)) (by rfl) (pa_cons (pv 0) (pa_cons (pv 1) pa_nil))) pa_nil)))) pa_nil)))), ?_⟩
    refine ⟨_, rfl, a, _, rfl, .inl hA', _, _, rfl, _, _, rfl, ?_⟩
    obtain ⟨n, hn, hn3⟩ : ∃ n : Nat, (if (if (3 : Int) < ((iv ns).length : Int) then (3 : Int) else ((iv ns).length : Int)) > 2 then (if (3 : Int) < ((iv ns).length : Int) then (3 : Int) else ((iv ns).length : Int)) else 2) = (n : Int) ∧ n ≤ 3 := by
      rw [ivLen]
      by_cases h1 : (3 : Int) < (ns.length : Int)
      · rw [if_pos h1]
        exact ⟨3, rfl, by decide⟩
      · rw [if_neg h1]
        by_cases h2 : (ns.length : Int) > 2
        · rw [if_pos h2]
          exact ⟨ns.length, rfl, by omega⟩
        · rw [if_neg h2]
          exact ⟨2, rfl, by decide⟩
    refine ⟨n, congrArg (fun z => [V.int z]) hn, by omega, by omega, fun D hD => ?_⟩
    rw [Int.toNat_natCast]
    refine lc_range (lo := 0) (n := n) (fun i H' => Same H H' ∧ ∃ acc, H' D = some (.lst acc) ∧ acc.length ≤ i ∧ ∀ v ∈ acc, v = V.bl true) ⟨same_upd hD, [], upd_same, Nat.le_refl _, by simp⟩ ?_ ?_
    · rintro i H1 hi ⟨s1, acc, e1, hl1, ha⟩
      refine ⟨rfl, _, rfl, _, rfl, a, ns, i, congrArg (fun z => [V.ref a, V.int z]) (show (0 : Int) + (i : Int) = (i : Int) by omega), s1.seq hA', by omega, hl, fun H2 c s2 nc hc => ?_⟩
      refine ⟨c, rfl, hc, fun H3 s3 => ?_⟩
      have s13 : Same H1 H3 := fun b u e => s3 b u (ne_of_none e nc) (s2 _ _ e)
      refine ⟨acc, s13 _ _ e1, small1000 (by omega), (s1.trans s13).wr hD, _, upd_same, by rw [List.length_append]; simp; omega, fun v hv => ?_⟩
      rcases List.mem_append.mp hv with hv | hv
      · exact ha v hv
      · exact List.mem_singleton.mp hv
    · rintro H1 ⟨s1, acc, e1, hl1, ha⟩
      obtain ⟨bs, rfl, hb⟩ := lcTrue ha
      refine ⟨D, bs, rfl, SqL.of e1, ?_⟩
      rw [hb]
      exact q _
end
end RW

set_option maxHeartbeats 4000000
namespace RW
open PySem PySem.Spec PyProof.Rows L2
/-- what is tracked when the law is called: its list, where the module does not hold it itself -/
theorem tracked {P : Program} {w : World} {K : PySem.W.Frag} {h : Heap} {a : Addr} {vs : List Value} {ns : List Int} (kin : K.In h) (at_a : h.get? a = some { cls := .type "list", data := .seq vs.toArray }) (hin : IntsAre vs ns) (hz : ns.length ≤ sizeLine) :
    ∃ H : Hp, SqL K H a (iv ns) ∧ HOk P w H h ∧ ∀ b, H b = none ∨ (b = a ∧ K.lookup a = none ∧ ∃ o xs, H b = some (.frz o (.lst xs))) := by
  have rel := vals_ints hin
  have len := hin.length
  cases lk : K.lookup a with
  | some ob =>
    have same := (kin a ob lk).symm.trans at_a
    cases same
    refine ⟨fun _ => none, .inr ⟨_, vs.toArray, _, lk, rfl, rfl, rfl, by rw [List.size_toArray, len]; exact hz, by simpa using rel⟩, fun b u e => (by cases e), fun b => .inl rfl⟩
  | none =>
    refine ⟨fun b => if b = a then some (.frz { cls := .type "list", data := .seq vs.toArray } (.lst (iv ns))) else none, .inl (.inr ⟨_, if_pos rfl⟩), fun b u e => ?_, fun b => ?_⟩
    · by_cases q : b = a
      · subst q
        have e2 := (if_pos rfl).symm.trans e
        cases e2
        exact ⟨at_a, by rw [ivLen]; exact hz, vs, _, rel, at_a⟩
      · cases (if_neg q).symm.trans e
    · by_cases q : b = a
      · exact .inr ⟨q, rfl, _, _, if_pos q⟩
      · exact .inl (if_neg q)
theorem law_run {P : Program} {w : World} {K : PySem.W.Frag} {mg mb : Str → Option Value} {k : Nat} {fa a : Addr} {x y : Str} {sp : Sp} {s : Shared} {vs : List Value} {ns : List Int} (kin : K.In s.heap) (gl : s.heap.Ns mainGlobals mg) (bu : s.heap.Ns builtinsNs mb)
    (boot : ∀ x : Str, x ≠ "__name__" → mb x = bootBuiltins x) (nolim : s.heap.NoLimit) (nogen : s.gens = #[]) (at_a : s.heap.get? a = some { cls := .type "list", data := .seq vs.toArray }) (hin : IntsAre vs ns) (hz : ns.length ≤ sizeLine) (room : Room k callerA) (hx : mg x = some (.ref fa))
    (F : ∀ base : Heap, K.In base → base.Ns mainGlobals mg → OkG P w K mg base k x [y] sp) (want : ∀ H : Hp, SqL K H a (iv ns) → sp [.ref a] H (fun v _ => v = .bl true) E0) :
    codeAny (model P w) callerA (.call (.ref fa) ⟨[.ref a], []⟩) (fun r s' => r = .ok (.ret (.bool true)) ∧ OldK s.heap s'.heap ∧ s'.os = s.os ∧ AllBare s'.gens) s := by
  obtain ⟨H, hS, hok, only⟩ := tracked (P := P) (w := w) kin at_a hin hz
  have free : ∀ {b o}, s.heap.get? b = some o → (∀ its n, o.data ≠ .seq its n) → H b = none := fun {b o} e nd => by
    rcases only b with q | ⟨q, _⟩
    · exact q
    · subst q
      cases e.symm.trans at_a
      exact absurd rfl (nd _ _)
  have spaces : ∀ {b m}, s.heap.Ns b m → (hidT s.heap H).Ns b m := fun {b m} ⟨o, es, ep, e, d, r⟩ => ⟨o, es, ep, hidT_get e (free e fun its n z => by rw [d] at z; cases z), d, r⟩
  have kin2 : K.In (hidT s.heap H) := fun b o e => hidT_get (kin b o e) (by
    rcases only b with q | ⟨q, n, _⟩
    · exact q
    · rw [q, n] at e
      cases e)
  obtain ⟨mc, c1, c2⟩ := nolim
  have whole : Mod K mg (hidT s.heap H) := ⟨kin2, spaces gl, ⟨mb, spaces bu, boot⟩, mc, spaces c1, c2⟩
  obtain ⟨f, fd, hf, _, bd, G⟩ := (F _ kin2 (spaces gl)).ex
  cases hx.symm.trans hf
  have env : Env0 P w K mg (hidT s.heap H) callerA [] s H := ⟨rfl, whole, fun b o e => of_hidT e, Nat.le_of_eq (hidT_size _ _), trivial, fun b hb => (by cases hb), hok, .of_eq nogen⟩
  refine codeAny_mono (G.runG callerA [] s H ⟨[.ref a], []⟩ [.ref a] [.ref a] (fun v _ => v = .bl true) E0 rfl room env (bd s [.ref a] kin rfl) (.cons rfl .nil) (want H hS)) fun r s' done => ?_
  match r, done with
  | .error e, done => exact absurd done id
  | .ok .next, done => exact absurd done id
  | .ok .brk, done => exact absurd done id
  | .ok .cont, done => exact absurd done id
  | .ok (.ret u), ⟨v, H', os, bare, un, hok', rv, q⟩ =>
    have q : v = .bl true := q
    subst q
    have hu : u = Value.bool true := rv
    subst hu
    refine ⟨rfl, OldK.of_keep fun b o e => ?_, os, bare⟩
    rcases only b with z | ⟨_, _, o1, xs, z⟩
    · exact un.keep b o e z (fun m => by cases m) (by simp)
    · have g1 := (hok b _ z).1
      have g2 := (hok' b _ (un.frzs b o1 _ z)).1
      rw [e] at g1
      cases g1
      exact g2
theorem walkG {l : PySem.W.OpenLaw} {q : Program} {loose : List Str} {lv : List (Str × PySem.W.WData)} {YP : World → Heap → Prop} {d : DefRec} {K : Params → PySem.W.Frag} (hn : l.most = some 63) (hdf : d.params.defaults = []) (hd : d.name = "law")
    (hY : ∀ (w : World) (h : Heap), YP w h → (K w.params).In h)
    (F : ∀ (w : World) (mg : Str → Option Value) (h : Heap), (K w.params).In h → h.Ns mainGlobals mg → PySem.W.LooseAre lv mg h → ∀ base : Heap, OkG l.prog w (K w.params) mg base 12 "law" ["_law_script"] (sp_law (K w.params))) :
    PySem.W.WalkO q loose (PySem.W.XL q lv) YP l.row.toRowW d [] (fun f vs => PySem.call f vs) := by
  refine Att.attach_call hn hdf fun w s₀ s₁ mg mb fa o pm cd doc a vs ns G Y ho hda hcd hmg hobj hints hlen hg => ?_
  have KX := hY w _ Y
  rw [hd] at hmg
  exact law_run KX G.T.g G.T.b G.T.builtins G.T.nolimit hg hobj hints (Nat.le_trans hlen (by decide)) ⟨rfl, by decide, by decide⟩ hmg (fun base _ _ => F w mg _ KX G.T.g G.X.2 base) fun H hS => ⟨a, ns, rfl, hS, by omega, fun _ => rfl⟩
end RW

set_option maxHeartbeats 4000000
namespace RW
open PySem PySem.Spec PyProof.Rows L2
/-- the top has left that def -/
structure DefIs (K : PySem.W.Frag) (x : Str) (st : Stmt) : Prop where
  at_ : ∀ (h : Heap) (mg : Str → Option Value), K.In h → h.Ns mainGlobals mg → DefAt K mg x st
theorem DefIs.of {K : PySem.W.Frag} {x : Str} {st : Stmt} {f : Addr} {oc kV doc pm cdv ct : Value} {od an : Option Addr} {osl : Array (Option Value)} (h1 : PySem.W.nsIn K mainGlobals x = some (some (.ref f)))
    (h2 : K.lookup f = some ⟨oc, od, .func (PySem.W.fnOf x x (defArgs st) (defBody st) (defScope st) .none kV doc pm an cdv ct), osl⟩) (h3 : PySem.W.codeIn K cdv x = true) (h4 : PySem.W.keepIn K (.ref f) = true) : DefIs K x st :=
  ⟨fun _ _ X G => ⟨_, _, PySem.W.mg_of X G h1, fun_mk h2 h3 h4⟩⟩
/-- .. that method -/
structure MethIs (K : PySem.W.Frag) (C : Addr) (m qual : Str) (st : Stmt) : Prop where
  at_ : MethAt K C m qual st
theorem MethIs.of {K : PySem.W.Frag} {C : Addr} {m qual : Str} {st : Stmt} {f : Addr} {oc kV doc pm cdv ct : Value} {od an : Option Addr} {osl : Array (Option Value)} (h1 : PySem.W.findIn K (.ref C) m = some (some (.ref f))) (h5 : PySem.W.isFn K (.ref f) = true)
    (h2 : K.lookup f = some ⟨oc, od, .func (PySem.W.fnOf m qual (defArgs st) (defBody st) (defScope st) .none kV doc pm an cdv ct), osl⟩) (h3 : PySem.W.codeIn K cdv qual = true) (h4 : PySem.W.keepIn K (.ref f) = true) : MethIs K C m qual st :=
  ⟨⟨_, _, ⟨h1, h5, h4⟩, fun_mk h2 h3 h4⟩⟩
/-- .. that class with its __init__ -/
structure InitIs (K : PySem.W.Frag) (x : Str) (C : Addr) (qual : Str) (st : Stmt) : Prop where
  at_ : ∀ (h : Heap) (mg : Str → Option Value), K.In h → h.Ns mainGlobals mg → MkAt K mg x C qual st
theorem InitIs.of {K : PySem.W.Frag} {x : Str} {C : Addr} {qual : Str} {st : Stmt} {f : Addr} {oc kV doc pm cdv ct : Value} {od an : Option Addr} {osl : Array (Option Value)} (h0 : PySem.W.nsIn K mainGlobals x = some (some (.ref C))) (h6 : PySem.W.makesIn K C = true) (h7 : PySem.W.keepIn K (.ref C) = true)
    (h1 : PySem.W.findIn K (.ref C) "__init__" = some (some (.ref f))) (h5 : PySem.W.isFn K (.ref f) = true)
    (h2 : K.lookup f = some ⟨oc, od, .func (PySem.W.fnOf "__init__" qual (defArgs st) (defBody st) (defScope st) .none kV doc pm an cdv ct), osl⟩) (h3 : PySem.W.codeIn K cdv qual = true) (h4 : PySem.W.keepIn K (.ref f) = true) : InitIs K x C qual st :=
  ⟨fun _ _ X G => ⟨_, _, PySem.W.mg_of X G h0, ⟨h6, h1, h5, h7⟩, fun_mk h2 h3 h4⟩⟩
theorem ClsIs.of {K : PySem.W.Frag} {C : Addr} (h1 : PySem.W.plainGet K C Str.empty = true) (h2 : PySem.W.hasDictIn K C = true) (h3 : PySem.W.plainOver K C = true) (h4 : PySem.W.findIn K (.ref C) "__setattr__" = some (some (.builtin "object.__setattr__"))) : Cls K C := ⟨h1, h2, h3, h4⟩
theorem const_of {K : PySem.W.Frag} {x : Str} {i : Int} {t : Tok} (h : PySem.W.nsIn K mainGlobals x = some (some (.int i t))) : ∃ t, PySem.W.nsIn K mainGlobals x = some (some (.int i t)) := ⟨t, h⟩
theorem loose_of {lv : List (Str × PySem.W.WData)} {mg : Str → Option Value} {h : Heap} (L : PySem.W.LooseAre lv mg h) {x : Str} {i : Int} (hm : (x, PySem.W.WData.int i) ∈ lv) : ∃ t, mg x = some (.int i t) := by
  obtain ⟨v, e, r⟩ := L.val _ hm
  cases r with
  | int _ t => exact ⟨t, e⟩
theorem txt_mk {K : PySem.W.Frag} {h : Heap} {mg : Str → Option Value} {CK CW : Addr} {lv : List (Str × PySem.W.WData)} (X : K.In h) (G : h.Ns mainGlobals mg) (L : PySem.W.LooseAre lv mg h)
    (c_MOST_NUMBER : (("MOST_NUMBER" : Str), PySem.W.WData.int 10000000000000000000000000000000000000000) ∈ lv)
    (c_MOST_FACT : (("MOST_FACT" : Str), PySem.W.WData.int 1000000000000000000000000000000) ∈ lv)
    (c_MOST_BASE : (("MOST_BASE" : Str), PySem.W.WData.int 1000000000000) ∈ lv)
    (c_MOST_COEFFICIENT : (("MOST_COEFFICIENT" : Str), PySem.W.WData.int 1000000000000) ∈ lv)
    (kmk : InitIs K "Knot" CK "Knot.__init__" s_Knot_init)
    (wmk : InitIs K "Way" CW "Way.__init__" s_Way_init)
    (kcl : Cls K CK)
    (wcl : Cls K CW)
    (k_parts : NoAttr K CK "parts")
    (k_origin : NoAttr K CK "origin")
    (k_depth : NoAttr K CK "depth")
    (w_knot : NoAttr K CW "knot")
    (w_part : NoAttr K CW "part")
    (w_rest : NoAttr K CW "rest")
    (w_often : NoAttr K CW "often")
    (w_deep : NoAttr K CW "deep")
    (kweight : MethIs K CK "weight" "Knot.weight" s_Knot_weight)
    (wrest_by : MethIs K CW "rest_by" "Way.rest_by" s_Way_rest_by)
    (walone_from : MethIs K CW "alone_from" "Way.alone_from" s_Way_alone_from)
    (b_len : PySem.W.nsIn K mainGlobals "len" = some none)
    (b_abs : PySem.W.nsIn K mainGlobals "abs" = some none)
    (b_isinstance : PySem.W.nsIn K mainGlobals "isinstance" = some none)
    (b_all : PySem.W.nsIn K mainGlobals "all" = some none)
    (b_min : PySem.W.nsIn K mainGlobals "min" = some none)
    (b_max : PySem.W.nsIn K mainGlobals "max" = some none)
    (b_sum : PySem.W.nsIn K mainGlobals "sum" = some none)
    (b_sorted : PySem.W.nsIn K mainGlobals "sorted" = some none)
    (b_list : PySem.W.nsIn K mainGlobals "list" = some none)
    (b_tuple : PySem.W.nsIn K mainGlobals "tuple" = some none)
    (b_range : PySem.W.nsIn K mainGlobals "range" = some none)
    (b_enumerate : PySem.W.nsIn K mainGlobals "enumerate" = some none)
    (b_int : PySem.W.nsIn K mainGlobals "int" = some none)
    (b_bool : PySem.W.nsIn K mainGlobals "bool" = some none)
    (b_divmod : PySem.W.nsIn K mainGlobals "divmod" = some none)
    (b_repr : PySem.W.nsIn K mainGlobals "repr" = some none)
    (c_MOST_DEGREE : ∃ t, PySem.W.nsIn K mainGlobals "MOST_DEGREE" = some (some (.int 12 t)))
    (c_MOST_PRIME : ∃ t, PySem.W.nsIn K mainGlobals "MOST_PRIME" = some (some (.int 1000 t)))
    (c_MOST_OFTEN : ∃ t, PySem.W.nsIn K mainGlobals "MOST_OFTEN" = some (some (.int 1000 t)))
    (c_MOST_WALKED : ∃ t, PySem.W.nsIn K mainGlobals "MOST_WALKED" = some (some (.int 5000 t)))
    (c_MOST_LISTED : ∃ t, PySem.W.nsIn K mainGlobals "MOST_LISTED" = some (some (.int 5000 t)))
    (d_is_integer : DefIs K "is_integer" s_is_integer)
    (d_is_between : DefIs K "is_between" s_is_between)
    (d_check_between : DefIs K "check_between" s_check_between)
    (d_check_number : DefIs K "check_number" s_check_number)
    (d_check_base : DefIs K "check_base" s_check_base)
    (d_is_small_prime : DefIs K "is_small_prime" s_is_small_prime)
    (d_check_prime : DefIs K "check_prime" s_check_prime)
    (d_check_often : DefIs K "check_often" s_check_often)
    (d_is_sum : DefIs K "is_sum" s_is_sum)
    (d_check_sum : DefIs K "check_sum" s_check_sum)
    (d_check_some_sum : DefIs K "check_some_sum" s_check_some_sum)
    (d_common_of : DefIs K "common_of" s_common_of)
    (d_combined_of : DefIs K "combined_of" s_combined_of)
    (d_back_of : DefIs K "back_of" s_back_of)
    (d_power_by : DefIs K "power_by" s_power_by)
    (d_raised : DefIs K "raised" s_raised)
    (d_apart_of : DefIs K "apart_of" s_apart_of)
    (d_often_of : DefIs K "often_of" s_often_of)
    (d_check_open : DefIs K "check_open" s_check_open)
    (d_check_power : DefIs K "check_power" s_check_power)
    (d_power_rest : DefIs K "power_rest" s_power_rest)
    (d_is_open : DefIs K "is_open" s_is_open)
    (d_roots_by : DefIs K "roots_by" s_roots_by)
    (d_roots_in : DefIs K "roots_in" s_roots_in)
    (d_count_roots_of : DefIs K "count_roots_of" s_count_roots_of)
    (d_count_roots : DefIs K "count_roots" s_count_roots)
    (d_roots : DefIs K "roots" s_roots)
    (d_trimmed : DefIs K "trimmed" s_trimmed)
    (d_rest_of_value : DefIs K "rest_of_value" s_rest_of_value)
    (d_slope_of : DefIs K "slope_of" s_slope_of)
    (d_content_of : DefIs K "content_of" s_content_of)
    (d_primitive : DefIs K "primitive" s_primitive)
    (d_rest_behind : DefIs K "rest_behind" s_rest_behind)
    (d_common_part : DefIs K "common_part" s_common_part)
    (d_quotient : DefIs K "quotient" s_quotient)
    (d_manifold_parts : DefIs K "manifold_parts" s_manifold_parts)
    (d_led_in : DefIs K "led_in" s_led_in)
    (d_freed : DefIs K "freed" s_freed)
    (d_lifted : DefIs K "lifted" s_lifted)
    (d_back_to : DefIs K "back_to" s_back_to)
    (d_put_together : DefIs K "put_together" s_put_together)
    (d_zero_lots : DefIs K "zero_lots" s_zero_lots)
    (d_lots_below : DefIs K "lots_below" s_lots_below)
    (d_count_for : DefIs K "count_for" s_count_for)
    (d_check_apart : DefIs K "check_apart" s_check_apart)
    (d_list_for : DefIs K "list_for" s_list_for)
    (d_count_by : DefIs K "count_by" s_count_by)
    (d_count_zeros : DefIs K "count_zeros" s_count_zeros)
    (d_zeros_of : DefIs K "zeros_of" s_zeros_of)
    (d_zeros : DefIs K "zeros" s_zeros)
    (d_first_knot : DefIs K "first_knot" s_first_knot)
    (d_knot_above : DefIs K "knot_above" s_knot_above)
    (d_own_zeros : DefIs K "own_zeros" s_own_zeros)
    (d_ways_and_bound : DefIs K "ways_and_bound" s_ways_and_bound)
    (d_told_count : DefIs K "told_count" s_told_count)
    (d_rule_of : DefIs K "rule_of" s_rule_of)
    (d_check_at : DefIs K "check_at" s_check_at)
    (d_endless : DefIs K "endless" s_endless)
    (d_has_all_powers : DefIs K "has_all_powers" s_has_all_powers)
    (d_first_power_without : DefIs K "first_power_without" s_first_power_without)
    (d_l_cup : DefIs K "_law_cup" s_l_cup)
    (d_l_sip : DefIs K "_law_sip" s_l_sip)
    (d_l_any : DefIs K "_law_any" s_l_any)
    (d_l_root_sum : DefIs K "_law_root_sum" s_l_root_sum)
    (d_l_roots_right : DefIs K "_law_roots_right" s_l_roots_right)
    (d_l_squares_right : DefIs K "_law_squares_right" s_l_squares_right)
    (d_l_right : DefIs K "_law_right" s_l_right) : Txt K mg CK CW where
  d_is_integer := d_is_integer.at_ h mg X G
  d_is_between := d_is_between.at_ h mg X G
  d_check_between := d_check_between.at_ h mg X G
  d_check_number := d_check_number.at_ h mg X G
  d_check_base := d_check_base.at_ h mg X G
  d_is_small_prime := d_is_small_prime.at_ h mg X G
  d_check_prime := d_check_prime.at_ h mg X G
  d_check_often := d_check_often.at_ h mg X G
  d_is_sum := d_is_sum.at_ h mg X G
  d_check_sum := d_check_sum.at_ h mg X G
  d_check_some_sum := d_check_some_sum.at_ h mg X G
  d_common_of := d_common_of.at_ h mg X G
  d_combined_of := d_combined_of.at_ h mg X G
  d_back_of := d_back_of.at_ h mg X G
  d_power_by := d_power_by.at_ h mg X G
  d_raised := d_raised.at_ h mg X G
  d_apart_of := d_apart_of.at_ h mg X G
  d_often_of := d_often_of.at_ h mg X G
  d_check_open := d_check_open.at_ h mg X G
  d_check_power := d_check_power.at_ h mg X G
  d_power_rest := d_power_rest.at_ h mg X G
  d_is_open := d_is_open.at_ h mg X G
  d_roots_by := d_roots_by.at_ h mg X G
  d_roots_in := d_roots_in.at_ h mg X G
  d_count_roots_of := d_count_roots_of.at_ h mg X G
  d_count_roots := d_count_roots.at_ h mg X G
  d_roots := d_roots.at_ h mg X G
  d_trimmed := d_trimmed.at_ h mg X G
  d_rest_of_value := d_rest_of_value.at_ h mg X G
  d_slope_of := d_slope_of.at_ h mg X G
  d_content_of := d_content_of.at_ h mg X G
  d_primitive := d_primitive.at_ h mg X G
  d_rest_behind := d_rest_behind.at_ h mg X G
  d_common_part := d_common_part.at_ h mg X G
  d_quotient := d_quotient.at_ h mg X G
  d_manifold_parts := d_manifold_parts.at_ h mg X G
  d_led_in := d_led_in.at_ h mg X G
  d_freed := d_freed.at_ h mg X G
  d_lifted := d_lifted.at_ h mg X G
  d_back_to := d_back_to.at_ h mg X G
  d_put_together := d_put_together.at_ h mg X G
  d_zero_lots := d_zero_lots.at_ h mg X G
  d_lots_below := d_lots_below.at_ h mg X G
  d_count_for := d_count_for.at_ h mg X G
  d_check_apart := d_check_apart.at_ h mg X G
  d_list_for := d_list_for.at_ h mg X G
  d_count_by := d_count_by.at_ h mg X G
  d_count_zeros := d_count_zeros.at_ h mg X G
  d_zeros_of := d_zeros_of.at_ h mg X G
  d_zeros := d_zeros.at_ h mg X G
  d_first_knot := d_first_knot.at_ h mg X G
  d_knot_above := d_knot_above.at_ h mg X G
  d_own_zeros := d_own_zeros.at_ h mg X G
  d_ways_and_bound := d_ways_and_bound.at_ h mg X G
  d_told_count := d_told_count.at_ h mg X G
  d_rule_of := d_rule_of.at_ h mg X G
  d_check_at := d_check_at.at_ h mg X G
  d_endless := d_endless.at_ h mg X G
  d_has_all_powers := d_has_all_powers.at_ h mg X G
  d_first_power_without := d_first_power_without.at_ h mg X G
  d_l_cup := d_l_cup.at_ h mg X G
  d_l_sip := d_l_sip.at_ h mg X G
  d_l_any := d_l_any.at_ h mg X G
  d_l_root_sum := d_l_root_sum.at_ h mg X G
  d_l_roots_right := d_l_roots_right.at_ h mg X G
  d_l_squares_right := d_l_squares_right.at_ h mg X G
  d_l_right := d_l_right.at_ h mg X G
  b_len := PySem.W.mg_none_of X G b_len
  b_abs := PySem.W.mg_none_of X G b_abs
  b_isinstance := PySem.W.mg_none_of X G b_isinstance
  b_all := PySem.W.mg_none_of X G b_all
  b_min := PySem.W.mg_none_of X G b_min
  b_max := PySem.W.mg_none_of X G b_max
  b_sum := PySem.W.mg_none_of X G b_sum
  b_sorted := PySem.W.mg_none_of X G b_sorted
  b_list := PySem.W.mg_none_of X G b_list
  b_tuple := PySem.W.mg_none_of X G b_tuple
  b_range := PySem.W.mg_none_of X G b_range
  b_enumerate := PySem.W.mg_none_of X G b_enumerate
  b_int := PySem.W.mg_none_of X G b_int
  b_bool := PySem.W.mg_none_of X G b_bool
  b_divmod := PySem.W.mg_none_of X G b_divmod
  b_repr := PySem.W.mg_none_of X G b_repr
  c_MOST_NUMBER := loose_of L c_MOST_NUMBER
  c_MOST_FACT := loose_of L c_MOST_FACT
  c_MOST_BASE := loose_of L c_MOST_BASE
  c_MOST_DEGREE := let ⟨t, e⟩ := c_MOST_DEGREE; ⟨t, PySem.W.mg_of X G e⟩
  c_MOST_PRIME := let ⟨t, e⟩ := c_MOST_PRIME; ⟨t, PySem.W.mg_of X G e⟩
  c_MOST_OFTEN := let ⟨t, e⟩ := c_MOST_OFTEN; ⟨t, PySem.W.mg_of X G e⟩
  c_MOST_WALKED := let ⟨t, e⟩ := c_MOST_WALKED; ⟨t, PySem.W.mg_of X G e⟩
  c_MOST_LISTED := let ⟨t, e⟩ := c_MOST_LISTED; ⟨t, PySem.W.mg_of X G e⟩
  c_MOST_COEFFICIENT := loose_of L c_MOST_COEFFICIENT
  kmk := kmk.at_ h mg X G
  kcl := kcl
  k_parts := k_parts
  k_origin := k_origin
  k_depth := k_depth
  kweight := kweight.at_
  wmk := wmk.at_ h mg X G
  wcl := wcl
  w_knot := w_knot
  w_part := w_part
  w_rest := w_rest
  w_often := w_often
  w_deep := w_deep
  wrest_by := wrest_by.at_
  walone_from := walone_from.at_
end RW
open PySem PySem.W PyProof.Rows
set_option maxRecDepth 100000 in
set_option maxHeartbeats 0 in
theorem PySem.Challenge.cw_restworld_k48_whole_roots_as_zeros_holds : PySem.Challenge.rw_restworld_k48_whole_roots_as_zeros.Holds := by
  w_on; o_law; k_head; (case hw => w_witness2)
  k_fill
  refine RW.walkG (l := PySem.Challenge.rw_restworld_k48_whole_roots_as_zeros) rfl rfl rfl (fun w h Y => PySem.W.kIn_of Y) ?F
  case F =>
    intro w mg h KX G L base
    refine' RW.ok_law (RW.txt_mk KX G L ?c_MOST_NUMBER ?c_MOST_FACT ?c_MOST_BASE ?c_MOST_COEFFICIENT ?kmk ?wmk ?kcl ?wcl ?k_parts ?k_origin ?k_depth ?w_knot ?w_part ?w_rest ?w_often ?w_deep ?kweight ?wrest_by ?walone_from ?b_len ?b_abs ?b_isinstance ?b_all ?b_min ?b_max ?b_sum ?b_sorted ?b_list ?b_tuple ?b_range ?b_enumerate ?b_int ?b_bool ?b_divmod ?b_repr ?c_MOST_DEGREE ?c_MOST_PRIME ?c_MOST_OFTEN ?c_MOST_WALKED ?c_MOST_LISTED ?d_is_integer ?d_is_between ?d_check_between ?d_check_number ?d_check_base ?d_is_small_prime ?d_check_prime ?d_check_often ?d_is_sum ?d_check_sum ?d_check_some_sum ?d_common_of ?d_combined_of ?d_back_of ?d_power_by ?d_raised ?d_apart_of ?d_often_of ?d_check_open ?d_check_power ?d_power_rest ?d_is_open ?d_roots_by ?d_roots_in ?d_count_roots_of ?d_count_roots ?d_roots ?d_trimmed ?d_rest_of_value ?d_slope_of ?d_content_of ?d_primitive ?d_rest_behind ?d_common_part ?d_quotient ?d_manifold_parts ?d_led_in ?d_freed ?d_lifted ?d_back_to ?d_put_together ?d_zero_lots ?d_lots_below ?d_count_for ?d_check_apart ?d_list_for ?d_count_by ?d_count_zeros ?d_zeros_of ?d_zeros ?d_first_knot ?d_knot_above ?d_own_zeros ?d_ways_and_bound ?d_told_count ?d_rule_of ?d_check_at ?d_endless ?d_has_all_powers ?d_first_power_without ?d_l_cup ?d_l_sip ?d_l_any ?d_l_root_sum ?d_l_roots_right ?d_l_squares_right ?d_l_right) (RW.DefIs.at_ ?d_law h mg KX G)
    (case c_MOST_NUMBER => simp)
    (case c_MOST_FACT => simp)
    (case c_MOST_BASE => simp)
    (case c_MOST_COEFFICIENT => simp)
    (case kmk => refine' RW.InitIs.of ?h0 ?h6 ?h7 ?h1 ?h5 ?h2 ?h3 ?h4; (case h0 => k_is); (case h6 => k_is); (case h7 => k_is); (case h1 => k_is); (case h5 => k_is); (case h2 => k_is); (case h3 => k_is); (case h4 => k_is))
    (case wmk => refine' RW.InitIs.of ?h0 ?h6 ?h7 ?h1 ?h5 ?h2 ?h3 ?h4; (case h0 => k_is); (case h6 => k_is); (case h7 => k_is); (case h1 => k_is); (case h5 => k_is); (case h2 => k_is); (case h3 => k_is); (case h4 => k_is))
    (case kcl => refine' RW.ClsIs.of ?h1 ?h2 ?h3 ?h4; (case h1 => k_is); (case h2 => k_is); (case h3 => k_is); (case h4 => k_is))
    (case wcl => refine' RW.ClsIs.of ?h1 ?h2 ?h3 ?h4; (case h1 => k_is); (case h2 => k_is); (case h3 => k_is); (case h4 => k_is))
    (case k_parts => unfold L2.NoAttr; k_is)
    (case k_origin => unfold L2.NoAttr; k_is)
    (case k_depth => unfold L2.NoAttr; k_is)
    (case w_knot => unfold L2.NoAttr; k_is)
    (case w_part => unfold L2.NoAttr; k_is)
    (case w_rest => unfold L2.NoAttr; k_is)
    (case w_often => unfold L2.NoAttr; k_is)
    (case w_deep => unfold L2.NoAttr; k_is)
    (case kweight => refine' RW.MethIs.of ?h1 ?h5 ?h2 ?h3 ?h4; (case h1 => k_is); (case h5 => k_is); (case h2 => k_is); (case h3 => k_is); (case h4 => k_is))
    (case wrest_by => refine' RW.MethIs.of ?h1 ?h5 ?h2 ?h3 ?h4; (case h1 => k_is); (case h5 => k_is); (case h2 => k_is); (case h3 => k_is); (case h4 => k_is))
    (case walone_from => refine' RW.MethIs.of ?h1 ?h5 ?h2 ?h3 ?h4; (case h1 => k_is); (case h5 => k_is); (case h2 => k_is); (case h3 => k_is); (case h4 => k_is))
    (case b_len => k_is)
    (case b_abs => k_is)
    (case b_isinstance => k_is)
    (case b_all => k_is)
    (case b_min => k_is)
    (case b_max => k_is)
    (case b_sum => k_is)
    (case b_sorted => k_is)
    (case b_list => k_is)
    (case b_tuple => k_is)
    (case b_range => k_is)
    (case b_enumerate => k_is)
    (case b_int => k_is)
    (case b_bool => k_is)
    (case b_divmod => k_is)
    (case b_repr => k_is)
    (case c_MOST_DEGREE => refine' RW.const_of ?h1; (case h1 => k_is))
    (case c_MOST_PRIME => refine' RW.const_of ?h1; (case h1 => k_is))
    (case c_MOST_OFTEN => refine' RW.const_of ?h1; (case h1 => k_is))
    (case c_MOST_WALKED => refine' RW.const_of ?h1; (case h1 => k_is))
    (case c_MOST_LISTED => refine' RW.const_of ?h1; (case h1 => k_is))
    (case d_is_integer => refine' RW.DefIs.of ?h1 ?h2 ?h3 ?h4; (case h1 => k_is); (case h2 => k_is); (case h3 => k_is); (case h4 => k_is))
    (case d_is_between => refine' RW.DefIs.of ?h1 ?h2 ?h3 ?h4; (case h1 => k_is); (case h2 => k_is); (case h3 => k_is); (case h4 => k_is))
    (case d_check_between => refine' RW.DefIs.of ?h1 ?h2 ?h3 ?h4; (case h1 => k_is); (case h2 => k_is); (case h3 => k_is); (case h4 => k_is))
    (case d_check_number => refine' RW.DefIs.of ?h1 ?h2 ?h3 ?h4; (case h1 => k_is); (case h2 => k_is); (case h3 => k_is); (case h4 => k_is))
    (case d_check_base => refine' RW.DefIs.of ?h1 ?h2 ?h3 ?h4; (case h1 => k_is); (case h2 => k_is); (case h3 => k_is); (case h4 => k_is))
    (case d_is_small_prime => refine' RW.DefIs.of ?h1 ?h2 ?h3 ?h4; (case h1 => k_is); (case h2 => k_is); (case h3 => k_is); (case h4 => k_is))
    (case d_check_prime => refine' RW.DefIs.of ?h1 ?h2 ?h3 ?h4; (case h1 => k_is); (case h2 => k_is); (case h3 => k_is); (case h4 => k_is))
    (case d_check_often => refine' RW.DefIs.of ?h1 ?h2 ?h3 ?h4; (case h1 => k_is); (case h2 => k_is); (case h3 => k_is); (case h4 => k_is))
    (case d_is_sum => refine' RW.DefIs.of ?h1 ?h2 ?h3 ?h4; (case h1 => k_is); (case h2 => k_is); (case h3 => k_is); (case h4 => k_is))
    (case d_check_sum => refine' RW.DefIs.of ?h1 ?h2 ?h3 ?h4; (case h1 => k_is); (case h2 => k_is); (case h3 => k_is); (case h4 => k_is))
    (case d_check_some_sum => refine' RW.DefIs.of ?h1 ?h2 ?h3 ?h4; (case h1 => k_is); (case h2 => k_is); (case h3 => k_is); (case h4 => k_is))
    (case d_common_of => refine' RW.DefIs.of ?h1 ?h2 ?h3 ?h4; (case h1 => k_is); (case h2 => k_is); (case h3 => k_is); (case h4 => k_is))
    (case d_combined_of => refine' RW.DefIs.of ?h1 ?h2 ?h3 ?h4; (case h1 => k_is); (case h2 => k_is); (case h3 => k_is); (case h4 => k_is))
    (case d_back_of => refine' RW.DefIs.of ?h1 ?h2 ?h3 ?h4; (case h1 => k_is); (case h2 => k_is); (case h3 => k_is); (case h4 => k_is))
    (case d_power_by => refine' RW.DefIs.of ?h1 ?h2 ?h3 ?h4; (case h1 => k_is); (case h2 => k_is); (case h3 => k_is); (case h4 => k_is))
    (case d_raised => refine' RW.DefIs.of ?h1 ?h2 ?h3 ?h4; (case h1 => k_is); (case h2 => k_is); (case h3 => k_is); (case h4 => k_is))
    (case d_apart_of => refine' RW.DefIs.of ?h1 ?h2 ?h3 ?h4; (case h1 => k_is); (case h2 => k_is); (case h3 => k_is); (case h4 => k_is))
    (case d_often_of => refine' RW.DefIs.of ?h1 ?h2 ?h3 ?h4; (case h1 => k_is); (case h2 => k_is); (case h3 => k_is); (case h4 => k_is))
    (case d_check_open => refine' RW.DefIs.of ?h1 ?h2 ?h3 ?h4; (case h1 => k_is); (case h2 => k_is); (case h3 => k_is); (case h4 => k_is))
    (case d_check_power => refine' RW.DefIs.of ?h1 ?h2 ?h3 ?h4; (case h1 => k_is); (case h2 => k_is); (case h3 => k_is); (case h4 => k_is))
    (case d_power_rest => refine' RW.DefIs.of ?h1 ?h2 ?h3 ?h4; (case h1 => k_is); (case h2 => k_is); (case h3 => k_is); (case h4 => k_is))
    (case d_is_open => refine' RW.DefIs.of ?h1 ?h2 ?h3 ?h4; (case h1 => k_is); (case h2 => k_is); (case h3 => k_is); (case h4 => k_is))
    (case d_roots_by => refine' RW.DefIs.of ?h1 ?h2 ?h3 ?h4; (case h1 => k_is); (case h2 => k_is); (case h3 => k_is); (case h4 => k_is))
    (case d_roots_in => refine' RW.DefIs.of ?h1 ?h2 ?h3 ?h4; (case h1 => k_is); (case h2 => k_is); (case h3 => k_is); (case h4 => k_is))
    (case d_count_roots_of => refine' RW.DefIs.of ?h1 ?h2 ?h3 ?h4; (case h1 => k_is); (case h2 => k_is); (case h3 => k_is); (case h4 => k_is))
    (case d_count_roots => refine' RW.DefIs.of ?h1 ?h2 ?h3 ?h4; (case h1 => k_is); (case h2 => k_is); (case h3 => k_is); (case h4 => k_is))
    (case d_roots => refine' RW.DefIs.of ?h1 ?h2 ?h3 ?h4; (case h1 => k_is); (case h2 => k_is); (case h3 => k_is); (case h4 => k_is))
    (case d_trimmed => refine' RW.DefIs.of ?h1 ?h2 ?h3 ?h4; (case h1 => k_is); (case h2 => k_is); (case h3 => k_is); (case h4 => k_is))
    (case d_rest_of_value => refine' RW.DefIs.of ?h1 ?h2 ?h3 ?h4; (case h1 => k_is); (case h2 => k_is); (case h3 => k_is); (case h4 => k_is))
    (case d_slope_of => refine' RW.DefIs.of ?h1 ?h2 ?h3 ?h4; (case h1 => k_is); (case h2 => k_is); (case h3 => k_is); (case h4 => k_is))
    (case d_content_of => refine' RW.DefIs.of ?h1 ?h2 ?h3 ?h4; (case h1 => k_is); (case h2 => k_is); (case h3 => k_is); (case h4 => k_is))
    (case d_primitive => refine' RW.DefIs.of ?h1 ?h2 ?h3 ?h4; (case h1 => k_is); (case h2 => k_is); (case h3 => k_is); (case h4 => k_is))
    (case d_rest_behind => refine' RW.DefIs.of ?h1 ?h2 ?h3 ?h4; (case h1 => k_is); (case h2 => k_is); (case h3 => k_is); (case h4 => k_is))
    (case d_common_part => refine' RW.DefIs.of ?h1 ?h2 ?h3 ?h4; (case h1 => k_is); (case h2 => k_is); (case h3 => k_is); (case h4 => k_is))
    (case d_quotient => refine' RW.DefIs.of ?h1 ?h2 ?h3 ?h4; (case h1 => k_is); (case h2 => k_is); (case h3 => k_is); (case h4 => k_is))
    (case d_manifold_parts => refine' RW.DefIs.of ?h1 ?h2 ?h3 ?h4; (case h1 => k_is); (case h2 => k_is); (case h3 => k_is); (case h4 => k_is))
    (case d_led_in => refine' RW.DefIs.of ?h1 ?h2 ?h3 ?h4; (case h1 => k_is); (case h2 => k_is); (case h3 => k_is); (case h4 => k_is))
    (case d_freed => refine' RW.DefIs.of ?h1 ?h2 ?h3 ?h4; (case h1 => k_is); (case h2 => k_is); (case h3 => k_is); (case h4 => k_is))
    (case d_lifted => refine' RW.DefIs.of ?h1 ?h2 ?h3 ?h4; (case h1 => k_is); (case h2 => k_is); (case h3 => k_is); (case h4 => k_is))
    (case d_back_to => refine' RW.DefIs.of ?h1 ?h2 ?h3 ?h4; (case h1 => k_is); (case h2 => k_is); (case h3 => k_is); (case h4 => k_is))
    (case d_put_together => refine' RW.DefIs.of ?h1 ?h2 ?h3 ?h4; (case h1 => k_is); (case h2 => k_is); (case h3 => k_is); (case h4 => k_is))
    (case d_zero_lots => refine' RW.DefIs.of ?h1 ?h2 ?h3 ?h4; (case h1 => k_is); (case h2 => k_is); (case h3 => k_is); (case h4 => k_is))
    (case d_lots_below => refine' RW.DefIs.of ?h1 ?h2 ?h3 ?h4; (case h1 => k_is); (case h2 => k_is); (case h3 => k_is); (case h4 => k_is))
    (case d_count_for => refine' RW.DefIs.of ?h1 ?h2 ?h3 ?h4; (case h1 => k_is); (case h2 => k_is); (case h3 => k_is); (case h4 => k_is))
    (case d_check_apart => refine' RW.DefIs.of ?h1 ?h2 ?h3 ?h4; (case h1 => k_is); (case h2 => k_is); (case h3 => k_is); (case h4 => k_is))
    (case d_list_for => refine' RW.DefIs.of ?h1 ?h2 ?h3 ?h4; (case h1 => k_is); (case h2 => k_is); (case h3 => k_is); (case h4 => k_is))
    (case d_count_by => refine' RW.DefIs.of ?h1 ?h2 ?h3 ?h4; (case h1 => k_is); (case h2 => k_is); (case h3 => k_is); (case h4 => k_is))
    (case d_count_zeros => refine' RW.DefIs.of ?h1 ?h2 ?h3 ?h4; (case h1 => k_is); (case h2 => k_is); (case h3 => k_is); (case h4 => k_is))
    (case d_zeros_of => refine' RW.DefIs.of ?h1 ?h2 ?h3 ?h4; (case h1 => k_is); (case h2 => k_is); (case h3 => k_is); (case h4 => k_is))
    (case d_zeros => refine' RW.DefIs.of ?h1 ?h2 ?h3 ?h4; (case h1 => k_is); (case h2 => k_is); (case h3 => k_is); (case h4 => k_is))
    (case d_first_knot => refine' RW.DefIs.of ?h1 ?h2 ?h3 ?h4; (case h1 => k_is); (case h2 => k_is); (case h3 => k_is); (case h4 => k_is))
    (case d_knot_above => refine' RW.DefIs.of ?h1 ?h2 ?h3 ?h4; (case h1 => k_is); (case h2 => k_is); (case h3 => k_is); (case h4 => k_is))
    (case d_own_zeros => refine' RW.DefIs.of ?h1 ?h2 ?h3 ?h4; (case h1 => k_is); (case h2 => k_is); (case h3 => k_is); (case h4 => k_is))
    (case d_ways_and_bound => refine' RW.DefIs.of ?h1 ?h2 ?h3 ?h4; (case h1 => k_is); (case h2 => k_is); (case h3 => k_is); (case h4 => k_is))
    (case d_told_count => refine' RW.DefIs.of ?h1 ?h2 ?h3 ?h4; (case h1 => k_is); (case h2 => k_is); (case h3 => k_is); (case h4 => k_is))
    (case d_rule_of => refine' RW.DefIs.of ?h1 ?h2 ?h3 ?h4; (case h1 => k_is); (case h2 => k_is); (case h3 => k_is); (case h4 => k_is))
    (case d_check_at => refine' RW.DefIs.of ?h1 ?h2 ?h3 ?h4; (case h1 => k_is); (case h2 => k_is); (case h3 => k_is); (case h4 => k_is))
    (case d_endless => refine' RW.DefIs.of ?h1 ?h2 ?h3 ?h4; (case h1 => k_is); (case h2 => k_is); (case h3 => k_is); (case h4 => k_is))
    (case d_has_all_powers => refine' RW.DefIs.of ?h1 ?h2 ?h3 ?h4; (case h1 => k_is); (case h2 => k_is); (case h3 => k_is); (case h4 => k_is))
    (case d_first_power_without => refine' RW.DefIs.of ?h1 ?h2 ?h3 ?h4; (case h1 => k_is); (case h2 => k_is); (case h3 => k_is); (case h4 => k_is))
    (case d_l_cup => refine' RW.DefIs.of ?h1 ?h2 ?h3 ?h4; (case h1 => k_is); (case h2 => k_is); (case h3 => k_is); (case h4 => k_is))
    (case d_l_sip => refine' RW.DefIs.of ?h1 ?h2 ?h3 ?h4; (case h1 => k_is); (case h2 => k_is); (case h3 => k_is); (case h4 => k_is))
    (case d_l_any => refine' RW.DefIs.of ?h1 ?h2 ?h3 ?h4; (case h1 => k_is); (case h2 => k_is); (case h3 => k_is); (case h4 => k_is))
    (case d_l_root_sum => refine' RW.DefIs.of ?h1 ?h2 ?h3 ?h4; (case h1 => k_is); (case h2 => k_is); (case h3 => k_is); (case h4 => k_is))
    (case d_l_roots_right => refine' RW.DefIs.of ?h1 ?h2 ?h3 ?h4; (case h1 => k_is); (case h2 => k_is); (case h3 => k_is); (case h4 => k_is))
    (case d_l_squares_right => refine' RW.DefIs.of ?h1 ?h2 ?h3 ?h4; (case h1 => k_is); (case h2 => k_is); (case h3 => k_is); (case h4 => k_is))
    (case d_l_right => refine' RW.DefIs.of ?h1 ?h2 ?h3 ?h4; (case h1 => k_is); (case h2 => k_is); (case h3 => k_is); (case h4 => k_is))
    (case d_law => refine' RW.DefIs.of ?h1 ?h2 ?h3 ?h4; (case h1 => k_is); (case h2 => k_is); (case h3 => k_is); (case h4 => k_is))
