import PyProof.Rows.All
import HandS.Words
import KE.KStateDown
import HandS.Ends
import HandS.Head0
import HandS.Head1
import HandS.Head2
import HandS.Head3
import HandS.HeadEnd
import HandS.HeadHook1
import HandS.HeadHook2
import HandS.ForMost
import HandS.Deep
import HandS.TupAny
import HandS.TupMul
import HandS.IsInst
import HandS.Gcd
import HandS.Flow
import HandS.Zip
import HandS.Rev
import HandS.DictComp
import KE.DataEq
import KE.LtData
import KE.SortData
import KE.SortKeyHeap
import HandS.Conv
import HandS.SortKw
import KE.DataMinMax
import KE.GoesZip
import KE.GoesEnum
import KE.KDictZip
import HandS.More
import HandS.Defaults
import KE.KRevSl
import HandS.MapObj
import KE.Datum
import PySem.Challenge.RW_timelyproof_k12_orders_and_times
set_option Elab.async false
set_option linter.all false
section
set_option Elab.async false
set_option linter.all false
namespace K12
open PySem PySem.Spec PyProof.Rows L2
def top (i : Nat) : Stmt := PySem.Challenge.pw_timelyproof_k12_orders_and_times.main.body.getD i (.Pass ⟨0, 0, 0, 0⟩)
abbrev s_is_whole : Stmt := top 2
abbrev s_is_between : Stmt := top 3
abbrev s_is_pair : Stmt := top 4
abbrev s_are_texts : Stmt := top 5
abbrev s_names_of : Stmt := top 7
abbrev s_tasks_of : Stmt := top 8
abbrev s_task_of : Stmt := top 9
abbrev s_with_tasks : Stmt := top 10
abbrev s_only : Stmt := top 11
abbrev s_with_order : Stmt := top 12
abbrev s_is_full : Stmt := top 13
abbrev s_least_supply : Stmt := top 48
abbrev s_up : Stmt := top 49
abbrev s_hold_of : Stmt := top 54
abbrev s_need_of : Stmt := top 55
abbrev s_is_timed : Stmt := top 58
abbrev s_is_enough_time : Stmt := top 61
abbrev s__least_time : Stmt := top 62
abbrev s_timed : Stmt := top 63
abbrev s_is_started : Stmt := top 68
abbrev s_is_enough_start : Stmt := top 71
abbrev s_started : Stmt := top 72
abbrev s__are_rows : Stmt := top 78
abbrev s__are_times : Stmt := top 79
abbrev s__are_starts : Stmt := top 80
abbrev s_is_paper : Stmt := top 83
abbrev s_check : Stmt := top 84
abbrev s__last_of : Stmt := top 86
abbrev s_moved_last : Stmt := top 87
abbrev s_order_for : Stmt := top 88
abbrev s_is_never_last : Stmt := top 89
abbrev s_check_order : Stmt := top 90
abbrev s_places_told : Stmt := top 91
abbrev s__law_cell : Stmt := top 93
abbrev s__law_digits : Stmt := top 94
abbrev s__law_draw : Stmt := top 95
abbrev s__law_like : Stmt := top 96
abbrev s__law_tasks : Stmt := top 97
abbrev s__law_least : Stmt := top 98
abbrev s__law_time : Stmt := top 99
abbrev s__law_start : Stmt := top 100
abbrev s__law_orders : Stmt := top 101
abbrev s__law_fits : Stmt := top 102
abbrev s_law : Stmt := top 103
end K12
end
section
set_option Elab.async false
set_option linter.all false
set_option maxRecDepth 100000
set_option maxHeartbeats 0
namespace K12
open PySem PySem.Spec PyProof.Rows L2
def dd_is_whole : He.DefD := ⟨("is_whole", none), "is_whole", "is_whole", defArgs s_is_whole, defBody s_is_whole, defScope s_is_whole, [], []⟩
def dd_is_between : He.DefD := ⟨("is_between", none), "is_between", "is_between", defArgs s_is_between, defBody s_is_between, defScope s_is_between, [], []⟩
def dd_is_pair : He.DefD := ⟨("is_pair", none), "is_pair", "is_pair", defArgs s_is_pair, defBody s_is_pair, defScope s_is_pair, [], []⟩
def dd_are_texts : He.DefD := ⟨("are_texts", none), "are_texts", "are_texts", defArgs s_are_texts, defBody s_are_texts, defScope s_are_texts, [], []⟩
def dd_names_of : He.DefD := ⟨("names_of", none), "names_of", "names_of", defArgs s_names_of, defBody s_names_of, defScope s_names_of, [], []⟩
def dd_tasks_of : He.DefD := ⟨("tasks_of", none), "tasks_of", "tasks_of", defArgs s_tasks_of, defBody s_tasks_of, defScope s_tasks_of, [], []⟩
def dd_task_of : He.DefD := ⟨("task_of", none), "task_of", "task_of", defArgs s_task_of, defBody s_task_of, defScope s_task_of, [], []⟩
def dd_with_tasks : He.DefD := ⟨("with_tasks", none), "with_tasks", "with_tasks", defArgs s_with_tasks, defBody s_with_tasks, defScope s_with_tasks, [], []⟩
def dd_only : He.DefD := ⟨("only", none), "only", "only", defArgs s_only, defBody s_only, defScope s_only, [], []⟩
def dd_with_order : He.DefD := ⟨("with_order", none), "with_order", "with_order", defArgs s_with_order, defBody s_with_order, defScope s_with_order, [], []⟩
def dd_is_full : He.DefD := ⟨("is_full", none), "is_full", "is_full", defArgs s_is_full, defBody s_is_full, defScope s_is_full, [], []⟩
def dd_least_supply : He.DefD := ⟨("least_supply", none), "least_supply", "least_supply", defArgs s_least_supply, defBody s_least_supply, defScope s_least_supply, [], []⟩
def dd_up : He.DefD := ⟨("up", none), "up", "up", defArgs s_up, defBody s_up, defScope s_up, [], []⟩
def dd_hold_of : He.DefD := ⟨("hold_of", none), "hold_of", "hold_of", defArgs s_hold_of, defBody s_hold_of, defScope s_hold_of, [], []⟩
def dd_need_of : He.DefD := ⟨("need_of", none), "need_of", "need_of", defArgs s_need_of, defBody s_need_of, defScope s_need_of, [], []⟩
def dd_is_timed : He.DefD := ⟨("is_timed", none), "is_timed", "is_timed", defArgs s_is_timed, defBody s_is_timed, defScope s_is_timed, [], []⟩
def dd_is_enough_time : He.DefD := ⟨("is_enough_time", none), "is_enough_time", "is_enough_time", defArgs s_is_enough_time, defBody s_is_enough_time, defScope s_is_enough_time, [], []⟩
def dd__least_time : He.DefD := ⟨("_least_time", none), "_least_time", "_least_time", defArgs s__least_time, defBody s__least_time, defScope s__least_time, [], []⟩
def dd_timed : He.DefD := ⟨("timed", none), "timed", "timed", defArgs s_timed, defBody s_timed, defScope s_timed, [], []⟩
def dd_is_started : He.DefD := ⟨("is_started", none), "is_started", "is_started", defArgs s_is_started, defBody s_is_started, defScope s_is_started, [], []⟩
def dd_is_enough_start : He.DefD := ⟨("is_enough_start", none), "is_enough_start", "is_enough_start", defArgs s_is_enough_start, defBody s_is_enough_start, defScope s_is_enough_start, [], []⟩
def dd_started : He.DefD := ⟨("started", none), "started", "started", defArgs s_started, defBody s_started, defScope s_started, [], []⟩
def dd__are_rows : He.DefD := ⟨("_are_rows", none), "_are_rows", "_are_rows", defArgs s__are_rows, defBody s__are_rows, defScope s__are_rows, [], []⟩
def dd__are_times : He.DefD := ⟨("_are_times", none), "_are_times", "_are_times", defArgs s__are_times, defBody s__are_times, defScope s__are_times, [], []⟩
def dd__are_starts : He.DefD := ⟨("_are_starts", none), "_are_starts", "_are_starts", defArgs s__are_starts, defBody s__are_starts, defScope s__are_starts, [], []⟩
def dd_is_paper : He.DefD := ⟨("is_paper", none), "is_paper", "is_paper", defArgs s_is_paper, defBody s_is_paper, defScope s_is_paper, [], []⟩
def dd_check : He.DefD := ⟨("check", none), "check", "check", defArgs s_check, defBody s_check, defScope s_check, [], []⟩
def dd__last_of : He.DefD := ⟨("_last_of", none), "_last_of", "_last_of", defArgs s__last_of, defBody s__last_of, defScope s__last_of, [], []⟩
def dd_moved_last : He.DefD := ⟨("moved_last", none), "moved_last", "moved_last", defArgs s_moved_last, defBody s_moved_last, defScope s_moved_last, [], []⟩
def dd_order_for : He.DefD := ⟨("order_for", none), "order_for", "order_for", defArgs s_order_for, defBody s_order_for, defScope s_order_for, [], []⟩
def dd_is_never_last : He.DefD := ⟨("is_never_last", none), "is_never_last", "is_never_last", defArgs s_is_never_last, defBody s_is_never_last, defScope s_is_never_last, [], []⟩
def dd_check_order : He.DefD := ⟨("check_order", none), "check_order", "check_order", defArgs s_check_order, defBody s_check_order, defScope s_check_order, [], []⟩
def dd_places_told : He.DefD := ⟨("places_told", none), "places_told", "places_told", defArgs s_places_told, defBody s_places_told, defScope s_places_told, [], []⟩
def dd__law_cell : He.DefD := ⟨("_law_cell", none), "_law_cell", "_law_cell", defArgs s__law_cell, defBody s__law_cell, defScope s__law_cell, [], []⟩
def dd__law_digits : He.DefD := ⟨("_law_digits", none), "_law_digits", "_law_digits", defArgs s__law_digits, defBody s__law_digits, defScope s__law_digits, [], []⟩
def dd__law_draw : He.DefD := ⟨("_law_draw", none), "_law_draw", "_law_draw", defArgs s__law_draw, defBody s__law_draw, defScope s__law_draw, [], []⟩
def dd__law_like : He.DefD := ⟨("_law_like", none), "_law_like", "_law_like", defArgs s__law_like, defBody s__law_like, defScope s__law_like, [], []⟩
def dd__law_tasks : He.DefD := ⟨("_law_tasks", none), "_law_tasks", "_law_tasks", defArgs s__law_tasks, defBody s__law_tasks, defScope s__law_tasks, [], []⟩
def dd__law_least : He.DefD := ⟨("_law_least", none), "_law_least", "_law_least", defArgs s__law_least, defBody s__law_least, defScope s__law_least, [], []⟩
def dd__law_time : He.DefD := ⟨("_law_time", none), "_law_time", "_law_time", defArgs s__law_time, defBody s__law_time, defScope s__law_time, [], []⟩
def dd__law_start : He.DefD := ⟨("_law_start", none), "_law_start", "_law_start", defArgs s__law_start, defBody s__law_start, defScope s__law_start, [], []⟩
def dd__law_orders : He.DefD := ⟨("_law_orders", none), "_law_orders", "_law_orders", defArgs s__law_orders, defBody s__law_orders, defScope s__law_orders, [], []⟩
def dd__law_fits : He.DefD := ⟨("_law_fits", none), "_law_fits", "_law_fits", defArgs s__law_fits, defBody s__law_fits, defScope s__law_fits, [], []⟩
def dd_law : He.DefD := ⟨("law", none), "law", "law", defArgs s_law, defBody s_law, defScope s_law, [], []⟩
def fn : List He.DefD := [dd_is_whole, dd_is_between, dd_is_pair, dd_are_texts, dd_names_of, dd_tasks_of, dd_task_of, dd_with_tasks, dd_only, dd_with_order, dd_is_full, dd_least_supply, dd_up, dd_hold_of, dd_need_of, dd_is_timed, dd_is_enough_time, dd__least_time, dd_timed, dd_is_started, dd_is_enough_start, dd_started, dd__are_rows, dd__are_times, dd__are_starts, dd_is_paper, dd_check, dd__last_of, dd_moved_last, dd_order_for, dd_is_never_last, dd_check_order, dd_places_told, dd__law_cell, dd__law_digits, dd__law_draw, dd__law_like, dd__law_tasks, dd__law_least, dd__law_time, dd__law_start, dd__law_orders, dd__law_fits, dd_law]
def fa : List He.Fa := [.glo "is_whole", .glo "is_between", .glo "is_pair", .glo "are_texts", .glo "names_of", .glo "tasks_of", .glo "task_of", .glo "with_tasks", .glo "only", .glo "with_order", .glo "is_full", .glo "least_supply", .glo "up", .glo "hold_of", .glo "need_of", .glo "is_timed", .glo "is_enough_time", .glo "_least_time", .glo "timed", .glo "is_started", .glo "is_enough_start", .glo "started", .glo "_are_rows", .glo "_are_times", .glo "_are_starts", .glo "is_paper", .glo "check", .glo "_last_of", .glo "moved_last", .glo "order_for", .glo "is_never_last", .glo "check_order", .glo "places_told", .glo "_law_cell", .glo "_law_digits", .glo "_law_draw", .glo "_law_like", .glo "_law_tasks", .glo "_law_least", .glo "_law_time", .glo "_law_start", .glo "_law_orders", .glo "_law_fits", .glo "law", .free "isinstance", .free "int", .free "bool", .free "str", .free "tuple", .free "list", .free "dict", .free "len", .free "min", .free "max", .free "sum", .free "all", .free "any", .free "sorted", .free "range", .free "enumerate", .free "zip", .free "reversed"]
def loose_0 : List PySem.Str := ["is_whole", "is_between", "is_pair", "are_texts", "names_of", "tasks_of", "task_of", "with_tasks", "only", "with_order", "is_full", "first_state", "_is_row", "is_state", "_holds", "_place_by_locks", "rank_of", "coming", "come", "running", "may_end", "_sets", "choices", "is_choice", "_are_some", "_after", "tick", "_is_row_covered", "is_covered", "state_key"]
def loose_1 : List PySem.Str := ["is_cover", "is_closed", "is_late_run", "NOTHING", "low", "plus", "minus", "scaled", "less", "least_supply", "up", "demand_of", "request_of", "densities", "density_of", "hold_of", "need_of", "MOST_TICKS", "is_timed", "is_demanded", "is_dense", "is_enough_time", "_least_time", "timed", "is_demand_met", "is_over_by", "greatest_density", "is_dense_enough", "is_started", "is_blocked"]
def loose_2 : List PySem.Str := ["is_worked", "is_enough_start", "started", "is_blocked_demand_met", "work_of", "is_work_met", "_are_states", "_are_rows", "_are_times", "_are_starts", "_is_blocked_demand", "_is_demand", "is_paper", "check", "_last_of", "moved_last", "order_for", "is_never_last", "check_order", "places_told", "_law_cell", "_law_digits", "_law_draw", "_law_like", "_law_tasks", "_law_least", "_law_time", "_law_start", "_law_orders", "_law_fits"]
def loose : List PySem.Str := loose_0 ++ loose_1 ++ loose_2
abbrev R : PySem.W.OpenRow := PySem.W.OpenLaw.row PySem.Challenge.rw_timelyproof_k12_orders_and_times
abbrev hk : PySem.W.Hook := He.hookD 4 fa fn
def ob (s : PySem.W.SharedT) : He.AlD := He.obsDG 4 fa fn (HandSHeadRun.getT s)
theorem ob_eq (s : PySem.W.SharedT) : ob s = hk.obs s.abs := He.obsDG_eq (HandSHeadRun.getT_eq s)

theorem run (w : World) : HandSHeadRun.RunEqI R (PySem.W.view R.prog [0, 103]) hk ob 4000 loose w := by
  unfold HandSHeadRun.RunEqI
  kernel_rfl
end K12
end
section
set_option Elab.async false
set_option linter.all false
set_option maxRecDepth 100000
set_option maxHeartbeats 4000000
/-! The pure layer, part A: what a value is worth as plain data (Rep), what a def's slots are worth (ER), the quiet judgement. -/
namespace D
open PySem PySem.Spec PyProof.Rows L2

abbrev PD := PyData
abbrev AS := Addr → Prop

/-- a list that is read and does not lie in O -/
def KCo (K : PySem.W.Frag) (a : Addr) (xs : List V) : Prop := ∃ (o : Obj) (its : Array Value) (n : Nat), K.lookup a = some o ∧ o.cls = .type "list" ∧ o.dict = none ∧ o.data = .seq its n ∧ its.size ≤ sizeLine ∧ Vals xs its.toList
def LstAt (K : PySem.W.Frag) (H : Hp) (O : AS) (a : Addr) (xs : List V) : Prop :=
  ((Rd H a (.lst xs) ∧ ¬ O a) ∨ KCo K a xs) ∧ xs.length ≤ sizeLine
def TupAt (K : PySem.W.Frag) (H : Hp) (a : Addr) (xs : List V) : Prop := SqT K H a xs ∧ xs.length ≤ sizeLine
def kD : Key → PD
  | .inl i => .int i
  | .inr x => .str x

mutual
inductive Rep (K : PySem.W.Frag) (H : Hp) (O : AS) : V → PD → Prop
  | non : Rep K H O .non .none
  | bl (b : Bool) : Rep K H O (.bl b) (.bool b)
  | int (i : Int) : Rep K H O (.int i) (.int i)
  | str (x : Str) : Rep K H O (.str x) (.str x)
  | lst {a : Addr} {xs : List V} {ds : List PD} : LstAt K H O a xs → RepL K H O xs ds → Rep K H O (.ref a) (.list ds)
  | tup {a : Addr} {xs : List V} {ds : List PD} : TupAt K H a xs → RepL K H O xs ds → Rep K H O (.ref a) (.tuple ds)
  | dk {a : Addr} {kvs : List (Key × V)} {ds : List (PD × PD)} : H a = some (.dK kvs) → ¬ O a → kvs.length ≤ sizeLine → RepD K H O kvs ds → Rep K H O (.ref a) (.dict ds)
inductive RepL (K : PySem.W.Frag) (H : Hp) (O : AS) : List V → List PD → Prop
  | nil : RepL K H O [] []
  | cons {v : V} {vs : List V} {d : PD} {ds : List PD} : Rep K H O v d → RepL K H O vs ds → RepL K H O (v :: vs) (d :: ds)
inductive RepD (K : PySem.W.Frag) (H : Hp) (O : AS) : List (Key × V) → List (PD × PD) → Prop
  | nil : RepD K H O [] []
  | cons {k : Key} {v : V} {kvs : List (Key × V)} {d : PD} {ds : List (PD × PD)} : Rep K H O v d → RepD K H O kvs ds → RepD K H O ((k, v) :: kvs) ((kD k, d) :: ds)
end

/-- what never changes -/
def fixed : HO → Bool
  | .tup _ => true
  | .frz _ _ => true
  | _ => false

section
variable {K : PySem.W.Frag} {H H' : Hp} {O O' : AS}
theorem LstAt.kp (hk : ∀ a o, H a = some o → (fixed o = true ∨ ¬ O a) → H' a = some o) (ho : ∀ a, H a ≠ none → ¬ O a → ¬ O' a) {a : Addr} {xs : List V} (h : LstAt K H O a xs) : LstAt K H' O' a xs := by
  obtain ⟨h, hz⟩ := h
  rcases h with ⟨h | ⟨o, h⟩, n⟩ | h
  · exact ⟨.inl ⟨.inl (hk _ _ h (.inr n)), ho _ (by rw [h]; exact fun z => nomatch z) n⟩, hz⟩
  · exact ⟨.inl ⟨.inr ⟨o, hk _ _ h (.inr n)⟩, ho _ (by rw [h]; exact fun z => nomatch z) n⟩, hz⟩
  · exact ⟨.inr h, hz⟩
theorem TupAt.kp (hk : ∀ a o, H a = some o → fixed o = true → H' a = some o) {a : Addr} {xs : List V} (h : TupAt K H a xs) : TupAt K H' a xs := by
  obtain ⟨h, hz⟩ := h
  refine ⟨?_, hz⟩
  rcases h with (h | ⟨o, h⟩) | h
  · exact .inl (.inl (hk _ _ h rfl))
  · exact .inl (.inr ⟨o, hk _ _ h rfl⟩)
  · exact .inr h
mutual
theorem Rep.kp (hk : ∀ a o, H a = some o → (fixed o = true ∨ ¬ O a) → H' a = some o) (ho : ∀ a, H a ≠ none → ¬ O a → ¬ O' a) : ∀ {v : V} {d : PD}, Rep K H O v d → Rep K H' O' v d
  | _, _, .non => .non
  | _, _, .bl b => .bl b
  | _, _, .int i => .int i
  | _, _, .str x => .str x
  | _, _, .lst h r => .lst (h.kp hk ho) (RepL.kp hk ho r)
  | _, _, .tup h r => .tup (h.kp fun a o e f => hk a o e (.inl f)) (RepL.kp hk ho r)
  | _, _, .dk h n z r => .dk (hk _ _ h (.inr n)) (ho _ (by rw [h]; exact fun q => nomatch q) n) z (RepD.kp hk ho r)
theorem RepL.kp (hk : ∀ a o, H a = some o → (fixed o = true ∨ ¬ O a) → H' a = some o) (ho : ∀ a, H a ≠ none → ¬ O a → ¬ O' a) : ∀ {v : List V} {d : List PD}, RepL K H O v d → RepL K H' O' v d
  | _, _, .nil => .nil
  | _, _, .cons a b => .cons (Rep.kp hk ho a) (RepL.kp hk ho b)
theorem RepD.kp (hk : ∀ a o, H a = some o → (fixed o = true ∨ ¬ O a) → H' a = some o) (ho : ∀ a, H a ≠ none → ¬ O a → ¬ O' a) : ∀ {v : List (Key × V)} {d : List (PD × PD)}, RepD K H O v d → RepD K H' O' v d
  | _, _, .nil => .nil
  | _, _, .cons a b => .cons (Rep.kp hk ho a) (RepD.kp hk ho b)
end
theorem Rep.same (hs : Same H H') {v : V} {d : PD} (h : Rep K H O v d) : Rep K H' O v d := h.kp (fun a o e _ => hs a o e) fun _ _ n => n
theorem RepL.same (hs : Same H H') {v : List V} {d : List PD} (h : RepL K H O v d) : RepL K H' O v d := h.kp (fun a o e _ => hs a o e) fun _ _ n => n
theorem RepD.same (hs : Same H H') {v : List (Key × V)} {d : List (PD × PD)} (h : RepD K H O v d) : RepD K H' O v d := h.kp (fun a o e _ => hs a o e) fun _ _ n => n
theorem Rep.sub (ho : ∀ a, O' a → O a) {v : V} {d : PD} (h : Rep K H O v d) : Rep K H O' v d := h.kp (fun a o e _ => e) fun a _ n z => n (ho a z)
theorem RepL.sub (ho : ∀ a, O' a → O a) {v : List V} {d : List PD} (h : RepL K H O v d) : RepL K H O' v d := h.kp (fun a o e _ => e) fun a _ n z => n (ho a z)
theorem RepD.sub (ho : ∀ a, O' a → O a) {v : List (Key × V)} {d : List (PD × PD)} (h : RepD K H O v d) : RepD K H O' v d := h.kp (fun a o e _ => e) fun a _ n z => n (ho a z)
/-- a fresh address may join -/
theorem Rep.fresh {p : Addr} (hp : H p = none) {v : V} {d : PD} (h : Rep K H O v d) : Rep K H (fun b => O b ∨ b = p) v d :=
  h.kp (fun a o e _ => e) fun a na n z => z.elim n fun q => na (by rw [q]; exact hp)
theorem RepL.fresh {p : Addr} (hp : H p = none) {v : List V} {d : List PD} (h : RepL K H O v d) : RepL K H (fun b => O b ∨ b = p) v d :=
  h.kp (fun a o e _ => e) fun a na n z => z.elim n fun q => na (by rw [q]; exact hp)
theorem RepL.length : ∀ {v : List V} {d : List PD}, RepL K H O v d → v.length = d.length
  | _, _, .nil => rfl
  | _, _, .cons _ b => by rw [List.length_cons, List.length_cons, RepL.length b]
theorem RepD.length : ∀ {v : List (Key × V)} {d : List (PD × PD)}, RepD K H O v d → v.length = d.length
  | _, _, .nil => rfl
  | _, _, .cons _ b => by rw [List.length_cons, List.length_cons, RepD.length b]
theorem RepL.append : ∀ {v w : List V} {d e : List PD}, RepL K H O v d → RepL K H O w e → RepL K H O (v ++ w) (d ++ e)
  | _, _, _, _, .nil, r => r
  | _, _, _, _, .cons a b, r => .cons a (RepL.append b r)
theorem RepL.get : ∀ {v : List V} {d : List PD} {i : Nat} {x : PD}, RepL K H O v d → d[i]? = some x → ∃ y, v[i]? = some y ∧ Rep K H O y x
  | _, _, _, _, .nil, e => by simp at e
  | _, _, 0, _, .cons a b, e => by simp at e; subst e; exact ⟨_, rfl, a⟩
  | _, _, i + 1, x, .cons a b, e => by
    obtain ⟨y, h1, h2⟩ := RepL.get (i := i) (x := x) b (by simpa using e)
    exact ⟨y, by simpa using h1, h2⟩
theorem RepL.getV : ∀ {v : List V} {d : List PD} {i : Nat} {y : V}, RepL K H O v d → v[i]? = some y → ∃ x, d[i]? = some x ∧ Rep K H O y x
  | _, _, _, _, .nil, e => by simp at e
  | _, _, 0, _, .cons a b, e => by simp at e; subst e; exact ⟨_, rfl, a⟩
  | _, _, i + 1, x, .cons a b, e => by
    obtain ⟨y, h1, h2⟩ := RepL.getV (i := i) (y := x) b (by simpa using e)
    exact ⟨y, by simpa using h1, h2⟩
theorem RepL.take : ∀ {v : List V} {d : List PD} (n : Nat), RepL K H O v d → RepL K H O (v.take n) (d.take n)
  | _, _, 0, _ => .nil
  | _, _, _ + 1, .nil => .nil
  | _, _, n + 1, .cons a b => .cons a (RepL.take n b)
theorem RepL.drop : ∀ {v : List V} {d : List PD} (n : Nat), RepL K H O v d → RepL K H O (v.drop n) (d.drop n)
  | _, _, 0, r => r
  | _, _, _ + 1, .nil => .nil
  | _, _, n + 1, .cons _ b => RepL.drop n b
theorem RepL.reverse {v : List V} {d : List PD} (h : RepL K H O v d) : RepL K H O v.reverse d.reverse := by
  induction v generalizing d with
  | nil => cases h; exact .nil
  | cons x r ih =>
    cases h with
    | cons a b =>
      rw [List.reverse_cons, List.reverse_cons]
      exact (ih b).append (.cons a .nil)
theorem RepL.set {x : V} {z : PD} (r : Rep K H O x z) : ∀ {v : List V} {d : List PD} (i : Nat), RepL K H O v d → RepL K H O (v.set i x) (d.set i z)
  | _, _, _, .nil => .nil
  | _, _, 0, .cons _ b => .cons r b
  | _, _, i + 1, .cons a b => .cons a (RepL.set r i b)
theorem RepL.eraseIdx : ∀ {v : List V} {d : List PD} (i : Nat), RepL K H O v d → RepL K H O (v.eraseIdx i) (d.eraseIdx i)
  | _, _, _, .nil => .nil
  | _, _, 0, .cons _ b => b
  | _, _, i + 1, .cons a b => .cons a (RepL.eraseIdx i b)
theorem RepL.ints : ∀ {v : List V} {ns : List Int}, RepL K H O v (ns.map .int) → v = ns.map V.int
  | _, [], .nil => rfl
  | _, n :: ns, .cons (.int _) b => by rw [List.map_cons, RepL.ints b]
theorem RepL.of_ints : ∀ ns : List Int, RepL K H O (ns.map V.int) (ns.map .int)
  | [] => .nil
  | n :: ns => .cons (.int n) (RepL.of_ints ns)
theorem RepL.strs : ∀ {v : List V} {ns : List Str}, RepL K H O v (ns.map .str) → v = ns.map V.str
  | _, [], .nil => rfl
  | _, n :: ns, .cons (.str _) b => by rw [List.map_cons, RepL.strs b]
theorem RepL.bls : ∀ {v : List V} {ns : List Bool}, RepL K H O v (ns.map .bool) → v = ns.map V.bl
  | _, [], .nil => rfl
  | _, n :: ns, .cons (.bl _) b => by rw [List.map_cons, RepL.bls b]
end

/-- an object of one's own: a list, a dict -/
def OwnAt (K : PySem.W.Frag) (H : Hp) (O : AS) (a : Addr) : PD → Prop
  | .list ds => ∃ xs, H a = some (.lst xs) ∧ xs.length ≤ sizeLine ∧ RepL K H O xs ds
  | .dict ds => ∃ kvs, H a = some (.dK kvs) ∧ kvs.length ≤ sizeLine ∧ RepD K H O kvs ds
  | _ => False
theorem OwnAt.there {K : PySem.W.Frag} {H : Hp} {O : AS} {a : Addr} : ∀ {d : PD}, OwnAt K H O a d → ∃ o, H a = some o ∧ fixed o = false
  | .list _, ⟨_, h, _⟩ => ⟨_, h, rfl⟩
  | .dict _, ⟨_, h, _⟩ => ⟨_, h, rfl⟩
theorem OwnAt.kp {K : PySem.W.Frag} {H H' : Hp} {O O' : AS} {a : Addr} (hk : ∀ a o, H a = some o → (fixed o = true ∨ ¬ O a) → H' a = some o) (ho : ∀ a, H a ≠ none → ¬ O a → ¬ O' a) (ha : ∀ o, H a = some o → H' a = some o) : ∀ {d : PD}, OwnAt K H O a d → OwnAt K H' O' a d
  | .list _, ⟨xs, h, z, r⟩ => ⟨xs, ha _ h, z, r.kp hk ho⟩
  | .dict _, ⟨xs, h, z, r⟩ => ⟨xs, ha _ h, z, r.kp hk ho⟩
theorem OwnAt.rep {K : PySem.W.Frag} {H : Hp} {O O' : AS} {a : Addr} (ho : ∀ a, O' a → O a) (n : ¬ O' a) : ∀ {d : PD}, OwnAt K H O a d → Rep K H O' (.ref a) d
  | .list _, ⟨xs, h, z, r⟩ => .lst ⟨.inl ⟨.inl h, n⟩, z⟩ (r.sub ho)
  | .dict _, ⟨xs, h, z, r⟩ => .dk h n z (r.sub ho)

/-- read now: shared, or one's own -/
def RepT (K : PySem.W.Frag) (H : Hp) (O : AS) (v : V) (d : PD) : Prop := Rep K H O v d ∨ ∃ a, v = .ref a ∧ OwnAt K H O a d
section
variable {K : PySem.W.Frag} {H H' : Hp} {O O' : AS} {v : V}
theorem RepT.same (hs : Same H H') {d : PD} (h : RepT K H O v d) : RepT K H' O v d := by
  rcases h with h | ⟨a, e, h⟩
  · exact .inl (h.same hs)
  · exact .inr ⟨a, e, h.kp (fun a o q _ => hs a o q) (fun _ _ n => n) fun o q => hs _ _ q⟩
theorem RepT.non (h : RepT K H O v .none) : v = .non := by
  rcases h with h | ⟨a, _, h⟩
  · cases h; rfl
  · exact h.elim
theorem RepT.bl {b : Bool} (h : RepT K H O v (.bool b)) : v = .bl b := by
  rcases h with h | ⟨a, _, h⟩
  · cases h; rfl
  · exact h.elim
theorem RepT.int {i : Int} (h : RepT K H O v (.int i)) : v = .int i := by
  rcases h with h | ⟨a, _, h⟩
  · cases h; rfl
  · exact h.elim
theorem RepT.str {x : Str} (h : RepT K H O v (.str x)) : v = .str x := by
  rcases h with h | ⟨a, _, h⟩
  · cases h; rfl
  · exact h.elim
theorem LstAt.sql {a : Addr} {xs : List V} (h : LstAt K H O a xs) : SqL K H a xs := h.1.elim (fun z => .inl z.1) .inr
theorem RepT.lst {ds : List PD} (h : RepT K H O v (.list ds)) : ∃ a xs, v = .ref a ∧ SqL K H a xs ∧ xs.length ≤ sizeLine ∧ RepL K H O xs ds := by
  rcases h with h | ⟨a, e, xs, h, z, r⟩
  · cases h with
    | lst h r => exact ⟨_, _, rfl, h.sql, h.2, r⟩
  · exact ⟨a, xs, e, .inl (.inl h), z, r⟩
theorem RepT.tup {ds : List PD} (h : RepT K H O v (.tuple ds)) : ∃ a xs, v = .ref a ∧ SqT K H a xs ∧ xs.length ≤ sizeLine ∧ RepL K H O xs ds := by
  rcases h with h | ⟨a, e, h⟩
  · cases h with
    | tup h r => exact ⟨_, _, rfl, h.1, h.2, r⟩
  · exact h.elim
theorem RepT.dct {ds : List (PD × PD)} (h : RepT K H O v (.dict ds)) : ∃ a kvs, v = .ref a ∧ H a = some (.dK kvs) ∧ kvs.length ≤ sizeLine ∧ RepD K H O kvs ds := by
  rcases h with h | ⟨a, e, xs, h, z, r⟩
  · cases h with
    | dk h n z r => exact ⟨_, _, rfl, h, z, r⟩
  · exact ⟨a, xs, e, h, z, r⟩
mutual
theorem Rep.dp : ∀ {v : V} {d : PD}, Rep K H O v d → d.plain = true → Dp K H v d
  | _, _, .non, _ => .non
  | _, _, .bl b, _ => .bl b
  | _, _, .int i, _ => .int i
  | _, _, .str x, _ => .str x
  | _, _, .lst h r, n => .lst h.sql (RepL.dp r (by simpa [PyData.plain] using n))
  | _, _, .tup h r, n => .tup h.1 (RepL.dp r (by simpa [PyData.plain] using n))
  | _, _, .dk .., n => by simp [PyData.plain] at n
theorem RepL.dp : ∀ {v : List V} {d : List PD}, RepL K H O v d → PyData.plainAll d = true → DpAll K H v d
  | _, _, .nil, _ => .nil
  | _, _, .cons a b, n => by
    simp only [PyData.plainAll, Bool.and_eq_true] at n
    exact .cons (Rep.dp a n.1) (RepL.dp b n.2)
end
theorem RepT.dp {d : PD} (h : RepT K H O v d) (n : d.plain = true) : Dp K H v d := by
  rcases h with h | ⟨a, e, h⟩
  · exact h.dp n
  · subst e
    cases d with
    | list ds =>
      obtain ⟨xs, h, _, r⟩ := h
      exact .lst (.inl (.inl h)) (r.dp (by simpa [PyData.plain] using n))
    | dict ds => simp [PyData.plain] at n
    | _ => exact h.elim
end

/-! ### slots -/
inductive Sl where
  | sh (d : PD) | ow (d : PD) | io (d : PD)
def Sl.dat : Sl → PD
  | .sh d => d
  | .ow d => d
  | .io d => d
abbrev SE := List (Option Sl)
def Sl.mine : Sl → Bool
  | .sh _ => false
  | _ => true

structure ER (K : PySem.W.Frag) (T : AS) (pa : Option Addr) (O : AS) (σ : L2.St) (H : Hp) (env : SE) : Prop where
  len : σ.length = env.length
  dom : ∀ a, O a → H a ≠ none
  sub : ∀ a, T a → O a
  pin : ∀ a, pa = some a → O a
  sh : ∀ (i : Nat) (d : PD), env[i]? = some (some (.sh d)) → ∃ v : V, σ[i]? = some (some v) ∧ Rep K H O v d
  ow : ∀ (i : Nat) (d : PD), env[i]? = some (some (.ow d)) → ∃ a : Addr, σ[i]? = some (some (V.ref a)) ∧ OwnAt K H O a d ∧ O a ∧ ¬ T a ∧ pa ≠ some a
  io : ∀ (i : Nat) (d : PD), env[i]? = some (some (.io d)) → ∃ a : Addr, pa = some a ∧ σ[i]? = some (some (V.ref a)) ∧ OwnAt K H O a d ∧ O a ∧ ¬ T a
  inj : ∀ (i j : Nat) (s t : Sl) (a : Addr), env[i]? = some (some s) → env[j]? = some (some t) → s.mine = true → t.mine = true → σ[i]? = some (some (V.ref a)) → σ[j]? = some (some (V.ref a)) → i = j

section
variable {K : PySem.W.Frag} {T : AS} {pa : Option Addr} {H H' : Hp} {O O' : AS} {σ : L2.St} {env : SE}
theorem ER.same (h : ER K T pa O σ H env) (hs : Same H H') : ER K T pa O σ H' env where
  len := h.len
  dom := fun a z q => by
    cases e : H a with
    | none => exact h.dom a z e
    | some o => rw [hs a o e] at q; cases q
  sub := h.sub
  pin := h.pin
  sh := fun i d e => let ⟨v, h1, h2⟩ := h.sh i d e; ⟨v, h1, h2.same hs⟩
  ow := fun i d e => let ⟨a, h1, h2, h3⟩ := h.ow i d e; ⟨a, h1, h2.kp (fun a o q _ => hs a o q) (fun _ _ n => n) (fun o q => hs _ _ q), h3⟩
  io := fun i d e => let ⟨a, h0, h1, h2, h3⟩ := h.io i d e; ⟨a, h0, h1, h2.kp (fun a o q _ => hs a o q) (fun _ _ n => n) (fun o q => hs _ _ q), h3⟩
  inj := h.inj
/-- a slot as it is read now -/
theorem ER.slot (h : ER K T pa O σ H env) {i : Nat} {s : Sl} (e : env[i]? = some (some s)) : ∃ v : V, σ[i]? = some (some v) ∧ RepT K H O v s.dat := by
  cases s with
  | sh d => let ⟨v, h1, h2⟩ := h.sh i d e; exact ⟨v, h1, .inl h2⟩
  | ow d => let ⟨a, h1, h2, _⟩ := h.ow i d e; exact ⟨.ref a, h1, .inr ⟨a, rfl, h2⟩⟩
  | io d => let ⟨a, _, h1, h2, _⟩ := h.io i d e; exact ⟨.ref a, h1, .inr ⟨a, rfl, h2⟩⟩
end

/-! ### the quiet judgement -/
abbrev Qd := SE → Option PD
def tQ (K : PySem.W.Frag) (q : Qd) : TE := fun σ H Q => ∃ T pa O env d, q env = some d ∧ ER K T pa O σ H env ∧ ∀ v H', Same H H' → Rep K H' O v d → Q v H'
def tP (K : PySem.W.Frag) (q : Qd) : TE := fun σ H Q => ∃ T pa O env d, q env = some d ∧ ER K T pa O σ H env ∧ ∀ v H', Same H H' → RepT K H' O v d → Q v H'
/-- a new object: its address is not in O -/
def tF (K : PySem.W.Frag) (q : Qd) : TE := fun σ H Q => ∃ T pa O env d, q env = some d ∧ ER K T pa O σ H env ∧ ∀ a H', Same H H' → H a = none → OwnAt K H' (fun b => O b ∨ b = a) a d → Q (.ref a) H'
def tB (q : SE → Option Bool) (K : PySem.W.Frag) : TT := fun σ H Q => ∃ T pa O env b, q env = some b ∧ ER K T pa O σ H env ∧ ∀ H', Same H H' → Q b H'
def tA (K : PySem.W.Frag) (q : SE → Option (List PD)) : TA := fun σ H Q => ∃ T pa O env ds, q env = some ds ∧ ER K T pa O σ H env ∧ ∀ vs H', Same H H' → RepL K H' O vs ds → Q vs H'
inductive RepTL (K : PySem.W.Frag) (H : Hp) (O : AS) : List V → List PD → Prop
  | nil : RepTL K H O [] []
  | cons {v : V} {vs : List V} {d : PD} {ds : List PD} : RepT K H O v d → RepTL K H O vs ds → RepTL K H O (v :: vs) (d :: ds)
theorem RepTL.same {K : PySem.W.Frag} {H H' : Hp} {O : AS} (hs : Same H H') : ∀ {vs : List V} {ds : List PD}, RepTL K H O vs ds → RepTL K H' O vs ds
  | _, _, .nil => .nil
  | _, _, .cons a b => .cons (a.same hs) (RepTL.same hs b)
def tAP (K : PySem.W.Frag) (q : SE → Option (List PD)) : TA := fun σ H Q => ∃ T pa O env ds, q env = some ds ∧ ER K T pa O σ H env ∧ ∀ vs H', Same H H' → RepTL K H' O vs ds → Q vs H'

abbrev QE (X : Cx) (e : Expr) (q : Qd) : Prop := PE X e (tQ X.K q)
abbrev PQ (X : Cx) (e : Expr) (q : Qd) : Prop := PE X e (tP X.K q)
abbrev FE (X : Cx) (e : Expr) (q : Qd) : Prop := PE X e (tF X.K q)
abbrev TQ (X : Cx) (e : Expr) (q : SE → Option Bool) : Prop := PT X e (tB q X.K)
abbrev QA (X : Cx) (es : List Expr) (q : SE → Option (List PD)) : Prop := PA X es (tA X.K q)
abbrev QAP (X : Cx) (es : List Expr) (q : SE → Option (List PD)) : Prop := PA X es (tAP X.K q)

theorem pe_weak {X : Cx} {e : Expr} {t t' : TE} (h : PE X e t) (w : ∀ σ H Q, t' σ H Q → t σ H Q) : PE X e t' := ⟨fun pins s σ H Q I q => h.run pins s σ H Q I (w σ H Q q)⟩
theorem pt_weak {X : Cx} {e : Expr} {t t' : TT} (h : PT X e t) (w : ∀ σ H Q, t' σ H Q → t σ H Q) : PT X e t' := ⟨fun pins s σ H Q I q => h.run pins s σ H Q I (w σ H Q q)⟩
theorem pa_weak {X : Cx} {e : List Expr} {t t' : TA} (h : PA X e t) (w : ∀ σ H Q, t' σ H Q → t σ H Q) : PA X e t' := ⟨fun pos pins s σ H Q I q => h.run pos pins s σ H Q I (w σ H Q q)⟩
theorem ps_weak {X : Cx} {e : Stmt} {t t' : TS} (h : PS X e t) (w : ∀ D σ H, t' D σ H → t D σ H) : PS X e t' := ⟨fun pins s σ H D I q => h.run pins s σ H D I (w D σ H q)⟩
theorem pss_weak {X : Cx} {e : List Stmt} {t t' : TS} (h : PSs X e t) (w : ∀ D σ H, t' D σ H → t D σ H) : PSs X e t' := ⟨fun pins s σ H D I q => h.run pins s σ H D I (w D σ H q)⟩

section
variable {X : Cx} {e : Expr} {q : Qd}
theorem pq_of (h : QE X e q) : PQ X e q := pe_weak h fun σ H Q ⟨T, pa, O, env, d, e1, r, k⟩ => ⟨T, pa, O, env, d, e1, r, fun v H' s r' => k v H' s (.inl r')⟩
theorem qe_of (h : FE X e q) : QE X e q := pe_weak h fun σ H Q ⟨T, pa, O, env, d, e1, r, k⟩ => ⟨T, pa, O, env, d, e1, r, fun a H' s n w => k _ H' s (w.rep (fun b z => .inl z) fun z => r.dom a z n)⟩
theorem pq_F (h : FE X e q) : PQ X e q := pq_of (qe_of h)
end
/-- nothing is claimed -/
theorem qe_no {X : Cx} {e : Expr} : QE X e (fun _ => none) := ⟨fun _ _ _ _ _ _ ⟨_, _, _, _, _, e1, _⟩ => nomatch e1⟩
theorem pq_no {X : Cx} {e : Expr} : PQ X e (fun _ => none) := ⟨fun _ _ _ _ _ _ ⟨_, _, _, _, _, e1, _⟩ => nomatch e1⟩
theorem tq_no {X : Cx} {e : Expr} : TQ X e (fun _ => none) := ⟨fun _ _ _ _ _ _ ⟨_, _, _, _, _, e1, _⟩ => nomatch e1⟩
end D
end
section
set_option Elab.async false
set_option linter.all false
set_option maxRecDepth 100000
set_option maxHeartbeats 4000000
/-! The pure layer, part B: quiet expressions. -/
namespace D
open PySem PySem.Spec PyProof.Rows L2

abbrev LIM : Nat := 16777216
theorem lim_eq : sizeLine = LIM := sizeLine_eq

/-! ### names, constants -/
def qVar (i : Nat) : Qd := fun env => match env[i]? with
  | some (some (.sh d)) => some d
  | _ => none
def pVar (i : Nat) : Qd := fun env => match env[i]? with
  | some (some s) => some s.dat
  | _ => none
def qC (d : PD) : Qd := fun _ => some d
section
variable {X : Cx} {pos : Pos}
theorem same_upd {H : Hp} {p : Addr} {o : HO} (h : H p = none) : Same H (upd H p o) := fun b x e => by
  rw [upd_ne (ne_of_none e h)]
  exact e
theorem qe_var (i : Nat) {x : Str} (hN : X.N[i]? = some x) (hv : Vis X.env.scope x) (hd : (x == ("__debug__" : Str)) = false) (hcd : (x == ("__classdict__" : Str)) = false) : QE X (.Name x pos) (qVar i) :=
  pe_weak (pe_var hN hv hd hcd) fun σ H Q ⟨T, pa, O, env, d, e1, r, k⟩ => by
    unfold qVar at e1
    split at e1
    · rename_i d' e
      cases e1
      obtain ⟨v, h1, h2⟩ := r.sh i _ e
      exact ⟨v, h1, k v H (Same.refl H) h2⟩
    · cases e1
theorem pq_var (i : Nat) {x : Str} (hN : X.N[i]? = some x) (hv : Vis X.env.scope x) (hd : (x == ("__debug__" : Str)) = false) (hcd : (x == ("__classdict__" : Str)) = false) : PQ X (.Name x pos) (pVar i) :=
  pe_weak (pe_var hN hv hd hcd) fun σ H Q ⟨T, pa, O, env, d, e1, r, k⟩ => by
    unfold pVar at e1
    split at e1
    · rename_i d' e
      cases e1
      obtain ⟨v, h1, h2⟩ := r.slot e
      exact ⟨v, h1, k v H (Same.refl H) h2⟩
    · cases e1
theorem qe_const {e : Expr} {v : V} {d : PD} (h : PE X e (tC v)) (r : ∀ H O, Rep X.K H O v d) : QE X e (qC d) :=
  pe_weak h fun σ H Q ⟨T, pa, O, env, d', e1, _, k⟩ => by
    cases e1
    exact k v H (Same.refl H) (r H O)
theorem qe_int {i j} : QE X (.Constant (.int i) j pos) (qC (.int i)) := qe_const pe_int fun _ _ => .int _
theorem qe_bl {b j} : QE X (.Constant (.bool b) j pos) (qC (.bool b)) := qe_const pe_bl fun _ _ => .bl _
theorem qe_non {j} : QE X (.Constant .none j pos) (qC .none) := qe_const pe_non fun _ _ => .non
theorem qe_str {x j} : QE X (.Constant (.str x) j pos) (qC (.str x)) := qe_const pe_str fun _ _ => .str _
/-- a module's constant -/
theorem qe_glob {x : Str} {v : V} {u : Value} {d : PD} (hg : Gl X x) (hm : X.mg x = some u) (r : RelV v u) (rd : ∀ H O, Rep X.K H O v d) (hd : (x == ("__debug__" : Str)) = false := by decide) : QE X (.Name x pos) (qC d) := qe_const (pe_glob hg hm r hd) rd
end

/-! ### argument lists, tuples, lists -/
def aNil : SE → Option (List PD) := fun _ => some []
def aCons (q : Qd) (r : SE → Option (List PD)) : SE → Option (List PD) := fun env => do
  let d ← q env
  let ds ← r env
  pure (d :: ds)
section
variable {X : Cx} {pos : Pos} {e : Expr} {es : List Expr} {q : Qd} {r : SE → Option (List PD)}
theorem qa_nil : QA X [] aNil := pa_weak pa_nil fun σ H Q ⟨T, pa, O, env, ds, e1, _, k⟩ => by
  cases e1
  exact k [] H (Same.refl H) .nil
theorem qap_nil : QAP X [] aNil := pa_weak pa_nil fun σ H Q ⟨T, pa, O, env, ds, e1, _, k⟩ => by
  cases e1
  exact k [] H (Same.refl H) .nil
theorem aCons_some {env : SE} {ds : List PD} (h : aCons q r env = some ds) : ∃ d ds', q env = some d ∧ r env = some ds' ∧ ds = d :: ds' := by
  unfold aCons at h
  cases e1 : q env with
  | none => rw [e1] at h; cases h
  | some d =>
    cases e2 : r env with
    | none => rw [e1, e2] at h; cases h
    | some ds' => rw [e1, e2] at h; cases h; exact ⟨d, ds', rfl, rfl, rfl⟩
theorem qa_cons (h : QE X e q) (hr : QA X es r) (hs : starEach (e :: es) X.env = (false, eval e X.env) :: starEach es X.env := by rfl) : QA X (e :: es) (aCons q r) :=
  pa_weak (pa_cons h hr hs) fun σ H Q ⟨T, pa, O, env, ds, e1, w, k⟩ => by
    obtain ⟨d, ds', q1, q2, rfl⟩ := aCons_some e1
    exact ⟨T, pa, O, env, d, q1, w, fun v H1 s1 r1 => ⟨T, pa, O, env, ds', q2, w.same s1, fun vs H2 s2 r2 => k (v :: vs) H2 (s1.trans s2) (.cons (r1.same s2) r2)⟩⟩
theorem qap_cons (h : PQ X e q) (hr : QAP X es r) (hs : starEach (e :: es) X.env = (false, eval e X.env) :: starEach es X.env := by rfl) : QAP X (e :: es) (aCons q r) :=
  pa_weak (pa_cons h hr hs) fun σ H Q ⟨T, pa, O, env, ds, e1, w, k⟩ => by
    obtain ⟨d, ds', q1, q2, rfl⟩ := aCons_some e1
    exact ⟨T, pa, O, env, d, q1, w, fun v H1 s1 r1 => ⟨T, pa, O, env, ds', q2, w.same s1, fun vs H2 s2 r2 => k (v :: vs) H2 (s1.trans s2) (.cons (r1.same s2) r2)⟩⟩
def qTup (r : SE → Option (List PD)) : Qd := fun env => do
  let ds ← r env
  if ds.length ≤ LIM then pure (.tuple ds) else none
def qLst (r : SE → Option (List PD)) : Qd := fun env => do
  let ds ← r env
  if ds.length ≤ LIM then pure (.list ds) else none
theorem some_if {α : Type} {c : Prop} [Decidable c] {x y : α} (h : (if c then some x else none) = some y) : c ∧ x = y := by
  by_cases hc : c
  · rw [if_pos hc] at h; cases h; exact ⟨hc, rfl⟩
  · rw [if_neg hc] at h; cases h
theorem bind_some {α β : Type} {o : Option α} {f : α → Option β} {y : β} (h : (o >>= f) = some y) : ∃ x, o = some x ∧ f x = some y := by
  cases o with
  | none => cases h
  | some x => exact ⟨x, rfl, h⟩
theorem qe_tup {x1} (h : QA X es r) : QE X (.Tuple es x1 pos) (qTup r) :=
  pe_weak (pe_tup h) fun σ H Q ⟨T, pa, O, env, d, e1, w, k⟩ => by
    obtain ⟨ds, q1, q2⟩ := bind_some e1
    obtain ⟨hz, rfl⟩ := some_if q2
    refine ⟨T, pa, O, env, ds, q1, w, fun vs H1 s1 r1 => ⟨by rw [r1.length, lim_eq]; exact hz, fun p hp => ?_⟩⟩
    refine k _ _ (s1.trans (same_upd hp)) (.tup ⟨SqT.of upd_same, by rw [r1.length, lim_eq]; exact hz⟩ (r1.same (same_upd hp)))
theorem fe_lst (h : QA X es r) : FE X (.List es pos) (qLst r) :=
  pe_weak (pe_lst h) fun σ H Q ⟨T, pa, O, env, d, e1, w, k⟩ => by
    obtain ⟨ds, q1, q2⟩ := bind_some e1
    obtain ⟨hz, rfl⟩ := some_if q2
    refine ⟨T, pa, O, env, ds, q1, w, fun vs H1 s1 r1 => ⟨by rw [r1.length, lim_eq]; exact hz, fun p hp => ?_⟩⟩
    refine k p _ (s1.trans (same_upd hp)) (s1.free hp) ⟨vs, upd_same, by rw [r1.length, lim_eq]; exact hz, (r1.fresh hp).same (same_upd hp)⟩
end

/-! ### two-place operators -/
def q2 (f : PD → PD → Option PD) (p q : Qd) : Qd := fun env => do
  let d ← p env
  let e ← q env
  f d e
def q1 (f : PD → Option PD) (p : Qd) : Qd := fun env => do
  let d ← p env
  f d
/-- the rule r gives what f says of data -/
def OpOk (K : PySem.W.Frag) (r : R2) (f : PD → PD → Option PD) : Prop :=
  ∀ (O : AS) (H : Hp) (v u : V) (d e z : PD) (Q : VK), (∀ a, O a → H a ≠ none) → RepT K H O v d → RepT K H O u e → f d e = some z → (∀ v' H', Same H H' → Rep K H' O v' z → Q v' H') → r v u H Q
section
variable {X : Cx} {a b : Expr} {p q : Qd} {pos : Pos} {r : R2} {f : PD → PD → Option PD}
theorem tOp_weak (hk : OpOk X.K r f) : ∀ σ H Q, tQ X.K (q2 f p q) σ H Q → tOp r (tP X.K p) (tP X.K q) σ H Q := fun σ H Q ⟨T, pa, O, env, z, e1, w, k⟩ => by
  obtain ⟨d, h1, h2⟩ := bind_some e1
  obtain ⟨e, h3, h4⟩ := bind_some h2
  refine ⟨T, pa, O, env, d, h1, w, fun v H1 s1 r1 => ⟨T, pa, O, env, e, h3, w.same s1, fun u H2 s2 r2 => ?_⟩⟩
  exact hk O H2 v u d e z Q (w.same (s1.trans s2)).dom (r1.same s2) r2 h4 fun v' H' s' r' => k v' H' ((s1.trans s2).trans s') r'
theorem qe_op {op : Operator} (ho : OpR X (binaryOp op) r) (hk : OpOk X.K r f) (ha : PQ X a p) (hb : PQ X b q) : QE X (.BinOp a op b pos) (q2 f p q) := pe_weak (pe_op ho ha hb) (tOp_weak hk)
theorem qe_cmp {op : CmpOp} (ho : OpR X (compareOp op) r) (hk : OpOk X.K r f) (ha : PQ X a p) (hb : PQ X b q) (hm : behindInMarks op b = false) : QE X (.Compare a [op] [b] pos) (q2 f p q) := pe_weak (pe_cmpR ho ha hb hm) (tOp_weak hk)
/-- a truth value that a datum is -/
def asB (q : Qd) : SE → Option Bool := fun env => match q env with
  | some (.bool b) => some b
  | _ => none
theorem asB_some {q : Qd} {env : SE} {b : Bool} (h : asB q env = some b) : q env = some (.bool b) := by
  unfold asB at h
  split at h
  · rename_i b' e; cases h; exact e
  · cases h
theorem tq_cmp {op : CmpOp} (ho : OpR X (compareOp op) r) (hk : OpOk X.K r f) (ha : PQ X a p) (hb : PQ X b q) (hm : behindInMarks op b = false) : TQ X (.Compare a [op] [b] pos) (asB (q2 f p q)) :=
  pt_weak (pt_cmpR ho ha hb hm) fun σ H Q ⟨T, pa, O, env, z, e1, w, k⟩ => by
    have e2 := asB_some e1
    refine tOp_weak hk σ H _ ⟨T, pa, O, env, _, e2, w, fun v H' s' r' => ?_⟩
    cases r'
    exact ⟨z, rfl, k H' s'⟩
/-- a op b op' c -/
def qChain (f g : PD → PD → Option PD) (p q s : Qd) : Qd := fun env => do
  let d ← p env
  let e ← q env
  match f d e with
  | some (.bool true) => do
    let z ← s env
    g e z
  | some (.bool false) => some (.bool false)
  | _ => none
variable {c : Expr} {s : Qd} {r' : R2} {g : PD → PD → Option PD}
theorem tChain_weak (hk : OpOk X.K r f) (hg : OpOk X.K r' g) : ∀ σ H Q, tQ X.K (qChain f g p q s) σ H Q → tChain r r' (tP X.K p) (tP X.K q) (tP X.K s) σ H Q := fun σ H Q ⟨T, pa, O, env, z, e1, w, k⟩ => by
  obtain ⟨d, h1, h2⟩ := bind_some e1
  obtain ⟨e, h3, h4⟩ := bind_some h2
  refine ⟨T, pa, O, env, d, h1, w, fun v H1 s1 r1 => ⟨T, pa, O, env, e, h3, w.same s1, fun u H2 s2 r2 => ?_⟩⟩
  cases hf : f d e with
  | none => simp only [hf] at h4; cases h4
  | some fz =>
    refine hk O H2 v u d e fz _ (w.same (s1.trans s2)).dom (r1.same s2) r2 hf fun v' H3 s3 r3 => ?_
    cases fz with
    | bool b =>
      cases r3
      refine ⟨b, rfl, ?_⟩
      cases b with
      | true =>
        rw [if_pos rfl]
        simp only [hf] at h4
        obtain ⟨y, h5, h6⟩ := bind_some h4
        refine ⟨T, pa, O, env, y, h5, (w.same (s1.trans s2)).same s3, fun v4 H4 s4 r4 => ?_⟩
        exact hg O H4 u v4 e y z Q (w.same (((s1.trans s2).trans s3).trans s4)).dom (r2.same (s3.trans s4)) r4 h6 fun v' H' s' r' => k v' H' ((((s1.trans s2).trans s3).trans s4).trans s') r'
      | false =>
        rw [if_neg Bool.false_ne_true]
        simp only [hf] at h4
        cases h4
        exact k _ _ ((s1.trans s2).trans s3) (.bl false)
    | _ => simp only [hf] at h4; cases h4
theorem qe_chain {op op' : CmpOp} (ho : OpR X (compareOp op) r) (ho' : OpR X (compareOp op') r') (hk : OpOk X.K r f) (hg : OpOk X.K r' g) (ha : PQ X a p) (hb : PQ X b q) (hc : PQ X c s) (hm : lastMarks [op, op'] [b, c] = false) :
    QE X (.Compare a [op, op'] [b, c] pos) (qChain f g p q s) := pe_weak (pe_chain ho ho' ha hb hc hm) (tChain_weak hk hg)
theorem tq_chain {op op' : CmpOp} (ho : OpR X (compareOp op) r) (ho' : OpR X (compareOp op') r') (hk : OpOk X.K r f) (hg : OpOk X.K r' g) (ha : PQ X a p) (hb : PQ X b q) (hc : PQ X c s) (hm : lastMarks [op, op'] [b, c] = false) :
    TQ X (.Compare a [op, op'] [b, c] pos) (asB (qChain f g p q s)) :=
  pt_weak (pt_chain ho ho' ha hb hc hm) fun σ H Q ⟨T, pa, O, env, z, e1, w, k⟩ => by
    have e2 := asB_some e1
    refine tChain_weak hk hg σ H _ ⟨T, pa, O, env, _, e2, w, fun v H' s' r' => ?_⟩
    cases r'
    exact ⟨z, rfl, k H' s'⟩
end

/-! ### truth -/
def truD : PD → Option Bool
  | .none => some false
  | .bool b => some b
  | .int i => some (i != 0)
  | .str x => if x.length ≤ LIM then some ((x.length : Int) != 0) else none
  | .list ds => some (!ds.isEmpty)
  | .tuple ds => some (!ds.isEmpty)
  | .dict ds => some (!ds.isEmpty)
theorem isEmpty_repL {K : PySem.W.Frag} {H : Hp} {O : AS} {v : List V} {d : List PD} (h : RepL K H O v d) : (!v.isEmpty) = !d.isEmpty := by cases h <;> rfl
theorem isEmpty_repD {K : PySem.W.Frag} {H : Hp} {O : AS} {v : List (Key × V)} {d : List (PD × PD)} (h : RepD K H O v d) : (!v.isEmpty) = !d.isEmpty := by cases h <;> rfl
theorem truD_ok {K : PySem.W.Frag} {H : Hp} {O : AS} {v : V} {d : PD} {b : Bool} (h : RepT K H O v d) (e : truD d = some b) : TruV K v H b := by
  cases d with
  | none => rw [h.non]; cases e; rfl
  | bool c => rw [h.bl]; cases e; rfl
  | int i => rw [h.int]; cases e; rfl
  | str x =>
    rw [h.str]
    obtain ⟨hz, e⟩ := some_if e
    exact ⟨by rw [lim_eq]; exact hz, e.symm⟩
  | list ds =>
    obtain ⟨a, xs, rfl, h1, _, r⟩ := h.lst
    cases e
    exact .inl ⟨xs, h1, (isEmpty_repL r).symm⟩
  | tuple ds =>
    obtain ⟨a, xs, rfl, h1, _, r⟩ := h.tup
    cases e
    exact .inr (.inl ⟨xs, h1, (isEmpty_repL r).symm⟩)
  | dict ds =>
    obtain ⟨a, xs, rfl, h1, _, r⟩ := h.dct
    cases e
    exact .inr (.inr ⟨xs, h1, (isEmpty_repD r).symm⟩)
def tru (q : Qd) : SE → Option Bool := fun env => do
  let d ← q env
  truD d
section
variable {X : Cx} {a b : Expr} {p q : Qd} {pos : Pos} {t u : SE → Option Bool} {rest : List Expr}
theorem tq_tru (ha : PQ X a p) (he : ∀ whole, isTrue a X.env whole = (do let v ← whole; standAt a.pos; holding [v] (truthy v)) := by intro _; rfl) : TQ X a (tru p) :=
  pt_weak (pt_truth ha he) fun σ H Q ⟨T, pa, O, env, z, e1, w, k⟩ => by
    obtain ⟨d, h1, h2⟩ := bind_some e1
    exact ⟨T, pa, O, env, d, h1, w, fun v H' s' r' => ⟨z, truD_ok r' h2, k H' s'⟩⟩
def tNotB (t : SE → Option Bool) : SE → Option Bool := fun env => (t env).map (!·)
def tAndB (t u : SE → Option Bool) : SE → Option Bool := fun env => match t env with
  | some true => u env
  | some false => some false
  | none => none
def tOrB (t u : SE → Option Bool) : SE → Option Bool := fun env => match t env with
  | some true => some true
  | some false => u env
  | none => none
theorem tq_not (h : TQ X a t) : TQ X (.UnaryOp .Not a pos) (tNotB t) := pt_weak (pt_not h) fun σ H Q ⟨T, pa, O, env, z, e1, w, k⟩ => by
  obtain ⟨b, h1, h2⟩ := Option.map_eq_some_iff.mp e1
  refine ⟨T, pa, O, env, b, h1, w, fun H' s' => ?_⟩
  show Q (!b) H'
  rw [h2]
  exact k H' s'
abbrev WQ (X : Cx) (e : Expr) (q : SE → Option Bool) : Prop := PW X e (tB q X.K)
theorem pw_weak {X : Cx} {e : Expr} {t t' : TT} (h : PW X e t) (w : ∀ σ H Q, t' σ H Q → t σ H Q) : PW X e t' := ⟨fun wh pins s σ H Q I q => h.run wh pins s σ H Q I (w σ H Q q)⟩
theorem wq_and1 (h : TQ X a t) : WQ X (.BoolOp .And [a] pos) t := pw_and1 h
theorem wq_or1 (h : TQ X a t) : WQ X (.BoolOp .Or [a] pos) t := pw_or1 h
theorem wq_and (h : TQ X a t) (hb : WQ X (.BoolOp .And (b :: rest) pos) u) : WQ X (.BoolOp .And (a :: b :: rest) pos) (tAndB t u) := pw_weak (pw_and h hb) fun σ H Q ⟨T, pa, O, env, z, e1, w, k⟩ => by
  unfold tAndB at e1
  cases h1 : t env with
  | none => simp only [h1] at e1; cases e1
  | some c =>
    refine ⟨T, pa, O, env, c, h1, w, fun H' s' => ?_⟩
    simp only [h1] at e1
    cases c with
    | true => rw [if_pos rfl]; exact ⟨T, pa, O, env, z, e1, w.same s', fun H2 s2 => k H2 (s'.trans s2)⟩
    | false => cases e1; rw [if_neg Bool.false_ne_true]; exact k H' s'
theorem wq_or (h : TQ X a t) (hb : WQ X (.BoolOp .Or (b :: rest) pos) u) : WQ X (.BoolOp .Or (a :: b :: rest) pos) (tOrB t u) := pw_weak (pw_or h hb) fun σ H Q ⟨T, pa, O, env, z, e1, w, k⟩ => by
  unfold tOrB at e1
  cases h1 : t env with
  | none => simp only [h1] at e1; cases e1
  | some c =>
    refine ⟨T, pa, O, env, c, h1, w, fun H' s' => ?_⟩
    simp only [h1] at e1
    cases c with
    | true => cases e1; rw [if_pos rfl]; exact k H' s'
    | false => rw [if_neg Bool.false_ne_true]; exact ⟨T, pa, O, env, z, e1, w.same s', fun H2 s2 => k H2 (s'.trans s2)⟩
theorem tq_w {q : SE → Option Bool} (h : WQ X a q) : TQ X a q := h.pt
/-- .. as values -/
def qNot (p : Qd) : Qd := fun env => do
  let d ← p env
  let b ← truD d
  pure (.bool (!b))
def qAnd (p q : Qd) : Qd := fun env => do
  let d ← p env
  match truD d with
  | some true => q env
  | some false => some d
  | none => none
def qOr (p q : Qd) : Qd := fun env => do
  let d ← p env
  match truD d with
  | some true => some d
  | some false => q env
  | none => none
theorem qe_not (ha : PQ X a p) : QE X (.UnaryOp .Not a pos) (qNot p) := pe_weak (pe_notT ha) fun σ H Q ⟨T, pa, O, env, z, e1, w, k⟩ => by
  obtain ⟨d, h1, h2⟩ := bind_some e1
  obtain ⟨b, h3, h4⟩ := bind_some h2
  cases h4
  exact ⟨T, pa, O, env, d, h1, w, fun v H' s' r' => ⟨b, truD_ok r' h3, k _ H' s' (.bl _)⟩⟩
theorem qe_one {op} (h : QE X a p) : QE X (.BoolOp op [a] pos) p := pe_one h
theorem qe_and (ha : QE X a p) (hb : QE X (.BoolOp .And (b :: rest) pos) q) : QE X (.BoolOp .And (a :: b :: rest) pos) (qAnd p q) := pe_weak (pe_andT ha hb) fun σ H Q ⟨T, pa, O, env, z, e1, w, k⟩ => by
  obtain ⟨d, h1, h2⟩ := bind_some e1
  refine ⟨T, pa, O, env, d, h1, w, fun v H' s' r' => ?_⟩
  cases h3 : truD d with
  | none => simp only [h3] at h2; cases h2
  | some c =>
    refine ⟨c, truD_ok (.inl r') h3, ?_⟩
    simp only [h3] at h2
    cases c with
    | true => rw [if_pos rfl]; exact ⟨T, pa, O, env, z, h2, w.same s', fun v2 H2 s2 r2 => k v2 H2 (s'.trans s2) r2⟩
    | false => cases h2; rw [if_neg Bool.false_ne_true]; exact k v H' s' r'
theorem qe_or (ha : QE X a p) (hb : QE X (.BoolOp .Or (b :: rest) pos) q) : QE X (.BoolOp .Or (a :: b :: rest) pos) (qOr p q) := pe_weak (pe_orT ha hb) fun σ H Q ⟨T, pa, O, env, z, e1, w, k⟩ => by
  obtain ⟨d, h1, h2⟩ := bind_some e1
  refine ⟨T, pa, O, env, d, h1, w, fun v H' s' r' => ?_⟩
  cases h3 : truD d with
  | none => simp only [h3] at h2; cases h2
  | some c =>
    refine ⟨c, truD_ok (.inl r') h3, ?_⟩
    simp only [h3] at h2
    cases c with
    | true => cases h2; rw [if_pos rfl]; exact k v H' s' r'
    | false => rw [if_neg Bool.false_ne_true]; exact ⟨T, pa, O, env, z, h2, w.same s', fun v2 H2 s2 r2 => k v2 H2 (s'.trans s2) r2⟩
/-- a if t else b -/
def qIf (t : SE → Option Bool) (p q : Qd) : Qd := fun env => match t env with
  | some true => p env
  | some false => q env
  | none => none
theorem qe_if {c : Expr} (hc : TQ X c t) (ha : QE X a p) (hb : QE X b q) : QE X (.IfExp c a b pos) (qIf t p q) := pe_weak (pe_ifExp hc ha hb) fun σ H Q ⟨T, pa, O, env, z, e1, w, k⟩ => by
  unfold qIf at e1
  cases h1 : t env with
  | none => simp only [h1] at e1; cases e1
  | some c =>
    refine ⟨T, pa, O, env, c, h1, w, fun H' s' => ?_⟩
    simp only [h1] at e1
    cases c with
    | true => rw [if_pos rfl]; exact ⟨T, pa, O, env, z, e1, w.same s', fun v2 H2 s2 r2 => k v2 H2 (s'.trans s2) r2⟩
    | false => rw [if_neg Bool.false_ne_true]; exact ⟨T, pa, O, env, z, e1, w.same s', fun v2 H2 s2 r2 => k v2 H2 (s'.trans s2) r2⟩
end
end D
end
section
set_option Elab.async false
set_option linter.all false
set_option maxRecDepth 100000
set_option maxHeartbeats 4000000
/-! The pure layer, part C: what the operators say of data. -/
namespace D
open PySem PySem.Spec PyProof.Rows L2

/-! ### whole numbers -/
def addD : PD → PD → Option PD
  | .int i, .int j => some (.int (i + j))
  | .str x, .str y => if x.length + y.length ≤ LIM then some (.str (x ++ y)) else none
  | .list xs, .list ys => if xs.length + ys.length ≤ LIM then some (.list (xs ++ ys)) else none
  | .tuple xs, .tuple ys => if xs.length + ys.length ≤ LIM then some (.tuple (xs ++ ys)) else none
  | _, _ => none
def subD : PD → PD → Option PD
  | .int i, .int j => some (.int (i - j))
  | _, _ => none
def mulI (i j : Int) : Bool := (decide (-(2 ^ 64) < i) && decide (i < 2 ^ 64)) || (decide (-(2 ^ 64) < j) && decide (j < 2 ^ 64))
def mulD : PD → PD → Option PD
  | .int i, .int j => if mulI i j = true then some (.int (i * j)) else none
  | _, _ => none
def fdivD : PD → PD → Option PD
  | .int i, .int j => if 0 < j ∧ j < 1073741824 then some (.int (i / j)) else none
  | _, _ => none
def modD : PD → PD → Option PD
  | .int i, .int j => if 0 < j then some (.int (i % j)) else none
  | _, _ => none
def powD : PD → PD → Option PD
  | .int i, .int j => if 0 ≤ j ∧ j ≤ 1000000 ∧ i.natAbs < 2 ^ 64 then some (.int (i ^ j.toNat)) else none
  | _, _ => none
section
variable {K : PySem.W.Frag} {X : Cx}
theorem ok_sub : OpOk K (rI0 fun i j => .int (i - j)) subD := fun O H v u d e z Q _ r1 r2 e1 k => by
  unfold subD at e1
  split at e1
  · cases e1
    exact ⟨_, _, r1.int, r2.int, k _ H (Same.refl H) (.int _)⟩
  · cases e1
theorem ok_mul : OpOk K (rI CMul fun i j => .int (i * j)) mulD := fun O H v u d e z Q _ r1 r2 e1 k => by
  unfold mulD at e1
  split at e1
  · obtain ⟨hc, rfl⟩ := some_if e1
    refine ⟨_, _, r1.int, r2.int, ?_, k _ H (Same.refl H) (.int _)⟩
    unfold mulI at hc
    simp only [Bool.or_eq_true, Bool.and_eq_true, decide_eq_true_eq] at hc
    exact hc
  · cases e1
theorem ok_fdiv : OpOk K (rI CDiv fun i j => .int (i / j)) fdivD := fun O H v u d e z Q _ r1 r2 e1 k => by
  unfold fdivD at e1
  split at e1
  · obtain ⟨hc, rfl⟩ := some_if e1
    exact ⟨_, _, r1.int, r2.int, hc, k _ H (Same.refl H) (.int _)⟩
  · cases e1
theorem ok_mod : OpOk K (rI (fun _ j => 0 < j) fun i j => .int (i % j)) modD := fun O H v u d e z Q _ r1 r2 e1 k => by
  unfold modD at e1
  split at e1
  · obtain ⟨hc, rfl⟩ := some_if e1
    exact ⟨_, _, r1.int, r2.int, hc, k _ H (Same.refl H) (.int _)⟩
  · cases e1
theorem ok_pow : OpOk K (rI CPow fun i j => .int (i ^ j.toNat)) powD := fun O H v u d e z Q _ r1 r2 e1 k => by
  unfold powD at e1
  split at e1
  · obtain ⟨hc, rfl⟩ := some_if e1
    exact ⟨_, _, r1.int, r2.int, hc, k _ H (Same.refl H) (.int _)⟩
  · cases e1
/-- a list that may be read, wherever it stands -/
theorem _root_.L2.Inv.lstR {pins : List (Addr × Obj)} {σ : L2.St} {H : Hp} {s : Shared} {l : Addr} {xs : List V} (I : Inv X pins σ H s) (hH : Rd H l (.lst xs)) : xs.length ≤ sizeLine ∧ ∃ (its : List Value) (n : Nat), Vals xs its ∧ xs.length = its.length ∧ s.heap.get? l = some { cls := .type "list", data := .seq its.toArray n } := by
  obtain ⟨z, its, n, r, e⟩ := hH.ok I.hok
  exact ⟨z, its, n, r, r.length, e⟩
theorem add_listG {prog : Program} {w : World} {A : Around} {E : Value → Shared → Prop} {s : Shared} {l b : Addr} {vs ws : List Value} {Q : Value → Shared → Prop} (hl : s.heap.IsList l vs.toArray) (hb : s.heap.IsList b ws.toArray)
    (h : Q (.ref s.heap.objs.size) { s with heap := s.heap.push { cls := .type "list", data := .seq (vs ++ ws).toArray } })
    (hsz : vs.length + ws.length ≤ sizeLine) :
    wpAny (model prog w) A (binaryOp .Add (.ref l) (.ref b)) Q E s := by
  obtain ⟨⟨cls, dd, data, sl⟩, ho, hc, n, hd⟩ := id hl
  obtain ⟨⟨cls2, dd2, data2, sl2⟩, ho2, hc2, n2, hd2⟩ := id hb
  simp only at hc hd hc2 hd2
  subst hc hd hc2 hd2
  have e : vs.toArray ++ ws.toArray = (vs ++ ws).toArray := by simp
  refine concat_meets ⟨_, ho, rfl⟩ ⟨_, ho2, rfl⟩ noFill_list_add seq_list_add PySem.F.slot_list_add PySem.F.entry_list_add (PySem.F.args_list_add_2 _ _) (list_addW l b vs.toArray ws.toArray n n2 dd dd2 sl sl2 (by simpa using hsz)) ⟨ho, ho2, ?_⟩
  rw [e]
  exact h
def rCatR (K : PySem.W.Frag) : R2 := fun x y H Q => ∃ l b xs zs, x = .ref l ∧ y = .ref b ∧ SqL K H l xs ∧ SqL K H b zs ∧ xs.length + zs.length ≤ sizeLine ∧ ∀ p, H p = none → Q (.ref p) (upd H p (.lst (xs ++ zs)))
theorem op_catR : OpR X (binaryOp .Add) (rCatR X.K) := by
  intro pins s σ H x y v u Q I rx ry h
  obtain ⟨l, b, xs, zs, rfl, rfl, hH, hB, hz, q⟩ := h
  cases rx
  cases ry
  obtain ⟨its, r, p1, z⟩ := I.list hH
  obtain ⟨its2, r2, p2, z2⟩ := I.list hB
  have hl := r.length
  have hl2 := r2.length
  refine add_listG p1.isList p2.isList ?_ (by omega)
  refine ⟨.ref _, _, I.lnew (t' := s.toks) (r.append r2) ?_, rfl, q _ I.fresh⟩
  rw [List.length_append]
  omega
def rAdd (K : PySem.W.Frag) : R2 := fun x y H Q => rI0 (fun i j => .int (i + j)) x y H Q ∨ (∃ i j, x = .str i ∧ y = .str j ∧ i.length + j.length ≤ sizeLine ∧ Q (.str (i ++ j)) H) ∨ rCatR K x y H Q ∨ rCatA K x y H Q
theorem op_addA : OpR X (binaryOp .Add) (rAdd X.K) := op_add.or (op_add_str.or (op_catR.or op_catA))
theorem ok_add : OpOk K (rAdd K) addD := fun O H v u d e z Q dm r1 r2 e1 k => by
  unfold addD at e1
  split at e1
  · cases e1
    exact .inl ⟨_, _, r1.int, r2.int, k _ H (Same.refl H) (.int _)⟩
  · obtain ⟨hc, rfl⟩ := some_if e1
    exact .inr (.inl ⟨_, _, r1.str, r2.str, by rw [lim_eq]; exact hc, k _ H (Same.refl H) (.str _)⟩)
  · obtain ⟨hc, rfl⟩ := some_if e1
    obtain ⟨a, xs, rfl, h1, z1, w1⟩ := r1.lst
    obtain ⟨b, ys, rfl, h2, z2, w2⟩ := r2.lst
    have hz : xs.length + ys.length ≤ sizeLine := by rw [w1.length, w2.length, lim_eq]; exact hc
    refine .inr (.inr (.inl ⟨a, b, xs, ys, rfl, rfl, h1, h2, hz, fun p hp => k _ _ (same_upd hp) ?_⟩))
    exact .lst ⟨.inl ⟨.inl upd_same, fun q => dm p q hp⟩, by rw [List.length_append]; exact hz⟩ ((w1.append w2).same (same_upd hp))
  · obtain ⟨hc, rfl⟩ := some_if e1
    obtain ⟨a, xs, rfl, h1, z1, w1⟩ := r1.tup
    obtain ⟨b, ys, rfl, h2, z2, w2⟩ := r2.tup
    have hz : xs.length + ys.length ≤ sizeLine := by rw [w1.length, w2.length, lim_eq]; exact hc
    refine .inr (.inr (.inr ⟨a, b, xs, ys, rfl, rfl, h1, h2, hz, fun h0 => ?_, fun _ h0 => ?_, fun _ _ p hp => ?_⟩))
    · subst h0
      cases w1
      exact k _ H (Same.refl H) (.tup ⟨h2, z2⟩ w2)
    · subst h0
      cases w2
      rw [List.append_nil] at k
      exact k _ H (Same.refl H) (.tup ⟨h1, z1⟩ w1)
    · exact k _ _ (same_upd hp) (.tup ⟨SqT.of upd_same, by rw [List.length_append]; exact hz⟩ ((w1.append w2).same (same_upd hp)))
  · cases e1
/-- a new list of two -/
theorem fe_cat {a b : Expr} {p q : Qd} {pos : Pos} (ha : PQ X a p) (hb : PQ X b q) : FE X (.BinOp a .Add b pos) (q2 (fun d e => match d, e with | .list xs, .list ys => if xs.length + ys.length ≤ LIM then some (.list (xs ++ ys)) else none | _, _ => none) p q) :=
  pe_weak (pe_op op_catR ha hb) fun σ H Q ⟨T, pa, O, env, z, e1, w, k⟩ => by
    obtain ⟨d, h1, h2⟩ := bind_some e1
    obtain ⟨e, h3, h4⟩ := bind_some h2
    refine ⟨T, pa, O, env, d, h1, w, fun v H1 s1 r1 => ⟨T, pa, O, env, e, h3, w.same s1, fun u H2 s2 r2 => ?_⟩⟩
    simp only at h4
    split at h4
    · obtain ⟨hc, rfl⟩ := some_if h4
      obtain ⟨a, xs, rfl, g1, z1, w1⟩ := (r1.same s2).lst
      obtain ⟨b, ys, rfl, g2, z2, w2⟩ := r2.lst
      have hz : xs.length + ys.length ≤ sizeLine := by rw [w1.length, w2.length, lim_eq]; exact hc
      refine ⟨a, b, xs, ys, rfl, rfl, g1, g2, hz, fun p hp => k p _ ((s1.trans s2).trans (same_upd hp)) ((s1.trans s2).free hp) ?_⟩
      exact ⟨_, upd_same, by rw [List.length_append]; exact hz, ((w1.append w2).fresh hp).same (same_upd hp)⟩
    · cases h4

/-! ### comparisons of whole numbers, of data -/
def cmpI (f : Int → Int → Bool) : PD → PD → Option PD
  | .int i, .int j => some (.bool (f i j))
  | _, _ => none
theorem ok_cmpI {f : Int → Int → Bool} : OpOk K (rI0 fun i j => .bl (f i j)) (cmpI f) := fun O H v u d e z Q _ r1 r2 e1 k => by
  unfold cmpI at e1
  split at e1
  · cases e1
    exact ⟨_, _, r1.int, r2.int, k _ H (Same.refl H) (.bl _)⟩
  · cases e1
abbrev leD : PD → PD → Option PD := cmpI fun i j => decide (i ≤ j)
abbrev gtD : PD → PD → Option PD := cmpI fun i j => decide (j < i)
abbrev geD : PD → PD → Option PD := cmpI fun i j => decide (j ≤ i)
/-- == of data without dicts -/
def fitsD (d e : PD) : Bool := d.plain && e.plain && decide (min d.depth e.depth ≤ 60)
def eqD (d e : PD) : Option PD := if fitsD d e = true then some (.bool (PyData.eqv d e)) else none
def neD (d e : PD) : Option PD := if fitsD d e = true then some (.bool (!PyData.eqv d e)) else none
def rDD (K : PySem.W.Frag) (f : PD → PD → V) : R2 := fun x y H Q => ∃ d e, Dp K H x d ∧ Dp K H y e ∧ fitsD d e = true ∧ Q (f d e) H
theorem op_eqP (hu : X.A.units + 64 < cLine) : OpR X (compareOp .Eq) (rDD X.K fun d e => .bl (PyData.eqv d e)) := by
  intro pins s σ H x y v u Q I rx ry h
  obtain ⟨d, e, hd, he, hf, q⟩ := h
  simp only [fitsD, Bool.and_eq_true, decide_eq_true_eq] at hf
  obtain ⟨as, r1⟩ := Dp.reads I d x v hd rx
  obtain ⟨bs, r2⟩ := Dp.reads I e y u he ry
  refine SeqAt.eq_plain r1 r2 hf.1.1 hf.1.2 ?_ ⟨.bl _, H, I, rfl, q⟩
  have := hf.2
  omega
theorem op_neP (hu : X.A.units + 64 < cLine) : OpR X (compareOp .NotEq) (rDD X.K fun d e => .bl (!PyData.eqv d e)) := by
  intro pins s σ H x y v u Q I rx ry h
  obtain ⟨d, e, hd, he, hf, q⟩ := h
  simp only [fitsD, Bool.and_eq_true, decide_eq_true_eq] at hf
  obtain ⟨as, r1⟩ := Dp.reads I d x v hd rx
  obtain ⟨bs, r2⟩ := Dp.reads I e y u he ry
  refine SeqAt.ne_plain r1 r2 hf.1.1 hf.1.2 ?_ ⟨.bl _, H, I, rfl, q⟩
  have := hf.2
  omega
theorem ok_eq : OpOk K (rDD K fun d e => .bl (PyData.eqv d e)) eqD := fun O H v u d e z Q _ r1 r2 e1 k => by
  obtain ⟨hf, rfl⟩ := some_if e1
  have hf' := hf
  simp only [fitsD, Bool.and_eq_true, decide_eq_true_eq] at hf'
  exact ⟨d, e, r1.dp hf'.1.1, r2.dp hf'.1.2, hf, k _ H (Same.refl H) (.bl _)⟩
theorem ok_ne : OpOk K (rDD K fun d e => .bl (!PyData.eqv d e)) neD := fun O H v u d e z Q _ r1 r2 e1 k => by
  obtain ⟨hf, rfl⟩ := some_if e1
  have hf' := hf
  simp only [fitsD, Bool.and_eq_true, decide_eq_true_eq] at hf'
  exact ⟨d, e, r1.dp hf'.1.1, r2.dp hf'.1.2, hf, k _ H (Same.refl H) (.bl _)⟩
/-- < of alike data -/
def ltOk (d e : PD) : Bool := PySem.W.alike d e && d.plain && e.plain && decide (min d.depth e.depth ≤ 60) && (match d with | .none => false | _ => true)
def ltD (d e : PD) : Option PD := if ltOk d e = true then some (.bool (PySem.W.dataLt d e)) else none
def rLtP (K : PySem.W.Frag) : R2 := fun x y H Q => ∃ d e, Dp K H x d ∧ Dp K H y e ∧ ltOk d e = true ∧ Q (.bl (PySem.W.dataLt d e)) H
theorem op_ltP (hu : X.A.units + 64 < cLine) : OpR X (compareOp .Lt) (rLtP X.K) := by
  intro pins s σ H x y v u Q I rx ry h
  obtain ⟨d, e, hd, he, hf, q⟩ := h
  simp only [ltOk, Bool.and_eq_true, decide_eq_true_eq] at hf
  obtain ⟨as, r1⟩ := Dp.reads I d x v hd rx
  obtain ⟨bs, r2⟩ := Dp.reads I e y u he ry
  have hn : d ≠ .none := fun z => by
    have := hf.2
    rw [z] at this
    cases this
  have hb : X.A.units + min d.depth e.depth < cLine := by
    have := hf.1.2
    omega
  exact PySem.W.rcLt_alike d e X.A s v u as bs r1 r2 hf.1.1.1.1 hn hb _ _ _ _ ⟨.bl _, H, I, rfl, q⟩
theorem ok_lt : OpOk K (rLtP K) ltD := fun O H v u d e z Q _ r1 r2 e1 k => by
  obtain ⟨hf, rfl⟩ := some_if e1
  have hf' := hf
  simp only [ltOk, Bool.and_eq_true, decide_eq_true_eq] at hf'
  exact ⟨d, e, r1.dp hf'.1.1.1.2, r2.dp hf'.1.1.2, hf, k _ H (Same.refl H) (.bl _)⟩
end
end D
end
section
set_option Elab.async false
set_option linter.all false
set_option maxRecDepth 100000
set_option maxHeartbeats 4000000
/-! The pure layer, part D: in, is, subscripts, slices, built-in calls. -/
namespace D
open PySem PySem.Spec PyProof.Rows L2

section
variable {K : PySem.W.Frag} {X : Cx}
/-! ### in -/
def inOk (d : PD) (ds : List PD) : Bool := d.plain && PyData.plainAll ds && decide (d.depth ≤ 60)
def keyOf : PD → Option Key
  | .int i => some (.inl i)
  | .str x => some (.inr x)
  | _ => none
theorem keyOf_kV {d : PD} {k : Key} (h : keyOf d = some k) : d = kD k := by
  unfold keyOf at h
  split at h <;> cases h <;> rfl
def findD (k : PD) : List (PD × PD) → Option PD
  | [] => none
  | (x, d) :: r => if PyData.eqv x k = true then some d else findD k r
def isIn (d e : PD) : Option Bool :=
  match e with
  | .list ds => if inOk d ds = true then some (ds.any fun z => PyData.eqv z d) else none
  | .tuple ds => if inOk d ds = true then some (ds.any fun z => PyData.eqv z d) else none
  | .str y => match d with
    | .str x => some (!(Builtin.Str.occurrences y x 0 y.length 1).isEmpty)
    | _ => none
  | .dict kvs => (keyOf d).map fun _ => (findD d kvs).isSome
  | _ => none
def inD (d e : PD) : Option PD := (isIn d e).map .bool
def niD (d e : PD) : Option PD := (isIn d e).map fun b => .bool (!b)
def rInS (K : PySem.W.Frag) (f : Bool → V) : R2 := fun x y H Q => ∃ d ds, Dp K H x d ∧ (Dp K H y (.list ds) ∨ Dp K H y (.tuple ds)) ∧ inOk d ds = true ∧ Q (f (ds.any fun z => PyData.eqv z d)) H
theorem op_inS (hu : X.A.units + 64 < cLine) : OpR X (compareOp .In) (rInS X.K .bl) := by
  intro pins s σ H x y v u Q I rx ry h
  obtain ⟨d, ds, hd, he, hf, q⟩ := h
  simp only [inOk, Bool.and_eq_true, decide_eq_true_eq] at hf
  obtain ⟨as, r1⟩ := Dp.reads I d x v hd rx
  have hb : X.A.units + 1 + min (PyData.depthAll ds) d.depth < cLine := by
    have := hf.2
    omega
  rcases he with he | he
  · obtain ⟨bs, r2⟩ := Dp.reads I _ y u he ry
    exact SeqAt.in_list_data r2 r1 hf.1.2 hf.1.1 hb ⟨.bl _, H, I, rfl, q⟩
  · obtain ⟨bs, r2⟩ := Dp.reads I _ y u he ry
    exact SeqAt.in_tuple_data r2 r1 hf.1.2 hf.1.1 hb ⟨.bl _, H, I, rfl, q⟩
theorem op_niS (hu : X.A.units + 64 < cLine) : OpR X (compareOp .NotIn) (rInS X.K fun b => .bl (!b)) := by
  intro pins s σ H x y v u Q I rx ry h
  obtain ⟨d, ds, hd, he, hf, q⟩ := h
  simp only [inOk, Bool.and_eq_true, decide_eq_true_eq] at hf
  obtain ⟨as, r1⟩ := Dp.reads I d x v hd rx
  have hb : X.A.units + 1 + min (PyData.depthAll ds) d.depth < cLine := by
    have := hf.2
    omega
  rcases he with he | he
  · obtain ⟨bs, r2⟩ := Dp.reads I _ y u he ry
    exact SeqAt.notIn_list_data r2 r1 hf.1.2 hf.1.1 hb ⟨.bl _, H, I, rfl, q⟩
  · obtain ⟨bs, r2⟩ := Dp.reads I _ y u he ry
    exact SeqAt.notIn_tuple_data r2 r1 hf.1.2 hf.1.1 hb ⟨.bl _, H, I, rfl, q⟩

/-- a dict of whole-number and text keys -/
theorem findD_val {H : Hp} {O : AS} : ∀ {kvs : List (Key × V)} {ds : List (PD × PD)} (k : Key), RepD K H O kvs ds →
    (∀ v, valV kvs k = some v → ∃ d, findD (kD k) ds = some d ∧ Rep K H O v d) ∧ (valV kvs k = none → findD (kD k) ds = none)
  | _, _, k, .nil => ⟨fun v h => by simp [valV] at h, fun _ => rfl⟩
  | _, _, k, .cons (k := k') (v := v') (kvs := r) (d := d') (ds := rd) h t => by
    have ih := findD_val k t
    have ek : PyData.eqv (kD k') (kD k) = decide (k' = k) := by
      cases k' <;> cases k <;> simp [kD, PyData.eqv]
      all_goals rw [Bool.eq_iff_iff]; simp
    by_cases e : k' = k
    · have e1 : valV ((k', v') :: r) k = some v' := by unfold valV; simp [e]
      have e2 : findD (kD k) ((kD k', d') :: rd) = some d' := by
        show (if PyData.eqv (kD k') (kD k) = true then some d' else findD (kD k) rd) = _
        rw [ek, if_pos (decide_eq_true e)]
      rw [e1, e2]
      exact ⟨fun v q => by cases q; exact ⟨_, rfl, h⟩, fun q => nomatch q⟩
    · have e1 : valV ((k', v') :: r) k = valV r k := by unfold valV; simp [e]
      have e2 : findD (kD k) ((kD k', d') :: rd) = findD (kD k) rd := by
        show (if PyData.eqv (kD k') (kD k) = true then some d' else findD (kD k) rd) = _
        rw [ek, if_neg (by simpa using e)]
      rw [e1, e2]
      exact ih
def rInDk (f : Bool → V) : R2 := fun y x H Q => ∃ a kvs k, x = .ref a ∧ H a = some (.dK kvs) ∧ y = kV k ∧ Q (f (valV kvs k).isSome) H
theorem op_inDk (hu : X.A.units + 64 < cLine) : OpR X (compareOp .In) (rInDk .bl) := by
  intro pins s σ H x y v u Q I rx ry h
  obtain ⟨a, kvs, k, rfl, h1, rfl, q⟩ := h
  cases ry
  exact d_in (by omega) I (DGet.k h1) rx fun s3 I3 => ⟨.bl _, H, I3, rfl, q⟩
theorem op_niDk (hu : X.A.units + 64 < cLine) : OpR X (compareOp .NotIn) (rInDk fun b => .bl (!b)) := by
  intro pins s σ H x y v u Q I rx ry h
  obtain ⟨a, kvs, k, rfl, h1, rfl, q⟩ := h
  cases ry
  exact d_notIn (by omega) I (DGet.k h1) rx fun s3 I3 => ⟨.bl _, H, I3, rfl, q⟩
def rInA (K : PySem.W.Frag) (f : Bool → V) : R2 := fun x y H Q => rInS K f x y H Q ∨ (∃ i j, x = .str i ∧ y = .str j ∧ Q (f (!(Builtin.Str.occurrences j i 0 j.length 1).isEmpty)) H) ∨ rInDk f x y H Q
theorem op_inA (hu : X.A.units + 64 < cLine) : OpR X (compareOp .In) (rInA X.K .bl) := (op_inS hu).or (op_in_str.or (op_inDk hu))
theorem op_niA (hu : X.A.units + 64 < cLine) : OpR X (compareOp .NotIn) (rInA X.K fun b => .bl (!b)) := (op_niS hu).or (L2.op_notin_str.or (op_niDk hu))
theorem repT_key {H : Hp} {O : AS} {v : V} {k : Key} (r : RepT K H O v (kD k)) : v = kV k := by
  cases k with
  | inl i => exact r.int
  | inr x => exact r.str
theorem ok_inG {f : Bool → V} {g : Bool → PD} (hg : ∀ H O b, Rep K H O (f b) (g b)) : OpOk K (rInA K f) (fun d e => (isIn d e).map g) := fun O H v u d e z Q _ r1 r2 e1 k => by
  obtain ⟨b, h1, rfl⟩ := Option.map_eq_some_iff.mp e1
  unfold isIn at h1
  split at h1
  · obtain ⟨hf, rfl⟩ := some_if h1
    have hf' := hf
    simp only [inOk, Bool.and_eq_true, decide_eq_true_eq] at hf'
    exact .inl ⟨d, _, r1.dp hf'.1.1, .inl (r2.dp (by simp only [PyData.plain]; exact hf'.1.2)), hf, k _ H (Same.refl H) (hg _ _ _)⟩
  · obtain ⟨hf, rfl⟩ := some_if h1
    have hf' := hf
    simp only [inOk, Bool.and_eq_true, decide_eq_true_eq] at hf'
    exact .inl ⟨d, _, r1.dp hf'.1.1, .inr (r2.dp (by simp only [PyData.plain]; exact hf'.1.2)), hf, k _ H (Same.refl H) (hg _ _ _)⟩
  · split at h1
    · cases h1
      exact .inr (.inl ⟨_, _, r1.str, r2.str, k _ H (Same.refl H) (hg _ _ _)⟩)
    · cases h1
  · obtain ⟨ky, h2, h3⟩ := Option.map_eq_some_iff.mp h1
    obtain ⟨a, kvs, rfl, g1, g2, g3⟩ := r2.dct
    have ed := keyOf_kV h2
    subst ed
    refine .inr (.inr ⟨a, kvs, ky, rfl, g1, repT_key r1, ?_⟩)
    have fv := findD_val ky g3
    have eb : (valV kvs ky).isSome = b := by
      rw [← h3]
      cases hv : valV kvs ky with
      | none => rw [fv.2 hv]; rfl
      | some v => obtain ⟨d, q1, _⟩ := fv.1 v hv; rw [q1]; rfl
    rw [eb]
    exact k _ H (Same.refl H) (hg _ _ _)
  · cases h1
theorem ok_in : OpOk K (rInA K .bl) inD := ok_inG fun _ _ _ => .bl _
theorem ok_ni : OpOk K (rInA K fun b => .bl (!b)) niD := ok_inG (g := fun b => .bool (!b)) fun _ _ _ => .bl _

/-! ### is -/
def isNon : PD → Bool
  | .none => true
  | _ => false
def isBl (b : Bool) : PD → Bool
  | .bool c => c == b
  | _ => false
/-- x is None, True, False -/
def isC (d : PD) : PD → Option Bool
  | .none => some (isNon d)
  | .bool b => some (isBl b d)
  | _ => none
def isD (d e : PD) : Option PD := (isC d e).map .bool
def isnD (d e : PD) : Option PD := (isC d e).map fun b => .bool (!b)
def rIs (f : Bool → V) : R2 := fun x y H Q => (y = .non ∧ Q (f (decide (x = .non))) H) ∨ ∃ b, y = .bl b ∧ (∀ n, x ≠ .ty n) ∧ Q (f (decide (x = .bl b))) H
theorem beq_bool {x : V} {v : Value} {b : Bool} (r : RelV x v) : (v == Value.bool b) = decide (x = .bl b) := by
  cases x with
  | bl c => cases r; rw [Bool.eq_iff_iff]; simp
  | non => cases r; rfl
  | int _ => obtain ⟨t, rfl⟩ := r; rfl
  | str _ => obtain ⟨t, rfl⟩ := r; rfl
  | byt _ => obtain ⟨t, rfl⟩ := r; rfl
  | flt _ => obtain ⟨t, rfl⟩ := r; rfl
  | ref _ => cases r; rfl
  | ty _ => cases r; rfl
theorem plain_bool {x : V} {v : Value} {b : Bool} (r : RelV x v) : plainIs v (.bool b) = true := by
  cases x with
  | bl c => cases r; rfl
  | non => cases r; rfl
  | int _ => obtain ⟨t, rfl⟩ := r; rfl
  | str _ => obtain ⟨t, rfl⟩ := r; rfl
  | byt _ => obtain ⟨t, rfl⟩ := r; rfl
  | flt _ => obtain ⟨t, rfl⟩ := r; rfl
  | ref _ => cases r; rfl
  | ty _ => cases r; rfl
theorem op_isA : OpR X (compareOp .Is) (rIs .bl) := by
  intro pins s σ H x y v u Q I rx ry h
  rcases h with ⟨rfl, q⟩ | ⟨b, rfl, _, q⟩
  · exact op_isN pins s σ H x .non v u Q I rx ry ⟨rfl, q⟩
  · cases ry
    refine wpAny_is_plain (plain_bool rx) ?_
    rw [beq_bool rx]
    exact ⟨.bl _, H, I, rfl, q⟩
theorem op_isnA : OpR X (compareOp .IsNot) (rIs fun b => .bl (!b)) := by
  intro pins s σ H x y v u Q I rx ry h
  rcases h with ⟨rfl, q⟩ | ⟨b, rfl, _, q⟩
  · exact op_notN pins s σ H x .non v u Q I rx ry ⟨rfl, q⟩
  · cases ry
    refine wpAny_isNot_plain (plain_bool rx) ?_
    rw [beq_bool rx]
    exact ⟨.bl _, H, I, rfl, q⟩
theorem isNon_ok {H : Hp} {O : AS} {v : V} {d : PD} (r1 : RepT K H O v d) : decide (v = .non) = isNon d := by
  cases d with
  | none => rw [r1.non]; rfl
  | bool _ => rw [r1.bl]; rfl
  | int _ => rw [r1.int]; rfl
  | str _ => rw [r1.str]; rfl
  | list _ => obtain ⟨a, xs, rfl, _⟩ := r1.lst; rfl
  | tuple _ => obtain ⟨a, xs, rfl, _⟩ := r1.tup; rfl
  | dict _ => obtain ⟨a, xs, rfl, _⟩ := r1.dct; rfl
theorem isBl_ok {H : Hp} {O : AS} {v : V} {d : PD} {c : Bool} (r1 : RepT K H O v d) : decide (v = .bl c) = isBl c d := by
  cases d with
  | none => rw [r1.non]; rfl
  | bool _ => rw [r1.bl]; rw [Bool.eq_iff_iff]; simp [isBl]
  | int _ => rw [r1.int]; rfl
  | str _ => rw [r1.str]; rfl
  | list _ => obtain ⟨a, xs, rfl, _⟩ := r1.lst; rfl
  | tuple _ => obtain ⟨a, xs, rfl, _⟩ := r1.tup; rfl
  | dict _ => obtain ⟨a, xs, rfl, _⟩ := r1.dct; rfl
theorem noTy {H : Hp} {O : AS} {v : V} {d : PD} (r1 : RepT K H O v d) : ∀ n, v ≠ .ty n := by
  cases d with
  | none => rw [r1.non]; exact fun _ z => nomatch z
  | bool _ => rw [r1.bl]; exact fun _ z => nomatch z
  | int _ => rw [r1.int]; exact fun _ z => nomatch z
  | str _ => rw [r1.str]; exact fun _ z => nomatch z
  | list _ => obtain ⟨a, xs, rfl, _⟩ := r1.lst; exact fun _ z => nomatch z
  | tuple _ => obtain ⟨a, xs, rfl, _⟩ := r1.tup; exact fun _ z => nomatch z
  | dict _ => obtain ⟨a, xs, rfl, _⟩ := r1.dct; exact fun _ z => nomatch z
theorem isC_ok {H : Hp} {O : AS} {v u : V} {d e : PD} {b : Bool} (r1 : RepT K H O v d) (r2 : RepT K H O u e) (h : isC d e = some b) {f : Bool → V} {Q : VK} (q : Q (f b) H) : rIs f v u H Q := by
  unfold isC at h
  split at h
  · cases h
    rw [← isNon_ok r1] at q
    exact .inl ⟨r2.non, q⟩
  · cases h
    rw [← isBl_ok r1] at q
    exact .inr ⟨_, r2.bl, noTy r1, q⟩
  · cases h
theorem ok_is : OpOk K (rIs .bl) isD := fun O H v u d e z Q _ r1 r2 e1 k => by
  obtain ⟨b, h1, rfl⟩ := Option.map_eq_some_iff.mp e1
  exact isC_ok r1 r2 h1 (k _ H (Same.refl H) (.bl _))
theorem ok_isn : OpOk K (rIs fun b => .bl (!b)) isnD := fun O H v u d e z Q _ r1 r2 e1 k => by
  obtain ⟨b, h1, rfl⟩ := Option.map_eq_some_iff.mp e1
  exact isC_ok (f := fun b => .bl (!b)) r1 r2 h1 (k _ H (Same.refl H) (.bl _))

/-! ### subscripts -/
def getD' : PD → PD → Option PD
  | .list ds, .int i => atI ds i
  | .tuple ds, .int i => atI ds i
  | .str x, .int i => if x.length ≤ LIM then (atI x.cps.toList i).map fun c => .str ⟨#[c]⟩ else none
  | .dict kvs, k => match keyOf k with
    | some _ => findD k kvs
    | none => none
  | _, _ => none
theorem repL_at {H : Hp} {O : AS} {xs : List V} {ds : List PD} {i : Int} {z : PD} (r : RepL K H O xs ds) (h : atI ds i = some z) : ∃ v, atI xs i = some v ∧ Rep K H O v z := by
  unfold atI at h ⊢
  rw [r.length]
  cases e : ixN ds.length i with
  | none => rw [e] at h; cases h
  | some j =>
    rw [e] at h
    exact r.get h
def rIxD : R2 := fun x y H Q => ∃ a kvs k v, x = .ref a ∧ y = kV k ∧ H a = some (.dK kvs) ∧ valV kvs k = some v ∧ Q v H
theorem ix_dct (hu : X.A.units + 64 < cLine) : IxR X rIxD := by
  intro value slice pins s σ H x y v u Q I rx ry h hs
  obtain ⟨a, kvs, k, w, rfl, rfl, h1, h2, q⟩ := h
  cases rx
  have g : DGet H a (kV k) (some w) := by rw [← h2]; exact DGet.k h1
  exact tail_any (dict_typeIs I g) PySem.F.slot_dict_getitem.lookup (d_getItem (by omega) I g ry fun w' s3 I3 rw' => ⟨w, H, I3, rw', q⟩) hs
def rIxA (K : PySem.W.Frag) : R2 := fun x y H Q => rIx K x y H Q ∨ rIxD x y H Q
theorem ix_A (hu : X.A.units + 64 < cLine) : IxR X (rIxA X.K) := ix_seq.or (ix_dct hu)
theorem ok_ix : OpOk K (rIxA K) getD' := fun O H v u d e z Q _ r1 r2 e1 k => by
  unfold getD' at e1
  split at e1
  · obtain ⟨a, xs, rfl, h1, z1, w1⟩ := r1.lst
    obtain ⟨y, h2, h3⟩ := repL_at w1 e1
    exact .inl (.inl ⟨a, xs, _, y, rfl, r2.int, h1, h2, k _ H (Same.refl H) h3⟩)
  · obtain ⟨a, xs, rfl, h1, z1, w1⟩ := r1.tup
    obtain ⟨y, h2, h3⟩ := repL_at w1 e1
    exact .inl (.inr (.inl ⟨a, xs, _, y, rfl, r2.int, h1, h2, k _ H (Same.refl H) h3⟩))
  · rename_i x i
    by_cases hz : x.length ≤ LIM
    · rw [if_pos hz] at e1
      obtain ⟨c, h1, rfl⟩ := Option.map_eq_some_iff.mp e1
      exact .inl (.inr (.inr ⟨_, _, c, r1.str, r2.int, by rw [lim_eq]; exact hz, h1, k _ H (Same.refl H) (.str _)⟩))
    · rw [if_neg hz] at e1; cases e1
  · split at e1
    · rename_i ky hk
      have ed := keyOf_kV hk
      subst ed
      obtain ⟨a, kvs, rfl, g1, g2, g3⟩ := r1.dct
      have fv := findD_val ky g3
      cases hv : valV kvs ky with
      | none => rw [fv.2 hv] at e1; cases e1
      | some y =>
        obtain ⟨d', q1, q2⟩ := fv.1 y hv
        rw [q1] at e1
        cases e1
        exact .inr ⟨a, kvs, ky, y, rfl, repT_key r2, g1, hv, k _ H (Same.refl H) q2⟩
    · cases e1
  · cases e1
theorem qe_ix {a b : Expr} {p q : Qd} {pos : Pos} (hu : X.A.units + 64 < cLine) (ha : PQ X a p) (hb : PQ X b q) (hs : PlainIx b) : QE X (.Subscript a b pos) (q2 getD' p q) := pe_weak (pe_ix (ix_A hu) ha hb hs) (tOp_weak ok_ix)

/-! ### slices -/
def cutD (ds : List PD) (lo hi : Option Int) : List PD := (ds.drop (HT.sIx ds.length 0 lo)).take (HT.sIx ds.length ds.length hi - HT.sIx ds.length 0 lo)
def sliceD (d : PD) (lo hi : Option Int) : Option PD := match d with
  | .list ds => some (.list (cutD ds lo hi))
  | .tuple ds => some (.tuple (cutD ds lo hi))
  | .str x => if x.length ≤ LIM then some (.str (cutS x lo hi)) else none
  | _ => none
def partD (o : Option Qd) (env : SE) : Option (Option Int) := match o with
  | none => some none
  | some q => match q env with
    | some (.int i) => some (some i)
    | _ => none
def qSl (p : Qd) (lo hi : Option Qd) : Qd := fun env => do
  let d ← p env
  let l ← partD lo env
  let h ← partD hi env
  sliceD d l h
def tO (K : PySem.W.Frag) (o : Option Qd) : TO := fun σ H Q => ∃ T pa O env i, partD o env = some i ∧ ER K T pa O σ H env ∧ ∀ H', Same H H' → Q i H'
abbrev QO (X : Cx) (e : Option Expr) (o : Option Qd) : Prop := PO X e (tO X.K o)
theorem po_weak {X : Cx} {e : Option Expr} {t t' : TO} (h : PO X e t) (w : ∀ σ H Q, t' σ H Q → t σ H Q) : PO X e t' := ⟨fun pins s σ H Q I q => h.run pins s σ H Q I (w σ H Q q)⟩
theorem qo_none : QO X none none := po_weak po_none fun σ H Q ⟨T, pa, O, env, i, e1, _, k⟩ => by cases e1; exact k H (Same.refl H)
theorem qo_some {e : Expr} {q : Qd} (h : PQ X e q) : QO X (some e) (some q) := po_weak (po_some h) fun σ H Q ⟨T, pa, O, env, i, e1, w, k⟩ => by
  unfold partD at e1
  simp only at e1
  split at e1
  · rename_i j e2
    cases e1
    exact ⟨T, pa, O, env, _, e2, w, fun v H' s' r' => ⟨j, r'.int, k H' s'⟩⟩
  · cases e1
def rSlR (K : PySem.W.Frag) : V → Option Int → Option Int → Hp → VK → Prop := fun x lo hi H Q => ∃ a xs, x = .ref a ∧ SqL K H a xs ∧ ∀ p, H p = none → Q (.ref p) (upd H p (.lst (cutV xs lo hi)))
theorem sl_listR : SlR X (rSlR X.K) := by
  intro pins s σ H x v vl vu lo hi sl Q I rx hs pl pu h
  obtain ⟨a, xs, rfl, hx, q⟩ := h
  exact sl_list pins s σ H _ v vl vu lo hi sl Q I rx hs pl pu ⟨a, xs, rfl, hx, q⟩
def rSlAll (K : PySem.W.Frag) : V → Option Int → Option Int → Hp → VK → Prop := fun x lo hi H Q => rSlR K x lo hi H Q ∨ rSlA K x lo hi H Q ∨ rSlS x lo hi H Q
theorem sl_all : SlR X (rSlAll X.K) := sl_listR.or (sl_tupA.or sl_str)
theorem repL_cut {H : Hp} {O : AS} {xs : List V} {ds : List PD} (r : RepL K H O xs ds) (lo hi : Option Int) : RepL K H O (cutV xs lo hi) (cutD ds lo hi) := by
  unfold cutV cutD
  rw [r.length]
  exact (r.drop _).take _
theorem qe_slice {e : Expr} {lo hi : Option Expr} {p2 pos : Pos} {p : Qd} {l h : Option Qd} (he : PQ X e p) (hl : QO X lo l) (hh : QO X hi h) : QE X (.Subscript e (.Slice lo hi none p2) pos) (qSl p l h) :=
  pe_weak (pe_slice sl_all he hl hh) fun σ H Q ⟨T, pa, O, env, z, e1, w, k⟩ => by
    obtain ⟨d, h1, h2⟩ := bind_some e1
    obtain ⟨li, h3, h4⟩ := bind_some h2
    obtain ⟨hi', h5, h6⟩ := bind_some h4
    refine ⟨T, pa, O, env, d, h1, w, fun v H1 s1 r1 => ⟨T, pa, O, env, li, h3, w.same s1, fun H2 s2 => ⟨T, pa, O, env, hi', h5, (w.same s1).same s2, fun H3 s3 => ?_⟩⟩⟩
    have r3 := (r1.same s2).same s3
    have sa := (s1.trans s2).trans s3
    have w3 := w.same sa
    unfold sliceD at h6
    split at h6
    · cases h6
      obtain ⟨a, xs, rfl, g1, z1, w1⟩ := r3.lst
      refine .inl ⟨a, xs, rfl, g1, fun q hq => k _ _ (sa.trans (same_upd hq)) (.lst ⟨.inl ⟨.inl upd_same, fun o => w3.dom q o hq⟩, Nat.le_trans (cutV_length _ _ _) z1⟩ ((repL_cut w1 li hi').same (same_upd hq)))⟩
    · cases h6
      obtain ⟨a, xs, rfl, g1, z1, w1⟩ := r3.tup
      refine .inr (.inl ⟨a, xs, rfl, g1, fun hw => ?_, fun _ q hq => k _ _ (sa.trans (same_upd hq)) (.tup ⟨SqT.of upd_same, Nat.le_trans (cutV_length _ _ _) z1⟩ ((repL_cut w1 li hi').same (same_upd hq)))⟩)
      have wc := repL_cut w1 li hi'
      have ec : cutV xs li hi' = xs := by
        unfold cutV
        rw [hw.1, hw.2, List.drop_zero, Nat.sub_zero, List.take_length]
      rw [ec] at wc
      exact k _ H3 sa (.tup ⟨g1, z1⟩ wc)
    · obtain ⟨hz, rfl⟩ := some_if h6
      exact .inr (.inr ⟨_, r3.str, by rw [lim_eq]; exact hz, k _ H3 sa (.str _)⟩)
    · cases h6
end
end D
end
section
set_option Elab.async false
set_option linter.all false
set_option maxRecDepth 100000
set_option maxHeartbeats 4000000
/-! The pure layer, part E: calls of what is built in. -/
namespace D
open PySem PySem.Spec PyProof.Rows L2

section
variable {K : PySem.W.Frag} {X : Cx}
def qCall (f : List PD → Option PD) (r : SE → Option (List PD)) : Qd := fun env => do
  let ds ← r env
  f ds
/-- the rule r of a call gives what f says of data -/
def CallOk (K : PySem.W.Frag) (r : List V → Hp → VK → Prop) (f : List PD → Option PD) : Prop :=
  ∀ (O : AS) (H : Hp) (vs : List V) (ds : List PD) (z : PD) (Q : VK), (∀ a, O a → H a ≠ none) → RepTL K H O vs ds → f ds = some z → (∀ v' H', Same H H' → Rep K H' O v' z → Q v' H') → r vs H Q
theorem tCB_weak {r : List V → Hp → VK → Prop} {f : List PD → Option PD} {q : SE → Option (List PD)} (hk : CallOk X.K r f) : ∀ σ H Q, tQ X.K (qCall f q) σ H Q → tCB r (tAP X.K q) σ H Q := fun σ H Q ⟨T, pa, O, env, z, e1, w, k⟩ => by
  obtain ⟨ds, h1, h2⟩ := bind_some e1
  exact ⟨T, pa, O, env, ds, h1, w, fun vs H' s' r' => hk O H' vs ds z Q (w.same s').dom r' h2 fun v2 H2 s2 r2 => k v2 H2 (s'.trans s2) r2⟩
variable {x : Str} {p pos : Pos} {e : Expr} {es : List Expr} {q : SE → Option (List PD)} {id T : String} {r : List V → Hp → VK → Prop} {f : List PD → Option PD}
theorem qe_callB (hc : CallR X (.builtin id) r) (hk : CallOk X.K r f) (hg : Gl X x) (hm : X.mg x = none) (hv : bootBuiltins x = some (.builtin id)) (ha : QAP X (e :: es) q) (hn : x ≠ "__name__" := by decide) (hdb : (x == ("__debug__" : Str)) = false := by decide)
    (he : starEach (e :: es) X.env = (false, eval e X.env) :: starEach es X.env := by rfl) (hpl : (backTo pos (starEach es X.env)).any (·.1) = false := by rfl) : QE X (.Call (.Name x p) (e :: es) [] pos) (qCall f q) :=
  pe_weak (pe_callB hc hg hm hv ha hn hdb he hpl) (tCB_weak hk)
theorem qe_callTy (hc : CallR X (.type T) r) (hk : CallOk X.K r f) (hg : Gl X x) (hm : X.mg x = none) (hv : bootBuiltins x = some (.type T)) (ha : QAP X (e :: es) q) (hn : x ≠ "__name__" := by decide) (hdb : (x == ("__debug__" : Str)) = false := by decide)
    (he : starEach (e :: es) X.env = (false, eval e X.env) :: starEach es X.env := by rfl) (hpl : (backTo pos (starEach es X.env)).any (·.1) = false := by rfl) : QE X (.Call (.Name x p) (e :: es) [] pos) (qCall f q) :=
  pe_weak (pe_callTy hc hg hm hv ha hn hdb he hpl) (tCB_weak hk)

theorem RepTL.one {H : Hp} {O : AS} {vs : List V} {d : PD} (h : RepTL K H O vs [d]) : ∃ v, vs = [v] ∧ RepT K H O v d := by
  cases h with
  | cons a b => cases b; exact ⟨_, rfl, a⟩
theorem RepTL.two {H : Hp} {O : AS} {vs : List V} {d e : PD} (h : RepTL K H O vs [d, e]) : ∃ v u, vs = [v, u] ∧ RepT K H O v d ∧ RepT K H O u e := by
  cases h with
  | cons a b =>
    obtain ⟨u, rfl, r⟩ := RepTL.one b
    exact ⟨_, u, rfl, a, r⟩

/-! ### len -/
def lenD : List PD → Option PD
  | [.str x] => if x.length ≤ LIM then some (.int x.length) else none
  | [.list ds] => some (.int ds.length)
  | [.tuple ds] => some (.int ds.length)
  | [.dict ds] => some (.int ds.length)
  | _ => none
def rLenA (K : PySem.W.Frag) : List V → Hp → VK → Prop := fun xs H Q => (∃ x n, xs = [x] ∧ LenV K x H n ∧ Q (.int n) H) ∨ ∃ a kvs, xs = [V.ref a] ∧ H a = some (.dK kvs) ∧ Q (.int kvs.length) H
theorem cr_len : CallR X (.builtin "len") (rLenA X.K) := by
  intro pins s σ H xs us Q I r h
  rcases h with h | ⟨a, kvs, rfl, h1, q⟩
  · exact call_len pins s σ H xs us Q I r h
  · obtain ⟨u, rfl, rx⟩ := vals1 r
    cases rx
    exact d_len I (.inl h1) fun t s' I' => ⟨.int _, H, I', ⟨_, rfl⟩, q⟩
theorem ok_len : CallOk K (rLenA K) lenD := fun O H vs ds z Q dm r e1 k => by
  unfold lenD at e1
  split at e1
  · obtain ⟨v, rfl, r1⟩ := r.one
    obtain ⟨hz, rfl⟩ := some_if e1
    rw [r1.str]
    exact .inl ⟨_, _, rfl, ⟨by rw [lim_eq]; exact hz, rfl⟩, k _ H (Same.refl H) (.int _)⟩
  · obtain ⟨v, rfl, r1⟩ := r.one
    cases e1
    obtain ⟨a, xs, rfl, h1, z1, w1⟩ := r1.lst
    rw [← w1.length] at k
    exact .inl ⟨_, _, rfl, .inl ⟨xs, h1, rfl⟩, k _ H (Same.refl H) (.int _)⟩
  · obtain ⟨v, rfl, r1⟩ := r.one
    cases e1
    obtain ⟨a, xs, rfl, h1, z1, w1⟩ := r1.tup
    rw [← w1.length] at k
    exact .inl ⟨_, _, rfl, .inr ⟨xs, h1, rfl⟩, k _ H (Same.refl H) (.int _)⟩
  · obtain ⟨v, rfl, r1⟩ := r.one
    cases e1
    obtain ⟨a, xs, rfl, h1, z1, w1⟩ := r1.dct
    rw [← w1.length] at k
    exact .inr ⟨a, xs, rfl, h1, k _ H (Same.refl H) (.int _)⟩
  · cases e1

/-! ### tuple(x), list(x) -/
def tupleD : List PD → Option PD
  | [.list ds] => some (.tuple ds)
  | [.tuple ds] => some (.tuple ds)
  | _ => none
def listD : List PD → Option PD
  | [.list ds] => some (.list ds)
  | [.tuple ds] => some (.list ds)
  | _ => none
theorem ok_tuple : CallOk K (fun xs H Q => ∃ p ys, xs = [.ref p] ∧ ((SqL K H p ys ∧ ∀ l, H l = none → Q (.ref l) (upd H l (.tup ys))) ∨ (SqT K H p ys ∧ Q (.ref p) H))) tupleD := fun O H vs ds z Q dm r e1 k => by
  unfold tupleD at e1
  split at e1
  · obtain ⟨v, rfl, r1⟩ := r.one
    cases e1
    obtain ⟨a, xs, rfl, h1, z1, w1⟩ := r1.lst
    exact ⟨a, xs, rfl, .inl ⟨h1, fun l hl => k _ _ (same_upd hl) (.tup ⟨SqT.of upd_same, z1⟩ (w1.same (same_upd hl)))⟩⟩
  · obtain ⟨v, rfl, r1⟩ := r.one
    cases e1
    obtain ⟨a, xs, rfl, h1, z1, w1⟩ := r1.tup
    exact ⟨a, xs, rfl, .inr ⟨h1, k _ H (Same.refl H) (.tup ⟨h1, z1⟩ w1)⟩⟩
  · cases e1
theorem ok_list : CallOk K (fun xs H Q => ∃ p ys, xs = [.ref p] ∧ (SqL K H p ys ∨ SqT K H p ys) ∧ ∀ l, H l = none → Q (.ref l) (upd H l (.lst ys))) listD := fun O H vs ds z Q dm r e1 k => by
  unfold listD at e1
  split at e1
  · obtain ⟨v, rfl, r1⟩ := r.one
    cases e1
    obtain ⟨a, xs, rfl, h1, z1, w1⟩ := r1.lst
    exact ⟨a, xs, rfl, .inl h1, fun l hl => k _ _ (same_upd hl) (.lst ⟨.inl ⟨.inl upd_same, fun o => dm l o hl⟩, z1⟩ (w1.same (same_upd hl)))⟩
  · obtain ⟨v, rfl, r1⟩ := r.one
    cases e1
    obtain ⟨a, xs, rfl, h1, z1, w1⟩ := r1.tup
    exact ⟨a, xs, rfl, .inr h1, fun l hl => k _ _ (same_upd hl) (.lst ⟨.inl ⟨.inl upd_same, fun o => dm l o hl⟩, z1⟩ (w1.same (same_upd hl)))⟩
  · cases e1
/-- list(x), the new list one's own -/
theorem fe_list (hg : Gl X "list") (hm : X.mg "list" = none) (ha : QAP X (e :: es) q)
    (he : starEach (e :: es) X.env = (false, eval e X.env) :: starEach es X.env := by rfl) (hpl : (backTo pos (starEach es X.env)).any (·.1) = false := by rfl) : FE X (.Call (.Name "list" p) (e :: es) [] pos) (qCall listD q) :=
  pe_weak (pe_callTy call_list_of hg hm PyProof.Rows.boot_list ha (by decide) (by decide) he hpl) fun σ H Q ⟨T, pa, O, env, z, e1, w, k⟩ => by
    obtain ⟨ds, h1, h2⟩ := bind_some e1
    refine ⟨T, pa, O, env, ds, h1, w, fun vs H' s' r' => ?_⟩
    unfold listD at h2
    split at h2
    · obtain ⟨v, rfl, r1⟩ := r'.one
      cases h2
      obtain ⟨a, xs, rfl, g1, z1, w1⟩ := r1.lst
      exact ⟨a, xs, rfl, .inl g1, fun l hl => k l _ (s'.trans (same_upd hl)) (s'.free hl) ⟨xs, upd_same, z1, (w1.fresh hl).same (same_upd hl)⟩⟩
    · obtain ⟨v, rfl, r1⟩ := r'.one
      cases h2
      obtain ⟨a, xs, rfl, g1, z1, w1⟩ := r1.tup
      exact ⟨a, xs, rfl, .inr g1, fun l hl => k l _ (s'.trans (same_upd hl)) (s'.free hl) ⟨xs, upd_same, z1, (w1.fresh hl).same (same_upd hl)⟩⟩
    · cases h2

/-! ### whole numbers: int, min, max, sum -/
def intsOf : List PD → Option (List Int)
  | [] => some []
  | .int i :: r => (intsOf r).map (i :: ·)
  | _ => none
theorem intsOf_eq : ∀ {ds : List PD} {ns : List Int}, intsOf ds = some ns → ds = ns.map .int
  | [], ns, h => by cases h; rfl
  | d :: r, ns, h => by
    cases d with
    | int i =>
      obtain ⟨ms, h1, rfl⟩ := Option.map_eq_some_iff.mp h
      rw [intsOf_eq h1]
      rfl
    | _ => cases h
theorem intsOf_map : ∀ ns : List Int, intsOf (ns.map .int) = some ns
  | [] => rfl
  | n :: ns => by
    show (intsOf (ns.map .int)).map (n :: ·) = _
    rw [intsOf_map ns]
    rfl
def minI : List Int → Option Int
  | [] => none
  | n :: ns => some (ns.foldl min n)
def maxI : List Int → Option Int
  | [] => none
  | n :: ns => some (ns.foldl max n)
theorem foldl_min_le : ∀ (ns : List Int) (n : Int), ns.foldl min n ≤ n ∧ (∀ y, y ∈ ns → ns.foldl min n ≤ y) ∧ (ns.foldl min n = n ∨ ns.foldl min n ∈ ns)
  | [], n => ⟨Int.le_refl _, fun _ h => by simp at h, .inl rfl⟩
  | m :: ns, n => by
    obtain ⟨h1, h2, h3⟩ := foldl_min_le ns (min n m)
    rw [List.foldl_cons]
    refine ⟨by omega, fun y hy => ?_, ?_⟩
    · rcases List.mem_cons.mp hy with e | hy
      · omega
      · exact h2 y hy
    · rcases h3 with h3 | h3
      · by_cases hc : n ≤ m
        · left; omega
        · right; rw [h3]; have : min n m = m := by omega
          rw [this]; exact List.mem_cons_self
      · right; exact List.mem_cons_of_mem _ h3
theorem foldl_max_ge : ∀ (ns : List Int) (n : Int), n ≤ ns.foldl max n ∧ (∀ y, y ∈ ns → y ≤ ns.foldl max n) ∧ (ns.foldl max n = n ∨ ns.foldl max n ∈ ns)
  | [], n => ⟨Int.le_refl _, fun _ h => by simp at h, .inl rfl⟩
  | m :: ns, n => by
    obtain ⟨h1, h2, h3⟩ := foldl_max_ge ns (max n m)
    rw [List.foldl_cons]
    refine ⟨by omega, fun y hy => ?_, ?_⟩
    · rcases List.mem_cons.mp hy with e | hy
      · omega
      · exact h2 y hy
    · rcases h3 with h3 | h3
      · by_cases hc : m ≤ n
        · left; omega
        · right; rw [h3]; have : max n m = m := by omega
          rw [this]; exact List.mem_cons_self
      · right; exact List.mem_cons_of_mem _ h3
theorem minI_is {ns : List Int} {m : Int} (h : m ∈ ns) (hl : ∀ y, y ∈ ns → m ≤ y) : minI ns = some m := by
  cases ns with
  | nil => simp at h
  | cons n r =>
    obtain ⟨h1, h2, h3⟩ := foldl_min_le r n
    show some _ = some _
    congr 1
    have a1 : r.foldl min n ≤ m := by
      rcases List.mem_cons.mp h with e | h
      · omega
      · exact h2 m h
    have a2 : m ≤ r.foldl min n := by
      rcases h3 with h3 | h3
      · rw [h3]; exact hl n List.mem_cons_self
      · exact hl _ (List.mem_cons_of_mem _ h3)
    omega
theorem maxI_is {ns : List Int} {m : Int} (h : m ∈ ns) (hl : ∀ y, y ∈ ns → y ≤ m) : maxI ns = some m := by
  cases ns with
  | nil => simp at h
  | cons n r =>
    obtain ⟨h1, h2, h3⟩ := foldl_max_ge r n
    show some _ = some _
    congr 1
    have a1 : m ≤ r.foldl max n := by
      rcases List.mem_cons.mp h with e | h
      · omega
      · exact h2 m h
    have a2 : r.foldl max n ≤ m := by
      rcases h3 with h3 | h3
      · rw [h3]; exact hl n List.mem_cons_self
      · exact hl _ (List.mem_cons_of_mem _ h3)
    omega
def intD : List PD → Option PD
  | [.int i] => some (.int i)
  | [.bool b] => some (.int (if b then 1 else 0))
  | _ => none
def minD : List PD → Option PD
  | [.int i, .int j] => some (.int (min i j))
  | [.list ds] => do
    let ns ← intsOf ds
    let m ← minI ns
    pure (.int m)
  | _ => none
def maxD : List PD → Option PD
  | [.int i, .int j] => some (.int (max i j))
  | [.list ds] => do
    let ns ← intsOf ds
    let m ← maxI ns
    pure (.int m)
  | _ => none
theorem ok_int : CallOk K (fun xs H Q => (∃ i, xs = [.int i] ∧ Q (.int i) H) ∨ ∃ k, xs = [.bl k] ∧ Q (.int (if k then 1 else 0)) H) intD := fun O H vs ds z Q dm r e1 k => by
  unfold intD at e1
  split at e1
  · obtain ⟨v, rfl, r1⟩ := r.one
    cases e1
    rw [r1.int]
    exact .inl ⟨_, rfl, k _ H (Same.refl H) (.int _)⟩
  · obtain ⟨v, rfl, r1⟩ := r.one
    cases e1
    rw [r1.bl]
    exact .inr ⟨_, rfl, k _ H (Same.refl H) (.int _)⟩
  · cases e1
def rMinA (K : PySem.W.Frag) : List V → Hp → VK → Prop := fun xs H Q => (∃ i j, xs = [.int i, .int j] ∧ Q (.int (if j < i then j else i)) H) ∨ rMin K xs H Q
def rMaxA (K : PySem.W.Frag) : List V → Hp → VK → Prop := fun xs H Q => (∃ i j, xs = [.int i, .int j] ∧ Q (.int (if j > i then j else i)) H) ∨ rMax K xs H Q
theorem cr_minA (hc : X.calm = true) : CallR X (.builtin "min") (rMinA X.K) := (call_min2 hc).or (cr_min hc)
theorem cr_maxA (hc : X.calm = true) : CallR X (.builtin "max") (rMaxA X.K) := (call_max2 hc).or (cr_max hc)
theorem ok_min : CallOk K (rMinA K) minD := fun O H vs ds z Q dm r e1 k => by
  unfold minD at e1
  split at e1
  · rename_i i j
    obtain ⟨v, u, rfl, r1, r2⟩ := r.two
    cases e1
    rw [r1.int, r2.int]
    refine .inl ⟨_, _, rfl, ?_⟩
    have : (if j < i then j else i) = min i j := by split <;> omega
    rw [this]
    exact k _ H (Same.refl H) (.int _)
  · obtain ⟨v, rfl, r1⟩ := r.one
    obtain ⟨ns, h1, h2⟩ := bind_some e1
    obtain ⟨m, h3, h4⟩ := bind_some h2
    cases h4
    obtain ⟨a, xs, rfl, g1, z1, w1⟩ := r1.lst
    rw [intsOf_eq h1] at w1
    have ex := w1.ints
    subst ex
    refine .inr ⟨a, ns, rfl, g1, ?_, fun m' hm' hl' => ?_⟩
    · cases ns with
      | nil => cases h3
      | cons n r => exact Nat.zero_lt_succ _
    · have := minI_is hm' hl'
      rw [h3] at this
      cases this
      exact k _ H (Same.refl H) (.int _)
  · cases e1
theorem ok_max : CallOk K (rMaxA K) maxD := fun O H vs ds z Q dm r e1 k => by
  unfold maxD at e1
  split at e1
  · rename_i i j
    obtain ⟨v, u, rfl, r1, r2⟩ := r.two
    cases e1
    rw [r1.int, r2.int]
    refine .inl ⟨_, _, rfl, ?_⟩
    have : (if j > i then j else i) = max i j := by split <;> omega
    rw [this]
    exact k _ H (Same.refl H) (.int _)
  · obtain ⟨v, rfl, r1⟩ := r.one
    obtain ⟨ns, h1, h2⟩ := bind_some e1
    obtain ⟨m, h3, h4⟩ := bind_some h2
    cases h4
    obtain ⟨a, xs, rfl, g1, z1, w1⟩ := r1.lst
    rw [intsOf_eq h1] at w1
    have ex := w1.ints
    subst ex
    refine .inr ⟨a, ns, rfl, g1, ?_, fun m' hm' hl' => ?_⟩
    · cases ns with
      | nil => cases h3
      | cons n r => exact Nat.zero_lt_succ _
    · have := maxI_is hm' hl'
      rw [h3] at this
      cases this
      exact k _ H (Same.refl H) (.int _)
  · cases e1
/-- sum of a tuple -/
theorem sum_tup {prog : Program} {w : World} {A : Around} {E : Value → Shared → Prop} {s : Shared} {l : Addr} {its : List Value} {ns : List Int} {Q : Value → Shared → Prop} (hh : A.handled = none) (hl : s.heap.IsTuple l its.toArray) (hi : IntsAre its ns)
    (h : ∀ h' tk t', (∀ b o, s.heap.get? b = some o → h'.get? b = some o) → Q (.int ns.sum t') { s with heap := h', toks := tk }) : wpAny (model prog w) A (call (.builtin "sum") [.ref l]) Q E s := by
  obtain ⟨xs, e⟩ := hi.allInts.items
  have hn : numsOf (intItems xs).toList = ns := by rw [← e]; exact hi.numsOf
  rw [nums_intItems] at hn
  rw [e] at hl
  have hlt : l < s.heap.objs.size := by obtain ⟨_, e, _⟩ := hl; exact Heap.lt_size e
  refine call_sum_walkG (wpAny_pyIter_tuple hl ?_)
  refine ⟨s.heap.objs.size, [s.heap.objs.size, l], [s.heap.objs.size], _, _, _, numAt xs, rfl, Walks.tuple (A := A.in1) hh _ l (Nat.ne_of_lt hlt) (intItems xs), ⟨⟨_, Heap.get?_push_size _ rfl, rfl, rfl⟩, hl.push _⟩, fun b hb => ?_, (fun _ _ => intItems_at), fun h' tk t' hk => ?_⟩
  · show b < (s.heap.push _).objs.size
    rw [Heap.size_push]
    rcases List.mem_cons.mp hb with rfl | hb
    · exact Nat.lt_succ_self _
    · rcases List.mem_cons.mp hb with rfl | hb
      · exact Nat.lt_succ_of_lt hlt
      · cases hb
  · have := h h' tk t' fun b o eo => hk b o (fun hm => by
      rcases List.mem_cons.mp hm with e1 | hm
      · exact absurd (e1 ▸ Heap.lt_size eo) (Nat.lt_irrefl _)
      · cases hm) (Heap.get?_push_of_some _ eo)
    have e3 : (intItems xs).size = xs.size := by simp [intItems]
    rw [e3, preSum_eq, List.take_of_length_le (by simp), hn]
    exact this
def rSumA (K : PySem.W.Frag) : List V → Hp → VK → Prop := fun vs H Q => rSum K vs H Q ∨ ∃ (a : Addr) (ns : List Int), vs = [V.ref a] ∧ SqT K H a (ns.map V.int) ∧ Q (.int ns.sum) H
theorem cr_sumT (hc : X.calm = true) : CallR X (.builtin "sum") (rSumA X.K) := by
  intro pins s σ H vs us Q I r h
  rcases h with h | ⟨a, ns, rfl, hs, q⟩
  · exact cr_sum hc pins s σ H vs us Q I r h
  · obtain ⟨its, rv, hl, _⟩ := I.tuple hs
    rw [Vals.ref1 r]
    exact sum_tup (I.ok.hd hc) (show s.heap.IsTuple a its.toArray from hl) rv.ints fun h' tk t' hk => ⟨.int _, H, I.kept hk, ⟨_, rfl⟩, q⟩
def sumD : List PD → Option PD
  | [.list ds] => (intsOf ds).map fun ns => .int ns.sum
  | [.tuple ds] => (intsOf ds).map fun ns => .int ns.sum
  | _ => none
theorem ok_sum : CallOk K (rSumA K) sumD := fun O H vs ds z Q dm r e1 k => by
  unfold sumD at e1
  split at e1
  · obtain ⟨v, rfl, r1⟩ := r.one
    obtain ⟨ns, h1, rfl⟩ := Option.map_eq_some_iff.mp e1
    obtain ⟨a, xs, rfl, g1, z1, w1⟩ := r1.lst
    rw [intsOf_eq h1] at w1
    have ex := w1.ints
    subst ex
    exact .inl ⟨a, ns, rfl, g1, k _ H (Same.refl H) (.int _)⟩
  · obtain ⟨v, rfl, r1⟩ := r.one
    obtain ⟨ns, h1, rfl⟩ := Option.map_eq_some_iff.mp e1
    obtain ⟨a, xs, rfl, g1, z1, w1⟩ := r1.tup
    rw [intsOf_eq h1] at w1
    have ex := w1.ints
    subst ex
    exact .inr ⟨a, ns, rfl, g1, k _ H (Same.refl H) (.int _)⟩
  · cases e1

/-! ### all, any of truth values -/
def blsOf : List PD → Option (List Bool)
  | [] => some []
  | .bool b :: r => (blsOf r).map (b :: ·)
  | _ => none
theorem blsOf_eq : ∀ {ds : List PD} {ns : List Bool}, blsOf ds = some ns → ds = ns.map .bool
  | [], ns, h => by cases h; rfl
  | d :: r, ns, h => by
    cases d with
    | bool i =>
      obtain ⟨ms, h1, rfl⟩ := Option.map_eq_some_iff.mp h
      rw [blsOf_eq h1]
      rfl
    | _ => cases h
theorem blsOf_map : ∀ ns : List Bool, blsOf (ns.map .bool) = some ns
  | [] => rfl
  | n :: ns => by
    show (blsOf (ns.map .bool)).map (n :: ·) = _
    rw [blsOf_map ns]
    rfl
def allD : List PD → Option PD
  | [.list ds] => (blsOf ds).map fun ns => .bool (ns.all _root_.id)
  | _ => none
def anyD : List PD → Option PD
  | [.list ds] => (blsOf ds).map fun ns => .bool (ns.any _root_.id)
  | _ => none
theorem ok_all : CallOk K (rAll K) allD := fun O H vs ds z Q dm r e1 k => by
  unfold allD at e1
  split at e1
  · obtain ⟨v, rfl, r1⟩ := r.one
    obtain ⟨ns, h1, rfl⟩ := Option.map_eq_some_iff.mp e1
    obtain ⟨a, xs, rfl, g1, z1, w1⟩ := r1.lst
    rw [blsOf_eq h1] at w1
    have ex := w1.bls
    subst ex
    exact ⟨a, ns, rfl, g1, k _ H (Same.refl H) (.bl _)⟩
  · cases e1
theorem ok_any : CallOk K (rAny K) anyD := fun O H vs ds z Q dm r e1 k => by
  unfold anyD at e1
  split at e1
  · obtain ⟨v, rfl, r1⟩ := r.one
    obtain ⟨ns, h1, rfl⟩ := Option.map_eq_some_iff.mp e1
    obtain ⟨a, xs, rfl, g1, z1, w1⟩ := r1.lst
    rw [blsOf_eq h1] at w1
    have ex := w1.bls
    subst ex
    exact ⟨a, ns, rfl, g1, k _ H (Same.refl H) (.bl _)⟩
  · cases e1

/-! ### sorted -/
def sortOk (ds : List PD) : Bool := PyData.plainAll ds && (ds.all fun d => ds.all fun e => PySem.W.alike d e) &&
  ((ds.all fun d => match d with | .tuple (_ :: _) => true | _ => false) || (ds.all fun d => match d with | .tuple _ => false | .none => false | _ => true)) && (ds.all fun d => decide (d.depth ≤ 40))
def sortedD : List PD → Option PD
  | [.list ds] => if sortOk ds = true then some (.list (ds.mergeSort (PySem.W.dataLe false fun d => d))) else none
  | _ => none
def EachV (K : PySem.W.Frag) (H : Hp) (O : AS) (v : Value) (d : PD) : Prop := ∃ x, RelV x v ∧ Rep K H O x d
theorem each_of {H : Hp} {O : AS} : ∀ {xs : List V} {its : List Value} {ds : List PD}, Vals xs its → RepL K H O xs ds → PySem.W.EachIs (EachV K H O) its ds
  | _, _, _, .nil, .nil => .nil
  | _, _, _, .cons r t, .cons a b => .cons ⟨_, r, a⟩ (each_of t b)
theorem of_each {H : Hp} {O : AS} : ∀ {its : List Value} {ds : List PD}, PySem.W.EachIs (EachV K H O) its ds → ∃ xs, Vals xs its ∧ RepL K H O xs ds
  | _, _, .nil => ⟨[], .nil, .nil⟩
  | _, _, .cons ⟨x, r, a⟩ t => by
    obtain ⟨xs, h1, h2⟩ := of_each t
    exact ⟨x :: xs, .cons r h1, .cons a h2⟩
def rSortP (K : PySem.W.Frag) (z : PD → Prop) : List V → Hp → VK → Prop := fun vs H Q => ∃ (a : Addr) (xs : List V) (ds : List PD) (O : AS), vs = [V.ref a] ∧ SqL K H a xs ∧ RepL K H O xs ds ∧ sortOk ds = true ∧ ds.length ≤ sizeLine ∧
  ∀ ys p, RepL K H O ys (ds.mergeSort (PySem.W.dataLe false fun d => d)) → H p = none → Q (.ref p) (upd H p (.lst ys))
theorem cr_sortP {z : PD → Prop} (hu : X.A.units + 64 < cLine) : CallR X (.builtin "sorted") (rSortP X.K z) := by
  intro pins s σ H vs us Q I r h
  obtain ⟨a, xs, ds, O, rfl, hs, hr, hok, hL, q⟩ := h
  obtain ⟨its, rv, pl, hz⟩ := I.list hs
  have hl := pl.isList
  rw [Vals.ref1 r]
  simp only [sortOk, Bool.and_eq_true, Bool.or_eq_true, List.all_eq_true, decide_eq_true_eq] at hok
  obtain ⟨⟨⟨h1, h2⟩, h3⟩, h4⟩ := hok
  obtain ⟨as, hR⟩ := Dp.readsAll I ds xs its (hr.dp h1) rv
  have er : PySem.W.EachIs (fun v b => ∃ as, Reads s.heap v ((fun d => d) b) as) its ds := PySem.W.readsAll_each (fun d => d) (by rw [List.map_id']; exact hR)
  have hal : PySem.W.AllAlike (ds.map fun d => d) := by
    rw [List.map_id']
    exact fun d hd d' hd' => h2 d hd d' hd'
  have hk : PySem.W.Sortable (ds.map fun d => d) := by
    rw [List.map_id']
    rcases h3 with h3 | h3
    · left
      intro d hd
      have := h3 d hd
      split at this
      · exact ⟨_, _, rfl⟩
      · cases this
    · right
      intro d hd
      have := h3 d hd
      refine ⟨fun z => ?_, fun ys z => ?_⟩
      · subst z; cases this
      · subst z; cases this
  refine PySem.W.sorted_data (enc := fun d => d) (R := EachV X.K H O) hl (each_of rv hr) er hal hk hL (fun b hb => ?_) fun out hout hE => ?_
  · have := h4 b hb
    show X.A.units + 2 + b.depth < cLine
    omega
  · obtain ⟨ys, v1, v2⟩ := of_each hE
    obtain ⟨ep, he'⟩ := PyProof.Rows.sortedAll_at s.heap its out.toArray
    have hlen2 : ys.length ≤ sizeLine := by rw [v2.length, List.length_mergeSort]; exact hL
    exact ⟨.ref _, upd H (s.heap.objs.size + 1) (.lst ys), I.laid (t' := s.toks) (fun _ _ => PyProof.Rows.sortedAll_old) (Nat.le_succ _) ⟨hlen2, out, ep, v1, he'⟩, rfl, q ys _ v2 (I.hok.fresh (Nat.le_succ _))⟩
theorem ok_sorted : CallOk K (rSortP K fun _ => True) sortedD := fun O H vs ds z Q dm r e1 k => by
  unfold sortedD at e1
  split at e1
  · obtain ⟨v, rfl, r1⟩ := r.one
    obtain ⟨hok, rfl⟩ := some_if e1
    obtain ⟨a, xs, rfl, g1, z1, w1⟩ := r1.lst
    refine ⟨a, xs, _, O, rfl, g1, w1, hok, by rw [← w1.length]; exact z1, fun ys p hr hp => k _ _ (same_upd hp) ?_⟩
    refine .lst ⟨.inl ⟨.inl upd_same, fun o => dm p o hp⟩, ?_⟩ (hr.same (same_upd hp))
    rw [hr.length, List.length_mergeSort, ← w1.length]
    exact z1
  · cases e1
end
end D
end
section
set_option Elab.async false
set_option linter.all false
set_option maxRecDepth 100000
set_option maxHeartbeats 4000000
/-! The pure layer, part F: isinstance, statements, defs, calls of defs. -/
namespace D
open PySem PySem.Spec PyProof.Rows L2

section
variable {K : PySem.W.Frag} {X : Cx}
/-! ### isinstance(x, T), T a built-in class -/
def tyN : PD → String
  | .none => "NoneType"
  | .bool _ => "bool"
  | .int _ => "int"
  | .str _ => "str"
  | .list _ => "list"
  | .tuple _ => "tuple"
  | .dict _ => "dict"
theorem tyX_of {H : Hp} {O : AS} {v : V} {d : PD} (r : RepT K H O v d) : TyX K H v (.type (tyN d)) := by
  cases d with
  | none => rw [r.non]; exact .base .non
  | bool b => rw [r.bl]; exact .base (.bl b)
  | int i => rw [r.int]; exact .base (.int i)
  | str x => rw [r.str]; exact .base (.str x)
  | list ds =>
    obtain ⟨a, xs, rfl, h1, _, _⟩ := r.lst
    rcases h1 with (h1 | ⟨o, h1⟩) | ⟨o, its, n, h1, h2, _⟩
    · exact .base (.lst h1)
    · exact .base (.frz h1)
    · exact .kList h1 h2
  | tuple ds =>
    obtain ⟨a, xs, rfl, h1, _, _⟩ := r.tup
    rcases h1 with (h1 | ⟨o, h1⟩) | ⟨o, its, n, h1, h2, _⟩
    · exact .base (.tup h1)
    · exact .fTuple h1
    · exact .kTuple h1 h2
  | dict ds =>
    obtain ⟨a, xs, rfl, h1, _, _⟩ := r.dct
    exact .base (.dK h1)
inductive Ty where
  | int | bool | str | list | tuple | dict
def Ty.nm : Ty → String
  | .int => "int" | .bool => "bool" | .str => "str" | .list => "list" | .tuple => "tuple" | .dict => "dict"
/-- whether a datum is of the class -/
def isiT : Ty → PD → Bool
  | .int, .int _ => true
  | .int, .bool _ => true
  | .bool, .bool _ => true
  | .str, .str _ => true
  | .list, .list _ => true
  | .tuple, .tuple _ => true
  | .dict, .dict _ => true
  | _, _ => false
theorem isiT_ok : ∀ (T : Ty) (d : PD), kitB (tyN d) T.nm = some (isiT T d)
  | .int, .none => (by decide +kernel : kitB "NoneType" "int" = some false)
  | .int, .bool _ => (by decide +kernel : kitB "bool" "int" = some true)
  | .int, .int _ => (by decide +kernel : kitB "int" "int" = some true)
  | .int, .str _ => (by decide +kernel : kitB "str" "int" = some false)
  | .int, .list _ => (by decide +kernel : kitB "list" "int" = some false)
  | .int, .tuple _ => (by decide +kernel : kitB "tuple" "int" = some false)
  | .int, .dict _ => (by decide +kernel : kitB "dict" "int" = some false)
  | .bool, .none => (by decide +kernel : kitB "NoneType" "bool" = some false)
  | .bool, .bool _ => (by decide +kernel : kitB "bool" "bool" = some true)
  | .bool, .int _ => (by decide +kernel : kitB "int" "bool" = some false)
  | .bool, .str _ => (by decide +kernel : kitB "str" "bool" = some false)
  | .bool, .list _ => (by decide +kernel : kitB "list" "bool" = some false)
  | .bool, .tuple _ => (by decide +kernel : kitB "tuple" "bool" = some false)
  | .bool, .dict _ => (by decide +kernel : kitB "dict" "bool" = some false)
  | .str, .none => (by decide +kernel : kitB "NoneType" "str" = some false)
  | .str, .bool _ => (by decide +kernel : kitB "bool" "str" = some false)
  | .str, .int _ => (by decide +kernel : kitB "int" "str" = some false)
  | .str, .str _ => (by decide +kernel : kitB "str" "str" = some true)
  | .str, .list _ => (by decide +kernel : kitB "list" "str" = some false)
  | .str, .tuple _ => (by decide +kernel : kitB "tuple" "str" = some false)
  | .str, .dict _ => (by decide +kernel : kitB "dict" "str" = some false)
  | .list, .none => (by decide +kernel : kitB "NoneType" "list" = some false)
  | .list, .bool _ => (by decide +kernel : kitB "bool" "list" = some false)
  | .list, .int _ => (by decide +kernel : kitB "int" "list" = some false)
  | .list, .str _ => (by decide +kernel : kitB "str" "list" = some false)
  | .list, .list _ => (by decide +kernel : kitB "list" "list" = some true)
  | .list, .tuple _ => (by decide +kernel : kitB "tuple" "list" = some false)
  | .list, .dict _ => (by decide +kernel : kitB "dict" "list" = some false)
  | .tuple, .none => (by decide +kernel : kitB "NoneType" "tuple" = some false)
  | .tuple, .bool _ => (by decide +kernel : kitB "bool" "tuple" = some false)
  | .tuple, .int _ => (by decide +kernel : kitB "int" "tuple" = some false)
  | .tuple, .str _ => (by decide +kernel : kitB "str" "tuple" = some false)
  | .tuple, .list _ => (by decide +kernel : kitB "list" "tuple" = some false)
  | .tuple, .tuple _ => (by decide +kernel : kitB "tuple" "tuple" = some true)
  | .tuple, .dict _ => (by decide +kernel : kitB "dict" "tuple" = some false)
  | .dict, .none => (by decide +kernel : kitB "NoneType" "dict" = some false)
  | .dict, .bool _ => (by decide +kernel : kitB "bool" "dict" = some false)
  | .dict, .int _ => (by decide +kernel : kitB "int" "dict" = some false)
  | .dict, .str _ => (by decide +kernel : kitB "str" "dict" = some false)
  | .dict, .list _ => (by decide +kernel : kitB "list" "dict" = some false)
  | .dict, .tuple _ => (by decide +kernel : kitB "tuple" "dict" = some false)
  | .dict, .dict _ => (by decide +kernel : kitB "dict" "dict" = some true)
def qIsi (T : Ty) (p : Qd) : Qd := fun env => do
  let d ← p env
  pure (.bool (isiT T d))
theorem qe_isi {a : Expr} {p : Qd} {x y : Str} {T : Ty} {p1 p2 pos : Pos} (hg : Gl X x) (hm : X.mg x = none) (hv : bootBuiltins x = some (.builtin "isinstance")) (ha : PQ X a p)
    (hg2 : Gl X y) (hm2 : X.mg y = none) (hv2 : bootBuiltins y = some (.type T.nm)) (hn : x ≠ "__name__" := by decide) (hdb : (x == ("__debug__" : Str)) = false := by decide) (hn2 : y ≠ "__name__" := by decide) (hdb2 : (y == ("__debug__" : Str)) = false := by decide)
    (he : starEach [a, .Name y p2] X.env = (false, eval a X.env) :: starEach [.Name y p2] X.env := by rfl) (he2 : starEach [.Name y p2] X.env = (false, eval (.Name y p2) X.env) :: starEach [] X.env := by rfl) (hpl : (backTo pos (starEach [.Name y p2] X.env)).any (·.1) = false := by rfl) :
    QE X (.Call (.Name x p1) [a, .Name y p2] [] pos) (qIsi T p) :=
  pe_weak (pe_callB call_isi hg hm hv (pa_cons ha (pa_cons (pe_bltn (v := .ty T.nm) hg2 hm2 hv2 rfl hn2 hdb2) pa_nil he2) he) hn hdb he hpl) fun σ H Q ⟨Tt, pa, O, env, z, e1, w, k⟩ => by
    obtain ⟨d, h1, h2⟩ := bind_some e1
    cases h2
    exact ⟨Tt, pa, O, env, d, h1, w, fun v H' s' r' => ⟨v, .ty T.nm, .type (tyN d), .type T.nm, isiT T d, rfl, .ty T.nm, tyX_of r', kit_ty (isiT_ok T d), k _ H' s' (.bl _)⟩⟩
end

/-! ### statements -/
inductive Out where
  | nx (e : SE) | rt (d : PD) (e : SE) | bk (e : SE) | ct (e : SE)
abbrev DS := SE → Option Out
/-- what a statement may have changed -/
structure Fr (T O : AS) (H : Hp) (O' : AS) (H' : Hp) : Prop where
  kp : ∀ a o, H a = some o → (fixed o = true ∨ ¬ O a ∨ T a) → H' a = some o
  no : ∀ a, H a ≠ none → ¬ O a → ¬ O' a
theorem Fr.refl {T O : AS} {H : Hp} : Fr T O H O H := ⟨fun _ _ e _ => e, fun _ _ n => n⟩
theorem Fr.of_same {T O : AS} {H H' : Hp} (s : Same H H') : Fr T O H O H' := ⟨fun a o e _ => s a o e, fun _ _ n => n⟩
theorem Fr.trans {T O O' O'' : AS} {H H' H'' : Hp} (a : Fr T O H O' H') (b : Fr T O' H' O'' H'') : Fr T O H O'' H'' := by
  refine ⟨fun x o e h => ?_, fun x hx n => ?_⟩
  · have e1 := a.kp x o e h
    refine b.kp x o e1 ?_
    rcases h with h | h | h
    · exact .inl h
    · exact .inr (.inl (a.no x (by rw [e]; exact fun z => nomatch z) h))
    · exact .inr (.inr h)
  · refine b.no x ?_ (a.no x hx n)
    cases e : H x with
    | none => exact absurd e hx
    | some o => rw [a.kp x o e (.inr (.inl n))]; exact fun z => nomatch z
theorem Rep.fr {K : PySem.W.Frag} {T O O' : AS} {H H' : Hp} {v : V} {d : PD} (f : Fr T O H O' H') (h : Rep K H O v d) : Rep K H' O' v d := h.kp (fun a o e q => f.kp a o e (q.elim .inl fun z => .inr (.inl z))) f.no
theorem RepL.fr {K : PySem.W.Frag} {T O O' : AS} {H H' : Hp} {v : List V} {d : List PD} (f : Fr T O H O' H') (h : RepL K H O v d) : RepL K H' O' v d := h.kp (fun a o e q => f.kp a o e (q.elim .inl fun z => .inr (.inl z))) f.no

/-- what is wanted behind, by the outcome -/
def OutP (K : PySem.W.Frag) (T : AS) (pa : Option Addr) (O : AS) (H : Hp) (D : Ends) : Out → Prop
  | .nx e => ∀ σ' O' H', ER K T pa O' σ' H' e → Fr T O H O' H' → D.nx σ' H'
  | .bk e => ∀ σ' O' H', ER K T pa O' σ' H' e → Fr T O H O' H' → D.bk σ' H'
  | .ct e => ∀ σ' O' H', ER K T pa O' σ' H' e → Fr T O H O' H' → D.ct σ' H'
  | .rt d e => ∀ v σ' O' H', ER K T pa O' σ' H' e → Fr T O H O' H' → Rep K H' O' v d → D.rt v H'
def tS (K : PySem.W.Frag) (f : DS) : TS := fun D σ H => ∃ T pa O env out, f env = some out ∧ ER K T pa O σ H env ∧ OutP K T pa O H D out
abbrev SS (X : Cx) (st : Stmt) (f : DS) : Prop := PS X st (tS X.K f)
abbrev SSs (X : Cx) (st : List Stmt) (f : DS) : Prop := PSs X st (tS X.K f)
theorem OutP.fr {K : PySem.W.Frag} {T : AS} {pa : Option Addr} {O O1 : AS} {H H1 : Hp} {D : Ends} {out : Out} (f : Fr T O H O1 H1) (h : OutP K T pa O H D out) : OutP K T pa O1 H1 D out := by
  cases out with
  | nx e => exact fun σ' O' H' r g => h σ' O' H' r (f.trans g)
  | bk e => exact fun σ' O' H' r g => h σ' O' H' r (f.trans g)
  | ct e => exact fun σ' O' H' r g => h σ' O' H' r (f.trans g)
  | rt d e => exact fun v σ' O' H' r g q => h v σ' O' H' r (f.trans g) q

section
variable {X : Cx} {st : Stmt} {rest : List Stmt} {f g : DS} {e : Expr} {q : Qd} {pos : Pos}
def dNil : DS := fun env => some (.nx env)
def dSeq (f g : DS) : DS := fun env => match f env with
  | some (.nx e) => g e
  | o => o
theorem ss_no : SS X st (fun _ => none) := ⟨fun _ _ _ _ _ _ ⟨_, _, _, _, _, e1, _⟩ => nomatch e1⟩
theorem sss_no {sts : List Stmt} : SSs X sts (fun _ => none) := ⟨fun _ _ _ _ _ _ ⟨_, _, _, _, _, e1, _⟩ => nomatch e1⟩
theorem sss_nil : SSs X [] dNil := pss_weak pss_nil fun D σ H ⟨T, pa, O, env, out, e1, w, k⟩ => by
  cases e1
  exact k σ O H w Fr.refl
theorem sss_one (h : SS X st f) : SSs X [st] f := pss_one h
theorem sss_cons (h : SS X st f) (hr : SSs X rest g) : SSs X (st :: rest) (dSeq f g) := pss_weak (pss_cons h hr) fun D σ H ⟨T, pa, O, env, out, e1, w, k⟩ => by
  unfold dSeq at e1
  cases h1 : f env with
  | none => simp only [h1] at e1; cases e1
  | some o =>
    refine ⟨T, pa, O, env, o, h1, w, ?_⟩
    simp only [h1] at e1
    cases o with
    | nx e => exact fun σ' O' H' r fr => ⟨T, pa, O', e, out, e1, r, k.fr fr⟩
    | rt d e => cases e1; exact k
    | bk e => cases e1; exact k
    | ct e => cases e1; exact k
def dRet (q : Qd) : DS := fun env => (q env).map fun d => .rt d env
theorem ss_ret (h : QE X e q) : SS X (.Return (some e) pos) (dRet q) := ps_weak (ps_ret h) fun D σ H ⟨T, pa, O, env, out, e1, w, k⟩ => by
  obtain ⟨d, h1, rfl⟩ := Option.map_eq_some_iff.mp e1
  exact ⟨T, pa, O, env, d, h1, w, fun v H' s' r' => k v σ O H' (w.same s') (Fr.of_same s') r'⟩
def dRetN : DS := fun env => some (.rt .none env)
theorem ss_retN : SS X (.Return none pos) dRetN := ps_weak ps_retN fun D σ H ⟨T, pa, O, env, out, e1, w, k⟩ => by
  cases e1
  exact k .non σ O H w Fr.refl .non
def dBk : DS := fun env => some (.bk env)
def dCt : DS := fun env => some (.ct env)
theorem ss_break : SS X (.Break pos) dBk := ps_weak ps_break fun D σ H ⟨T, pa, O, env, out, e1, w, k⟩ => by
  cases e1
  exact k σ O H w Fr.refl
theorem ss_continue : SS X (.Continue pos) dCt := ps_weak ps_continue fun D σ H ⟨T, pa, O, env, out, e1, w, k⟩ => by
  cases e1
  exact k σ O H w Fr.refl
theorem ss_pass : SS X (.Pass pos) dNil := ps_weak ps_pass fun D σ H ⟨T, pa, O, env, out, e1, w, k⟩ => by
  cases e1
  exact k σ O H w Fr.refl
def dExpr (q : Qd) : DS := fun env => (q env).map fun _ => .nx env
theorem ss_expr (h : PQ X e q) (hs : swapsWith e none pos.line X.env = pure false := by rfl) : SS X (.Expr e pos) (dExpr q) := ps_weak (ps_expr h hs) fun D σ H ⟨T, pa, O, env, out, e1, w, k⟩ => by
  obtain ⟨d, h1, rfl⟩ := Option.map_eq_some_iff.mp e1
  exact ⟨T, pa, O, env, d, h1, w, fun v H' s' r' => k σ O H' (w.same s') (Fr.of_same s')⟩
def dIf (t : SE → Option Bool) (f g : DS) : DS := fun env => match t env with
  | some true => f env
  | some false => g env
  | none => none
theorem ss_if {c : Expr} {a b : List Stmt} {t : SE → Option Bool} (hc : TQ X c t) (ha : SSs X a f) (hb : SSs X b g) : SS X (.If c a b pos) (dIf t f g) := ps_weak (ps_if hc ha hb) fun D σ H ⟨T, pa, O, env, out, e1, w, k⟩ => by
  unfold dIf at e1
  cases h1 : t env with
  | none => simp only [h1] at e1; cases e1
  | some c =>
    refine ⟨T, pa, O, env, c, h1, w, fun H' s' => ?_⟩
    simp only [h1] at e1
    cases c with
    | true => rw [if_pos rfl]; exact ⟨T, pa, O, env, out, e1, w.same s', k.fr (Fr.of_same s')⟩
    | false => rw [if_neg Bool.false_ne_true]; exact ⟨T, pa, O, env, out, e1, w.same s', k.fr (Fr.of_same s')⟩

/-! ### storing -/
/-- the slot may be written: it is not the caller's object -/
def free (i : Nat) (env : SE) : Bool := match env[i]? with
  | some (some (.io _)) => false
  | some _ => true
  | none => false
theorem free_lt {i : Nat} {env : SE} (h : free i env = true) : i < env.length := by
  unfold free at h
  split at h
  · cases h
  · rename_i e; exact (List.getElem?_eq_some_iff.mp e).1
  · cases h
theorem free_io {i : Nat} {env : SE} (h : free i env = true) : ∀ d, env[i]? ≠ some (some (.io d)) := fun d z => by
  unfold free at h
  rw [z] at h
  cases h
variable {K : PySem.W.Frag} {T : AS} {pa : Option Addr} {O : AS} {σ : L2.St} {H : Hp} {env : SE}
theorem get_set {α : Type} {l : List α} {i j : Nat} {x y : α} (h : (l.set i x)[j]? = some y) : (j = i ∧ y = x) ∨ (j ≠ i ∧ l[j]? = some y) := by
  by_cases e : j = i
  · subst e
    left
    by_cases hl : j < l.length
    · rw [List.getElem?_set_self hl] at h; cases h; exact ⟨rfl, rfl⟩
    · rw [List.getElem?_eq_none (by rw [List.length_set]; omega)] at h; cases h
  · right
    rw [List.getElem?_set_ne (Ne.symm e)] at h
    exact ⟨e, h⟩
/-- a shared value is stored -/
theorem ER.setSh (w : ER K T pa O σ H env) {i : Nat} (hf : free i env = true) {v : V} {d : PD} (r : Rep K H O v d) : ER K T pa O (σ.set i (some v)) H (env.set i (some (.sh d))) := by
  have hi := free_lt hf
  have hσ : i < σ.length := by rw [w.len]; exact hi
  refine ⟨by rw [List.length_set, List.length_set]; exact w.len, w.dom, w.sub, w.pin, fun j e h => ?_, fun j e h => ?_, fun j e h => ?_, fun j k s t a h1 h2 m1 m2 h3 h4 => ?_⟩
  · rcases get_set h with ⟨rfl, z⟩ | ⟨n, h⟩
    · cases z; exact ⟨v, List.getElem?_set_self hσ, r⟩
    · obtain ⟨u, h1, h2⟩ := w.sh j e h
      exact ⟨u, by rw [List.getElem?_set_ne (Ne.symm n)]; exact h1, h2⟩
  · rcases get_set h with ⟨rfl, z⟩ | ⟨n, h⟩
    · cases z
    · obtain ⟨u, h1, h2⟩ := w.ow j e h
      exact ⟨u, by rw [List.getElem?_set_ne (Ne.symm n)]; exact h1, h2⟩
  · rcases get_set h with ⟨rfl, z⟩ | ⟨n, h⟩
    · cases z
    · obtain ⟨u, h0, h1, h2⟩ := w.io j e h
      exact ⟨u, h0, by rw [List.getElem?_set_ne (Ne.symm n)]; exact h1, h2⟩
  · rcases get_set h1 with ⟨rfl, z⟩ | ⟨n1, h1⟩
    · cases z; cases m1
    · rcases get_set h2 with ⟨rfl, z⟩ | ⟨n2, h2⟩
      · cases z; cases m2
      · rw [List.getElem?_set_ne (Ne.symm n1)] at h3
        rw [List.getElem?_set_ne (Ne.symm n2)] at h4
        exact w.inj j k s t a h1 h2 m1 m2 h3 h4
/-- a new object becomes one's own -/
theorem ER.setOw (w : ER K T pa O σ H env) {i : Nat} (hf : free i env = true) {a : Addr} {d : PD} {H' : Hp} (s : Same H H') (hn : H a = none) (r : OwnAt K H' (fun b => O b ∨ b = a) a d) :
    ER K T pa (fun b => O b ∨ b = a) (σ.set i (some (.ref a))) H' (env.set i (some (.ow d))) := by
  have hi := free_lt hf
  have hσ : i < σ.length := by rw [w.len]; exact hi
  have na : ¬ O a := fun z => w.dom a z hn
  have up : ∀ b o, H b = some o → (fixed o = true ∨ ¬ O b) → H' b = some o := fun b o e _ => s b o e
  have un : ∀ b, H b ≠ none → ¬ O b → ¬ (O b ∨ b = a) := fun b hb n z => z.elim n fun q => hb (by rw [q]; exact hn)
  obtain ⟨oa, ha, _⟩ := r.there
  refine ⟨by rw [List.length_set, List.length_set]; exact w.len, fun b z => ?_, fun b z => .inl (w.sub b z), fun b z => .inl (w.pin b z), fun j e h => ?_, fun j e h => ?_, fun j e h => ?_, fun j k s' t b h1 h2 m1 m2 h3 h4 => ?_⟩
  · rcases z with z | rfl
    · exact (w.same s).dom b z
    · rw [ha]; exact fun q => nomatch q
  · rcases get_set h with ⟨rfl, z⟩ | ⟨n, h⟩
    · cases z
    · obtain ⟨u, h1, h2⟩ := w.sh j e h
      exact ⟨u, by rw [List.getElem?_set_ne (Ne.symm n)]; exact h1, h2.kp up un⟩
  · rcases get_set h with ⟨rfl, z⟩ | ⟨n, h⟩
    · cases z
      refine ⟨a, List.getElem?_set_self hσ, r, .inr rfl, fun z => na (w.sub a z), fun z => na (w.pin a z)⟩
    · obtain ⟨u, h1, h2, h3, h4⟩ := w.ow j e h
      exact ⟨u, by rw [List.getElem?_set_ne (Ne.symm n)]; exact h1, h2.kp up un (fun o q => s _ _ q), .inl h3, h4⟩
  · rcases get_set h with ⟨rfl, z⟩ | ⟨n, h⟩
    · cases z
    · obtain ⟨u, h0, h1, h2, h3, h4⟩ := w.io j e h
      exact ⟨u, h0, by rw [List.getElem?_set_ne (Ne.symm n)]; exact h1, h2.kp up un (fun o q => s _ _ q), .inl h3, h4⟩
  · have old : ∀ {j : Nat} {s' : Sl}, env[j]? = some (some s') → s'.mine = true → σ[j]? = some (some (V.ref a)) → False := fun {j s'} e m hs => by
      cases s' with
      | sh d => cases m
      | ow d =>
        obtain ⟨u, g1, g2, g3, _⟩ := w.ow j d e
        rw [g1] at hs; cases hs
        exact na g3
      | io d =>
        obtain ⟨u, g0, g1, g2, g3, _⟩ := w.io j d e
        rw [g1] at hs; cases hs
        exact na g3
    rcases get_set h1 with ⟨e1, z⟩ | ⟨n1, g1⟩
    · subst e1
      rcases get_set h2 with ⟨e2, z2⟩ | ⟨n2, g2⟩
      · exact e2.symm
      · rw [List.getElem?_set_self hσ] at h3
        cases h3
        rw [List.getElem?_set_ne (Ne.symm n2)] at h4
        exact (old g2 m2 h4).elim
    · rw [List.getElem?_set_ne (Ne.symm n1)] at h3
      rcases get_set h2 with ⟨e2, z2⟩ | ⟨n2, g2⟩
      · subst e2
        rw [List.getElem?_set_self hσ] at h4
        cases h4
        exact (old g1 m1 h3).elim
      · rw [List.getElem?_set_ne (Ne.symm n2)] at h4
        exact w.inj j k s' t b g1 g2 m1 m2 h3 h4
end
end D
end
section
set_option Elab.async false
set_option linter.all false
set_option maxRecDepth 100000
set_option maxHeartbeats 4000000
/-! The pure layer, part G: assignments, loops. -/
namespace D
open PySem PySem.Spec PyProof.Rows L2

/-! ### three names at once, stored from the right -/
section
variable {X : Cx} {pos : Pos}
def tPar3 (i j k : Nat) (ta : TA) : TS := fun D σ H => ta σ H fun vs H1 => ∃ v w u, vs = [v, w, u] ∧ D.nx (((σ.set i (some v)).set j (some w)).set k (some u)) H1
theorem ps_par3 {i j k : Nat} {x y z : Str} {a b c : Expr} {ta : TA} {px py pz pt : Pos} {kt k2 pt2} (hc : X.calm = true) (hN : X.N.Nodup) (hi : X.N[i]? = some x) (hj : X.N[j]? = some y) (hk : X.N[k]? = some z) (hij : i ≠ j) (hik : i ≠ k) (hjk : j ≠ k)
    (hx : X.env.scope.names.lookup x = some .local) (hy : X.env.scope.names.lookup y = some .local) (hz : X.env.scope.names.lookup z = some .local) (ha : PA X [a, b, c] ta)
    (hw : swappedStores [.Tuple [.Name x px, .Name y py, .Name z pz] kt pt] (.Tuple [a, b, c] k2 pt2) X.env = pure (some [x, y, z]))
    (hs : swapsWithSole [.Tuple [.Name x px, .Name y py, .Name z pz] kt pt] (.Tuple [a, b, c] k2 pt2) pos.line X.env = pure false := by rfl) :
    PS X (.Assign [.Tuple [.Name x px, .Name y py, .Name z pz] kt pt] (.Tuple [a, b, c] k2 pt2) pos) (tPar3 i j k ta) := by
  refine ⟨fun pins s σ H D I h => ?_⟩
  rw [exec_Assign_arm]
  refine wpAny_bind (wpAny_standAt ?_)
  rw [hs]
  refine wpAny_bind (wpAny_pure ?_)
  rw [if_neg (by decide)]
  refine wpAny_bind (Tuple_ (thn (ha.run _ pins s σ H _ I h) fun us s1 ⟨vs, H1, I1, r1, q1⟩ => ?_))
  obtain ⟨v, w, t, e1, q1⟩ := q1
  subst e1
  obtain ⟨u1, u2, u3, rfl, rv, rw', ru⟩ : ∃ u1 u2 u3, us = [u1, u2, u3] ∧ RelV v u1 ∧ RelV w u2 ∧ RelV t u3 := by
    cases r1 with
    | cons p q =>
      cases q with
      | cons p' q' =>
        cases q' with
        | cons p'' q'' =>
          cases q''
          exact ⟨_, _, _, rfl, p, p', p''⟩
  refine wpAny_newObj_type ?_ (by show 3 ≤ sizeLine; decide)
  have I2 : Inv X pins σ H1 { s1 with heap := s1.heap.push { cls := .type "tuple", data := .seq [u1, u2, u3].toArray } } := I1.kept (t' := s1.toks) fun b o e => Heap.get?_push_of_some _ e
  rw [hw]
  refine wpAny_bind (wpAny_pure ?_)
  show wpAny (model X.prog X.w) X.A (do rule "assign.swapped-stores"; let items ← unpackItems (.ref s1.heap.objs.size) 3 none; assignInOrder [fun v => bindName X.env z v, fun v => bindName X.env y v, fun v => bindName X.env x v] items.reverse; pure Flow.next) _ _ _
  refine wpAny_bind (wpAny_rule (wpAny_bind (unpackItems_tuple (items := #[u1, u2, u3]) (I.ok.hd hc) (IsTup.new s1.heap _) fun h' hx' => ?_)))
  have I3 := I2.kept (h' := h') (t' := s1.toks) fun b o e => hx' b o (Nat.ne_of_lt (Heap.lt_size e)) e
  show wpAny _ _ (assignInOrder [fun v => bindName X.env z v, fun v => bindName X.env y v, fun v => bindName X.env x v] [u3, u2, u1] >>= fun _ => pure Flow.next) _ _ _
  refine wpAny_bind (assignInOrder_cons (wpAny_bindName (store_ok I3 hN hk (.inl hz) ru (fun s2 I4 => ?_) (.inr hz))))
  refine assignInOrder_cons (wpAny_bindName (store_ok I4 hN hj (.inl hy) rw' (fun s3 I5 => ?_) (.inr hy)))
  refine assignInOrder_cons (wpAny_bindName (store_ok I5 hN hi (.inl hx) rv (fun s4 I6 => assignInOrder_nil (wpAny_pure ?_)) (.inr hx)))
  have e1 : ((σ.set k (some t)).set j (some w)).set i (some v) = ((σ.set i (some v)).set j (some w)).set k (some t) := by
    rw [List.set_comm _ _ (Ne.symm hjk), List.set_comm _ _ (Ne.symm hik), List.set_comm _ _ (Ne.symm hij)]
  rw [e1] at I6
  exact ⟨_, H1, I6, q1⟩
end

/-! ### values on their way to their slots -/
/-- one value: new, or shared -/
inductive PendV (K : PySem.W.Frag) (T : AS) (pa : Option Addr) (O : AS) (σ : L2.St) (H : Hp) (env : SE) : V → Bool → PD → Prop
  | sh {v : V} {d : PD} : Rep K H O v d → PendV K T pa O σ H env v false d
  | ow {a : Addr} {d : PD} : OwnAt K H O a d → O a → ¬ T a → pa ≠ some a → (∀ (i : Nat) (s : Sl), env[i]? = some (some s) → s.mine = true → σ[i]? ≠ some (some (V.ref a))) → PendV K T pa O σ H env (.ref a) true d
def notRef (v : V) (a : Addr) : Prop := v ≠ .ref a
inductive PendL (K : PySem.W.Frag) (T : AS) (pa : Option Addr) (O : AS) (σ : L2.St) (H : Hp) (env : SE) : List V → List (Bool × PD) → Prop
  | nil : PendL K T pa O σ H env [] []
  | cons {v : V} {b : Bool} {d : PD} {vs : List V} {ds : List (Bool × PD)} : PendV K T pa O σ H env v b d → (b = true → ∀ (j : Nat) (u : V) (e : PD), vs[j]? = some u → ds[j]? = some (true, e) → u ≠ v) → PendL K T pa O σ H env vs ds → PendL K T pa O σ H env (v :: vs) ((b, d) :: ds)
def slotOf : Bool → PD → Sl
  | true, d => .ow d
  | false, d => .sh d
section
variable {K : PySem.W.Frag} {T : AS} {pa : Option Addr} {O : AS} {σ : L2.St} {H H' : Hp} {env : SE}
theorem ER.setP (w : ER K T pa O σ H env) {i : Nat} (hf : free i env = true) {v : V} {b : Bool} {d : PD} (p : PendV K T pa O σ H env v b d) : ER K T pa O (σ.set i (some v)) H (env.set i (some (slotOf b d))) := by
  cases p with
  | sh r => exact w.setSh hf r
  | @ow a _ r h1 h2 h3 h4 =>
    have hi := free_lt hf
    have hσ : i < σ.length := by rw [w.len]; exact hi
    refine ⟨by rw [List.length_set, List.length_set]; exact w.len, w.dom, w.sub, w.pin, fun j e h => ?_, fun j e h => ?_, fun j e h => ?_, fun j k s t c g1 g2 m1 m2 g3 g4 => ?_⟩
    · rcases get_set h with ⟨rfl, z⟩ | ⟨n, h⟩
      · cases z
      · obtain ⟨u, h1, h2⟩ := w.sh j e h
        exact ⟨u, by rw [List.getElem?_set_ne (Ne.symm n)]; exact h1, h2⟩
    · rcases get_set h with ⟨rfl, z⟩ | ⟨n, h⟩
      · cases z; exact ⟨a, List.getElem?_set_self hσ, r, h1, h2, h3⟩
      · obtain ⟨u, h1, h2⟩ := w.ow j e h
        exact ⟨u, by rw [List.getElem?_set_ne (Ne.symm n)]; exact h1, h2⟩
    · rcases get_set h with ⟨rfl, z⟩ | ⟨n, h⟩
      · cases z
      · obtain ⟨u, h0, h1, h2⟩ := w.io j e h
        exact ⟨u, h0, by rw [List.getElem?_set_ne (Ne.symm n)]; exact h1, h2⟩
    · rcases get_set g1 with ⟨e1, z⟩ | ⟨n1, k1⟩
      · subst e1
        rcases get_set g2 with ⟨e2, z2⟩ | ⟨n2, k2⟩
        · exact e2.symm
        · rw [List.getElem?_set_self hσ] at g3
          cases g3
          rw [List.getElem?_set_ne (Ne.symm n2)] at g4
          exact absurd g4 (h4 k t k2 m2)
      · rw [List.getElem?_set_ne (Ne.symm n1)] at g3
        rcases get_set g2 with ⟨e2, z2⟩ | ⟨n2, k2⟩
        · subst e2
          rw [List.getElem?_set_self hσ] at g4
          cases g4
          exact absurd g3 (h4 j s k1 m1)
        · rw [List.getElem?_set_ne (Ne.symm n2)] at g4
          exact w.inj j k s t c k1 k2 m1 m2 g3 g4
/-- the others stay on their way while one is stored -/
theorem PendL.step {i : Nat} {v : V} {b : Bool} {d : PD} (hi : i < env.length) (hl : σ.length = env.length) : ∀ {vs : List V} {ds : List (Bool × PD)}, PendL K T pa O σ H env vs ds →
    (b = true → ∀ (j : Nat) (u : V) (e : PD), vs[j]? = some u → ds[j]? = some (true, e) → u ≠ v) → PendL K T pa O (σ.set i (some v)) H (env.set i (some (slotOf b d))) vs ds
  | _, _, .nil, _ => .nil
  | _, _, .cons (v := u) (b := c) (d := e) (vs := us) (ds := es) p n r, hn => by
    refine .cons ?_ n (PendL.step hi hl r fun hb j u' e' h1 h2 => hn hb (j + 1) u' e' (by simpa using h1) (by simpa using h2))
    cases p with
    | sh q => exact .sh q
    | @ow a _ q h1 h2 h3 h4 =>
      refine .ow q h1 h2 h3 fun k s hk hm z => ?_
      rcases get_set hk with ⟨e1, z1⟩ | ⟨n1, k1⟩
      · subst e1
        cases z1
        cases b with
        | false => cases hm
        | true =>
          rw [List.getElem?_set_self (by rw [hl]; exact hi)] at z
          cases z
          exact hn rfl 0 _ e rfl rfl rfl
      · rw [List.getElem?_set_ne (Ne.symm n1)] at z
        exact h4 k s k1 hm z
/-- keeping, while the heap grows -/
theorem PendV.same (s : Same H H') {v : V} {b : Bool} {d : PD} (p : PendV K T pa O σ H env v b d) : PendV K T pa O σ H' env v b d := by
  cases p with
  | sh q => exact .sh (q.same s)
  | ow q h1 h2 h3 h4 => exact .ow (q.kp (fun a o e _ => s a o e) (fun _ _ n => n) fun o e => s _ _ e) h1 h2 h3 h4
end
/-- argument lists of new and shared values: O grows by the new ones -/
def tM (K : PySem.W.Frag) (q : SE → Option (List (Bool × PD))) : TA := fun σ H Q => ∃ T pa O env ds, q env = some ds ∧ ER K T pa O σ H env ∧
  ∀ vs O' H', Same H H' → ER K T pa O' σ H' env → Fr T O H O' H' → (∀ a, O a → O' a) → PendL K T pa O' σ H' env vs ds → (∀ (j : Nat) (a : Addr) (e : PD), vs[j]? = some (V.ref a) → ds[j]? = some (true, e) → H a = none) → Q vs H'
abbrev MA (X : Cx) (es : List Expr) (q : SE → Option (List (Bool × PD))) : Prop := PA X es (tM X.K q)
def mNil : SE → Option (List (Bool × PD)) := fun _ => some []
def mCons (b : Bool) (q : Qd) (r : SE → Option (List (Bool × PD))) : SE → Option (List (Bool × PD)) := fun env => do
  let d ← q env
  let ds ← r env
  pure ((b, d) :: ds)
section
variable {X : Cx} {e : Expr} {es : List Expr} {q : Qd} {r : SE → Option (List (Bool × PD))}
theorem mCons_some {b : Bool} {env : SE} {ds : List (Bool × PD)} (h : mCons b q r env = some ds) : ∃ d ds', q env = some d ∧ r env = some ds' ∧ ds = (b, d) :: ds' := by
  unfold mCons at h
  cases e1 : q env with
  | none => rw [e1] at h; cases h
  | some d =>
    cases e2 : r env with
    | none => rw [e1, e2] at h; cases h
    | some ds' => rw [e1, e2] at h; cases h; exact ⟨d, ds', rfl, rfl, rfl⟩
theorem ma_nil : MA X [] mNil := pa_weak pa_nil fun σ H Q ⟨T, pa, O, env, ds, e1, w, k⟩ => by
  cases e1
  exact k [] O H (Same.refl H) w Fr.refl (fun _ z => z) .nil (fun j a e z => by simp at z)
theorem ma_sh (h : QE X e q) (hr : MA X es r) (hs : starEach (e :: es) X.env = (false, eval e X.env) :: starEach es X.env := by rfl) : MA X (e :: es) (mCons false q r) :=
  pa_weak (pa_cons h hr hs) fun σ H Q ⟨T, pa, O, env, ds, e1, w, k⟩ => by
    obtain ⟨d, ds', q1, q2, rfl⟩ := mCons_some e1
    refine ⟨T, pa, O, env, d, q1, w, fun v H1 s1 r1 => ⟨T, pa, O, env, ds', q2, w.same s1, fun vs O' H2 s2 w2 f2 hO p2 n2 => k (v :: vs) O' H2 (s1.trans s2) w2 ((Fr.of_same s1).trans f2) hO (.cons (.sh (r1.fr f2)) (fun z => nomatch z) p2) fun j a e z1 z2 => ?_⟩⟩
    cases j with
    | zero => cases z2
    | succ j => exact s1.free (n2 j a e (by simpa using z1) (by simpa using z2))
/-- a new object joins O -/
theorem ER.join {K : PySem.W.Frag} {T : AS} {pa : Option Addr} {O : AS} {σ : L2.St} {H H' : Hp} {env : SE} (w : ER K T pa O σ H env) {a : Addr} {d : PD} (s : Same H H') (hn : H a = none) (r : OwnAt K H' (fun b => O b ∨ b = a) a d) :
    ER K T pa (fun b => O b ∨ b = a) σ H' env ∧ Fr T O H (fun b => O b ∨ b = a) H' ∧ ∀ (i : Nat) (s : Sl), env[i]? = some (some s) → s.mine = true → σ[i]? ≠ some (some (V.ref a)) := by
  have na : ¬ O a := fun z => w.dom a z hn
  have up : ∀ b o, H b = some o → (fixed o = true ∨ ¬ O b) → H' b = some o := fun b o e _ => s b o e
  have un : ∀ b, H b ≠ none → ¬ O b → ¬ (O b ∨ b = a) := fun b hb n z => z.elim n fun q => hb (by rw [q]; exact hn)
  obtain ⟨oa, ha, _⟩ := r.there
  refine ⟨⟨w.len, fun b z => ?_, fun b z => .inl (w.sub b z), fun b z => .inl (w.pin b z), fun j e h => ?_, fun j e h => ?_, fun j e h => ?_, w.inj⟩, ⟨fun b o e _ => s b o e, un⟩, fun i s' e m z => ?_⟩
  · rcases z with z | rfl
    · exact (w.same s).dom b z
    · rw [ha]; exact fun q => nomatch q
  · obtain ⟨u, h1, h2⟩ := w.sh j e h
    exact ⟨u, h1, h2.kp up un⟩
  · obtain ⟨u, h1, h2, h3, h4⟩ := w.ow j e h
    exact ⟨u, h1, h2.kp up un (fun o q => s _ _ q), .inl h3, h4⟩
  · obtain ⟨u, h0, h1, h2, h3, h4⟩ := w.io j e h
    exact ⟨u, h0, h1, h2.kp up un (fun o q => s _ _ q), .inl h3, h4⟩
  · cases s' with
    | sh d => cases m
    | ow d =>
      obtain ⟨u, g1, g2, g3, _⟩ := w.ow i d e
      rw [g1] at z; cases z
      exact na g3
    | io d =>
      obtain ⟨u, g0, g1, g2, g3, _⟩ := w.io i d e
      rw [g1] at z; cases z
      exact na g3
theorem ma_ow (h : FE X e q) (hr : MA X es r) (hs : starEach (e :: es) X.env = (false, eval e X.env) :: starEach es X.env := by rfl) : MA X (e :: es) (mCons true q r) :=
  pa_weak (pa_cons h hr hs) fun σ H Q ⟨T, pa, O, env, ds, e1, w, k⟩ => by
    obtain ⟨d, ds', q1, q2, rfl⟩ := mCons_some e1
    refine ⟨T, pa, O, env, d, q1, w, fun a H1 s1 hn r1 => ?_⟩
    obtain ⟨w1, f1, n1⟩ := w.join s1 hn r1
    refine ⟨T, pa, _, env, ds', q2, w1, fun vs O' H2 s2 w2 f2 hO p2 n2 => k (.ref a :: vs) O' H2 (s1.trans s2) w2 (f1.trans f2) (fun b z => hO b (.inl z)) ?_ fun j b e z1 z2 => ?_⟩
    case refine_2 =>
      cases j with
      | zero => cases z1; exact hn
      | succ j => exact s1.free (n2 j b e (by simpa using z1) (by simpa using z2))
    have na : ¬ O a := fun z => w.dom a z hn
    have r2 : OwnAt X.K H2 O' a d := by
      refine r1.kp (fun b o e _ => s2 b o e) f2.no fun o e => s2 _ _ e
    refine .cons (.ow r2 (hO a (.inr rfl)) (fun z => na (w.sub a z)) (fun z => na (w.pin a z)) n1) (fun _ j u e' g1 g2 z => ?_) p2
    subst z
    obtain ⟨oa, ha, _⟩ := r1.there
    rw [n2 j a e' g1 g2] at ha
    cases ha
end
end D
end
section
set_option Elab.async false
set_option linter.all false
set_option maxRecDepth 100000
set_option maxHeartbeats 4000000
/-! The pure layer, part H: assignments, changes of one's own objects. -/
namespace D
open PySem PySem.Spec PyProof.Rows L2

section
variable {K : PySem.W.Frag} {T : AS} {pa : Option Addr} {O : AS} {σ : L2.St} {H H' : Hp} {env : SE}

/-! ### storing one, storing several -/
def dSet (i : Nat) (q : Qd) : DS := fun env => if free i env = true then (q env).map fun d => .nx (env.set i (some (.sh d))) else none
def dSetF (i : Nat) (q : Qd) : DS := fun env => if free i env = true then (q env).map fun d => .nx (env.set i (some (.ow d))) else none
theorem if_some {α : Type} {c : Prop} [Decidable c] {o : Option α} {y : α} (h : (if c then o else none) = some y) : c ∧ o = some y := by
  by_cases hc : c
  · rw [if_pos hc] at h; exact ⟨hc, h⟩
  · rw [if_neg hc] at h; cases h
def storeAll : List Nat → List (Bool × PD) → SE → Option SE
  | [], [], env => some env
  | i :: is, (b, d) :: ds, env => if free i env = true then storeAll is ds (env.set i (some (slotOf b d))) else none
  | _, _, _ => none
def tgNames : List Nat → TGs
  | [] => gNil
  | i :: is => gCons (gName i) (tgNames is)
theorem tgNames_ok : ∀ (is : List Nat) {vs : List V} {ds : List (Bool × PD)} {σ : L2.St} {env env' : SE} {Q : L2.St → Hp → Prop}, ER K T pa O σ H env → PendL K T pa O σ H env vs ds → storeAll is ds env = some env' →
    (∀ σ', ER K T pa O σ' H env' → Q σ' H) → tgNames is vs σ H Q
  | [], _, ds, _, _, _, _, w, p, e, k => by
    cases p with
    | nil => cases e; exact ⟨rfl, k _ w⟩
    | cons => cases e
  | i :: is, _, _, _, _, _, _, w, p, e, k => by
    cases p with
    | nil => cases e
    | cons p n r =>
      obtain ⟨hf, e⟩ := if_some e
      exact ⟨_, _, rfl, tgNames_ok is (w.setP hf p) (r.step (free_lt hf) w.len n) e k⟩
def dPar (is : List Nat) (r : SE → Option (List (Bool × PD))) : DS := fun env => do
  let ds ← r env
  let e ← storeAll is ds env
  pure (.nx e)
theorem ER.lens (w : ER K T pa O σ H env) : σ.length = env.length := w.len

section
variable {X : Cx} {i j k : Nat} {x y z : Str} {a b c e : Expr} {es ts : List Expr} {q : Qd} {r : SE → Option (List (Bool × PD))} {pos pos' px py pz pt : Pos} {kt k2 : Nat} {pt2 : Pos}
theorem ss_set (i : Nat) (hN : X.N.Nodup) (hi : X.N[i]? = some x) (hx : Loc X.env.scope x) (he : QE X e q) (hf : X.fn x = true ∨ X.env.scope.names.lookup x = some .local) (hs : swapsWith e (some (.Name x pos')) pos.line X.env = pure false := by rfl) :
    SS X (.Assign [.Name x pos'] e pos) (dSet i q) := ps_weak (ps_set hN hi hx he hs hf) fun D σ H ⟨T, pa, O, env, out, e1, w, k⟩ => by
  obtain ⟨hf, e1⟩ := if_some e1
  obtain ⟨d, h1, rfl⟩ := Option.map_eq_some_iff.mp e1
  exact ⟨T, pa, O, env, d, h1, w, fun v H' s' r' => k _ O H' ((w.same s').setSh hf r') (Fr.of_same s')⟩
theorem ss_setF (i : Nat) (hN : X.N.Nodup) (hi : X.N[i]? = some x) (hx : Loc X.env.scope x) (he : FE X e q) (hf : X.fn x = true ∨ X.env.scope.names.lookup x = some .local) (hs : swapsWith e (some (.Name x pos')) pos.line X.env = pure false := by rfl) :
    SS X (.Assign [.Name x pos'] e pos) (dSetF i q) := ps_weak (ps_set hN hi hx he hs hf) fun D σ H ⟨T, pa, O, env, out, e1, w, k⟩ => by
  obtain ⟨hf, e1⟩ := if_some e1
  obtain ⟨d, h1, rfl⟩ := Option.map_eq_some_iff.mp e1
  refine ⟨T, pa, O, env, d, h1, w, fun a H' s' hn r' => ?_⟩
  obtain ⟨w1, f1, n1⟩ := w.join s' hn r'
  exact k _ _ H' (w.setOw hf s' hn r') f1
/-- a, b = x, y: plain local names -/
theorem ss_par2 (i j : Nat) (hc : X.calm = true) (hN : X.N.Nodup) (hi : X.N[i]? = some x) (hj : X.N[j]? = some y) (hij : i ≠ j)
    (hx : X.env.scope.names.lookup x = some .local) (hy : X.env.scope.names.lookup y = some .local) (ha : MA X [a, b] r)
    (hw : swappedStores [.Tuple [.Name x px, .Name y py] kt pt] (.Tuple [a, b] k2 pt2) X.env = pure (some [x, y]))
    (hs : swapsWithSole [.Tuple [.Name x px, .Name y py] kt pt] (.Tuple [a, b] k2 pt2) pos.line X.env = pure false := by rfl) :
    SS X (.Assign [.Tuple [.Name x px, .Name y py] kt pt] (.Tuple [a, b] k2 pt2) pos) (dPar [i, j] r) := ps_weak (ps_par hc hN hi hj hij hx hy ha hw hs) fun D σ H ⟨T, pa, O, env, out, e1, w, k⟩ => by
  obtain ⟨ds, h1, h2⟩ := bind_some e1
  obtain ⟨env', h3, h4⟩ := bind_some h2
  cases h4
  refine ⟨T, pa, O, env, ds, h1, w, fun vs O' H' s' w' f' _ p _ => ?_⟩
  have hlen : vs.length = 2 := by
    cases p with
    | nil => cases h3
    | cons p n r =>
      obtain ⟨_, h3⟩ := if_some h3
      cases r with
      | nil => cases h3
      | cons p n r =>
        obtain ⟨_, h3⟩ := if_some h3
        cases r with
        | nil => rfl
        | cons => cases h3
  match vs, hlen, p with
  | [v, u], _, p =>
    obtain ⟨v1, r1, e1, v2, r2, e2, z⟩ := tgNames_ok [i, j] (Q := fun σ1 H1 => D.nx σ1 H1) w' p h3 fun σ1 w1 => k σ1 O' H' w1 f'
    cases e1
    cases e2
    exact ⟨v, u, rfl, z.2⟩
theorem ss_par3 (i j k : Nat) (hc : X.calm = true) (hN : X.N.Nodup) (hi : X.N[i]? = some x) (hj : X.N[j]? = some y) (hk : X.N[k]? = some z) (hij : i ≠ j) (hik : i ≠ k) (hjk : j ≠ k)
    (hx : X.env.scope.names.lookup x = some .local) (hy : X.env.scope.names.lookup y = some .local) (hz : X.env.scope.names.lookup z = some .local) (ha : MA X [a, b, c] r)
    (hw : swappedStores [.Tuple [.Name x px, .Name y py, .Name z pz] kt pt] (.Tuple [a, b, c] k2 pt2) X.env = pure (some [x, y, z]))
    (hs : swapsWithSole [.Tuple [.Name x px, .Name y py, .Name z pz] kt pt] (.Tuple [a, b, c] k2 pt2) pos.line X.env = pure false := by rfl) :
    SS X (.Assign [.Tuple [.Name x px, .Name y py, .Name z pz] kt pt] (.Tuple [a, b, c] k2 pt2) pos) (dPar [i, j, k] r) := ps_weak (ps_par3 hc hN hi hj hk hij hik hjk hx hy hz ha hw hs) fun D σ H ⟨T, pa, O, env, out, e1, w, kk⟩ => by
  obtain ⟨ds, h1, h2⟩ := bind_some e1
  obtain ⟨env', h3, h4⟩ := bind_some h2
  cases h4
  refine ⟨T, pa, O, env, ds, h1, w, fun vs O' H' s' w' f' _ p _ => ?_⟩
  have hlen : vs.length = 3 := by
    cases p with
    | nil => cases h3
    | cons p n r =>
      obtain ⟨_, h3⟩ := if_some h3
      cases r with
      | nil => cases h3
      | cons p n r =>
        obtain ⟨_, h3⟩ := if_some h3
        cases r with
        | nil => cases h3
        | cons p n r =>
          obtain ⟨_, h3⟩ := if_some h3
          cases r with
          | nil => rfl
          | cons => cases h3
  match vs, hlen, p with
  | [v, u, t], _, p =>
    obtain ⟨v1, r1, e1, v2, r2, e2, v3, r3, e3, z⟩ := tgNames_ok [i, j, k] (Q := fun σ1 H1 => D.nx σ1 H1) w' p h3 fun σ1 w1 => kk σ1 O' H' w1 f'
    cases e1
    cases e2
    cases e3
    exact ⟨v, u, t, rfl, z.2⟩
/-- a, b, .. = x, y, ..: in general -/
theorem ss_parO (is : List Nat) (hc : X.calm = true) (ha : MA X es r) (hg : PGs X ts (tgNames is))
    (hn : (assignEach ts X.env).length = is.length) (hst : (assignEach ts X.env).findIdx? (·.1) = none) (hln : is.length ≤ 100)
    (hs : swapsWithSole [.Tuple ts kt pt] (.Tuple es k2 pt2) pos.line X.env = pure false) (hw : swappedStores [.Tuple ts kt pt] (.Tuple es k2 pt2) X.env = pure none)
    (h1 : (assignEach [.Tuple ts kt pt] X.env).map (·.2) = [assign (.Tuple ts kt pt) X.env]) :
    SS X (.Assign [.Tuple ts kt pt] (.Tuple es k2 pt2) pos) (dPar is r) := ps_weak (ps_asg (pe_tup ha) (pg_tup hc hg hn hst) hs hw h1) fun D σ H ⟨T, pa, O, env, out, e1, w, k⟩ => by
  obtain ⟨ds, h1, h2⟩ := bind_some e1
  obtain ⟨env', h3, h4⟩ := bind_some h2
  cases h4
  refine ⟨T, pa, O, env, ds, h1, w, fun vs O' H' s' w' f' hO p _ => ?_⟩
  have hl : ∀ (is : List Nat) (vs : List V) (ds : List (Bool × PD)) (σ : L2.St) (env : SE), PendL X.K T pa O' σ H' env vs ds → ∀ e0, storeAll is ds e0 = some env' → vs.length = is.length := by
    intro is
    induction is with
    | nil =>
      intro vs ds σ env p e0 e
      cases p with
      | nil => rfl
      | cons => cases e
    | cons i is ih =>
      intro vs ds σ env p e0 e
      cases p with
      | nil => cases e
      | cons p n r =>
        obtain ⟨_, e⟩ := if_some e
        rw [List.length_cons, List.length_cons, ih _ _ _ _ r _ e]
  have hlen := hl is vs ds σ env p _ h3
  refine ⟨by rw [hlen, lim_eq]; exact Nat.le_trans hln (by decide), fun t ht => ?_⟩
  refine ⟨t, vs, rfl, SqT.of upd_same, hlen, ?_⟩
  have hs' : Same H' (upd H' t (.tup vs)) := same_upd ht
  have p2 : ∀ {us : List V} {es : List (Bool × PD)}, PendL X.K T pa O' σ H' env us es → PendL X.K T pa O' σ (upd H' t (.tup vs)) env us es := by
    intro us es p
    induction p with
    | nil => exact .nil
    | cons p n _ ih => exact .cons (p.same hs') n ih
  exact tgNames_ok is (w'.same hs') (p2 p) h3 fun σ1 w1 => k σ1 O' _ w1 (f'.trans (Fr.of_same hs'))
end
end
end D
end
section
set_option Elab.async false
set_option linter.all false
set_option maxRecDepth 100000
set_option maxHeartbeats 4000000
/-! The pure layer, part I: effects on one's own objects; targets of data. -/
namespace D
open PySem PySem.Spec PyProof.Rows L2

/-! ### targets -/
/-- σ' is σ but at ix -/
def But (ix : List Nat) (σ σ' : L2.St) : Prop := σ'.length = σ.length ∧ ∀ j, j ∉ ix → σ'[j]? = σ[j]?
theorem But.trans {ix jx : List Nat} {σ σ' σ'' : L2.St} (a : But ix σ σ') (b : But jx σ' σ'') : But (ix ++ jx) σ σ'' :=
  ⟨b.1.trans a.1, fun j h => (b.2 j fun z => h (List.mem_append_right _ z)).trans (a.2 j fun z => h (List.mem_append_left _ z))⟩
def tG (K : PySem.W.Frag) (ix : List Nat) (g : PD → SE → Option SE) : TG := fun v σ H Q => ∃ T pa O env d env', g d env = some env' ∧ ER K T pa O σ H env ∧ Rep K H O v d ∧ ∀ σ', ER K T pa O σ' H env' → But ix σ σ' → Q σ' H
def tGs (K : PySem.W.Frag) (ix : List Nat) (g : List PD → SE → Option SE) : TGs := fun vs σ H Q => ∃ T pa O env ds env', g ds env = some env' ∧ ER K T pa O σ H env ∧ RepL K H O vs ds ∧ ∀ σ', ER K T pa O σ' H env' → But ix σ σ' → Q σ' H
abbrev GT (X : Cx) (e : Expr) (ix : List Nat) (g : PD → SE → Option SE) : Prop := PG X e (tG X.K ix g)
abbrev GTs (X : Cx) (es : List Expr) (ix : List Nat) (g : List PD → SE → Option SE) : Prop := PGs X es (tGs X.K ix g)
theorem pg_weak {X : Cx} {e : Expr} {t t' : TG} (h : PG X e t) (w : ∀ v σ H Q, t' v σ H Q → t v σ H Q) : PG X e t' := ⟨fun pins s σ H v u Q I r q => h.run pins s σ H v u Q I r (w v σ H Q q)⟩
theorem pgs_weak {X : Cx} {e : List Expr} {t t' : TGs} (h : PGs X e t) (w : ∀ v σ H Q, t' v σ H Q → t v σ H Q) : PGs X e t' := ⟨fun pins s σ H v u Q I r q => h.run pins s σ H v u Q I r (w v σ H Q q)⟩
def gN (i : Nat) : PD → SE → Option SE := fun d env => if free i env = true then some (env.set i (some (.sh d))) else none
def gsNil : List PD → SE → Option SE := fun ds env => match ds with
  | [] => some env
  | _ => none
def gsCons (g : PD → SE → Option SE) (r : List PD → SE → Option SE) : List PD → SE → Option SE := fun ds env => match ds with
  | d :: ds => match g d env with
    | some e => r ds e
    | none => none
  | [] => none
def gT (n : Nat) (g : List PD → SE → Option SE) : PD → SE → Option SE := fun d env => match d with
  | .tuple ds => if ds.length = n then g ds env else none
  | _ => none
section
variable {X : Cx} {x : Str} {pos : Pos} {e : Expr} {es : List Expr} {g : PD → SE → Option SE} {r : List PD → SE → Option SE} {n k : Nat} {ix jx : List Nat}
theorem gt_name (i : Nat) (hN : X.N.Nodup) (hi : X.N[i]? = some x) (hx : Loc X.env.scope x) (hf : X.fn x = true ∨ X.env.scope.names.lookup x = some .local) : GT X (.Name x pos) [i] (gN i) :=
  pg_weak (pg_name hN hi hx hf) fun v σ H Q ⟨T, pa, O, env, d, env', e1, w, r, k⟩ => by
    obtain ⟨hf, e1⟩ := if_some e1
    cases e1
    refine k _ (w.setSh hf r) ⟨List.length_set, fun j hj => List.getElem?_set_ne fun z => hj (by simp [z])⟩
theorem gts_nil : GTs X [] [] gsNil := pgs_weak pgs_nil fun vs σ H Q ⟨T, pa, O, env, ds, env', e1, w, r, k⟩ => by
  cases r with
  | nil => cases e1; exact ⟨rfl, k _ w ⟨rfl, fun _ _ => rfl⟩⟩
  | cons => cases e1
theorem gts_cons (h : GT X e ix g) (hr : GTs X es jx r) (hs : (assignEach (e :: es) X.env).map (·.2) = assign e X.env :: (assignEach es X.env).map (·.2) := by rfl) : GTs X (e :: es) (ix ++ jx) (gsCons g r) :=
  pgs_weak (pgs_cons h hr hs) fun vs σ H Q ⟨T, pa, O, env, ds, env', e1, w, r, k⟩ => by
    cases r with
    | nil => cases e1
    | @cons v vs d ds ra rb =>
      unfold gsCons at e1
      simp only at e1
      cases h1 : g d env with
      | none => rw [h1] at e1; cases e1
      | some e2 =>
        rw [h1] at e1
        exact ⟨v, vs, rfl, T, pa, O, env, d, e2, h1, w, ra, fun σ' w' b' => ⟨T, pa, O, e2, ds, env', e1, w', rb, fun σ2 w2 b2 => k σ2 w2 (b'.trans b2)⟩⟩
theorem gt_tup (hc : X.calm = true) (h : GTs X es ix r) (hn : (assignEach es X.env).length = n := by rfl) (hst : (assignEach es X.env).findIdx? (·.1) = none := by rfl) : GT X (.Tuple es k pos) ix (gT n r) :=
  pg_weak (pg_tup hc h hn hst) fun v σ H Q ⟨T, pa, O, env, d, env', e1, w, r, k⟩ => by
    unfold gT at e1
    split at e1
    · obtain ⟨hl, e1⟩ := if_some e1
      cases r with
      | tup ht hr => exact ⟨_, _, rfl, ht.1, by rw [hr.length]; exact hl, T, pa, O, env, _, env', e1, w, hr, k⟩
    · cases e1
/-- target = e, by its data -/
def dGet (g : PD → SE → Option SE) (q : Qd) : DS := fun env => do
  let d ← q env
  let e ← g d env
  pure (.nx e)
theorem ss_asg {tg : Expr} {q : Qd} (he : QE X e q) (hg : GT X tg ix g) (hs : swapsWithSole [tg] e pos.line X.env = pure false := by rfl) (hw : swappedStores [tg] e X.env = pure none := by rfl)
    (h1 : (assignEach [tg] X.env).map (·.2) = [assign tg X.env] := by rfl) : SS X (.Assign [tg] e pos) (dGet g q) := ps_weak (ps_asg he hg hs hw h1) fun D σ H ⟨T, pa, O, env, out, e1, w, k⟩ => by
  obtain ⟨d, h1, h2⟩ := bind_some e1
  obtain ⟨env', h3, h4⟩ := bind_some h2
  cases h4
  exact ⟨T, pa, O, env, d, h1, w, fun v H' s' r' => ⟨T, pa, O, env, d, env', h3, w.same s', r', fun σ' w' _ => k σ' O H' w' (Fr.of_same s')⟩⟩
end

/-! ### one's own object changes -/
def mineD (i : Nat) (env : SE) : Option PD := match env[i]? with
  | some (some (.ow d)) => some d
  | some (some (.io d)) => some d
  | _ => none
def Sl.like : Sl → PD → Sl
  | .io _, d => .io d
  | _, d => .ow d
def putM (i : Nat) (d : PD) (env : SE) : SE := match env[i]? with
  | some (some (.ow _)) => env.set i (some (.ow d))
  | some (some (.io _)) => env.set i (some (.io d))
  | _ => env
section
variable {K : PySem.W.Frag} {T : AS} {pa : Option Addr} {O : AS} {σ : L2.St} {H : Hp} {env : SE}
theorem own_rep {a : Addr} {o u : HO} (hO : O a) (ha : H a = some o) (hf : fixed o = false) : ∀ b v, H b = some v → (fixed v = true ∨ ¬ O b) → upd H a u b = some v := fun b v e h => by
  by_cases hb : b = a
  · subst hb
    rw [ha] at e; cases e
    rcases h with h | h
    · rw [hf] at h; cases h
    · exact absurd hO h
  · rw [upd_ne hb]; exact e
theorem there_upd {a : Addr} {u : HO} : ∀ b, H b ≠ none → upd H a u b ≠ none := fun b h => by
  by_cases hb : b = a
  · subst hb; rw [upd_same]; exact fun z => nomatch z
  · rw [upd_ne hb]; exact h
/-- where it stands -/
theorem ER.mine (w : ER K T pa O σ H env) {i : Nat} {d : PD} (e : mineD i env = some d) : ∃ a, σ[i]? = some (some (.ref a)) ∧ OwnAt K H O a d ∧ O a ∧ ¬ T a := by
  unfold mineD at e
  split at e
  · rename_i d' h
    cases e
    obtain ⟨a, h1, h2, h3, h4, _⟩ := w.ow i _ h
    exact ⟨a, h1, h2, h3, h4⟩
  · rename_i d' h
    cases e
    obtain ⟨a, _, h1, h2, h3, h4⟩ := w.io i _ h
    exact ⟨a, h1, h2, h3, h4⟩
  · cases e
/-- it is changed -/
theorem ER.change (w : ER K T pa O σ H env) {i : Nat} {d d' : PD} (e : mineD i env = some d) {a : Addr} (ha : σ[i]? = some (some (.ref a))) {u : HO} (r : OwnAt K (upd H a u) O a d') (hO : O a) (hT : ¬ T a) (h0 : OwnAt K H O a d) :
    ER K T pa O σ (upd H a u) (putM i d' env) ∧ Fr T O H O (upd H a u) := by
  obtain ⟨o, ho, hf⟩ := h0.there
  have kp := own_rep (u := u) hO ho hf
  have nn : ∀ b, H b ≠ none → ¬ O b → ¬ O b := fun _ _ n => n
  have hi : ∃ s, env[i]? = some (some s) ∧ s.mine = true ∧ putM i d' env = env.set i (some (s.like d')) := by
    unfold mineD at e
    unfold putM
    split at e
    · rename_i x h; exact ⟨_, h, rfl, rfl⟩
    · rename_i x h; exact ⟨_, h, rfl, rfl⟩
    · cases e
  obtain ⟨s, hs, hm, hp⟩ := hi
  rw [hp]
  refine ⟨⟨by rw [List.length_set]; exact w.len, fun b z => there_upd b (w.dom b z), w.sub, w.pin, fun j e h => ?_, fun j e h => ?_, fun j e h => ?_, fun j k s1 s2 c h1 h2 m1 m2 h3 h4 => ?_⟩, ⟨fun b v e h => ?_, nn⟩⟩
  · rcases get_set h with ⟨rfl, z⟩ | ⟨n, h⟩
    · cases s <;> cases z
    · obtain ⟨v, h1, h2⟩ := w.sh j e h
      exact ⟨v, h1, h2.kp kp nn⟩
  · rcases get_set h with ⟨e1, z⟩ | ⟨n, h⟩
    · subst e1
      cases s with
      | sh _ => cases hm
      | io _ => cases z
      | ow x =>
        cases z
        obtain ⟨b, h1, h2, h3, h4, h5⟩ := w.ow j x hs
        rw [ha] at h1; cases h1
        exact ⟨a, ha, r, h3, h4, h5⟩
    · obtain ⟨b, h1, h2, h3⟩ := w.ow j e h
      have nb : b ≠ a := fun z => by subst z; exact n (w.inj j i _ _ b h hs rfl hm h1 ha)
      exact ⟨b, h1, h2.kp kp nn (fun o q => by rw [upd_ne nb]; exact q), h3⟩
  · rcases get_set h with ⟨e1, z⟩ | ⟨n, h⟩
    · subst e1
      cases s with
      | sh _ => cases hm
      | ow _ => cases z
      | io x =>
        cases z
        obtain ⟨b, h0, h1, h2, h3⟩ := w.io j x hs
        rw [ha] at h1; cases h1
        exact ⟨a, h0, ha, r, h3⟩
    · obtain ⟨b, h0, h1, h2, h3⟩ := w.io j e h
      have nb : b ≠ a := fun z => by subst z; exact n (w.inj j i _ _ b h hs rfl hm h1 ha)
      exact ⟨b, h0, h1, h2.kp kp nn (fun o q => by rw [upd_ne nb]; exact q), h3⟩
  · have back : ∀ {j : Nat} {s1 : Sl}, (env.set i (some (s.like d')))[j]? = some (some s1) → s1.mine = true → ∃ s2, env[j]? = some (some s2) ∧ s2.mine = true := fun {j s1} h m => by
      rcases get_set h with ⟨e1, z⟩ | ⟨n, h⟩
      · subst e1; exact ⟨s, hs, hm⟩
      · exact ⟨s1, h, m⟩
    obtain ⟨t1, g1, g2⟩ := back h1 m1
    obtain ⟨t2, g3, g4⟩ := back h2 m2
    exact w.inj j k t1 t2 c g1 g3 g2 g4 h3 h4
  · by_cases hb : b = a
    · subst hb
      rw [ho] at e; cases e
      rcases h with h | h | h
      · rw [hf] at h; cases h
      · exact absurd hO h
      · exact absurd h hT
    · rw [upd_ne hb]; exact e
end

/-! ### expressions with effects -/
abbrev Ed := SE → Option (PD × SE)
def tE (K : PySem.W.Frag) (f : Ed) : TE := fun σ H Q => ∃ T pa O env d env', f env = some (d, env') ∧ ER K T pa O σ H env ∧ ∀ v H', ER K T pa O σ H' env' → Fr T O H O H' → Rep K H' O v d → Q v H'
abbrev EE (X : Cx) (e : Expr) (f : Ed) : Prop := PE X e (tE X.K f)
section
variable {X : Cx} {x : Str} {e a b : Expr} {es : List Expr} {q : Qd} {f g : Ed} {pos pos' apos p : Pos}
def eQ (q : Qd) : Ed := fun env => (q env).map fun d => (d, env)
theorem ee_q (h : QE X e q) : EE X e (eQ q) := pe_weak h fun σ H Q ⟨T, pa, O, env, d, env', e1, w, k⟩ => by
  obtain ⟨d', h1, h2⟩ := Option.map_eq_some_iff.mp e1
  cases h2
  exact ⟨T, pa, O, env, d, h1, w, fun v H' s' r' => k v H' (w.same s') (Fr.of_same s') r'⟩
theorem ee_no : EE X e (fun _ => none) := ⟨fun _ _ _ _ _ _ ⟨_, _, _, _, _, _, e1, _⟩ => nomatch e1⟩
/-- xs.append(e) as a statement -/
def dApp (i : Nat) (q : Qd) : DS := fun env => match mineD i env with
  | some (.list ds) => match q env with
    | some d => if ds.length < LIM then some (.nx (putM i (.list (ds ++ [d])) env)) else none
    | none => none
  | _ => none
theorem ss_app (i : Nat) {o : Expr} (ho : PE X o (tVar i)) (he : QE X e q) (hs : swapsWith (.Call (.Attribute o "append" apos) [e] [] p) none pos.line X.env = pure false := by rfl)
    (hbase : attributeBase o "append" X.env (eval o X.env) = eval o X.env := by rfl)
    (hfew : ((backTo p (starEach (e :: []) X.env)).all (fun x => !x.1) && (backToKw p (keywordEach [] X.env)).all (fun x => x.1.isSome) && decide ((e :: []).length + ([] : List Keyword).length + (if ([] : List Keyword).isEmpty then 0 else 1) < 30)) = true := by rfl)
    (hline : (apos.endLine == p.line) = true := by rfl) (hst : starEach (e :: []) X.env = (false, eval e X.env) :: starEach [] X.env := by rfl) (hplain : (backTo p (starEach [] X.env)).any (·.1) = false := by rfl) :
    SS X (.Expr (.Call (.Attribute o "append" apos) [e] [] p) pos) (dApp i q) :=
  ps_weak (ps_expr (pe_bm PySem.F.plainAttrs_list PySem.F.slot_list_append PySem.F.type_list_append mt_append ho (pa_cons he pa_nil hst) hbase hfew hline hst hplain) hs) fun D σ H ⟨T, pa, O, env, out, e1, w, k⟩ => by
    unfold dApp at e1
    split at e1
    · rename_i ds hm
      split at e1
      · rename_i d hq
        obtain ⟨hz, rfl⟩ := some_if e1
        obtain ⟨a, h1, h2, h3, h4⟩ := w.mine hm
        obtain ⟨xs, g1, g2, g3⟩ := id h2
        refine ⟨.ref a, h1, .inl ⟨rfl, xs, .inl (.inl g1)⟩, T, pa, O, env, d, hq, w, fun v H' s' r' => ?_⟩
        have w' := w.same s'
        obtain ⟨a', h1', h2', _⟩ := w'.mine hm
        rw [h1] at h1'; cases h1'
        obtain ⟨xs', g1', g2', g3'⟩ := id h2'
        have hz' : xs'.length < sizeLine := by rw [g3'.length, lim_eq]; exact hz
        refine ⟨a, xs', v, rfl, rfl, g1', hz', ?_⟩
        have kp := own_rep (u := .lst (xs' ++ [v])) h3 g1' rfl
        obtain ⟨w2, f2⟩ := w'.change (d' := .list (ds ++ [d])) hm h1 (u := .lst (xs' ++ [v])) ⟨xs' ++ [v], upd_same, by rw [List.length_append]; exact hz', (g3'.append (.cons r' .nil)).kp kp fun _ _ n => n⟩ h3 h4 h2'
        exact k σ O _ w2 ((Fr.of_same s').trans f2)
      · cases e1
    · cases e1
/-- xs.pop(e) as a value -/
def ePop (i : Nat) (q : Qd) : Ed := fun env => match mineD i env with
  | some (.list ds) => match q env with
    | some (.int j) => if -(2 ^ 63) ≤ j ∧ j < 2 ^ 63 then match seqIndex? j ds.length with
        | some n => match ds[n]? with
          | some d => some (d, putM i (.list (ds.eraseIdx n)) env)
          | none => none
        | none => none
      else none
    | _ => none
  | _ => none
theorem ee_pop (i : Nat) {o : Expr} (ho : PE X o (tVar i)) (he : PQ X e q)
    (hbase : attributeBase o "pop" X.env (eval o X.env) = eval o X.env := by rfl)
    (hfew : ((backTo p (starEach (e :: []) X.env)).all (fun x => !x.1) && (backToKw p (keywordEach [] X.env)).all (fun x => x.1.isSome) && decide ((e :: []).length + ([] : List Keyword).length + (if ([] : List Keyword).isEmpty then 0 else 1) < 30)) = true := by rfl)
    (hline : (apos.endLine == p.line) = true := by rfl) (hst : starEach (e :: []) X.env = (false, eval e X.env) :: starEach [] X.env := by rfl) (hplain : (backTo p (starEach [] X.env)).any (·.1) = false := by rfl) :
    EE X (.Call (.Attribute o "pop" apos) [e] [] p) (ePop i q) :=
  pe_weak (pe_bm PySem.F.plainAttrs_list PySem.F.slot_list_pop PySem.F.type_list_pop mt_popAt ho (pa_cons he pa_nil hst) hbase hfew hline hst hplain) fun σ H Q ⟨T, pa, O, env, z, env', e1, w, k⟩ => by
    unfold ePop at e1
    split at e1
    · rename_i ds hm
      split at e1
      · rename_i j hq
        obtain ⟨hj, e1⟩ := if_some e1
        split at e1
        · rename_i n hn
          split at e1
          · rename_i d hd
            cases e1
            obtain ⟨a, h1, h2, h3, h4⟩ := w.mine hm
            obtain ⟨xs, g1, g2, g3⟩ := id h2
            refine ⟨.ref a, h1, .inl ⟨rfl, xs, .inl (.inl g1)⟩, T, pa, O, env, _, hq, w, fun v H' s' r' => ?_⟩
            have w' := w.same s'
            obtain ⟨a', h1', h2', _⟩ := w'.mine hm
            rw [h1] at h1'; cases h1'
            obtain ⟨xs', g1', g2', g3'⟩ := id h2'
            obtain ⟨y, y1, y2⟩ := g3'.get hd
            refine ⟨a, xs', j, n, y, rfl, by rw [r'.int], g1', hj.1, hj.2, by rw [g3'.length]; exact hn, y1, ?_⟩
            have kp := own_rep (u := .lst (xs'.eraseIdx n)) h3 g1' rfl
            obtain ⟨w2, f2⟩ := w'.change (d' := .list (ds.eraseIdx n)) hm h1 (u := .lst (xs'.eraseIdx n)) ⟨xs'.eraseIdx n, upd_same, Nat.le_trans (len_erase _ _) g2', (g3'.eraseIdx n).kp kp fun _ _ n => n⟩ h3 h4 h2'
            exact k y _ w2 ((Fr.of_same s').trans f2) (y2.kp kp fun _ _ n => n)
          · cases e1
        · cases e1
      · cases e1
    · cases e1
/-- x = e, e with effects -/
def dSetE (i : Nat) (f : Ed) : DS := fun env => match f env with
  | some (d, e) => if free i e = true then some (.nx (e.set i (some (.sh d)))) else none
  | none => none
theorem ss_setE (i : Nat) (hN : X.N.Nodup) (hi : X.N[i]? = some x) (hx : Loc X.env.scope x) (he : EE X e f) (hf : X.fn x = true ∨ X.env.scope.names.lookup x = some .local) (hs : swapsWith e (some (.Name x pos')) pos.line X.env = pure false := by rfl) :
    SS X (.Assign [.Name x pos'] e pos) (dSetE i f) := ps_weak (ps_set hN hi hx he hs hf) fun D σ H ⟨T, pa, O, env, out, e1, w, k⟩ => by
  unfold dSetE at e1
  split at e1
  · rename_i d env' h1
    obtain ⟨hf, rfl⟩ := some_if e1
    exact ⟨T, pa, O, env, d, env', h1, w, fun v H' w' f' r' => k _ O H' (w'.setSh hf r') f'⟩
  · cases e1
/-- target = e, e with effects -/
def dGetE (g : PD → SE → Option SE) (f : Ed) : DS := fun env => match f env with
  | some (d, e) => (g d e).map .nx
  | none => none
theorem ss_asgE {tg : Expr} {ix : List Nat} {g : PD → SE → Option SE} (he : EE X e f) (hg : GT X tg ix g) (hs : swapsWithSole [tg] e pos.line X.env = pure false := by rfl) (hw : swappedStores [tg] e X.env = pure none := by rfl)
    (h1 : (assignEach [tg] X.env).map (·.2) = [assign tg X.env] := by rfl) : SS X (.Assign [tg] e pos) (dGetE g f) := ps_weak (ps_asg he hg hs hw h1) fun D σ H ⟨T, pa, O, env, out, e1, w, k⟩ => by
  unfold dGetE at e1
  split at e1
  · rename_i d env1 h1
    obtain ⟨env2, h2, rfl⟩ := Option.map_eq_some_iff.mp e1
    exact ⟨T, pa, O, env, d, env1, h1, w, fun v H' w' f' r' => ⟨T, pa, O, env1, d, env2, h2, w', r', fun σ' w2 _ => k σ' O H' w2 f'⟩⟩
  · cases e1
def dRetE (f : Ed) : DS := fun env => (f env).map fun p => .rt p.1 p.2
theorem ss_retE (h : EE X e f) : SS X (.Return (some e) pos) (dRetE f) := ps_weak (ps_ret h) fun D σ H ⟨T, pa, O, env, out, e1, w, k⟩ => by
  obtain ⟨⟨d, env'⟩, h1, rfl⟩ := Option.map_eq_some_iff.mp e1
  exact ⟨T, pa, O, env, d, env', h1, w, fun v H' w' f' r' => k v σ O H' w' f' r'⟩
/-- x op= e -/
def dAug (i : Nat) (f : PD → PD → Option PD) (q : Qd) : DS := fun env => if free i env = true then do
    let d ← pVar i env
    let e ← q env
    let z ← f d e
    pure (.nx (env.set i (some (.sh z))))
  else none
def PIpOk (K : PySem.W.Frag) (r : TIp) (f : PD → PD → Option PD) : Prop :=
  ∀ (O : AS) (H : Hp) (v u : V) (d e z : PD) (Q : VK), (∀ a, O a → H a ≠ none) → RepT K H O v d → RepT K H O u e → f d e = some z → (∀ v' H', Same H H' → Rep K H' O v' z → Q v' H') → r v u H Q
theorem ok_ipI {f : Int → Int → Int} : PIpOk X.K (ipI f) (fun d e => match d, e with | .int i, .int j => some (.int (f i j)) | _, _ => none) := fun O H v u d e z Q _ r1 r2 e1 k => by
  simp only at e1
  split at e1
  · cases e1
    exact ⟨_, _, r1.int, r2.int, k _ H (Same.refl H) (.int _)⟩
  · cases e1
theorem ss_aug (i : Nat) {op : Operator} {r : TIp} {fo : PD → PD → Option PD} (hN : X.N.Nodup) (hi : X.N[i]? = some x) (hx : Loc X.env.scope x) (he : PQ X e q) (ho : PIp X op r) (hk : PIpOk X.K r fo) (hf : X.fn x = true ∨ X.env.scope.names.lookup x = some .local) :
    SS X (.AugAssign (.Name x pos') op e pos) (dAug i fo q) := ps_weak (ps_aug hN hi hx he ho hf) fun D σ H ⟨T, pa, O, env, out, e1, w, k⟩ => by
  obtain ⟨hf, e1⟩ := if_some e1
  obtain ⟨d, h1, h2⟩ := bind_some e1
  obtain ⟨d2, h3, h4⟩ := bind_some h2
  obtain ⟨z, h5, h6⟩ := bind_some h4
  cases h6
  unfold pVar at h1
  split at h1
  · rename_i s hs
    cases h1
    obtain ⟨v, g1, g2⟩ := w.slot hs
    refine ⟨v, g1, T, pa, O, env, d2, h3, w, fun u H' s' r' => ?_⟩
    refine hk O H' v u _ d2 z _ (w.same s').dom (g2.same s') r' h5 fun v' H2 s2 r2 => ?_
    exact k _ O H2 ((w.same (s'.trans s2)).setSh hf r2) (Fr.of_same (s'.trans s2))
  · cases h1
/-- xs[i] = e, xs a list of one's own -/
def dSetIx (i : Nat) (qi q : Qd) : DS := fun env => match mineD i env with
  | some (.list ds) => do
    let d ← q env
    match qi env with
    | some (.int j) => match ixN ds.length j with
      | some n => some (.nx (putM i (.list (ds.set n d)) env))
      | none => none
    | _ => none
  | _ => none
theorem ss_setIx (i : Nat) {o ix : Expr} {qi : Qd} {tpos : Pos} (ho : PE X o (tVar i)) (hi : PQ X ix qi) (he : QE X e q)
    (ha : ∀ v, assign (.Subscript o ix tpos) X.env v = (do
      let ov ← holding [v] (eval o X.env)
      let iv ← holding [v, ov] (eval ix X.env)
      standAt tpos
      holding [v, ov, iv] (setItem ov iv v)
      release [v, ov, iv] []) := by intro _; rfl)
    (hs : swapsWithSole [.Subscript o ix tpos] e pos.line X.env = pure false := by rfl) (hw : swappedStores [.Subscript o ix tpos] e X.env = pure none := by rfl)
    (h1 : (assignEach [.Subscript o ix tpos] X.env).map (·.2) = [assign (.Subscript o ix tpos) X.env] := by rfl) : SS X (.Assign [.Subscript o ix tpos] e pos) (dSetIx i qi q) :=
  ps_weak (ps_asg he (pg_sub ho hi set_list ha) hs hw h1) fun D σ H ⟨T, pa, O, env, out, e1, w, k⟩ => by
    unfold dSetIx at e1
    split at e1
    · rename_i ds hm
      obtain ⟨d, hq, e1⟩ := bind_some e1
      split at e1
      · rename_i j hj
        split at e1
        · rename_i n hn
          cases e1
          refine ⟨T, pa, O, env, d, hq, w, fun v H' s' r' => ?_⟩
          have w' := w.same s'
          obtain ⟨a, h1, h2, h3, h4⟩ := w'.mine hm
          refine ⟨.ref a, h1, T, pa, O, env, _, hj, w', fun u H2 s2 r2 => ?_⟩
          have w2 := w'.same s2
          obtain ⟨a', h1', h2', _⟩ := w2.mine hm
          rw [h1] at h1'; cases h1'
          obtain ⟨xs, g1, g2, g3⟩ := id h2'
          refine ⟨a, xs, j, n, rfl, r2.int, g1, by rw [g3.length]; exact hn, ?_⟩
          have kp := own_rep (u := .lst (xs.set n v)) h3 g1 rfl
          obtain ⟨w3, f3⟩ := w2.change (d' := .list (ds.set n d)) hm h1 (u := .lst (xs.set n v)) ⟨xs.set n v, upd_same, by rw [List.length_set]; exact g2, (g3.set (r'.same s2) n).kp kp fun _ _ n => n⟩ h3 h4 h2'
          exact k σ O _ w3 ((Fr.of_same (s'.trans s2)).trans f3)
        · cases e1
      · cases e1
    · cases e1
end
end D
end
section
set_option Elab.async false
set_option linter.all false
set_option maxRecDepth 100000
set_option maxHeartbeats 4000000
/-! The pure layer, part J: what is walked; for; while; comprehensions. -/
namespace D
open PySem PySem.Spec PyProof.Rows L2

/-- what is kept while one walks: true: what statements keep; false: everything -/
def Kp (b : Bool) (T O : AS) (H : Hp) (O' : AS) (H' : Hp) : Prop := match b with
  | true => Fr T O H O' H'
  | false => Same H H' ∧ ∀ a, H a ≠ none → ¬ O a → ¬ O' a
/-- the iterator yields the data ds, whatever happens that keeps what is read -/
structure Wk (K : PySem.W.Frag) (b : Bool) (T O : AS) (J : It) (H : Hp) (ds : List PD) : Prop where
  go : ∀ i O' H', Kp b T O H O' H' → i < ds.length → J.go i H'
  stop : ∀ O' H', Kp b T O H O' H' → J.stop ds.length H'
  yld : ∀ i O' H' v H'' d, Kp b T O H O' H' → ds[i]? = some d → J.yld i H' v H'' → Same H' H'' ∧ ((∀ a, O' a → H' a ≠ none) → Rep K H'' O' v d)
def tI (K : PySem.W.Frag) (b : Bool) (q : SE → Option (List PD)) : TI := fun σ H R => ∃ T pa O env ds, q env = some ds ∧ ER K T pa O σ H env ∧ ∀ J H', Same H H' → Wk K b T O J H' ds → R J H'
abbrev QI (X : Cx) (b : Bool) (tg e : Expr) (q : SE → Option (List PD)) : Prop := PI X tg e (tI X.K b q)
theorem pi_weak {X : Cx} {tg e : Expr} {t t' : TI} (h : PI X tg e t) (w : ∀ σ H R, t' σ H R → t σ H R) : PI X tg e t' := ⟨fun pins s σ H R I q => h.run pins s σ H R I (w σ H R q)⟩

/-! ### for -/
def dForL (g : PD → SE → Option SE) (b : DS) : List PD → SE → Option Out
  | [], env => some (.nx env)
  | d :: ds, env => match g d env with
    | none => none
    | some e => match b e with
      | some (.nx e) => dForL g b ds e
      | some (.ct e) => dForL g b ds e
      | some (.bk e) => some (.nx e)
      | some (.rt d e) => some (.rt d e)
      | none => none
def dFor (it : SE → Option (List PD)) (g : PD → SE → Option SE) (b : DS) : DS := fun env => match it env with
  | some ds => dForL g b ds env
  | none => none
section
variable {X : Cx} {tg iter e : Expr} {ix : List Nat} {body : List Stmt} {it : SE → Option (List PD)} {g : PD → SE → Option SE} {b : DS} {pos : Pos}
theorem ss_for (hp : PassesOwn (model X.prog X.w) X.A X.env X.xe) (hc : X.calm = true) (hi : QI X true tg iter it) (hg : GT X tg ix g) (hb : SSs X body b) (hs : ∀ x, foldedSetIterable iter X.env x = pure x := by intro _; rfl) :
    SS X (.For tg iter body [] pos) (dFor it g b) := ps_weak (ps_for hp hc hi hg hb hs) fun D σ H ⟨T, pa, O, env, out, e1, w, k⟩ => by
  unfold dFor at e1
  split at e1
  · rename_i ds h1
    refine ⟨T, pa, O, env, ds, h1, w, fun J H1 s1 wk => ?_⟩
    have k := k.fr (Fr.of_same s1)
    refine ⟨fun i m σ' H' => m = ds.length - i ∧ i ≤ ds.length ∧ ∃ O' env', dForL g b (ds.drop i) env' = some out ∧ ER X.K T pa O' σ' H' env' ∧ Fr T O H1 O' H', ⟨ds.length, rfl, Nat.zero_le _, O, env, e1, w.same s1, Fr.refl⟩, ?_⟩
    rintro i m σ' H' ⟨rfl, hi, O', env', e2, w', f'⟩
    by_cases hlt : i < ds.length
    · rw [List.drop_eq_getElem_cons hlt] at e2
      unfold dForL at e2
      refine .inr ⟨wk.go i O' H' f' hlt, fun σ2 H2 => ∃ O2 env2, dForL g b (ds.drop (i + 1)) env2 = some out ∧ ER X.K T pa O2 σ2 H2 env2 ∧ Fr T O H1 O2 H2, fun σ2 H2 ⟨O2, env2, q⟩ => ⟨ds.length - (i + 1), by omega, rfl, hlt, O2, env2, q⟩, fun x H2 y => ?_⟩
      obtain ⟨s2, r2⟩ := wk.yld i O' H' x H2 _ f' (List.getElem?_eq_getElem hlt) y
      have w2 := w'.same s2
      cases h2 : g ds[i] env' with
      | none => rw [h2] at e2; cases e2
      | some e3 =>
        rw [h2] at e2
        simp only at e2
        refine ⟨T, pa, O', env', _, e3, h2, w2, r2 w'.dom, fun σ3 w3 _ => ?_⟩
        have f2 := f'.trans (Fr.of_same s2)
        cases h3 : b e3 with
        | none => rw [h3] at e2; cases e2
        | some o =>
          rw [h3] at e2
          refine ⟨T, pa, O', e3, o, h3, w3, ?_⟩
          cases o with
          | nx e4 => exact fun σ4 O4 H4 w4 f4 => ⟨O4, e4, e2, w4, f2.trans f4⟩
          | ct e4 => exact fun σ4 O4 H4 w4 f4 => ⟨O4, e4, e2, w4, f2.trans f4⟩
          | bk e4 => cases e2; exact fun σ4 O4 H4 w4 f4 => k σ4 O4 H4 w4 (f2.trans f4)
          | rt d e4 => cases e2; exact fun v σ4 O4 H4 w4 f4 r4 => k v σ4 O4 H4 w4 (f2.trans f4) r4
    · have hi' : i = ds.length := by omega
      subst hi'
      rw [List.drop_eq_nil_of_le (Nat.le_refl _)] at e2
      cases e2
      exact .inl ⟨wk.stop O' H' f', k σ' O' H' w' f'⟩
  · cases e1

/-! ### while -/
def dWhN (c : SE → Option Bool) (b : DS) : Nat → SE → Option Out
  | 0, _ => none
  | n + 1, env => match c env with
    | none => none
    | some false => some (.nx env)
    | some true => match b env with
      | some (.nx e) => dWhN c b n e
      | some (.ct e) => dWhN c b n e
      | some (.bk e) => some (.nx e)
      | some (.rt d e) => some (.rt d e)
      | none => none
open Classical in
noncomputable def dWh (c : SE → Option Bool) (b : DS) : DS := fun env => if h : ∃ n o, dWhN c b n env = some o then some (choose (choose_spec h)) else none
theorem dWhN_mono {c : SE → Option Bool} {b : DS} : ∀ (n m : Nat) (env : SE) (o : Out), dWhN c b n env = some o → n ≤ m → dWhN c b m env = some o
  | 0, _, _, _, h, _ => nomatch h
  | n + 1, 0, _, _, _, h => absurd h (Nat.not_succ_le_zero _)
  | n + 1, m + 1, env, o, h, hm => by
    unfold dWhN at h ⊢
    have ih := dWhN_mono (c := c) (b := b) n m
    cases h1 : c env with
    | none => rw [h1] at h; cases h
    | some t =>
      rw [h1] at h
      cases t with
      | false => exact h
      | true =>
        simp only at h ⊢
        cases h2 : b env with
        | none => rw [h2] at h; cases h
        | some o2 =>
          rw [h2] at h
          cases o2 with
          | nx e => exact ih e o h (Nat.le_of_succ_le_succ hm)
          | ct e => exact ih e o h (Nat.le_of_succ_le_succ hm)
          | bk e => exact h
          | rt d e => exact h
theorem dWh_of {c : SE → Option Bool} {b : DS} {n : Nat} {env : SE} {o : Out} (h : dWhN c b n env = some o) : dWh c b env = some o := by
  have hx : ∃ n o, dWhN c b n env = some o := ⟨n, o, h⟩
  unfold dWh
  rw [dif_pos hx]
  have h2 := Classical.choose_spec (Classical.choose_spec hx)
  have a1 := dWhN_mono n (n + Classical.choose hx) env o h (Nat.le_add_right _ _)
  have a2 := dWhN_mono (Classical.choose hx) (n + Classical.choose hx) env _ h2 (Nat.le_add_left _ _)
  rw [a1] at a2
  exact a2.symm
theorem dWh_ex {c : SE → Option Bool} {b : DS} {env : SE} {o : Out} (h : dWh c b env = some o) : ∃ n, dWhN c b n env = some o := by
  unfold dWh at h
  split at h
  · rename_i hx
    cases h
    exact ⟨_, Classical.choose_spec (Classical.choose_spec hx)⟩
  · cases h
theorem ss_while {c : Expr} {tc : SE → Option Bool} (hp : PassesOwn (model X.prog X.w) X.A X.env X.xe) (hc : TQ X c tc) (hb : SSs X body b) : SS X (.While c body [] pos) (dWh tc b) :=
  ps_weak (ps_while hp hc hb) fun D σ H ⟨T, pa, O, env, out, e1, w, k⟩ => by
    obtain ⟨n, e1⟩ := dWh_ex e1
    refine ⟨fun m σ' H' => ∃ O' env', dWhN tc b m env' = some out ∧ ER X.K T pa O' σ' H' env' ∧ Fr T O H O' H', ⟨n, O, env, e1, w, Fr.refl⟩, ?_⟩
    rintro m σ' H' ⟨O', env', e2, w', f'⟩
    cases m with
    | zero => cases e2
    | succ m =>
      unfold dWhN at e2
      cases h1 : tc env' with
      | none => rw [h1] at e2; cases e2
      | some t =>
        rw [h1] at e2
        refine ⟨T, pa, O', env', t, h1, w', fun H2 s2 => ?_⟩
        have w2 := w'.same s2
        have f2 := f'.trans (Fr.of_same s2)
        cases t with
        | false =>
          cases e2
          show (if false = true then _ else _)
          rw [if_neg Bool.false_ne_true]
          exact k σ' O' H2 w2 f2
        | true =>
          show (if true = true then _ else _)
          rw [if_pos rfl]
          simp only at e2
          refine ⟨fun σ4 H4 => ∃ O4 env4, dWhN tc b m env4 = some out ∧ ER X.K T pa O4 σ4 H4 env4 ∧ Fr T O H O4 H4, fun σ4 H4 q => ⟨m, Nat.lt_succ_self m, q⟩, ?_⟩
          cases h3 : b env' with
          | none => rw [h3] at e2; cases e2
          | some o =>
            rw [h3] at e2
            refine ⟨T, pa, O', env', o, h3, w2, ?_⟩
            cases o with
            | nx e4 => exact fun σ4 O4 H4 w4 f4 => ⟨O4, e4, e2, w4, f2.trans f4⟩
            | ct e4 => exact fun σ4 O4 H4 w4 f4 => ⟨O4, e4, e2, w4, f2.trans f4⟩
            | bk e4 => cases e2; exact fun σ4 O4 H4 w4 f4 => k σ4 O4 H4 w4 (f2.trans f4)
            | rt d e4 => cases e2; exact fun v σ4 O4 H4 w4 f4 r4 => k v σ4 O4 H4 w4 (f2.trans f4) r4
end
end D
end
section
set_option Elab.async false
set_option linter.all false
set_option maxRecDepth 100000
set_option maxHeartbeats 4000000
/-! The pure layer, part K: enumerate and zip over lists and tuples in any mix. -/
namespace D
open PySem PySem.Spec PyProof.Rows L2

/-- a list or a tuple that is walked -/
inductive Sq where
  | l (a : Addr) | t (a : Addr)
def Sq.adr : Sq → Addr
  | .l a => a
  | .t a => a
def Sq.has (K : PySem.W.Frag) (H : Hp) : Sq → List V → Prop
  | .l a, xs => SqL K H a xs
  | .t a, xs => SqT K H a xs
def Sq.itr : Sq → Addr → Nat → Heap → Prop
  | .l a, it, i, h => h.IsListIter it a i
  | .t a, it, i, h => h.IsTupleIter it a i
def Sq.is : Sq → Heap → Array Value → Prop
  | .l a, h, xs => h.IsList a xs
  | .t a, h, xs => h.IsTuple a xs
def Sq.ob : Sq → Obj
  | .l a => { cls := .type "list_iterator", data := .fields #[.ref a, .int 0 0] }
  | .t a => { cls := .type "tuple_iterator", data := .fields #[.ref a, .int 0 0] }
section
variable {prog : Program} {w : World} {A : Around} {X : Cx} {pins : List (Addr × Obj)} {σ : L2.St} {H : Hp} {s : Shared} {h h' : Heap} {it : Addr} {i : Nat} {xs ys : List V}
theorem Sq.draws (q : Sq) (hh : A.handled = none) (it : Addr) (hne : q.adr ≠ it) (items : Array Value) : Draws prog w A it [it, q.adr] items.size (fun i v => items[i]? = some v) (fun i h => q.itr it i h ∧ q.is h items) := by
  cases q with
  | l a => exact Draws.list hh it a hne items
  | t a => exact Draws.tuple hh it a hne items
theorem Sq.begins (q : Sq) (items : Array Value) : Begins (.ref q.adr) q.ob (fun h => q.is h items) := by
  cases q with
  | l a => exact begins_list a items
  | t a => exact begins_tuple a items
theorem Sq.of {q : Sq} (I : Inv X pins σ H s) (h : q.has X.K H xs) : ∃ its : List Value, Vals xs its ∧ q.is s.heap its.toArray ∧ xs.length ≤ sizeLine := by
  cases q with
  | l a => obtain ⟨its, rv, p, hz⟩ := I.list h; exact ⟨its, rv, p.isList, hz⟩
  | t a => obtain ⟨its, rv, p, hz⟩ := I.tuple h; exact ⟨its, rv, p, hz⟩
theorem Sq.inj {q : Sq} (I : Inv X pins σ H s) (h : q.has X.K H xs) (h' : q.has X.K H ys) : xs = ys := by
  cases q with
  | l a => exact I.list_inj h h'
  | t a => exact I.tuple_inj h h'
theorem Sq.itrAt {q : Sq} (st : q.itr it i h) (k : ∀ o, h.get? it = some o → h'.get? it = some o) : q.itr it i h' := by
  cases q with
  | l a => exact Heap.IsListIter.at st k
  | t a => exact Heap.IsTupleIter.at st k
theorem Sq.itr0 {q : Sq} (e : h.get? it = some q.ob) : q.itr it 0 h := by
  cases q with
  | l a => exact ⟨_, e, rfl, rfl⟩
  | t a => exact ⟨_, e, rfl, rfl⟩
theorem Sq.itrOb {q : Sq} (st : q.itr it i h) : ∃ o, h.get? it = some o ∧ (∀ v, o.data ≠ .cell v) ∧ ∀ c, o.cls = .type c → c ≠ "list" ∧ c ≠ "tuple" := by
  cases q with
  | l a =>
    obtain ⟨o, e, c, d⟩ := st
    exact ⟨o, e, fun v z => (by rw [d] at z; cases z), fun x z => (by rw [c] at z; cases z; decide)⟩
  | t a =>
    obtain ⟨o, e, c, d⟩ := st
    exact ⟨o, e, fun v z => (by rw [d] at z; cases z), fun x z => (by rw [c] at z; cases z; decide)⟩
theorem Sq.cls {q : Sq} {its : Array Value} (st : q.is h its) : ∃ o c, h.get? q.adr = some o ∧ o.cls = .type c ∧ (c = "list" ∨ c = "tuple") := by
  cases q with
  | l a => obtain ⟨o, e, c, _⟩ := st; exact ⟨o, _, e, c, .inl rfl⟩
  | t a => obtain ⟨o, e, c, _⟩ := st; exact ⟨o, _, e, c, .inr rfl⟩
theorem Sq.ne {q : Sq} {its : Array Value} (st : q.is h its) {b : Addr} {o : Obj} (e : h.get? b = some o) (hc : ∀ c, o.cls = .type c → c ≠ "list" ∧ c ≠ "tuple") : q.adr ≠ b := fun z => by
  obtain ⟨o', c, e', c', d⟩ := Sq.cls st
  rw [z, e] at e'; cases e'
  obtain ⟨n1, n2⟩ := hc c c'
  rcases d with d | d
  · exact n1 d
  · exact n2 d
theorem Sq.neIt {q r : Sq} {its : Array Value} (st : q.is h its) (si : r.itr it i h) : q.adr ≠ it := by
  obtain ⟨o, e, _, c⟩ := Sq.itrOb si
  exact Sq.ne st e c
end

/-! ### enumerate -/
def ItEn (K : PySem.W.Frag) (q : Sq) : It :=
  ⟨fun i H => ∃ (xs : List V) (x : V), q.has K H xs ∧ xs[i]? = some x, fun i H v H' => ∃ T x, v = .ref T ∧ H T = none ∧ H' = upd H T (.tup [.int (i : Nat), x]) ∧ ∀ xs, q.has K H xs → xs[i]? = some x, fun i H => ∃ xs : List V, q.has K H xs ∧ xs.length = i⟩
theorem turn_enumG {P : Program} {w : World} {K : PySem.W.Frag} {elts : List Expr} {kk : Nat} {tpos : Pos} (q : Sq) (e it : Addr) :
    Turn P w K (.Tuple elts kk tpos) (ItEn K q) [e, it] e (fun i h => (∃ old, IsEnum h e it ((0 : Int) + (i : Int)) old) ∧ q.itr it i h ∧ e ≠ it) where
  mem := by simp
  obj := fun i h st b hb => by
    obtain ⟨⟨old, he⟩, hit, _⟩ := st
    obtain ⟨o, ho, hd, _⟩ := Sq.itrOb hit
    have e' : b = e ∨ b = it := by simpa using hb
    rcases e' with z | z
    · rw [z]; exact ⟨_, he, fun v q => nomatch q⟩
    · rw [z]; exact ⟨o, ho, hd⟩
  keep := fun i h h' st k => let ⟨⟨old, he⟩, hi, hne⟩ := st; ⟨⟨old, k e (by simp) _ he⟩, Sq.itrAt hi fun o q => k it (by simp) o q, hne⟩
  item := by
    intro X hP hw hK hc i pins s σ H E I hf st hg
    subst hP hw hK
    obtain ⟨⟨old, he⟩, hit, hne⟩ := st
    obtain ⟨xs, x, hq, hx⟩ := hg
    obtain ⟨its, rv, p, hz⟩ := Sq.of I hq
    obtain ⟨u, hu, ru⟩ := rv.get hx
    have hel : e < s.heap.objs.size := Heap.lt_size he
    have hil : it < s.heap.objs.size := by obtain ⟨_, q, _⟩ := Sq.itrOb hit; exact Heap.lt_size q
    have nqi := Sq.neIt p hit
    have nqe : q.adr ≠ e := Sq.ne p he fun c z => by cases z; decide
    have hlt : i < its.toArray.size := by
      have := (List.getElem?_eq_some_iff.mp hu).1
      simpa using this
    have D := q.draws (prog := X.prog) (w := X.w) (A := X.A.in1) (I.ok.hd hc) it nqi its.toArray
    refine wpAny_pyNext_enum_itemC D he ⟨hit, p⟩ hlt hne (by simp; exact ⟨hne, Ne.symm nqe⟩) fun u' h' tk hu' ho hst' hT hsz hk => ?_
    have hu2 : u' = u := by
      have z : its.toArray[i]? = some u := by simpa using hu
      rw [z] at hu'; cases hu'; rfl
    subst hu2
    refine ⟨_, rfl, wpAny_letOwnedTupleGo_enum (s := { s with heap := h', toks := tk + 1 }) ho fun h'' he' sb => ?_⟩
    have hT2 : h''.get? s.heap.objs.size = some { cls := .type "tuple", data := .seq #[.int ((0 : Int) + (i : Int)) tk, u'] } := (sb.2 _ (Nat.ne_of_gt hel)).trans hT
    have new : ObjOk X.prog X.w (upd H s.heap.objs.size (.tup [.int (i : Nat), x])) h'' s.heap.objs.size (.tup [.int (i : Nat), x]) :=
      ⟨by show 2 ≤ sizeLine; decide, [.int ((0 : Int) + (i : Int)) tk, u'], .cons ⟨_, by rw [Int.zero_add]⟩ (.cons ru .nil), ⟨_, hT2, rfl, _, rfl⟩⟩
    have I1 : Inv X pins σ (upd H s.heap.objs.size (.tup [.int (i : Nat), x])) { s with heap := h'', toks := tk + 1 } :=
      I.turnedNew (ch := [e, it]) (fun b ob hb q => (sb.2 b (fun z => hb (by simp [z]))).trans (hk b ob (fun z => hb (by simp [z])) (fun z => hb (by simp [z])) q)) hf (Nat.le_refl _) new
    refine ⟨.ref s.heap.objs.size, _, I1, rfl, ⟨_, x, rfl, I.hok.fresh (Nat.le_refl _), rfl, fun ys hy => by rw [Sq.inj I hy hq]; exact hx⟩, ⟨⟨u', ?_⟩, Sq.itrAt hst'.1 fun o q => (sb.2 it (Ne.symm hne)).trans q, hne⟩, fun b hb => ?_⟩
    · have e1 : (0 : Int) + ((i + 1 : Nat) : Int) = (0 : Int) + (i : Int) + 1 := by omega
      rw [e1]; exact he'
    · have hb' : b < s.heap.objs.size := by
        have e' : b = e ∨ b = it := by simpa using hb
        rcases e' with z | z
        · rw [z]; exact hel
        · rw [z]; exact hil
      rw [upd_ne (Nat.ne_of_lt hb')]
      exact (hf b hb).1
  done := by
    intro X hP hw hK hc i pins s σ H E I hf st hg
    subst hP hw hK
    obtain ⟨⟨old, he⟩, hit, hne⟩ := st
    obtain ⟨xs, hq, hx⟩ := hg
    obtain ⟨its, rv, p, hz⟩ := Sq.of I hq
    obtain ⟨f0, f1, f2, f3, f4, f5⟩ := hf it (by simp)
    have nqi := Sq.neIt p hit
    have hn : its.toArray.size = i := by rw [← hx, rv.length]; simp
    have D := q.draws (prog := X.prog) (w := X.w) (A := X.A.in1) (I.ok.hd hc) it nqi its.toArray
    exact wpAny_pyNext_enum_endD D he (by rw [hn]; exact ⟨hit, p⟩) fun h' eb => ⟨rfl, I.turned (t' := s.toks) (fun b o hb q => eb b o hb q) f0 f1 f3 f4 f5⟩
  self := fun A i s Q E st h => let ⟨⟨_, he⟩, _⟩ := st; wpAny_pyIter_enum he h

/-! ### zip -/
def ItZp (K : PySem.W.Frag) (q r : Sq) : It :=
  ⟨fun i H => ∃ (xs ys : List V) (x y : V), q.has K H xs ∧ r.has K H ys ∧ xs[i]? = some x ∧ ys[i]? = some y,
    fun i H v H' => ∃ T x y, v = .ref T ∧ H T = none ∧ H' = upd H T (.tup [x, y]) ∧ (∀ xs, q.has K H xs → xs[i]? = some x) ∧ ∀ ys, r.has K H ys → ys[i]? = some y,
    fun i H => ∃ xs ys : List V, q.has K H xs ∧ r.has K H ys ∧ min xs.length ys.length = i⟩
/-- the zip's cells lie apart -/
structure ZA (z TI TO i1 i2 : Addr) : Prop where
  TIz : TI ≠ z
  TOz : TO ≠ z
  TITO : TI ≠ TO
  TI1 : TI ≠ i1
  TI2 : TI ≠ i2
  z1 : z ≠ i1
  z2 : z ≠ i2
  T1 : TO ≠ i1
  T2 : TO ≠ i2
  n12 : i1 ≠ i2
theorem ZA.sep {z TI TO i1 i2 a b : Addr} (D : ZA z TI TO i1 i2) (za : z ≠ a) (zb : z ≠ b) (Ta : TO ≠ a) (Tb : TO ≠ b) (a2 : i1 ≠ b) (b1 : i2 ≠ a) : ZipSep2 z TI TO i1 i2 [i1, a] [i2, b] where
  TIz := D.TIz
  TOz := D.TOz
  TITO := D.TITO
  TIi1 := D.TI1
  mem1 := by simp
  zf1 := by simp; exact ⟨D.z1, za⟩
  Tf1 := by simp; exact ⟨D.T1, Ta⟩
  TIi2 := D.TI2
  mem2 := by simp
  zf2 := by simp; exact ⟨D.z2, zb⟩
  Tf2 := by simp; exact ⟨D.T2, Tb⟩
  sep1_2 := by simp; exact ⟨D.n12, a2⟩
  sep2_1 := by simp; exact ⟨Ne.symm D.n12, b1⟩
/-- a tracked object is no cell of the iterator's: it is there in H, or a constant of K -/
theorem Sq.nfp {X : Cx} {pins : List (Addr × Obj)} {σ : L2.St} {H : Hp} {s : Shared} {q : Sq} {xs : List V} (I : Inv X pins σ H s) (h : q.has X.K H xs) {b : Addr} (hb : FpOk X pins H b) : b ≠ q.adr := fun e => by
  have n0 := hb.1
  have kk : ∀ o, X.base.get? b = some o → False := fun o k => by
    have z := hb.2.2.2.1
    rcases z with z | z
    · exact I.ok.noex b o k z
    · exact absurd (Nat.lt_of_lt_of_le (Heap.lt_size k) I.ok.bsz) (Nat.not_lt.mpr z)
  cases q with
  | l a =>
    obtain rfl : b = a := e
    rcases h with h | ⟨o, its, n, hk, _⟩
    · rcases h with h | ⟨o, h⟩
      · rw [n0] at h; cases h
      · rw [n0] at h; cases h
    · exact kk _ (I.mod.kin _ _ hk)
  | t a =>
    obtain rfl : b = a := e
    rcases h with h | ⟨o, its, n, hk, _⟩
    · rcases h with h | ⟨o, h⟩
      · rw [n0] at h; cases h
      · rw [n0] at h; cases h
    · exact kk _ (I.mod.kin _ _ hk)

theorem turn_zipG {P : Program} {w : World} {K : PySem.W.Frag} {elts : List Expr} {kk : Nat} {tpos : Pos} {q r : Sq} {z TI TO i1 i2 : Addr} (Z : ZA z TI TO i1 i2) :
    Turn P w K (.Tuple elts kk tpos) (ItZp K q r) [z, TI, TO, i1, i2] z (fun i h => IsZip h z TI TO .none ∧ IsTupOf2 h TI (.ref i1) (.ref i2) ∧ (∃ a1 a2, IsTupOf2 h TO a1 a2) ∧ q.itr i1 i h ∧ r.itr i2 i h) where
  mem := by simp
  obj := fun i h st c hc => by
    obtain ⟨hz, hTI, ⟨x, y, hTO⟩, h1, h2⟩ := st
    obtain ⟨o1, e1, d1, _⟩ := Sq.itrOb h1
    obtain ⟨o2, e2, d2, _⟩ := Sq.itrOb h2
    have e' : c = z ∨ c = TI ∨ c = TO ∨ c = i1 ∨ c = i2 := by simpa using hc
    rcases e' with q | q | q | q | q
    · rw [q]; exact ⟨_, hz, fun v q => nomatch q⟩
    · rw [q]; exact ⟨_, hTI, fun v q => nomatch q⟩
    · rw [q]; exact ⟨_, hTO, fun v q => nomatch q⟩
    · rw [q]; exact ⟨o1, e1, d1⟩
    · rw [q]; exact ⟨o2, e2, d2⟩
  keep := fun i h h' st k => by
    obtain ⟨hz, hTI, ⟨x, y, hTO⟩, h1, h2⟩ := st
    exact ⟨k z (by simp) _ hz, k TI (by simp) _ hTI, ⟨x, y, k TO (by simp) _ hTO⟩, Sq.itrAt h1 fun o q => k i1 (by simp) o q, Sq.itrAt h2 fun o q => k i2 (by simp) o q⟩
  item := by
    intro X hP hw hK hc i pins s σ H E I hf st hg
    subst hP hw hK
    obtain ⟨hz, hTI, ⟨x0, y0, hTO⟩, h1, h2⟩ := st
    obtain ⟨xs, ys, x, y, hqx, hqy, hx, hy⟩ := hg
    obtain ⟨its, rv, p, _⟩ := Sq.of I hqx
    obtain ⟨its2, rv2, p2, _⟩ := Sq.of I hqy
    obtain ⟨u, hu, ru⟩ := rv.get hx
    obtain ⟨u2, hu2, ru2⟩ := rv2.get hy
    have hzl : z < s.heap.objs.size := Heap.lt_size hz
    have na : ∀ b ∈ [z, TI, TO, i1, i2], b ≠ q.adr := fun b hb => Sq.nfp I hqx (hf b hb)
    have nb : ∀ b ∈ [z, TI, TO, i1, i2], b ≠ r.adr := fun b hb => Sq.nfp I hqy (hf b hb)
    have S := Z.sep (na z (by simp)) (nb z (by simp)) (na TO (by simp)) (nb TO (by simp)) (nb i1 (by simp)) (na i2 (by simp))
    have D1 := q.draws (prog := X.prog) (w := X.w) (A := X.A.in1) (I.ok.hd hc) i1 (Ne.symm (na i1 (by simp))) its.toArray
    have D2 := r.draws (prog := X.prog) (w := X.w) (A := X.A.in1) (I.ok.hd hc) i2 (Ne.symm (nb i2 (by simp))) its2.toArray
    have hl1 : i < its.toArray.size := by have := (List.getElem?_eq_some_iff.mp hu).1; simpa using this
    have hl2 : i < its2.toArray.size := by have := (List.getElem?_eq_some_iff.mp hu2).1; simpa using this
    refine wpAny_pyNext_zipD2_item S D1 D2 hz hTI hTO ⟨h1, p⟩ ⟨h2, p2⟩ hl1 hl2 fun x1 x2 h' tk y1 y2 z' TO' st1 st2 hT hsz hk => ?_
    have e1 : x1 = u := by have z : its.toArray[i]? = some u := by simpa using hu
                           rw [z] at y1; cases y1; rfl
    have e2 : x2 = u2 := by have z : its2.toArray[i]? = some u2 := by simpa using hu2
                            rw [z] at y2; cases y2; rfl
    subst e1 e2
    refine ⟨_, rfl, wpAny_letOwnedTupleGo_zip (s := { s with heap := h', toks := tk }) z' fun h'' z'' sb => ?_⟩
    have hT2 : h''.get? s.heap.objs.size = some { cls := .type "tuple", data := .seq #[x1, x2] } := (sb.2 _ (Nat.ne_of_gt hzl)).trans hT
    have new : ObjOk X.prog X.w (upd H s.heap.objs.size (.tup [x, y])) h'' s.heap.objs.size (.tup [x, y]) :=
      ⟨by show 2 ≤ sizeLine; decide, [x1, x2], .cons ru (.cons ru2 .nil), ⟨_, hT2, rfl, _, rfl⟩⟩
    have I1 : Inv X pins σ (upd H s.heap.objs.size (.tup [x, y])) { s with heap := h'', toks := tk } :=
      I.turnedNew (t' := tk) (ch := [z, TI, TO, i1, i2]) (fun c o hb q => (sb.2 c (fun q' => hb (by simp [q']))).trans (hk c o (fun q' => hb (by simp [q'])) (fun q' => hb (by simp [q'])) (fun q' => hb (by simp [q'])) (fun q' => hb (by simp [q'])) q)) hf (Nat.le_refl _) new
    refine ⟨.ref s.heap.objs.size, _, I1, rfl, ⟨_, x, y, rfl, I.hok.fresh (Nat.le_refl _), rfl, fun l hl => by rw [Sq.inj I hl hqx]; exact hx, fun l hl => by rw [Sq.inj I hl hqy]; exact hy⟩, ⟨z'', ?_, ⟨x1, x2, ?_⟩, ?_, ?_⟩, fun c hcm => ?_⟩
    · exact (sb.2 _ Z.TIz).trans (hk _ _ Z.TIz Z.TITO Z.TI1 Z.TI2 hTI)
    · exact (sb.2 _ Z.TOz).trans TO'
    · exact Sq.itrAt st1.1 fun o q => (sb.2 _ (Ne.symm Z.z1)).trans q
    · exact Sq.itrAt st2.1 fun o q => (sb.2 _ (Ne.symm Z.z2)).trans q
    · have hlt : c < s.heap.objs.size := by
        have e' : c = z ∨ c = TI ∨ c = TO ∨ c = i1 ∨ c = i2 := by simpa using hcm
        rcases e' with q | q | q | q | q
        · rw [q]; exact hzl
        · rw [q]; exact Heap.lt_size hTI
        · rw [q]; exact Heap.lt_size hTO
        · rw [q]; obtain ⟨_, e1, _⟩ := Sq.itrOb h1; exact Heap.lt_size e1
        · rw [q]; obtain ⟨_, e2, _⟩ := Sq.itrOb h2; exact Heap.lt_size e2
      rw [upd_ne (Nat.ne_of_lt hlt)]
      exact (hf c hcm).1
  done := by
    intro X hP hw hK hc i pins s σ H E I hf st hg
    subst hP hw hK
    obtain ⟨hz, hTI, ⟨x0, y0, hTO⟩, h1, h2⟩ := st
    obtain ⟨xs, ys, hqx, hqy, hend⟩ := hg
    obtain ⟨its, rv, p, _⟩ := Sq.of I hqx
    obtain ⟨its2, rv2, p2, _⟩ := Sq.of I hqy
    have na : ∀ b ∈ [z, TI, TO, i1, i2], b ≠ q.adr := fun b hb => Sq.nfp I hqx (hf b hb)
    have nb : ∀ b ∈ [z, TI, TO, i1, i2], b ≠ r.adr := fun b hb => Sq.nfp I hqy (hf b hb)
    have S := Z.sep (na z (by simp)) (nb z (by simp)) (na TO (by simp)) (nb TO (by simp)) (nb i1 (by simp)) (na i2 (by simp))
    have D1 := q.draws (prog := X.prog) (w := X.w) (A := X.A.in1) (I.ok.hd hc) i1 (Ne.symm (na i1 (by simp))) its.toArray
    have D2 := r.draws (prog := X.prog) (w := X.w) (A := X.A.in1) (I.ok.hd hc) i2 (Ne.symm (nb i2 (by simp))) its2.toArray
    have l1 := rv.length
    have l2 := rv2.length
    have s1 : its.toArray.size = xs.length := by simp [l1]
    have s2 : its2.toArray.size = ys.length := by simp [l2]
    exact wpAny_pyNext_zipD2_end S D1 D2 hz hTI hTO ⟨h1, p⟩ ⟨h2, p2⟩ (by omega) (by omega) (by omega) fun h' tk hk => ⟨rfl, I.turnedL (t' := tk) (ch := [z, TI, TO, i1, i2]) (fun c o hb q =>
      hk c o (fun q' => hb (by simp [q'])) (fun q' => hb (by simp [q'])) (fun q' => hb (by simp [q'])) (fun q' => hb (by simp [q'])) q) hf⟩
  self := fun A i s Q E st h => wpAny_pyIter_zip st.1 h

/-! ### enumerate(x) begins, x walked by itself or by a new object -/
structure Beg (v : Value) (it : Heap → Addr) (nh : Heap → Heap) (Hs : Heap → Prop) : Prop where
  iter : ∀ (prog : Program) (w : World) (A : Around) (E : Value → Shared → Prop) (s : Shared) (Q : Value → Shared → Prop), Hs s.heap → Q (.ref (it s.heap)) { s with heap := nh s.heap } → wpAny (model prog w) A (pyIter v) Q E s
  keep : ∀ h b o, h.get? b = some o → (nh h).get? b = some o
theorem Beg.of {v : Value} {o : Obj} {Hs : Heap → Prop} (B : Begins v o Hs) : Beg v (fun h => h.objs.size) (fun h => h.push o) Hs := ⟨B.iter, fun h b o e => Heap.get?_push_of_some _ e⟩
abbrev enOb (a : Addr) : Obj := { cls := .type "enumerate", data := .fields #[.none, .bool false, .ref a, rawInt 0, .none, .none] }
theorem meets_enumB {v : Value} {it : Heap → Addr} {nh : Heap → Heap} {Hs : Heap → Prop} (B : Beg v it nh Hs) :
    Meets (Builtin.«enumerate.__new__» ⟨[.type "enumerate", v], []⟩) (fun _ R s => Hs s.heap ∧
      R (.ok (.ret (.ref (nh s.heap).objs.size))) { s with heap := (nh s.heap).push (enOb (it s.heap)) }) :=
  .of_wp fun prog w A R s h => by
    obtain ⟨hp, g, d, tk, os⟩ := s; obtain ⟨h1, h⟩ := h
    have hsub := sub_enumerate
    have q1 : ∀ {A' : Around} {E : Value → Shared → Prop} {Q : Value → Shared → Prop}, Q (.ref (it hp)) ⟨nh hp, g, d, tk, os⟩ → wpAny (model prog w) A' (pyIter v) Q E ⟨hp, g, d, tk, os⟩ :=
      fun q => B.iter prog w _ _ ⟨hp, g, d, tk, os⟩ _ h1 q
    wp_walk using q1
    refine wpAny_stack_any fun st => wpAny_pure ?_
    split
    · rename_i c _ _ _ _ _
      cases (c == Value.type "enumerate")
      · wp_walk using q1
        exact ⟨_, rfl, h⟩
      · wp_walk using q1
        exact ⟨_, rfl, h⟩
    · wp_walk using q1
      exact ⟨_, rfl, h⟩
theorem call_enumB {prog : Program} {w : World} {A : Around} {E : Value → Shared → Prop} {s : Shared} {v : Value} {it : Heap → Addr} {nh : Heap → Heap} {Hs : Heap → Prop} {Q : Value → Shared → Prop} (B : Beg v it nh Hs) (h1 : Hs s.heap)
    (h : IsEnum ((nh s.heap).push (enOb (it s.heap))) (nh s.heap).objs.size (it s.heap) 0 .none → Q (.ref (nh s.heap).objs.size) { s with heap := (nh s.heap).push (enOb (it s.heap)) }) :
    wpAny (model prog w) A (call (.type "enumerate") [v]) Q E s := by
  have he : IsEnum ((nh s.heap).push (enOb (it s.heap))) (nh s.heap).objs.size (it s.heap) 0 .none := Heap.get?_push_size (nh s.heap) (o := enOb (it s.heap)) rfl
  refine callType_new F.called_enumerate (by decide) (F.typeCall_enumerate_1 _) (F.newCall_enumerate_1 _) (fun obj => F.args_object_init_2 obj _) F.entry_enumerate_new
    (meets_enumB B) ⟨h1, ?_⟩
  exact ⟨⟨_, he, rfl⟩, h he⟩
section
variable {X : Cx}
def iEnG (K : PySem.W.Frag) (te : TE) : TI := fun σ H R => te σ H fun v H1 => ∃ q xs, v = .ref (Sq.adr q) ∧ q.has K H1 xs ∧ R (ItEn K q) H1
theorem pi_enumG {e : Expr} {te : TE} {p pos tpos : Pos} {elts : List Expr} {kk : Nat} (hg : Gl X "enumerate") (hm : X.mg "enumerate" = none) (he : PE X e te) (hs : starEach [e] X.env = (false, eval e X.env) :: starEach [] X.env := by rfl) :
    PI X (.Tuple elts kk tpos) (.Call (.Name "enumerate" p) [e] [] pos) (iEnG X.K te) := by
  refine ⟨fun pins s σ H R I h => ?_⟩
  refine Call_ (ld_blt I hg hm PyProof.Rows.boot_enumerate (PyProof.Rows.callWith_type1 (args_cons (thn (he.run pins s σ H _ I h) fun u s1 ⟨v, H1, I1, r1, q1⟩ => args_nil ?_) hs) hs rfl))
  obtain ⟨q, xs, ev, hq, k⟩ := q1
  subst ev
  obtain rfl : u = Value.ref q.adr := r1
  obtain ⟨its, rv, p', hz⟩ := Sq.of I1 hq
  refine call_enumB (Beg.of (q.begins its.toArray)) p' fun he => wpAny_pyIter_enum he ?_
  have hz1 : (s1.heap.push q.ob).objs.size = s1.heap.objs.size + 1 := Heap.size_push ..
  have I2 : Inv X pins σ H1 { s1 with heap := (s1.heap.push q.ob).push (enOb s1.heap.objs.size) } := I1.kept (t' := s1.toks) fun b o e => Heap.get?_push_of_some _ (Heap.get?_push_of_some _ e)
  have hit : ((s1.heap.push q.ob).push (enOb s1.heap.objs.size)).get? s1.heap.objs.size = some q.ob := Heap.get?_push_of_some _ (Heap.get?_push_size _ (q.begins its.toArray).free)
  refine ⟨(s1.heap.push q.ob).objs.size, [(s1.heap.push q.ob).objs.size, s1.heap.objs.size], _, _, H1, rfl, I2, turn_enumG q _ s1.heap.objs.size, ⟨⟨.none, he⟩, Sq.itr0 hit, by rw [hz1]; exact Nat.succ_ne_self _⟩, fun b hb => ?_, k⟩
  have e' : b = (s1.heap.push q.ob).objs.size ∨ b = s1.heap.objs.size := by simpa using hb
  have hle : s1.heap.objs.size ≤ b := by
    rcases e' with z | z
    · rw [z, hz1]; exact Nat.le_add_right _ _
    · rw [z]; exact Nat.le_refl _
  exact I1.fpOk hle (I1.hok.fresh hle)
theorem za_new (N : Nat) : ZA (N + 4) (N + 2) (N + 3) N (N + 1) :=
  ⟨show (N + 2 : Nat) ≠ N + 4 by omega, show (N + 3 : Nat) ≠ N + 4 by omega, show (N + 2 : Nat) ≠ N + 3 by omega, show (N + 2 : Nat) ≠ N by omega, show (N + 2 : Nat) ≠ N + 1 by omega, show (N + 4 : Nat) ≠ N by omega, show (N + 4 : Nat) ≠ N + 1 by omega, show (N + 3 : Nat) ≠ N by omega, show (N + 3 : Nat) ≠ N + 1 by omega, show (N : Nat) ≠ N + 1 by omega⟩
def iZpG (K : PySem.W.Frag) (ta : TA) : TI := fun σ H R => ta σ H fun vs H1 => ∃ q r xs ys, vs = [.ref (Sq.adr q), .ref (Sq.adr r)] ∧ q.has K H1 xs ∧ r.has K H1 ys ∧ R (ItZp K q r) H1
theorem pi_zipG {e e2 : Expr} {ta : TA} {p pos tpos : Pos} {elts : List Expr} {kk : Nat} (hg : Gl X "zip") (hm : X.mg "zip" = none) (ha : PA X [e, e2] ta)
    (hs : starEach [e, e2] X.env = (false, eval e X.env) :: starEach [e2] X.env := by rfl) (hpl : (backTo pos (starEach [e2] X.env)).any (·.1) = false := by rfl) :
    PI X (.Tuple elts kk tpos) (.Call (.Name "zip" p) [e, e2] [] pos) (iZpG X.K ta) := by
  refine ⟨fun pins s σ H R I h => ?_⟩
  refine Call_ (ld_blt I hg hm PyProof.Rows.boot_zip (PyProof.Rows.callWith_type1 (thn (ha.run pos pins s σ H _ I h) fun us s1 ⟨vs, H1, I1, r1, q1⟩ => ?_) hs hpl))
  obtain ⟨q, r, xs, ys, ex, hqx, hqy, k⟩ := q1
  subst ex
  cases r1 with
  | @cons _ u0 _ _ r rr =>
    cases rr with
    | @cons _ u1 _ _ r' rr =>
      cases rr
      obtain rfl : u0 = Value.ref q.adr := r
      obtain rfl : u1 = Value.ref _ := r'
      obtain ⟨its, rv, p1, _⟩ := Sq.of I1 hqx
      obtain ⟨its2, rv2, p2, _⟩ := Sq.of I1 hqy
      refine zip_begins2 (q.begins its.toArray) (Sq.begins _ its2.toArray) p1 p2 fun h' hz hTI hTO h1 h2 hsz hk => wpAny_pyIter_zip hz ?_
      have I2 : Inv X pins σ H1 { s1 with heap := h' } := I1.kept (t' := s1.toks) hk
      refine ⟨s1.heap.objs.size + 4, [s1.heap.objs.size + 4, s1.heap.objs.size + 2, s1.heap.objs.size + 3, s1.heap.objs.size, s1.heap.objs.size + 1], _, _, H1, rfl, I2, turn_zipG (za_new s1.heap.objs.size), ⟨hz, hTI, ⟨_, _, hTO⟩, Sq.itr0 h1, Sq.itr0 h2⟩, fun c hcm => ?_, k⟩
      have e' : c = s1.heap.objs.size + 4 ∨ c = s1.heap.objs.size + 2 ∨ c = s1.heap.objs.size + 3 ∨ c = s1.heap.objs.size ∨ c = s1.heap.objs.size + 1 := by simpa using hcm
      have hle : s1.heap.objs.size ≤ c := by
        rcases e' with z | z | z | z | z
        · rw [z]; exact Nat.le_add_right _ _
        · rw [z]; exact Nat.le_add_right _ _
        · rw [z]; exact Nat.le_add_right _ _
        · rw [z]; exact Nat.le_refl _
        · rw [z]; exact Nat.le_add_right _ _
      exact I1.fpOk hle (I1.hok.fresh hle)
end
end D
end
section
set_option Elab.async false
set_option linter.all false
set_option maxRecDepth 100000
set_option maxHeartbeats 4000000
/-! The pure layer, part L: walks by data; comprehensions. -/
namespace D
open PySem PySem.Spec PyProof.Rows L2

/-- true: a shared value; false: read now -/
def tX (K : PySem.W.Frag) (b : Bool) (q : Qd) : TE := match b with
  | true => tQ K q
  | false => tP K q
abbrev XE (X : Cx) (b : Bool) (e : Expr) (q : Qd) : Prop := PE X e (tX X.K b q)
def tXA (K : PySem.W.Frag) (b : Bool) (q : SE → Option (List PD)) : TA := match b with
  | true => tA K q
  | false => tAP K q
abbrev XA (X : Cx) (b : Bool) (e : List Expr) (q : SE → Option (List PD)) : Prop := PA X e (tXA X.K b q)
/-- the value read -/
def RepX (K : PySem.W.Frag) (b : Bool) (H : Hp) (O : AS) (v : V) (d : PD) : Prop := match b with
  | true => Rep K H O v d
  | false => RepT K H O v d
def RepXL (K : PySem.W.Frag) (b : Bool) (H : Hp) (O : AS) (v : List V) (d : List PD) : Prop := match b with
  | true => RepL K H O v d
  | false => RepTL K H O v d
theorem xe_as {X : Cx} {b : Bool} {e : Expr} {q : Qd} (h : XE X b e q) : PE X e (fun σ H Q => ∃ T pa O env d, q env = some d ∧ ER X.K T pa O σ H env ∧ ∀ v H', Same H H' → RepX X.K b H' O v d → Q v H') := by
  cases b with
  | true => exact h
  | false => exact h
theorem xa_as {X : Cx} {b : Bool} {e : List Expr} {q : SE → Option (List PD)} (h : XA X b e q) : PA X e (fun σ H Q => ∃ T pa O env d, q env = some d ∧ ER X.K T pa O σ H env ∧ ∀ v H', Same H H' → RepXL X.K b H' O v d → Q v H') := by
  cases b with
  | true => exact h
  | false => exact h
/-- a list or a tuple that stays read -/
theorem src_of {K : PySem.W.Frag} {b : Bool} {T O : AS} {H : Hp} {v : V} {d : PD} {ds : List PD} (r : RepX K b H O v d) (hd : d = .list ds ∨ d = .tuple ds) :
    ∃ q xs, v = .ref (Sq.adr q) ∧ (∀ O' H', Kp b T O H O' H' → q.has K H' xs ∧ RepL K H' O' xs ds) ∧ (match d with | .list _ => ∃ a, q = .l a | _ => ∃ a, q = .t a) := by
  have rp : ∀ {xs : List V} {O' : AS} {H' : Hp}, RepL K H O xs ds → Kp b T O H O' H' → RepL K H' O' xs ds := fun {xs O' H'} rl k => by
    cases b with
    | true => exact rl.fr k
    | false => exact rl.kp (fun a o e _ => k.1 a o e) k.2
  have tp : ∀ {a : Addr} {xs : List V} {O' : AS} {H' : Hp}, SqT K H a xs → xs.length ≤ sizeLine → Kp b T O H O' H' → SqT K H' a xs := fun {a xs O' H'} rl z k => by
    cases b with
    | true => exact (TupAt.kp (H := H) (H' := H') (fun a o e f => k.kp a o e (.inl f)) ⟨rl, z⟩).1
    | false => exact (TupAt.kp (H := H) (H' := H') (fun a o e f => k.1 a o e) ⟨rl, z⟩).1
  rcases hd with rfl | rfl
  · cases b with
    | true =>
      cases r with
      | lst h r => exact ⟨.l _, _, rfl, fun O' H' k => ⟨(h.kp (O' := O') (fun a o e q => Fr.kp k a o e (q.elim .inl fun z => .inr (.inl z))) k.no).sql, rp r k⟩, _, rfl⟩
    | false =>
      obtain ⟨a, xs, rfl, h1, _, r1⟩ := RepT.lst r
      refine ⟨.l a, xs, rfl, fun O' H' k => ⟨?_, rp r1 k⟩, _, rfl⟩
      rcases h1 with (h1 | ⟨o, h1⟩) | h1
      · exact .inl (.inl (k.1 _ _ h1))
      · exact .inl (.inr ⟨o, k.1 _ _ h1⟩)
      · exact .inr h1
  · cases b with
    | true =>
      cases r with
      | tup h r => exact ⟨.t _, _, rfl, fun O' H' k => ⟨tp h.1 h.2 k, rp r k⟩, _, rfl⟩
    | false =>
      obtain ⟨a, xs, rfl, h1, z, r1⟩ := RepT.tup r
      exact ⟨.t a, xs, rfl, fun O' H' k => ⟨tp h1 z k, rp r1 k⟩, _, rfl⟩
theorem Kp.refl {b : Bool} {T O : AS} {H : Hp} : Kp b T O H O H := by
  cases b with
  | true => exact Fr.refl
  | false => exact ⟨Same.refl H, fun _ _ n => n⟩
/-- the items of a list, of a tuple -/
def seqOf : PD → Option (List PD)
  | .list ds => some ds
  | .tuple ds => some ds
  | _ => none
theorem seqOf_some {d : PD} {ds : List PD} (h : seqOf d = some ds) : d = .list ds ∨ d = .tuple ds := by
  cases d <;> cases h
  · exact .inl rfl
  · exact .inr rfl
def iSeq (q : Qd) : SE → Option (List PD) := fun env => do
  let d ← q env
  seqOf d
section
variable {X : Cx} {b : Bool} {tg e e2 : Expr} {q : Qd} {x : Str} {p pos tpos : Pos} {elts : List Expr} {kk : Nat}
theorem wk_seq {K : PySem.W.Frag} {T O : AS} {H : Hp} {q : Sq} {xs : List V} {ds : List PD} (h : ∀ O' H', Kp b T O H O' H' → q.has K H' xs ∧ RepL K H' O' xs ds) :
    Wk K b T O (match q with | .l a => Itl K a | .t a => Itt K a) H ds := by
  have hl : xs.length = ds.length := (h O H Kp.refl).2.length
  cases q with
  | l a =>
    refine ⟨fun i O' H' k hi => ?_, fun O' H' k => ?_, fun i O' H' v H'' d k hd y => ?_⟩
    · obtain ⟨h1, h2⟩ := h O' H' k
      exact ⟨xs, xs[i], h1, List.getElem?_eq_getElem (by omega)⟩
    · exact ⟨xs, (h O' H' k).1, by omega⟩
    · obtain ⟨h1, h2⟩ := h O' H' k
      obtain ⟨rfl, y⟩ := y
      obtain ⟨v', e1, e2⟩ := h2.get hd
      have := y xs h1
      rw [this] at e1; cases e1
      exact ⟨Same.refl _, fun _ => e2⟩
  | t a =>
    refine ⟨fun i O' H' k hi => ?_, fun O' H' k => ?_, fun i O' H' v H'' d k hd y => ?_⟩
    · obtain ⟨h1, h2⟩ := h O' H' k
      exact ⟨xs, xs[i], h1, List.getElem?_eq_getElem (by omega)⟩
    · exact ⟨xs, (h O' H' k).1, by omega⟩
    · obtain ⟨h1, h2⟩ := h O' H' k
      obtain ⟨rfl, y⟩ := y
      obtain ⟨v', e1, e2⟩ := h2.get hd
      have := y xs h1
      rw [this] at e1; cases e1
      exact ⟨Same.refl _, fun _ => e2⟩
theorem qi_seq (h : XE X b e q) : QI X b tg e (iSeq q) := by
  refine ⟨fun pins s σ H R I ⟨T, pa, O, env, ds, e1, w, k⟩ => ?_⟩
  obtain ⟨d, h1, h2⟩ := bind_some e1
  have hd := seqOf_some h2
  have h := xe_as h
  cases d with
  | list ds' =>
    refine (pi_list h).run pins s σ H R I ⟨T, pa, O, env, _, h1, w, fun v H' s' r' => ?_⟩
    obtain ⟨q, xs, ev, hq, a, ea⟩ := src_of (T := T) r' hd
    subst ea
    exact ⟨a, ev, ⟨xs, (hq O H' Kp.refl).1⟩, k _ H' s' (wk_seq hq)⟩
  | tuple ds' =>
    refine (pi_tup h).run pins s σ H R I ⟨T, pa, O, env, _, h1, w, fun v H' s' r' => ?_⟩
    obtain ⟨q, xs, ev, hq, a, ea⟩ := src_of (T := T) r' hd
    subst ea
    exact ⟨a, ev, ⟨xs, (hq O H' Kp.refl).1⟩, k _ H' s' (wk_seq hq)⟩
  | _ => cases h2
/-- range -/
def rngL (lo : Int) (n : Nat) : List PD := (List.range n).map fun i => .int (lo + (i : Nat))
theorem wk_rng {K : PySem.W.Frag} {T O : AS} {H : Hp} {lo : Int} {n : Nat} : Wk K b T O (Itr lo n) H (rngL lo n) := by
  have hl : (rngL lo n).length = n := by simp [rngL]
  refine ⟨fun i O' H' k hi => ?_, fun O' H' k => ?_, fun i O' H' v H'' d k hd y => ?_⟩
  · rw [hl] at hi; exact hi
  · rw [hl]; exact Nat.le_refl _
  · obtain ⟨rfl, rfl⟩ := y
    have hi : i < n := by
      have := (List.getElem?_eq_some_iff.mp hd).1
      rw [hl] at this; exact this
    have : (rngL lo n)[i]? = some (.int (lo + (i : Nat))) := by simp [rngL, hi]
    rw [this] at hd; cases hd
    exact ⟨Same.refl _, fun _ => .int _⟩
def iRng1 (q : SE → Option (List PD)) : SE → Option (List PD) := fun env => match q env with
  | some [.int j] => if -(2 ^ 62) ≤ j ∧ j < 2 ^ 62 then some (rngL 0 j.toNat) else none
  | _ => none
def iRng2 (q : SE → Option (List PD)) : SE → Option (List PD) := fun env => match q env with
  | some [.int i, .int j] => if -(2 ^ 62) ≤ i ∧ i < 2 ^ 62 ∧ -(2 ^ 62) ≤ j ∧ j < 2 ^ 62 then some (rngL i (j - i).toNat) else none
  | _ => none
theorem qi_rng1 {a : Expr} {q : SE → Option (List PD)} (hg : Gl X "range") (hm : X.mg "range" = none) (ha : QAP X [a] q) (hs : starEach [a] X.env = [(false, eval a X.env)] := by rfl) : QI X b tg (.Call (.Name "range" p) [a] [] pos) (iRng1 q) :=
  pi_weak (pi_range1 hg hm ha hs) fun σ H R ⟨T, pa, O, env, ds, e1, w, k⟩ => by
    unfold iRng1 at e1
    split at e1
    · rename_i j h1
      obtain ⟨hj, rfl⟩ := some_if e1
      refine ⟨T, pa, O, env, _, h1, w, fun vs H' s' r' => ?_⟩
      obtain ⟨v, rfl, rv⟩ := RepTL.one r'
      exact ⟨j, by rw [rv.int], hj.1, hj.2, k _ H' s' wk_rng⟩
    · cases e1
theorem qi_rng2 {a a2 : Expr} {q : SE → Option (List PD)} (hg : Gl X "range") (hm : X.mg "range" = none) (ha : QAP X [a, a2] q) (hs : starEach [a, a2] X.env = [(false, eval a X.env), (false, eval a2 X.env)] := by rfl) (hs2 : starEach [a2] X.env = [(false, eval a2 X.env)] := by rfl) :
    QI X b tg (.Call (.Name "range" p) [a, a2] [] pos) (iRng2 q) :=
  pi_weak (pi_range2 hg hm ha hs hs2) fun σ H R ⟨T, pa, O, env, ds, e1, w, k⟩ => by
    unfold iRng2 at e1
    split at e1
    · rename_i i j h1
      obtain ⟨hj, rfl⟩ := some_if e1
      refine ⟨T, pa, O, env, _, h1, w, fun vs H' s' r' => ?_⟩
      obtain ⟨v, v2, rfl, rv, rv2⟩ := RepTL.two r'
      exact ⟨i, j, by rw [rv.int, rv2.int], hj, k _ H' s' wk_rng⟩
    · cases e1
/-- enumerate -/
def enL (ds : List PD) : List PD := ds.zipIdx.map fun p => .tuple [.int (p.2 : Nat), p.1]
def iEn (q : Qd) : SE → Option (List PD) := fun env => do
  let d ← q env
  let ds ← seqOf d
  pure (enL ds)
theorem enL_get {ds : List PD} {i : Nat} {d : PD} (h : (enL ds)[i]? = some d) : ∃ z, ds[i]? = some z ∧ d = .tuple [.int (i : Nat), z] := by
  unfold enL at h
  rw [List.getElem?_map, List.getElem?_zipIdx] at h
  cases hz : ds[i]? with
  | none => rw [hz] at h; cases h
  | some z => rw [hz] at h; cases h; exact ⟨z, rfl, by simp⟩
theorem line2 : 2 ≤ sizeLine := by decide
theorem tup_new {K : PySem.W.Frag} {H : Hp} {O : AS} {T : Addr} {xs : List V} {ds : List PD} (hn : H T = none) (hl : xs.length ≤ sizeLine) (r : RepL K H O xs ds) : Rep K (upd H T (.tup xs)) O (.ref T) (.tuple ds) :=
  .tup ⟨.inl (.inl upd_same), hl⟩ (r.same (same_upd hn))
theorem qi_enum (hg : Gl X "enumerate") (hm : X.mg "enumerate" = none) (he : XE X b e q) (hs : starEach [e] X.env = (false, eval e X.env) :: starEach [] X.env := by rfl) : QI X b (.Tuple elts kk tpos) (.Call (.Name "enumerate" p) [e] [] pos) (iEn q) :=
  pi_weak (pi_enumG hg hm (xe_as he) hs) fun σ H R ⟨T, pa, O, env, ds, e1, w, k⟩ => by
    obtain ⟨d, h1, h0⟩ := bind_some e1
    obtain ⟨ds', h2, h3⟩ := bind_some h0
    cases h3
    refine ⟨T, pa, O, env, d, h1, w, fun v H' s' r' => ?_⟩
    obtain ⟨q, xs, ev, hq, _⟩ := src_of (T := T) r' (seqOf_some h2)
    have hl : xs.length = ds'.length := (hq O H' Kp.refl).2.length
    have hn : (enL ds').length = ds'.length := by simp [enL]
    refine ⟨q, xs, ev, (hq O H' Kp.refl).1, k _ H' s' ⟨fun i O2 H2 k2 hi => ?_, fun O2 H2 k2 => ?_, fun i O2 H2 v2 H3 d2 k2 hd y => ?_⟩⟩
    · exact ⟨xs, xs[i], (hq O2 H2 k2).1, List.getElem?_eq_getElem (by omega)⟩
    · exact ⟨xs, (hq O2 H2 k2).1, by omega⟩
    · obtain ⟨h5, h6⟩ := hq O2 H2 k2
      obtain ⟨T2, x2, rfl, hT, rfl, y⟩ := y
      obtain ⟨z, z1, rfl⟩ := enL_get hd
      obtain ⟨v', e5, e6⟩ := h6.get z1
      have := y xs h5
      rw [this] at e5; cases e5
      exact ⟨same_upd hT, fun _ => tup_new hT line2 (.cons (.int _) (.cons e6 .nil))⟩
/-- zip -/
def zpL (ds es : List PD) : List PD := List.zipWith (fun a b => .tuple [a, b]) ds es
def iZp (q : SE → Option (List PD)) : SE → Option (List PD) := fun env => match q env with
  | some [d, e] => do
    let ds ← seqOf d
    let es ← seqOf e
    pure (zpL ds es)
  | _ => none
theorem zpL_get {ds es : List PD} {i : Nat} {d : PD} (h : (zpL ds es)[i]? = some d) : ∃ y z, ds[i]? = some y ∧ es[i]? = some z ∧ d = .tuple [y, z] := by
  unfold zpL at h
  rw [List.getElem?_zipWith] at h
  cases hy : ds[i]? with
  | none => rw [hy] at h; cases h
  | some y =>
    cases hz : es[i]? with
    | none => rw [hy, hz] at h; cases h
    | some z => rw [hy, hz] at h; cases h; exact ⟨y, z, rfl, rfl, rfl⟩
theorem RepXL.two {K : PySem.W.Frag} {H : Hp} {O : AS} {vs : List V} {d d2 : PD} (h : RepXL K b H O vs [d, d2]) : ∃ v v2, vs = [v, v2] ∧ RepX K b H O v d ∧ RepX K b H O v2 d2 := by
  cases b with
  | true =>
    cases h with
    | cons a b =>
      cases b with
      | cons b c => cases c; exact ⟨_, _, rfl, a, b⟩
  | false => exact RepTL.two h
theorem qi_zip {q : SE → Option (List PD)} (hg : Gl X "zip") (hm : X.mg "zip" = none) (ha : XA X b [e, e2] q)
    (hs : starEach [e, e2] X.env = (false, eval e X.env) :: starEach [e2] X.env := by rfl) (hpl : (backTo pos (starEach [e2] X.env)).any (·.1) = false := by rfl) : QI X b (.Tuple elts kk tpos) (.Call (.Name "zip" p) [e, e2] [] pos) (iZp q) :=
  pi_weak (pi_zipG hg hm (xa_as ha) hs hpl) fun σ H R ⟨T, pa, O, env, ds, e1, w, k⟩ => by
    unfold iZp at e1
    split at e1
    · rename_i d1 d2 h1
      obtain ⟨ds, hd1, e1⟩ := bind_some e1
      obtain ⟨es, hd2, e1⟩ := bind_some e1
      cases e1
      refine ⟨T, pa, O, env, _, h1, w, fun vs H' s' r' => ?_⟩
      obtain ⟨v, v2, rfl, r1, r2⟩ := RepXL.two r'
      obtain ⟨q, xs, ev, hq, _⟩ := src_of (T := T) r1 (seqOf_some hd1)
      obtain ⟨r, ys, ev2, hr, _⟩ := src_of (T := T) r2 (seqOf_some hd2)
      have hl : xs.length = ds.length := (hq O H' Kp.refl).2.length
      have hl2 : ys.length = es.length := (hr O H' Kp.refl).2.length
      have hn : (zpL ds es).length = min ds.length es.length := by simp [zpL]
      refine ⟨q, r, xs, ys, by rw [ev, ev2], (hq O H' Kp.refl).1, (hr O H' Kp.refl).1, k _ H' s' ⟨fun i O2 H2 k2 hi => ?_, fun O2 H2 k2 => ?_, fun i O2 H2 v2 H3 d2 k2 hd y => ?_⟩⟩
      · exact ⟨xs, ys, xs[i]'(by omega), ys[i]'(by omega), (hq O2 H2 k2).1, (hr O2 H2 k2).1, List.getElem?_eq_getElem _, List.getElem?_eq_getElem _⟩
      · exact ⟨xs, ys, (hq O2 H2 k2).1, (hr O2 H2 k2).1, by omega⟩
      · obtain ⟨h5, h6⟩ := hq O2 H2 k2
        obtain ⟨h7, h8⟩ := hr O2 H2 k2
        obtain ⟨T2, x2, y2, rfl, hT, rfl, ya, yb⟩ := y
        obtain ⟨z, z', z1, z2, rfl⟩ := zpL_get hd
        obtain ⟨v', e5, e6⟩ := h6.get z1
        obtain ⟨v'', e7, e8⟩ := h8.get z2
        have := ya xs h5
        rw [this] at e5; cases e5
        have := yb ys h7
        rw [this] at e7; cases e7
        exact ⟨same_upd hT, fun _ => tup_new hT line2 (.cons e6 (.cons e8 .nil))⟩
    · cases e1
end
end D
end
section
set_option Elab.async false
set_option linter.all false
set_option maxRecDepth 100000
set_option maxHeartbeats 4000000
/-! The pure layer, part M: comprehensions. -/
namespace D
open PySem PySem.Spec PyProof.Rows L2

def wipeE (env : SE) : List Nat → SE
  | [] => env
  | v :: vs => (wipeE env vs).set v none
section
variable {K : PySem.W.Frag} {T : AS} {pa : Option Addr} {O : AS} {σ : L2.St} {H : Hp} {env : SE}
theorem ER.unset (w : ER K T pa O σ H env) (i : Nat) : ER K T pa O (σ.set i none) H (env.set i none) := by
  have st : ∀ {j : Nat} {e : Sl}, (env.set i none)[j]? = some (some e) → j ≠ i ∧ env[j]? = some (some e) := fun {j e} h => by
    rcases get_set h with ⟨_, z⟩ | h
    · cases z
    · exact h
  refine ⟨by rw [List.length_set, List.length_set]; exact w.len, w.dom, w.sub, w.pin, fun j e h => ?_, fun j e h => ?_, fun j e h => ?_, fun j k s t a h1 h2 m1 m2 h3 h4 => ?_⟩
  · obtain ⟨n, h⟩ := st h
    obtain ⟨u, h1, h2⟩ := w.sh j e h
    exact ⟨u, by rw [List.getElem?_set_ne (Ne.symm n)]; exact h1, h2⟩
  · obtain ⟨n, h⟩ := st h
    obtain ⟨u, h1, h2⟩ := w.ow j e h
    exact ⟨u, by rw [List.getElem?_set_ne (Ne.symm n)]; exact h1, h2⟩
  · obtain ⟨n, h⟩ := st h
    obtain ⟨u, h0, h1, h2⟩ := w.io j e h
    exact ⟨u, h0, by rw [List.getElem?_set_ne (Ne.symm n)]; exact h1, h2⟩
  · obtain ⟨n1, h1⟩ := st h1
    obtain ⟨n2, h2⟩ := st h2
    rw [List.getElem?_set_ne (Ne.symm n1)] at h3
    rw [List.getElem?_set_ne (Ne.symm n2)] at h4
    exact w.inj j k s t a h1 h2 m1 m2 h3 h4
theorem ER.wipe (w : ER K T pa O σ H env) : ∀ vs : List Nat, ER K T pa O (L2.wipe σ vs) H (wipeE env vs)
  | [] => w
  | v :: vs => by unfold L2.wipe wipeE; exact (ER.wipe w vs).unset v
/-- a new object: no slot's own -/
theorem ER.fresh (w : ER K T pa O σ H env) {p : Addr} {u : HO} (hp : H p = none) : ER K T pa (fun b => O b ∨ b = p) σ (upd H p u) env ∧ ∀ (i : Nat) (s : Sl), env[i]? = some (some s) → s.mine = true → σ[i]? ≠ some (some (.ref p)) := by
  have sm : Same H (upd H p u) := same_upd hp
  have na : ¬ O p := fun z => w.dom p z hp
  have un : ∀ b, H b ≠ none → ¬ O b → ¬ (O b ∨ b = p) := fun b hb n z => z.elim n fun q => hb (by rw [q]; exact hp)
  have up : ∀ b o, H b = some o → (fixed o = true ∨ ¬ O b) → (upd H p u) b = some o := fun b o e _ => sm b o e
  refine ⟨⟨w.len, fun b z => ?_, fun b z => .inl (w.sub b z), fun b z => .inl (w.pin b z), fun j e h => ?_, fun j e h => ?_, fun j e h => ?_, w.inj⟩, fun i s h m e => ?_⟩
  · rcases z with z | rfl
    · exact (w.same sm).dom b z
    · rw [upd_same]; exact fun q => nomatch q
  · obtain ⟨v, h1, h2⟩ := w.sh j e h
    exact ⟨v, h1, h2.kp up un⟩
  · obtain ⟨a, h1, h2, h3, h4⟩ := w.ow j e h
    exact ⟨a, h1, h2.kp up un (fun o q => sm _ _ q), .inl h3, h4⟩
  · obtain ⟨a, h0, h1, h2, h3, h4⟩ := w.io j e h
    exact ⟨a, h0, h1, h2.kp up un (fun o q => sm _ _ q), .inl h3, h4⟩
  · cases s with
    | sh _ => cases m
    | ow d =>
      obtain ⟨a, h1, _, h3, _⟩ := w.ow i d h
      rw [h1] at e; cases e
      exact na h3
    | io d =>
      obtain ⟨a, _, h1, _, h3, _⟩ := w.io i d h
      rw [h1] at e; cases e
      exact na h3
/-- an owned object that is no slot's changes -/
theorem ER.loose (w : ER K T pa O σ H env) {p : Addr} {o u : HO} (hO : O p) (hp : H p = some o) (hf : fixed o = false) (n : ∀ (i : Nat) (s : Sl), env[i]? = some (some s) → s.mine = true → σ[i]? ≠ some (some (.ref p))) : ER K T pa O σ (upd H p u) env := by
  have kp := own_rep (u := u) hO hp hf
  have nn : ∀ b, H b ≠ none → ¬ O b → ¬ O b := fun _ _ n => n
  refine ⟨w.len, fun b z => there_upd b (w.dom b z), w.sub, w.pin, fun j e h => ?_, fun j e h => ?_, fun j e h => ?_, w.inj⟩
  · obtain ⟨v, h1, h2⟩ := w.sh j e h
    exact ⟨v, h1, h2.kp kp nn⟩
  · obtain ⟨a, h1, h2, h3, h4⟩ := w.ow j e h
    have na : a ≠ p := fun z => n j _ h rfl (by rw [h1, z])
    exact ⟨a, h1, h2.kp kp nn (fun o q => by rw [upd_ne na]; exact q), h3, h4⟩
  · obtain ⟨a, h0, h1, h2, h3, h4⟩ := w.io j e h
    have na : a ≠ p := fun z => n j _ h rfl (by rw [h1, z])
    exact ⟨a, h0, h1, h2.kp kp nn (fun o q => by rw [upd_ne na]; exact q), h3, h4⟩
theorem wipe_get (σ : L2.St) (i : Nat) : ∀ vs : List Nat, i ∈ vs → i < σ.length → (L2.wipe σ vs)[i]? = some none
  | [], h, _ => nomatch h
  | v :: vs, h, hl => by
    unfold L2.wipe
    by_cases e : i = v
    · subst e
      exact List.getElem?_set_self (by rw [L2.wipe_length]; exact hl)
    · rw [List.getElem?_set_ne (Ne.symm e)]
      exact wipe_get σ i vs ((List.mem_cons.mp h).resolve_left e) hl
theorem wipe_but {σ σ' : L2.St} {vs ix : List Nat} (b : But ix (L2.wipe σ vs) σ') (hs : ∀ i ∈ ix, i ∈ vs) : L2.wipe σ' vs = L2.wipe σ vs := by
  have hl : σ'.length = σ.length := b.1.trans (L2.wipe_length σ vs)
  apply List.ext_getElem?
  intro i
  by_cases h : i ∈ vs
  · by_cases hi : i < σ.length
    · rw [wipe_get σ' i vs h (by rw [hl]; exact hi), wipe_get σ i vs h hi]
    · rw [List.getElem?_eq_none (by rw [L2.wipe_length, hl]; omega), List.getElem?_eq_none (by rw [L2.wipe_length]; omega)]
  · rw [L2.wipe_out h, b.2 i fun z => h (hs i z)]
end

/-! ### [e for tg in it if t] -/
abbrev TsQ (X : Cx) (es : List Expr) (q : SE → Option Bool) : Prop := PTs X es (tB q X.K)
def tYesD : SE → Option Bool := fun _ => some true
theorem tsq_nil {X : Cx} : TsQ X [] tYesD := ⟨fun pins s σ H Q I ⟨T, pa, O, env, b, e1, w, k⟩ => pts_nil.run pins s σ H Q I (by cases e1; exact k H (Same.refl H))⟩
theorem tsq_one {X : Cx} {c : Expr} {t : SE → Option Bool} (h : TQ X c t) : TsQ X [c] t := pts_one h
def lcL (g : PD → SE → Option SE) (t : SE → Option Bool) (e : Qd) (env : SE) : List PD → Option (List PD)
  | [] => some []
  | d :: ds => match g d env with
    | none => none
    | some e1 => match t e1 with
      | none => none
      | some false => lcL g t e env ds
      | some true => match e e1 with
        | none => none
        | some x => (lcL g t e env ds).map (x :: ·)
def dLc (it : SE → Option (List PD)) (g : PD → SE → Option SE) (t : SE → Option Bool) (e : Qd) (vs : List Nat) : Qd := fun env => match it env with
  | some ds => if ds.length ≤ LIM then (lcL g t e (wipeE env vs) ds).map .list else none
  | none => none
theorem lc_tr {K : PySem.W.Frag} {it : SE → Option (List PD)} {ix : List Nat} {g : PD → SE → Option SE} {t : SE → Option Bool} {e : Qd} {vs : List Nat} (hix : ∀ i ∈ ix, i ∈ vs) {σ : L2.St} {H : Hp} {Q : VK}
    (h : tF K (dLc it g t e vs) σ H Q) : tLc (tI K false it) (tG K ix g) (tB t K) (tQ K e) vs σ H Q := by
  obtain ⟨T, pa, O, env, d, e1, w, k⟩ := h
  unfold dLc at e1
  split at e1
  · rename_i ds h1
    obtain ⟨hz, e1⟩ := if_some e1
    obtain ⟨dall, e2, rfl⟩ := Option.map_eq_some_iff.mp e1
    refine ⟨T, pa, O, env, ds, h1, w, fun J H1 s1 wk D hD => ?_⟩
    have w1 := (w.same s1).wipe vs
    obtain ⟨wD, nD⟩ := w1.fresh (u := .lst []) hD
    have hz' : ds.length ≤ sizeLine := by rw [← lim_eq] at hz; exact hz
    have kpf : ∀ {H' : Hp}, Same H1 H' → Kp false T O H1 (fun b => O b ∨ b = D) H' := fun sm => ⟨sm, fun a h n z => z.elim n fun q => h (by rw [q]; exact hD)⟩
    refine ⟨fun i m H' => m = ds.length - i ∧ i ≤ ds.length ∧ ∃ acc dacc dr, H' D = some (.lst acc) ∧ acc.length ≤ i ∧ RepL K H' (fun b => O b ∨ b = D) acc dacc ∧ lcL g t e (wipeE env vs) (ds.drop i) = some dr ∧ dall = dacc ++ dr ∧ Same H1 H' ∧ ER K T pa (fun b => O b ∨ b = D) (L2.wipe σ vs) H' (wipeE env vs),
      ⟨ds.length, rfl, Nat.zero_le _, [], [], dall, upd_same, Nat.le_refl _, .nil, e2, rfl, same_upd hD, wD⟩, ?_⟩
    rintro i m H' ⟨rfl, hi, acc, dacc, dr, hH, hacc, rl, e3, ed, sm, w'⟩
    by_cases hlt : i < ds.length
    · rw [List.drop_eq_getElem_cons hlt] at e3
      unfold lcL at e3
      refine .inr ⟨wk.go i _ H' (kpf sm) hlt, fun H2 => ∃ acc dacc dr, H2 D = some (.lst acc) ∧ acc.length ≤ i + 1 ∧ RepL K H2 (fun b => O b ∨ b = D) acc dacc ∧ lcL g t e (wipeE env vs) (ds.drop (i + 1)) = some dr ∧ dall = dacc ++ dr ∧ Same H1 H2 ∧ ER K T pa (fun b => O b ∨ b = D) (L2.wipe σ vs) H2 (wipeE env vs),
        fun H2 q => ⟨ds.length - (i + 1), by omega, rfl, hlt, q⟩, fun x H2 y => ?_⟩
      obtain ⟨s2, r2⟩ := wk.yld i _ H' x H2 _ (kpf sm) (List.getElem?_eq_getElem hlt) y
      have w2 := w'.same s2
      cases h2 : g ds[i] (wipeE env vs) with
      | none => rw [h2] at e3; cases e3
      | some e4 =>
        rw [h2] at e3
        simp only at e3
        refine ⟨T, pa, _, _, _, e4, h2, w2, r2 w'.dom, fun σ3 w3 b3 => ⟨wipe_but b3 hix, ?_⟩⟩
        cases h3 : t e4 with
        | none => rw [h3] at e3; cases e3
        | some c =>
          rw [h3] at e3
          refine ⟨T, pa, _, e4, c, h3, w3, fun H3 s3 => ?_⟩
          have s13 := sm.trans (s2.trans s3)
          have hD3 : H3 D = some (.lst acc) := (s2.trans s3) _ _ hH
          have w5 := w'.same (s2.trans s3)
          have rl3 := rl.same (s2.trans s3)
          cases c with
          | false => exact ⟨acc, dacc, dr, hD3, by omega, rl3, e3, ed, s13, w5⟩
          | true =>
            show (if true = true then _ else _)
            rw [if_pos rfl]
            simp only at e3
            cases h4 : e e4 with
            | none => rw [h4] at e3; cases e3
            | some x5 =>
              rw [h4] at e3
              obtain ⟨dr2, e5, e6⟩ := Option.map_eq_some_iff.mp e3
              subst e6
              refine ⟨T, pa, _, e4, x5, h4, w3.same s3, fun v H4 s4 r4 => ?_⟩
              have hD4 := s4 _ _ hD3
              have kp := own_rep (u := .lst (acc ++ [v])) (O := fun b => O b ∨ b = D) (Or.inr rfl) hD4 rfl
              refine ⟨acc, hD4, by omega, acc ++ [v], dacc ++ [x5], dr2, upd_same, by rw [List.length_append]; exact Nat.succ_le_succ hacc, ((rl3.same s4).append (.cons r4 .nil)).kp kp fun _ _ n => n, e5, by rw [ed, List.append_assoc]; rfl, fun a o q => ?_, (w5.same s4).loose (Or.inr rfl) hD4 rfl nD⟩
              have na : a ≠ D := fun z => by rw [z, hD] at q; cases q
              rw [upd_ne na]
              exact s4 _ _ (s13 _ _ q)
    · have hi' : i = ds.length := by omega
      subst hi'
      rw [List.drop_eq_nil_of_le (Nat.le_refl _)] at e3
      cases e3
      refine .inl ⟨wk.stop _ H' (kpf sm), k D H' (s1.trans sm) ?_ ⟨acc, hH, by omega, by rw [ed, List.append_nil]; exact rl⟩⟩
      cases hn : H D with
      | none => rfl
      | some o => rw [s1 _ _ hn] at hD; cases hD
  · cases e1
section
variable {X : Cx} {elt tg iter : Expr} {ifs : List Expr} {scope : Scope} {own : List (Str × Nat)} {pos spos py : Pos} {it : SE → Option (List PD)} {ix : List Nat} {g : PD → SE → Option SE} {t : SE → Option Bool} {e : Qd} {y : Str}
theorem fe_lc (hc : X.calm = true) (hN : X.N.Nodup) (hi : QI X false tg iter it) (ok : BlkOk X.N X.env.scope scope own)
    (hg : ∀ (s : Shared) (H : Hp) (C : Addr) (cl : List (Str × Addr)) (fp : List Addr), GT (X.blk s H scope (compEnvC scope cl C X.env) fp) tg ix g) (ht : ∀ (s : Shared) (H : Hp) (C : Addr) (cl : List (Str × Addr)) (fp : List Addr), TsQ (X.blk s H scope (compEnvC scope cl C X.env) fp) ifs t)
    (he : ∀ (s : Shared) (H : Hp) (C : Addr) (cl : List (Str × Addr)) (fp : List Addr), QE (X.blk s H scope (compEnvC scope cl C X.env) fp) elt e) (hix : ∀ i ∈ ix, i ∈ own.map (·.2)) (hs : ∀ x, foldedSetIterable iter X.env x = pure x := by intro _; rfl) :
    FE X (.ListComp elt [⟨tg, iter, ifs, 0⟩] scope pos) (dLc it g t e (own.map (·.2))) :=
  pe_weak (pe_lc (wi := tI X.K false it) (g := tG X.K ix g) (tt := tB t X.K) (te := tQ X.K e) hc hN hi ok hg ht he hs) fun σ H Q h => lc_tr hix h
/-- y = [..], on one line -/
theorem ss_setLc (i : Nat) (hc : X.calm = true) (hN : X.N.Nodup) (hy : X.N[i]? = some y) (hyl : X.env.scope.names.lookup y = some .local)
    (hsw : swapsWith (.ListComp elt [⟨tg, iter, ifs, 0⟩] scope pos) (some (.Name y py)) spos.line X.env = pure true) (hi : QI X false tg iter it) (ok : BlkOk X.N X.env.scope scope own)
    (hg : ∀ (s : Shared) (H : Hp) (C : Addr) (cl : List (Str × Addr)) (fp : List Addr), GT (X.blk s H scope (compEnvC scope cl C X.env) fp) tg ix g) (ht : ∀ (s : Shared) (H : Hp) (C : Addr) (cl : List (Str × Addr)) (fp : List Addr), TsQ (X.blk s H scope (compEnvC scope cl C X.env) fp) ifs t)
    (he : ∀ (s : Shared) (H : Hp) (C : Addr) (cl : List (Str × Addr)) (fp : List Addr), QE (X.blk s H scope (compEnvC scope cl C X.env) fp) elt e) (hix : ∀ i ∈ ix, i ∈ own.map (·.2)) (hs : ∀ x, foldedSetIterable iter X.env x = pure x := by intro _; rfl) :
    SS X (.Assign [.Name y py] (.ListComp elt [⟨tg, iter, ifs, 0⟩] scope pos) spos) (dSet i (dLc it g t e (own.map (·.2)))) :=
  ps_weak (ps_setLc (wi := tI X.K false it) (g := tG X.K ix g) (tt := tB t X.K) (te := tQ X.K e) hc hN hy hyl hsw hi ok hg ht he hs) fun D σ H ⟨T, pa, O, env, out, e1, w, k⟩ => by
    obtain ⟨hf, e1⟩ := if_some e1
    obtain ⟨d, h1, rfl⟩ := Option.map_eq_some_iff.mp e1
    exact lc_tr hix ⟨T, pa, O, env, d, h1, w, fun a H' s' hn r' => k _ O H' ((w.same s').setSh hf (r'.rep (fun b z => .inl z) fun z => w.dom a z hn)) (Fr.of_same s')⟩
theorem ss_setLcF (i : Nat) (hc : X.calm = true) (hN : X.N.Nodup) (hy : X.N[i]? = some y) (hyl : X.env.scope.names.lookup y = some .local)
    (hsw : swapsWith (.ListComp elt [⟨tg, iter, ifs, 0⟩] scope pos) (some (.Name y py)) spos.line X.env = pure true) (hi : QI X false tg iter it) (ok : BlkOk X.N X.env.scope scope own)
    (hg : ∀ (s : Shared) (H : Hp) (C : Addr) (cl : List (Str × Addr)) (fp : List Addr), GT (X.blk s H scope (compEnvC scope cl C X.env) fp) tg ix g) (ht : ∀ (s : Shared) (H : Hp) (C : Addr) (cl : List (Str × Addr)) (fp : List Addr), TsQ (X.blk s H scope (compEnvC scope cl C X.env) fp) ifs t)
    (he : ∀ (s : Shared) (H : Hp) (C : Addr) (cl : List (Str × Addr)) (fp : List Addr), QE (X.blk s H scope (compEnvC scope cl C X.env) fp) elt e) (hix : ∀ i ∈ ix, i ∈ own.map (·.2)) (hs : ∀ x, foldedSetIterable iter X.env x = pure x := by intro _; rfl) :
    SS X (.Assign [.Name y py] (.ListComp elt [⟨tg, iter, ifs, 0⟩] scope pos) spos) (dSetF i (dLc it g t e (own.map (·.2)))) :=
  ps_weak (ps_setLc (wi := tI X.K false it) (g := tG X.K ix g) (tt := tB t X.K) (te := tQ X.K e) hc hN hy hyl hsw hi ok hg ht he hs) fun D σ H ⟨T, pa, O, env, out, e1, w, k⟩ => by
    obtain ⟨hf, e1⟩ := if_some e1
    obtain ⟨d, h1, rfl⟩ := Option.map_eq_some_iff.mp e1
    refine lc_tr hix ⟨T, pa, O, env, d, h1, w, fun a H' s' hn r' => ?_⟩
    obtain ⟨w1, f1, n1⟩ := w.join s' hn r'
    exact k _ _ H' (w.setOw hf s' hn r') f1
end
end D
end
section
set_option Elab.async false
set_option linter.all false
set_option maxRecDepth 100000
set_option maxHeartbeats 4000000
/-! The pure layer, part N: defs and their calls. -/
namespace D
open PySem PySem.Spec PyProof.Rows L2

/-- a def that answers by data alone -/
def spP (K : PySem.W.Frag) (n : Nat) (g : List PD → Option PD) : Sp := fun vs H Q _ => ∃ O ds d, ds.length = n ∧ g ds = some d ∧ (∀ a, O a → H a ≠ none) ∧ RepL K H O vs ds ∧ ∀ v H', Same H H' → Rep K H' O v d → Q v H'
/-- all but the object at a stays -/
def SameBut' (a : Addr) (H H' : Hp) : Prop := ∀ b o, H b = some o → b ≠ a → H' b = some o
/-- a def that changes the object given as its argument j -/
def spIO (K : PySem.W.Frag) (n j : Nat) (g : List PD → Option (PD × PD)) : Sp := fun vs H Q _ => ∃ O a ds dj d d', ds.length = n ∧ vs.length = n ∧ g ds = some (d, d') ∧ (∀ b, O b → H b ≠ none) ∧ O a ∧ vs[j]? = some (.ref a) ∧ ds[j]? = some dj ∧ OwnAt K H O a dj ∧
  (∀ i v e, i ≠ j → vs[i]? = some v → ds[i]? = some e → Rep K H O v e) ∧ ∀ v H', SameBut' a H H' → OwnAt K H' O a d' → Rep K H' O v d → Q v H'

def startE (m : Nat) (ds : List PD) : SE := ds.map (fun d => some (.sh d)) ++ List.replicate (m - ds.length) none
def outD : Option Out → Option PD
  | some (.rt d _) => some d
  | some (.nx _) => some .none
  | _ => none
/-- what a def computes, by its body -/
def fnD (m : Nat) (f : DS) : List PD → Option PD := fun ds => outD (f (startE m ds))
section
variable {K : PySem.W.Frag} {O : AS} {H : Hp} {vs : List V} {ds : List PD} {N : List Str}
theorem start_get {N : List Str} {vs : List V} {i : Nat} {v : V} (h : vs[i]? = some v) : (L2.start N vs)[i]? = some (some v) := by
  unfold L2.start
  have hl : i < vs.length := (List.getElem?_eq_some_iff.mp h).1
  rw [List.getElem?_append_left (by simpa using hl), List.getElem?_map, h]; rfl
theorem startE_get {m : Nat} {ds : List PD} {i : Nat} {s : Sl} (h : (startE m ds)[i]? = some (some s)) : ∃ d, ds[i]? = some d ∧ s = .sh d := by
  unfold startE at h
  by_cases hi : i < ds.length
  · rw [List.getElem?_append_left (by simpa using hi), List.getElem?_map] at h
    cases e : ds[i]? with
    | none => rw [e] at h; cases h
    | some d => rw [e] at h; cases h; exact ⟨d, rfl, rfl⟩
  · rw [List.getElem?_append_right (by simp; omega), List.getElem?_replicate] at h
    split at h <;> cases h
theorem er_start (hd : ∀ a, O a → H a ≠ none) (r : RepL K H O vs ds) (hl : ds.length ≤ N.length) : ER K O none O (L2.start N vs) H (startE N.length ds) := by
  have hv := r.length
  refine ⟨?_, hd, fun a z => z, fun a z => (nomatch z), fun i d h => ?_, fun i d h => ?_, fun i d h => ?_, fun i j s t a h1 h2 m1 m2 _ _ => ?_⟩
  · unfold L2.start startE
    simp only [List.length_append, List.length_map, List.length_replicate]
    omega
  · obtain ⟨e, h1, h2⟩ := startE_get h
    cases h2
    obtain ⟨v, g1, g2⟩ := r.get h1
    exact ⟨v, start_get g1, g2⟩
  · obtain ⟨e, h1, h2⟩ := startE_get h
    cases h2
  · obtain ⟨e, h1, h2⟩ := startE_get h
    cases h2
  · obtain ⟨e, g1, g2⟩ := startE_get h1
    subst g2
    cases m1
theorem fr_same {O' : AS} {H' : Hp} (f : Fr O O H O' H') : Same H H' := fun a o e => f.kp a o e (by
  rcases Classical.em (O a) with z | z
  · exact .inr (.inr z)
  · exact .inr (.inl z))
/-- THE RULE for a def that answers by data -/
theorem ok_fnP {P : Program} {w : World} {mg : Str → Option Value} {base : Heap} {x qual : Str} {params : Arguments} {body : List Stmt} {scope : Scope} {f : Addr} {fd : FuncData} {ps : List Str} {k : Nat} {b : DS} {g : List PD → Option PD}
    (F : FunD K x qual params body scope [] [] f fd) (S : FnScope N ps scope) (hg : ∀ ds d, ds.length = ps.length → g ds = some d → fnD N.length b ds = some d)
    (hbody : ∀ (cdv : Value) (A : Around) (outer : List Env) (s : Shared) (H : Hp) (E : XK), Room k (A.deeper (envOfC qual scope s.heap.objs.size f cdv)) → SSs (cxOf CX0 P w K mg base N qual scope f cdv A outer s H E).nox body b) :
    FnOk P w K mg base CX0 (k + 1) f fd ps (spP K ps.length g) := by
  have hpl : ps.length ≤ N.length := by have := congrArg List.length S.pre; rw [List.length_take] at this; omega
  refine F.ok S (fun vs H Q E ⟨O, ds, d, h1, _, _, h4, _⟩ => h4.length.trans h1) (fun cdv A outer s H vs Q E hr ⟨O, ds, d, h1, h2, h3, h4, h5⟩ => ⟨_, (hbody cdv A outer s H E hr).nox, ?_⟩)
  have h2 := hg ds d h1 h2
  unfold fnD outD at h2
  split at h2
  · rename_i d' e ho
    cases h2
    refine ⟨O, none, O, startE N.length ds, _, ho, er_start h3 h4 (by omega), fun v σ' O' H' w' f' r' => h5 v H' (fr_same f') (r'.sub fun a z => w'.sub a z)⟩
  · rename_i e ho
    cases h2
    exact ⟨O, none, O, startE N.length ds, _, ho, er_start h3 h4 (by omega), fun σ' O' H' w' f' => h5 .non H' (fr_same f') .non⟩
  · cases h2
def startIO (m j : Nat) (ds : List PD) : SE := (startE m ds).modify j fun s => s.map fun s => .io s.dat
def ioD (j : Nat) (env : SE) : Option PD := match env[j]? with
  | some (some (.io d)) => some d
  | _ => none
def outIO (j : Nat) : Option Out → Option (PD × PD)
  | some (.rt d e) => (ioD j e).map fun z => (d, z)
  | some (.nx e) => (ioD j e).map fun z => (.none, z)
  | _ => none
def fnIO (m j : Nat) (f : DS) : List PD → Option (PD × PD) := fun ds => outIO j (f (startIO m j ds))
theorem startIO_get {m j : Nat} {ds : List PD} {i : Nat} {s : Sl} (h : (startIO m j ds)[i]? = some (some s)) : (i ≠ j ∧ ∃ d, ds[i]? = some d ∧ s = .sh d) ∨ (i = j ∧ ∃ d, ds[i]? = some d ∧ s = .io d) := by
  unfold startIO at h
  rw [List.getElem?_modify] at h
  cases e : (startE m ds)[i]? with
  | none => rw [e] at h; cases h
  | some o =>
    rw [e] at h
    by_cases hij : j = i
    · subst hij
      have h : Option.map (fun s => Sl.io s.dat) o = some s := by simpa using h
      cases o with
      | none => cases h
      | some s0 =>
        obtain ⟨d, h1, rfl⟩ := startE_get e
        cases h
        exact .inr ⟨rfl, d, h1, rfl⟩
    · have h : o = some s := by simpa [hij] using h
      subst h
      obtain ⟨d, h1, rfl⟩ := startE_get e
      exact .inl ⟨Ne.symm hij, d, h1, rfl⟩
/-- THE RULE for a def that changes its argument j -/
theorem ok_fnIO {P : Program} {w : World} {mg : Str → Option Value} {base : Heap} {x qual : Str} {params : Arguments} {body : List Stmt} {scope : Scope} {f : Addr} {fd : FuncData} {ps : List Str} {k j : Nat} {b : DS} {g : List PD → Option (PD × PD)}
    (F : FunD K x qual params body scope [] [] f fd) (S : FnScope N ps scope) (hg : ∀ ds d, ds.length = ps.length → g ds = some d → fnIO N.length j b ds = some d)
    (hbody : ∀ (cdv : Value) (A : Around) (outer : List Env) (s : Shared) (H : Hp) (E : XK), Room k (A.deeper (envOfC qual scope s.heap.objs.size f cdv)) → SSs (cxOf CX0 P w K mg base N qual scope f cdv A outer s H E).nox body b) :
    FnOk P w K mg base CX0 (k + 1) f fd ps (spIO K ps.length j g) := by
  have hpl : ps.length ≤ N.length := by have := congrArg List.length S.pre; rw [List.length_take] at this; omega
  refine F.ok S (fun vs H Q E ⟨O, a, ds, dj, d, d', h1, h0, _⟩ => h0) (fun cdv A outer s H vs Q E hr ⟨O, a, ds, dj, d, d', h1, h0, h2, h3, h4, h5, h6, h7, h8, h9⟩ => ⟨_, (hbody cdv A outer s H E hr).nox, ?_⟩)
  have h2 := hg ds _ h1 h2
  have er : ER K (fun b => O b ∧ b ≠ a) (some a) O (L2.start N vs) H (startIO N.length j ds) := by
    refine ⟨?_, h3, fun b z => z.1, fun b z => by cases z; exact h4, fun i d h => ?_, fun i d h => ?_, fun i d h => ?_, fun i i' s t b g1 g2 m1 m2 _ _ => ?_⟩
    · unfold L2.start startIO startE
      simp only [List.length_append, List.length_map, List.length_replicate, List.length_modify]
      omega
    · rcases startIO_get h with ⟨n, e, g1, g2⟩ | ⟨_, e, g1, g2⟩
      · cases g2
        have hi : i < vs.length := by have := (List.getElem?_eq_some_iff.mp g1).1; omega
        exact ⟨vs[i], start_get (List.getElem?_eq_getElem hi), h8 i _ _ n (List.getElem?_eq_getElem hi) g1⟩
      · cases g2
    · rcases startIO_get h with ⟨n, e, g1, g2⟩ | ⟨_, e, g1, g2⟩
      · cases g2
      · cases g2
    · rcases startIO_get h with ⟨n, e, g1, g2⟩ | ⟨z, e, g1, g2⟩
      · cases g2
      · cases g2
        subst z
        rw [h6] at g1; cases g1
        exact ⟨a, rfl, start_get h5, h7, h4, fun z => z.2 rfl⟩
    · rcases startIO_get g1 with ⟨_, _, _, g⟩ | ⟨z, _, _, _⟩
      · subst g; cases m1
      · rcases startIO_get g2 with ⟨_, _, _, g⟩ | ⟨z2, _, _, _⟩
        · subst g; cases m2
        · rw [z, z2]
  have sb : ∀ {O' : AS} {H' : Hp}, Fr (fun b => O b ∧ b ≠ a) O H O' H' → SameBut' a H H' := fun {O' H'} f b o e n => f.kp b o e (by
    rcases Classical.em (O b) with z | z
    · exact .inr (.inr ⟨z, n⟩)
    · exact .inr (.inl z))
  have own : ∀ {σ' : L2.St} {O' : AS} {H' : Hp} {env' : SE} {z : PD}, ER K (fun b => O b ∧ b ≠ a) (some a) O' σ' H' env' → ioD j env' = some z → OwnAt K H' O a z ∧ ∀ b, O b → O' b := fun {σ' O' H' env' z} w' hm => by
    have osub : ∀ b, O b → O' b := fun b z => by
      by_cases hb : b = a
      · subst hb; exact w'.pin _ rfl
      · exact w'.sub b ⟨z, hb⟩
    unfold ioD at hm
    split at hm
    · rename_i dj' hi
      cases hm
      obtain ⟨a', e1, e2, e3, e4, e5⟩ := w'.io j _ hi
      cases e1
      exact ⟨e3.kp (fun b o e _ => e) (fun b _ n z => n (osub b z)) fun o e => e, osub⟩
    · cases hm
  unfold fnIO outIO at h2
  split at h2
  · rename_i d0 e ho
    obtain ⟨z, hz, e2⟩ := Option.map_eq_some_iff.mp h2
    cases e2
    refine ⟨_, some a, O, _, _, ho, er, fun v σ' O' H' w' f' r' => ?_⟩
    obtain ⟨w1, w2⟩ := own w' hz
    exact h9 v H' (sb f') w1 (r'.sub w2)
  · rename_i e ho
    obtain ⟨z, hz, e2⟩ := Option.map_eq_some_iff.mp h2
    cases e2
    refine ⟨_, some a, O, _, _, ho, er, fun σ' O' H' w' f' => ?_⟩
    obtain ⟨w1, w2⟩ := own w' hz
    exact h9 .non H' (sb f') w1 .non
  · cases h2
end

/-! ### calls of defs -/
section
variable {X : Cx} {x : Str} {p pos : Pos} {e : Expr} {es : List Expr} {n k j : Nat} {g : List PD → Option PD} {q : SE → Option (List PD)}
/-- a def that may be called by its name -/
structure Cal (P : Program) (w : World) (K : PySem.W.Frag) (mg : Str → Option Value) (base : Heap) (k : Nat) (x : Str) (sp : Sp) : Prop where
  ex : ∃ (f : Addr) (fd : FuncData) (ps : List Str), FnOk P w K mg base CX0 k f fd ps sp ∧ mg x = some (.ref f) ∧ PySem.W.keepIn K (.ref f) = true ∧ Binds K fd ps []
abbrev CalX (X : Cx) (k : Nat) (x : Str) (sp : Sp) : Prop := Cal X.prog X.w X.K X.mg X.base k x sp
theorem pe_c {k j : Nat} {sp : Sp} {t : TA} (c : CalX X k x sp) (hr : Room j X.A) (hk : k ≤ j) (hg : Gl X x) (ha : PA X (e :: es) t)
    (hdb : (x == ("__debug__" : Str)) = false := by decide) (he : starEach (e :: es) X.env = (false, eval e X.env) :: starEach es X.env := by rfl) (hpl : (backTo pos (starEach es X.env)).any (·.1) = false := by rfl) :
    PE X (.Call (.Name x p) (e :: es) [] pos) (tCall sp [] E0 t) := by
  obtain ⟨f, fd, ps, F, hm, kp, b⟩ := c.ex
  exact pe_call F (hr.mono hk) hg hm kp b .nil pass0 ha hdb he hpl
theorem qe_call (c : CalX X k x (spP X.K n g)) (hr : Room j X.A) (hk : k ≤ j) (hg : Gl X x) (ha : QA X (e :: es) q)
    (hdb : (x == ("__debug__" : Str)) = false := by decide) (he : starEach (e :: es) X.env = (false, eval e X.env) :: starEach es X.env := by rfl) (hpl : (backTo pos (starEach es X.env)).any (·.1) = false := by rfl) :
    QE X (.Call (.Name x p) (e :: es) [] pos) (qCall (fun ds => if ds.length = n then g ds else none) q) :=
  pe_weak (pe_c c hr hk hg ha hdb he hpl) fun σ H Q ⟨T, pa, O, env, d, e1, w, k⟩ => by
    obtain ⟨ds, h1, h2⟩ := bind_some e1
    obtain ⟨hl, h2⟩ := if_some h2
    refine ⟨T, pa, O, env, ds, h1, w, fun vs H' s' r' => ⟨O, ds, d, hl, h2, (w.same s').dom, ?_, fun v H2 s2 r2 => k v H2 (s'.trans s2) r2⟩⟩
    rw [List.append_nil]
    exact r'
end
end D
end
section
set_option Elab.async false
set_option linter.all false
set_option maxRecDepth 100000
set_option maxHeartbeats 4000000
/-! The pure layer, part O: expressions with effects; freezing. -/
namespace D
open PySem PySem.Spec PyProof.Rows L2

section
variable {K : PySem.W.Frag} {T : AS} {pa : Option Addr} {O : AS} {σ : L2.St} {H H' : Hp} {env : SE}
/-- one's own object has changed, all else stays -/
theorem ER.changed (w : ER K T pa O σ H env) {i : Nat} {d d' : PD} (e : mineD i env = some d) {a : Addr} (ha : σ[i]? = some (some (.ref a))) (sb : SameBut' a H H') (r : OwnAt K H' O a d') (hO : O a) (hT : ¬ T a) (h0 : OwnAt K H O a d) :
    ER K T pa O σ H' (putM i d' env) ∧ Fr T O H O H' := by
  obtain ⟨o, ho, hf⟩ := h0.there
  have kp : ∀ b v, H b = some v → (fixed v = true ∨ ¬ O b) → H' b = some v := fun b v e h => sb b v e fun z => by
    subst z
    rw [ho] at e; cases e
    rcases h with h | h
    · rw [hf] at h; cases h
    · exact h hO
  have nn : ∀ b, H b ≠ none → ¬ O b → ¬ O b := fun _ _ n => n
  have dom : ∀ b, O b → H' b ≠ none := fun b z q => by
    by_cases hb : b = a
    · subst hb
      obtain ⟨o', ho', _⟩ := r.there
      rw [ho'] at q; cases q
    · cases e : H b with
      | none => exact w.dom b z e
      | some v => rw [sb b v e hb] at q; cases q
  have hi : ∃ s, env[i]? = some (some s) ∧ s.mine = true ∧ putM i d' env = env.set i (some (s.like d')) := by
    unfold mineD at e
    unfold putM
    split at e
    · rename_i x h; exact ⟨_, h, rfl, rfl⟩
    · rename_i x h; exact ⟨_, h, rfl, rfl⟩
    · cases e
  obtain ⟨s, hs, hm, hp⟩ := hi
  rw [hp]
  refine ⟨⟨by rw [List.length_set]; exact w.len, dom, w.sub, w.pin, fun j e h => ?_, fun j e h => ?_, fun j e h => ?_, fun j k s1 s2 c h1 h2 m1 m2 h3 h4 => ?_⟩, ⟨fun b v e h => ?_, nn⟩⟩
  · rcases get_set h with ⟨rfl, z⟩ | ⟨n, h⟩
    · cases s <;> cases z
    · obtain ⟨v, h1, h2⟩ := w.sh j e h
      exact ⟨v, h1, h2.kp kp nn⟩
  · rcases get_set h with ⟨e1, z⟩ | ⟨n, h⟩
    · subst e1
      cases s with
      | sh _ => cases hm
      | io _ => cases z
      | ow x =>
        cases z
        obtain ⟨b, h1, h2, h3, h4, h5⟩ := w.ow j x hs
        rw [ha] at h1; cases h1
        exact ⟨a, ha, r, h3, h4, h5⟩
    · obtain ⟨b, h1, h2, h3⟩ := w.ow j e h
      have nb : b ≠ a := fun z => by subst z; exact n (w.inj j i _ _ b h hs rfl hm h1 ha)
      exact ⟨b, h1, h2.kp kp nn (fun o q => sb _ _ q nb), h3⟩
  · rcases get_set h with ⟨e1, z⟩ | ⟨n, h⟩
    · subst e1
      cases s with
      | sh _ => cases hm
      | ow _ => cases z
      | io x =>
        cases z
        obtain ⟨b, h0, h1, h2, h3⟩ := w.io j x hs
        rw [ha] at h1; cases h1
        exact ⟨a, h0, ha, r, h3⟩
    · obtain ⟨b, h0, h1, h2, h3⟩ := w.io j e h
      have nb : b ≠ a := fun z => by subst z; exact n (w.inj j i _ _ b h hs rfl hm h1 ha)
      exact ⟨b, h0, h1, h2.kp kp nn (fun o q => sb _ _ q nb), h3⟩
  · have back : ∀ {j : Nat} {s1 : Sl}, (env.set i (some (s.like d')))[j]? = some (some s1) → s1.mine = true → ∃ s2, env[j]? = some (some s2) ∧ s2.mine = true := fun {j s1} h m => by
      rcases get_set h with ⟨e1, z⟩ | ⟨n, h⟩
      · subst e1; exact ⟨s, hs, hm⟩
      · exact ⟨s1, h, m⟩
    obtain ⟨t1, g1, g2⟩ := back h1 m1
    obtain ⟨t2, g3, g4⟩ := back h2 m2
    exact w.inj j k t1 t2 c g1 g3 g2 g4 h3 h4
  · refine sb b v e fun z => ?_
    subst z
    rw [ho] at e; cases e
    rcases h with h | h | h
    · rw [hf] at h; cases h
    · exact h hO
    · exact hT h
/-- one's own object is given away: shared from now on -/
def frz (i : Nat) (env : SE) : SE := match env[i]? with
  | some (some (.ow d)) => env.set i (some (.sh d))
  | _ => env
theorem ER.freeze (w : ER K T pa O σ H env) (i : Nat) : ∃ O', ER K T pa O' σ H (frz i env) ∧ Fr T O H O' H := by
  unfold frz
  split
  · rename_i d h
    obtain ⟨a, h1, h2, h3, h4, h5⟩ := w.ow i d h
    have sub : ∀ b, (O b ∧ b ≠ a) → O b := fun b z => z.1
    have kp : ∀ b o, H b = some o → (fixed o = true ∨ ¬ O b) → H b = some o := fun b o e _ => e
    have nn : ∀ b, H b ≠ none → ¬ O b → ¬ (O b ∧ b ≠ a) := fun b _ n z => n z.1
    refine ⟨fun b => O b ∧ b ≠ a, ⟨by rw [List.length_set]; exact w.len, fun b z => w.dom b z.1, fun b z => ⟨w.sub b z, fun e => h4 (e ▸ z)⟩, fun b z => ⟨w.pin b z, fun e => h5 (e ▸ z)⟩, fun j e g => ?_, fun j e g => ?_, fun j e g => ?_, fun j k s t c g1 g2 m1 m2 g3 g4 => ?_⟩, ⟨fun b o e _ => e, nn⟩⟩
    · rcases get_set g with ⟨e1, z⟩ | ⟨n, g⟩
      · subst e1
        cases z
        exact ⟨.ref a, h1, h2.rep sub fun z => z.2 rfl⟩
      · obtain ⟨v, g1, g2⟩ := w.sh j e g
        exact ⟨v, g1, g2.sub sub⟩
    · rcases get_set g with ⟨e1, z⟩ | ⟨n, g⟩
      · cases z
      · obtain ⟨b, g1, g2, g3, g4⟩ := w.ow j e g
        have nb : b ≠ a := fun z => by subst z; exact n (w.inj j i _ _ b g h rfl rfl g1 h1)
        exact ⟨b, g1, g2.kp kp nn (fun o e => e), ⟨g3, nb⟩, g4⟩
    · rcases get_set g with ⟨e1, z⟩ | ⟨n, g⟩
      · cases z
      · obtain ⟨b, g0, g1, g2, g3, g4⟩ := w.io j e g
        have nb : b ≠ a := fun z => by subst z; exact n (w.inj j i _ _ b g h rfl rfl g1 h1)
        exact ⟨b, g0, g1, g2.kp kp nn (fun o e => e), ⟨g3, nb⟩, g4⟩
    · rcases get_set g1 with ⟨_, z⟩ | ⟨n, g1⟩
      · cases z; cases m1
      · rcases get_set g2 with ⟨_, z⟩ | ⟨n, g2⟩
        · cases z; cases m2
        · exact w.inj j k s t c g1 g2 m1 m2 g3 g4
  · exact ⟨O, w, Fr.refl⟩
end
section
variable {X : Cx} {f : DS} {st : Stmt} {sts : List Stmt}
def dFrz (i : Nat) (f : DS) : DS := fun env => f (frz i env)
theorem ss_frz (i : Nat) (h : SS X st f) : SS X st (dFrz i f) := ps_weak h fun D σ H ⟨T, pa, O, env, out, e1, w, k⟩ => by
  obtain ⟨O', w', f'⟩ := w.freeze i
  exact ⟨T, pa, O', _, out, e1, w', k.fr f'⟩
theorem sss_frz (i : Nat) (h : SSs X sts f) : SSs X sts (dFrz i f) := pss_weak h fun D σ H ⟨T, pa, O, env, out, e1, w, k⟩ => by
  obtain ⟨O', w', f'⟩ := w.freeze i
  exact ⟨T, pa, O', _, out, e1, w', k.fr f'⟩
end

/-! ### effects -/
abbrev Eds := SE → Option (List PD × SE)
def tEA (K : PySem.W.Frag) (f : Eds) : TA := fun σ H Q => ∃ T pa O env ds env', f env = some (ds, env') ∧ ER K T pa O σ H env ∧ ∀ vs H', ER K T pa O σ H' env' → Fr T O H O H' → RepL K H' O vs ds → Q vs H'
abbrev EA (X : Cx) (es : List Expr) (f : Eds) : Prop := PA X es (tEA X.K f)
def eaNil : Eds := fun env => some ([], env)
def eaCons (f : Ed) (r : Eds) : Eds := fun env => match f env with
  | some (d, e1) => match r e1 with
    | some (ds, e2) => some (d :: ds, e2)
    | none => none
  | none => none
def e2 (f : PD → PD → Option PD) (p q : Ed) : Ed := fun env => match p env with
  | some (d, e1) => match q e1 with
    | some (e, e2) => (f d e).map fun z => (z, e2)
    | none => none
  | none => none
def eFn (f : List PD → Option PD) (r : Eds) : Ed := fun env => match r env with
  | some (ds, e1) => (f ds).map fun z => (z, e1)
  | none => none
section
variable {X : Cx} {x : Str} {a b e : Expr} {es : List Expr} {f g : Ed} {r : Eds} {q : Qd} {p pos : Pos}
theorem ea_nil : EA X [] eaNil := pa_weak pa_nil fun σ H Q ⟨T, pa, O, env, ds, env', e1, w, k⟩ => by
  cases e1
  exact k [] H w Fr.refl .nil
theorem ea_cons (h : EE X e f) (hr : EA X es r) (hs : starEach (e :: es) X.env = (false, eval e X.env) :: starEach es X.env := by rfl) : EA X (e :: es) (eaCons f r) :=
  pa_weak (pa_cons h hr hs) fun σ H Q ⟨T, pa, O, env, ds, env', e1, w, k⟩ => by
    unfold eaCons at e1
    split at e1
    · rename_i d en1 h1
      split at e1
      · rename_i ds' en2 h2
        cases e1
        exact ⟨T, pa, O, env, d, en1, h1, w, fun v H1 w1 f1 r1 => ⟨T, pa, O, _, ds', _, h2, w1, fun vs H2 w2 f2 r2 => k (v :: vs) H2 w2 (f1.trans f2) (.cons (r1.fr f2) r2)⟩⟩
      · cases e1
    · cases e1
theorem tOpE_weak {r : R2} {fo : PD → PD → Option PD} (hk : OpOk X.K r fo) : ∀ σ H Q, tE X.K (e2 fo f g) σ H Q → tOp r (tE X.K f) (tE X.K g) σ H Q := fun σ H Q ⟨T, pa, O, env, z, env', e1, w, k⟩ => by
  unfold e2 at e1
  split at e1
  · rename_i d en1 h1
    split at e1
    · rename_i d2 en2 h2
      obtain ⟨z', h3, h4⟩ := Option.map_eq_some_iff.mp e1
      cases h4
      refine ⟨T, pa, O, env, d, en1, h1, w, fun v H1 w1 f1 r1 => ⟨T, pa, O, _, d2, _, h2, w1, fun u H2 w2 f2 r2 => ?_⟩⟩
      exact hk O H2 v u d d2 _ _ w2.dom (.inl (r1.fr f2)) (.inl r2) h3 fun v' H3 s3 r3 => k v' H3 (w2.same s3) ((f1.trans f2).trans (Fr.of_same s3)) r3
    · cases e1
  · cases e1
theorem ee_op {op : Operator} {r : R2} {fo : PD → PD → Option PD} (ho : OpR X (binaryOp op) r) (hk : OpOk X.K r fo) (ha : EE X a f) (hb : EE X b g) : EE X (.BinOp a op b pos) (e2 fo f g) := pe_weak (pe_op ho ha hb) (tOpE_weak hk)
theorem ee_cmp {op : CmpOp} {r : R2} {fo : PD → PD → Option PD} (ho : OpR X (compareOp op) r) (hk : OpOk X.K r fo) (ha : EE X a f) (hb : EE X b g) (hm : behindInMarks op b = false) : EE X (.Compare a [op] [b] pos) (e2 fo f g) := pe_weak (pe_cmpR ho ha hb hm) (tOpE_weak hk)
theorem ee_ix (hu : X.A.units + 64 < cLine) (ha : EE X a f) (hb : EE X b g) (hs : PlainIx b) : EE X (.Subscript a b pos) (e2 getD' f g) := pe_weak (pe_ix (ix_A hu) ha hb hs) (tOpE_weak ok_ix)
theorem ee_tup {x1} (h : EA X es r) : EE X (.Tuple es x1 pos) (eFn (fun ds => if ds.length ≤ LIM then some (.tuple ds) else none) r) :=
  pe_weak (pe_tup h) fun σ H Q ⟨T, pa, O, env, z, env', e1, w, k⟩ => by
    unfold eFn at e1
    split at e1
    · rename_i ds en1 h1
      obtain ⟨z', h3, h4⟩ := Option.map_eq_some_iff.mp e1
      cases h4
      obtain ⟨hz, rfl⟩ := some_if h3
      refine ⟨T, pa, O, env, ds, _, h1, w, fun vs H1 w1 f1 r1 => ⟨by rw [r1.length, lim_eq]; exact hz, fun t ht => ?_⟩⟩
      exact k _ _ (w1.same (same_upd ht)) (f1.trans (Fr.of_same (same_upd ht))) (tup_new ht (by rw [r1.length, lim_eq]; exact hz) r1)
    · cases e1
theorem ee_lst (h : EA X es r) : EE X (.List es pos) (eFn (fun ds => if ds.length ≤ LIM then some (.list ds) else none) r) :=
  pe_weak (pe_lst h) fun σ H Q ⟨T, pa, O, env, z, env', e1, w, k⟩ => by
    unfold eFn at e1
    split at e1
    · rename_i ds en1 h1
      obtain ⟨z', h3, h4⟩ := Option.map_eq_some_iff.mp e1
      cases h4
      obtain ⟨hz, rfl⟩ := some_if h3
      refine ⟨T, pa, O, env, ds, _, h1, w, fun vs H1 w1 f1 r1 => ⟨by rw [r1.length, lim_eq]; exact hz, fun t ht => ?_⟩⟩
      exact k _ _ (w1.same (same_upd ht)) (f1.trans (Fr.of_same (same_upd ht))) (.lst ⟨.inl ⟨.inl upd_same, fun z => w1.dom t z ht⟩, by rw [r1.length, lim_eq]; exact hz⟩ (r1.same (same_upd ht)))
    · cases e1
theorem RepL.toT {K : PySem.W.Frag} {H : Hp} {O : AS} : ∀ {vs : List V} {ds : List PD}, RepL K H O vs ds → RepTL K H O vs ds
  | _, _, .nil => .nil
  | _, _, .cons a b => .cons (.inl a) (RepL.toT b)
theorem tCBE_weak {rr : List V → Hp → VK → Prop} {fo : List PD → Option PD} (hk : CallOk X.K rr fo) : ∀ σ H Q, tE X.K (eFn fo r) σ H Q → tCB rr (tEA X.K r) σ H Q := fun σ H Q ⟨T, pa, O, env, z, env', e1, w, k⟩ => by
  unfold eFn at e1
  split at e1
  · rename_i ds en1 h1
    obtain ⟨z', h3, h4⟩ := Option.map_eq_some_iff.mp e1
    cases h4
    refine ⟨T, pa, O, env, ds, _, h1, w, fun vs H1 w1 f1 r1 => ?_⟩
    exact hk O H1 vs ds _ _ w1.dom r1.toT h3 fun v' H3 s3 r3 => k v' H3 (w1.same s3) (f1.trans (Fr.of_same s3)) r3
  · cases e1
theorem ee_callB {id : String} {rr : List V → Hp → VK → Prop} {fo : List PD → Option PD} (hc : CallR X (.builtin id) rr) (hk : CallOk X.K rr fo) (hg : Gl X x) (hm : X.mg x = none) (hv : bootBuiltins x = some (.builtin id)) (ha : EA X (e :: es) r) (hn : x ≠ "__name__" := by decide) (hdb : (x == ("__debug__" : Str)) = false := by decide)
    (he : starEach (e :: es) X.env = (false, eval e X.env) :: starEach es X.env := by rfl) (hpl : (backTo pos (starEach es X.env)).any (·.1) = false := by rfl) : EE X (.Call (.Name x p) (e :: es) [] pos) (eFn fo r) :=
  pe_weak (pe_callB hc hg hm hv ha hn hdb he hpl) (tCBE_weak hk)
theorem ee_callTy {id : String} {rr : List V → Hp → VK → Prop} {fo : List PD → Option PD} (hc : CallR X (.type id) rr) (hk : CallOk X.K rr fo) (hg : Gl X x) (hm : X.mg x = none) (hv : bootBuiltins x = some (.type id)) (ha : EA X (e :: es) r) (hn : x ≠ "__name__" := by decide) (hdb : (x == ("__debug__" : Str)) = false := by decide)
    (he : starEach (e :: es) X.env = (false, eval e X.env) :: starEach es X.env := by rfl) (hpl : (backTo pos (starEach es X.env)).any (·.1) = false := by rfl) : EE X (.Call (.Name x p) (e :: es) [] pos) (eFn fo r) :=
  pe_weak (pe_callTy hc hg hm hv ha hn hdb he hpl) (tCBE_weak hk)
/-- f(e, ..), a def by data, of effects -/
theorem ee_call {n k j : Nat} {g : List PD → Option PD} (c : CalX X k x (spP X.K n g)) (hr : Room j X.A) (hk : k ≤ j) (hg : Gl X x) (ha : EA X (e :: es) r)
    (hdb : (x == ("__debug__" : Str)) = false := by decide) (he : starEach (e :: es) X.env = (false, eval e X.env) :: starEach es X.env := by rfl) (hpl : (backTo pos (starEach es X.env)).any (·.1) = false := by rfl) :
    EE X (.Call (.Name x p) (e :: es) [] pos) (eFn (fun ds => if ds.length = n then g ds else none) r) :=
  pe_weak (pe_c c hr hk hg ha hdb he hpl) fun σ H Q ⟨T, pa, O, env, d, env', e1, w, k⟩ => by
    unfold eFn at e1
    split at e1
    · rename_i ds en1 h1
      obtain ⟨z', h3, h4⟩ := Option.map_eq_some_iff.mp e1
      cases h4
      obtain ⟨hl, h3⟩ := if_some h3
      refine ⟨T, pa, O, env, ds, _, h1, w, fun vs H1 w1 f1 r1 => ⟨O, ds, d, hl, h3, w1.dom, ?_, fun v H2 s2 r2 => k v H2 (w1.same s2) (f1.trans (Fr.of_same s2)) r2⟩⟩
      rw [List.append_nil]
      exact r1
    · cases e1
/-- f(box, e, ..): a def that changes its first argument, an object of one's own -/
def eIO (i n : Nat) (g : List PD → Option (PD × PD)) (q : SE → Option (List PD)) : Ed := fun env => match mineD i env with
  | some d0 => match q env with
    | some ds => if ds.length + 1 = n then match g (d0 :: ds) with
        | some (d, d') => some (d, putM i d' env)
        | none => none
      else none
    | none => none
  | none => none
theorem ee_callIO {n k j i : Nat} {g : List PD → Option (PD × PD)} {q : SE → Option (List PD)} (c : CalX X k x (spIO X.K n 0 g)) (hr : Room j X.A) (hk : k ≤ j) (hg : Gl X x) (ho : PE X e (tVar i)) (ha : QA X es q)
    (hdb : (x == ("__debug__" : Str)) = false := by decide) (he : starEach (e :: es) X.env = (false, eval e X.env) :: starEach es X.env := by rfl) (hpl : (backTo pos (starEach es X.env)).any (·.1) = false := by rfl) :
    EE X (.Call (.Name x p) (e :: es) [] pos) (eIO i n g q) :=
  pe_weak (pe_c c hr hk hg (pa_cons ho ha he) hdb he hpl) fun σ H Q ⟨T, pa, O, env, z, env', e1, w, k⟩ => by
    unfold eIO at e1
    split at e1
    · rename_i d0 hm
      split at e1
      · rename_i ds hq
        obtain ⟨hl, e1⟩ := if_some e1
        split at e1
        · rename_i d d' hgd
          cases e1
          obtain ⟨a, h1, h2, h3, h4⟩ := w.mine hm
          refine ⟨.ref a, h1, T, pa, O, env, ds, hq, w, fun vs H1 s1 r1 => ?_⟩
          have w1 := w.same s1
          obtain ⟨a', h1', h2', _⟩ := w1.mine hm
          rw [h1] at h1'; cases h1'
          show spIO X.K n 0 g ((V.ref a :: vs) ++ []) H1 Q E0
          rw [List.append_nil]
          refine ⟨O, a, d0 :: ds, d0, _, d', by rw [List.length_cons]; exact hl, by rw [List.length_cons, r1.length]; exact hl, hgd, w1.dom, h3, rfl, rfl, h2', fun i' v e' n hv hd => ?_, fun v H2 sb ow r2 => ?_⟩
          · cases i' with
            | zero => exact absurd rfl n
            | succ i' =>
              obtain ⟨y, y1, y2⟩ := r1.get (i := i') (x := e') (by simpa using hd)
              have : vs[i']? = some v := by simpa using hv
              rw [this] at y1; cases y1
              exact y2
          · obtain ⟨w2, f2⟩ := w1.changed hm h1 sb ow h3 h4 h2'
            exact k v H2 w2 ((Fr.of_same s1).trans f2) r2
        · cases e1
      · cases e1
    · cases e1
end
end D
end
section
set_option Elab.async false
set_option linter.all false
set_option maxRecDepth 100000
set_option maxHeartbeats 4000000
/-! The pure layer, part P: more forms. -/
namespace D
open PySem PySem.Spec PyProof.Rows L2
open HT (sIx)

/-! ### -x -/
def negD : PD → Option PD
  | .int i => some (.int (-i))
  | _ => none
section
variable {X : Cx} {a b e o : Expr} {es : List Expr} {p q : Qd} {pos p2 apos : Pos} {x : Str} {tg : Expr} {bb : Bool}
theorem qe_neg (ha : PQ X a p) : QE X (.UnaryOp .USub a pos) (q1 negD p) := pe_weak (pe_un un_neg ha) fun σ H Q ⟨T, pa, O, env, z, e1, w, k⟩ => by
  obtain ⟨d, h1, h2⟩ := bind_some e1
  unfold negD at h2
  split at h2
  · cases h2
    exact ⟨T, pa, O, env, _, h1, w, fun v H' s' r' => ⟨_, r'.int, k _ H' s' (.int _)⟩⟩
  · cases h2

/-! ### reversed -/
def iRev (q : Qd) : SE → Option (List PD) := fun env => do
  let d ← q env
  let ds ← seqOf d
  pure ds.reverse
theorem rev_get {α : Type} {xs : List α} {i : Nat} (h : i < xs.length) : xs.reverse[i]? = xs[xs.length - 1 - i]? := List.getElem?_reverse h
theorem qi_rev (hg : Gl X "reversed") (hm : X.mg "reversed" = none) (he : XE X bb e q) (hs : starEach [e] X.env = (false, eval e X.env) :: starEach [] X.env := by rfl) : QI X bb tg (.Call (.Name "reversed" p2) [e] [] pos) (iRev q) :=
  pi_weak (RT.pi_revA hg hm (xe_as he) hs) fun σ H R ⟨T, pa, O, env, ds, e1, w, k⟩ => by
    obtain ⟨d, h1, h0⟩ := bind_some e1
    obtain ⟨ds', h2, h3⟩ := bind_some h0
    cases h3
    refine ⟨T, pa, O, env, d, h1, w, fun v H' s' r' => ?_⟩
    obtain ⟨q, xs, ev, hq, hd⟩ := src_of (T := T) r' (seqOf_some h2)
    have hl : xs.length = ds'.length := (hq O H' Kp.refl).2.length
    have yl : ∀ {i : Nat} {O2 : AS} {H2 : Hp} {d2 : PD} {v2 : V}, Kp bb T O H' O2 H2 → ds'.reverse[i]? = some d2 → xs[xs.length - 1 - i]? = some v2 → Rep X.K H2 O2 v2 d2 := fun {i O2 H2 d2 v2} k2 h3 h4 => by
      have hi : i < ds'.length := by have := (List.getElem?_eq_some_iff.mp h3).1; simpa using this
      rw [rev_get hi, ← hl] at h3
      obtain ⟨y, y1, y2⟩ := (hq O2 H2 k2).2.get h3
      rw [h4] at y1; cases y1
      exact y2
    cases q with
    | l a =>
      refine ⟨a, xs, ev, .inl ⟨(hq O H' Kp.refl).1, k _ H' s' ⟨fun i O2 H2 k2 hi => ?_, fun O2 H2 k2 => ?_, fun i O2 H2 v2 H3 d2 k2 h3 y => ?_⟩⟩⟩
      · have hi : i < ds'.length := by simpa using hi
        exact ⟨by omega, xs, xs[xs.length - 1 - i]'(by omega), (hq O2 H2 k2).1, List.getElem?_eq_getElem _⟩
      · show xs.length ≤ _
        rw [List.length_reverse]; omega
      · obtain ⟨rfl, y⟩ := y
        exact ⟨Same.refl _, fun _ => yl k2 h3 (y xs (hq O2 _ k2).1)⟩
    | t a =>
      refine ⟨a, xs, ev, .inr ⟨(hq O H' Kp.refl).1, k _ H' s' ⟨fun i O2 H2 k2 hi => ?_, fun O2 H2 k2 => ?_, fun i O2 H2 v2 H3 d2 k2 h3 y => ?_⟩⟩⟩
      · have hi : i < ds'.length := by simpa using hi
        exact ⟨by omega, xs, xs[xs.length - 1 - i]'(by omega), (hq O2 H2 k2).1, List.getElem?_eq_getElem _⟩
      · show xs.length ≤ _
        rw [List.length_reverse]; omega
      · obtain ⟨rfl, y⟩ := y
        exact ⟨Same.refl _, fun _ => yl k2 h3 (y xs (hq O2 _ k2).1)⟩

/-! ### xs.index(x) -/
def idxD (d e : PD) : Option PD := match d with
  | .list ds => if (d.plain && e.plain && SeqAt.shaped d && SeqAt.shaped e) = true then (ds.findIdx? fun z => PyData.eqv z e).map fun (j : Nat) => .int j else none
  | _ => none
theorem findIdx_spec {α : Type} {f : α → Bool} : ∀ {xs : List α} {j : Nat}, xs.findIdx? f = some j → ∃ z, xs[j]? = some z ∧ f z = true ∧ ∀ (m : Nat) (z' : α), m < j → xs[m]? = some z' → f z' = false := fun {xs j} h => by
  obtain ⟨h1, h2, h3⟩ := List.findIdx?_eq_some_iff_getElem.mp h
  refine ⟨xs[j], List.getElem?_eq_getElem h1, h2, fun m z' hm hz => ?_⟩
  have hm' : m < xs.length := by omega
  rw [List.getElem?_eq_getElem hm'] at hz
  cases hz
  have := h3 m hm
  simpa using this
theorem qe_index (hu : X.A.units + 65 < cLine) (ho : PQ X o p) (he : PQ X e q)
    (hbase : attributeBase o "index" X.env (eval o X.env) = eval o X.env := by rfl)
    (hfew : ((backTo p2 (starEach (e :: []) X.env)).all (fun x => !x.1) && (backToKw p2 (keywordEach [] X.env)).all (fun x => x.1.isSome) && decide ((e :: []).length + ([] : List Keyword).length + (if ([] : List Keyword).isEmpty then 0 else 1) < 30)) = true := by rfl)
    (hline : (apos.endLine == p2.line) = true := by rfl) (hst : starEach (e :: []) X.env = (false, eval e X.env) :: starEach [] X.env := by rfl) (hplain : (backTo p2 (starEach [] X.env)).any (·.1) = false := by rfl) :
    QE X (.Call (.Attribute o "index" apos) [e] [] p2) (q2 idxD p q) :=
  pe_weak (pe_bm PySem.F.plainAttrs_list PySem.F.slot_list_index PySem.F.type_list_index (mt_indexD hu) ho (pa_cons he pa_nil hst) hbase hfew hline hst hplain) fun σ H Q ⟨T, pa, O, env, z, e1, w, k⟩ => by
    obtain ⟨d, h1, h2⟩ := bind_some e1
    obtain ⟨d2, h3, h4⟩ := bind_some h2
    unfold idxD at h4
    split at h4
    · rename_i ds
      obtain ⟨hc, h4⟩ := if_some h4
      obtain ⟨j, h5, rfl⟩ := Option.map_eq_some_iff.mp h4
      simp only [Bool.and_eq_true] at hc
      obtain ⟨⟨⟨c1, c2⟩, c3⟩, c4⟩ := hc
      obtain ⟨zz, z1, z2, z3⟩ := findIdx_spec h5
      refine ⟨T, pa, O, env, _, h1, w, fun v H' s' r' => ?_⟩
      obtain ⟨a, xs, rfl, g1, g2, g3⟩ := r'.lst
      refine ⟨.inl ⟨rfl, xs, g1⟩, T, pa, O, env, d2, h3, w.same s', fun v2 H2 s2 r2 => ?_⟩
      exact ⟨a, v2, d2, ds, j, zz, rfl, rfl, (r'.same s2).dp c1, r2.dp c2, c3, c4, z1, z2, z3, k _ H2 (s'.trans s2) (.int _)⟩
    · cases h4

/-! ### sep.join(xs) -/
def strsOf : List PD → Option (List Str)
  | [] => some []
  | .str x :: r => (strsOf r).map (x :: ·)
  | _ => none
theorem strsOf_eq : ∀ {ds : List PD} {ns : List Str}, strsOf ds = some ns → ds = ns.map .str
  | [], ns, h => by cases h; rfl
  | .str n :: r, ns, h => by
    unfold strsOf at h
    obtain ⟨ms, h1, rfl⟩ := Option.map_eq_some_iff.mp h
    rw [strsOf_eq h1]; rfl
  | .none :: r, ns, h => by cases h
  | .bool _ :: r, ns, h => by cases h
  | .int _ :: r, ns, h => by cases h
  | .list _ :: r, ns, h => by cases h
  | .tuple _ :: r, ns, h => by cases h
  | .dict _ :: r, ns, h => by cases h
def joinD (d e : PD) : Option PD := match d with
  | .str a => do
    let ds ← seqOf e
    let ys ← strsOf ds
    if (ys.map (·.length)).sum + ys.length * a.length ≤ LIM then some (.str (Txt.join a ys)) else none
  | _ => none
theorem qe_join (ho : PQ X o p) (he : PQ X e q) (hs : starEach [e] X.env = [(false, eval e X.env)] := by rfl) (hbase : attributeBase o "join" X.env (eval o X.env) = eval o X.env := by rfl) (hline : (apos.endLine == pos.line) = true := by rfl) :
    QE X (.Call (.Attribute o "join" apos) [e] [] pos) (q2 joinD p q) :=
  pe_weak (L2.pe_join ho he hs hbase hline) fun σ H Q ⟨T, pa, O, env, z, e1, w, k⟩ => by
    obtain ⟨d, h1, h2⟩ := bind_some e1
    obtain ⟨d2, h3, h4⟩ := bind_some h2
    unfold joinD at h4
    split at h4
    · rename_i a
      obtain ⟨ds, h5, h4⟩ := bind_some h4
      obtain ⟨ys, h6, h4⟩ := bind_some h4
      obtain ⟨hz, rfl⟩ := some_if h4
      have ed := strsOf_eq h6
      refine ⟨T, pa, O, env, _, h1, w, fun v H' s' r' => ⟨⟨a, r'.str⟩, T, pa, O, env, d2, h3, w.same s', fun v2 H2 s2 r2 => ?_⟩⟩
      rcases seqOf_some h5 with rfl | rfl
      · obtain ⟨l, xs, rfl, g1, _, g3⟩ := r2.lst
        rw [ed] at g3
        have := g3.strs
        subst this
        exact ⟨a, l, ys, r'.str, rfl, .inl g1, hz, k _ H2 (s'.trans s2) (.str _)⟩
      · obtain ⟨l, xs, rfl, g1, _, g3⟩ := r2.tup
        rw [ed] at g3
        have := g3.strs
        subst this
        exact ⟨a, l, ys, r'.str, rfl, .inr g1, hz, k _ H2 (s'.trans s2) (.str _)⟩
    · cases h4

/-! ### max(xs, default=d): whole numbers -/
def maxDfD (d e : PD) : Option PD := match d with
  | .list ds => do
    let ns ← intsOf ds
    match maxI ns with
    | none => some e
    | some m => some (.int m)
  | _ => none
theorem alike_intsA (ns : List Int) : PySem.W.AlikeAll (ns.map .int) := ⟨fun x hx y hy => by
    obtain ⟨i, _, rfl⟩ := List.mem_map.mp hx
    obtain ⟨j, _, rfl⟩ := List.mem_map.mp hy
    rfl, fun x hx => by
    obtain ⟨i, _, rfl⟩ := List.mem_map.mp hx
    exact fun z => nomatch z⟩
def rMaxDf (K : PySem.W.Frag) : List V → List V → Hp → VK → Prop := fun vs zs H Q => ∃ (a : Addr) (ns : List Int) (z : V), vs = [V.ref a] ∧ zs = [z] ∧ SqL K H a (ns.map V.int) ∧ Q (match maxI ns with | none => z | some m => .int m) H
theorem readsAll_ints {h : Heap} : ∀ {ns : List Int} {its : List Value}, Vals (ns.map V.int) its → ∃ as, ReadsAll h its (ns.map .int) as
  | [], _, .nil => ⟨_, .nil⟩
  | n :: ns, _, .cons ⟨t, e⟩ r => by
    obtain ⟨as, h2⟩ := readsAll_ints (h := h) r
    subst e
    exact ⟨_, .cons (.int _ _) h2⟩
theorem cr_maxDf (hc : X.calm = true) (hu : X.A.units + 64 < cLine) : CallRK X (.builtin "max") [Str.ofString "default"] (rMaxDf X.K) := by
  intro pins s σ H vs zs us ws Q I r rz h
  obtain ⟨a, ns, z, rfl, rfl, hs, q⟩ := h
  obtain rfl := Vals.ref1 r
  obtain ⟨w1, rfl, e1⟩ := vals1 rz
  obtain ⟨its, rv, hl, hz⟩ := I.list hs
  obtain ⟨as, hr⟩ := readsAll_ints (h := s.heap) rv
  refine PySem.W.max_list_default (I.ok.hd hc) hl.isList hr (alike_intsA ns) (by rw [PySem.W.depth_ints]; omega) (fun h0 h' tk hk => ?_) fun y ys i v h' tk bs hy hv hrd hk => ?_
  · have e0 : ns = [] := by
      cases ns with
      | nil => rfl
      | cons => cases h0
    subst e0
    exact ⟨z, H, I.kept (t' := tk) hk, e1, q⟩
  · cases ns with
    | nil => cases hy
    | cons n ns =>
      cases hy
      rw [PySem.W.maxD_ints] at hrd
      cases hrd with
      | int _ t => exact ⟨.int (ns.foldl max n), H, I.kept (t' := tk) hk, ⟨t, rfl⟩, q⟩
theorem qe_maxDf {kpos : Pos} (hc : X.calm = true) (hu : X.A.units + 64 < cLine) (hg : Gl X "max") (hm : X.mg "max" = none) (ha : PQ X e p) (hk : QE X a q)
    (hst : starEach [e] X.env = (false, eval e X.env) :: starEach [] X.env := by rfl)
    (he : backTo pos (starEach (e :: []) X.env) = (false, eval e X.env) :: backTo pos (starEach [] X.env) := by rfl) (hpl : (backTo pos (starEach (e :: []) X.env)).any (·.1) = false := by rfl)
    (hall : (backToKw pos (keywordEach [⟨some "default", a, kpos⟩] X.env)).all (·.1.isSome) = true := by rfl) (hnone : (backToKw pos (keywordEach [⟨some "default", a, kpos⟩] X.env)).any (·.1.isNone) = false := by rfl) (hks : (backToKw pos (keywordEach [⟨some "default", a, kpos⟩] X.env)).filterMap (·.1) = [Str.ofString "default"] := by rfl) :
    QE X (.Call (.Name "max" p2) [e] [⟨some "default", a, kpos⟩] pos) (q2 maxDfD p q) :=
  pe_weak (pe_callBK (cr_maxDf hc hu) hg hm PyProof.Rows.Boot.max (pa_cons ha pa_nil hst) (pk_cons hk pk_nil) (by decide) (by decide) he hpl hall hnone hks) fun σ H Q ⟨T, pa, O, env, z, e1, w, k⟩ => by
    obtain ⟨d, h1, h2⟩ := bind_some e1
    obtain ⟨d2, h3, h4⟩ := bind_some h2
    unfold maxDfD at h4
    split at h4
    · rename_i ds
      obtain ⟨ns, h5, h6⟩ := bind_some h4
      have ed := intsOf_eq h5
      refine ⟨T, pa, O, env, _, h1, w, fun v H1 s1 r1 => ⟨T, pa, O, env, d2, h3, w.same s1, fun v2 H2 s2 r2 => ?_⟩⟩
      obtain ⟨l, xs, rfl, g1, _, g3⟩ := (r1.same s2).lst
      rw [ed] at g3
      have := g3.ints
      subst this
      refine ⟨l, ns, v2, rfl, rfl, g1, ?_⟩
      cases hm : maxI ns with
      | none =>
        rw [hm] at h6
        cases h6
        exact k _ H2 (s1.trans s2) r2
      | some m =>
        rw [hm] at h6
        cases h6
        exact k _ H2 (s1.trans s2) (.int _)
    · cases h4
end

/-! ### sorted of a tuple -/
section
variable {prog : Program} {w : World} {A : Around} {E : Value → Shared → Prop} {s : Shared}
theorem collect_tup {l : Addr} {vs : List Value} {Q : List Value → Shared → Prop} (hl : s.heap.IsTuple l vs.toArray)
    (h : Q vs { s with heap := (s.heap.push (seqObj "list" #[] 0)).update s.heap.objs.size (Obj.mapSeq (· ++ vs.toArray)) }) (hsz : vs.length ≤ sizeLine) :
    wpAny (model prog w) A (collect (.ref l)) Q E s := by
  obtain ⟨o, ho, hc, n, hd⟩ := id hl
  unfold collect
  refine wpAny_bind (wpAny_runValue (codeAny_builtin PyProof.Rows.entry_proto_collect' ?_))
  show wpAny _ _ (do again (.builtin "list.__iadd__" ⟨[← newList [], .ref l], []⟩)) _ _ s
  refine wpAny_bind (wpAny_newList (wpAny_pure ⟨Code.quiet_builtin _ (by decide +kernel), codeAny_builtin PyProof.Rows.entry_list_iadd' ?_⟩))
  show wpAny _ _ (Builtin.List.listExtendWith (.ref s.heap.objs.size) (.ref l) (.ref s.heap.objs.size)) _ _ { s with heap := s.heap.push (seqObj "list" #[] 0) }
  unfold Builtin.List.listExtendWith
  have ho' : (s.heap.push (seqObj "list" #[] 0)).get? l = some o := Heap.get?_push_of_some _ ho
  refine wpAny_bind (wpAny_typeOf (T := "tuple") ⟨o, ho', hc⟩ ?_)
  rw [if_pos (by rw [show (Value.type "tuple" == Value.type "tuple") = true from rfl]; simp)]
  refine wpAny_bind (listItems_at ho' hd ?_)
  refine wpAny_bind (listItems_at (xs := #[]) (n := 0) (Heap.get?_push_size _ rfl) rfl ?_)
  rw [if_neg (by simp)]
  refine wpAny_bind (listUpdate_at (xs := #[]) (n := 0) (Heap.get?_push_size _ rfl) rfl ?_ (Nat.zero_le _) (by show (#[] ++ vs.toArray).size ≤ sizeLine + 1; simp only [Array.size_append, List.size_toArray, List.length_nil]; omega))
  refine wpAny_pure ?_
  show wpAny (model prog w) A (do
      let o ← load s.heap.objs.size
      match o.data with
      | .seq xs _ => pure xs.toList
      | _ => unsupported "internal:collect") Q E { s with heap := (s.heap.push (seqObj "list" #[] 0)).update s.heap.objs.size (Obj.mapSeq (· ++ vs.toArray)) }
  refine wpAny_bind (wpAny_load (get?_update_seq (Heap.get?_push_size _ rfl) _) ?_)
  show wpAny _ _ (pure ((#[] : Array Value) ++ vs.toArray).toList) Q E _
  rw [show ((#[] : Array Value) ++ vs.toArray).toList = vs by simp]
  exact wpAny_pure h
theorem sorted_of_sortT {l : Addr} {vs : List Value} {Q : Value → Shared → Prop} (hl : s.heap.IsTuple l vs.toArray) (hL : vs.length ≤ sizeLine)
    (body : ∀ E' : Value → Shared → Prop, wpAny (model prog w) A.in1.in1 (Builtin.«list.sort» ⟨[.ref (s.heap.objs.size + 1)], []⟩) (fun f s' => f = .done (.ret .none) ∧ Q (.ref (s.heap.objs.size + 1)) s') E' { s with heap := PySem.W.copyHeap s.heap vs }) :
    wpAny (model prog w) A (call (.builtin "sorted") [.ref l]) Q E s := by
  refine call_function_entry_kw PyProof.Rows.kind_sorted PyProof.Rows.plain_sorted PyProof.Rows.entry_sorted (PyProof.Rows.args_sorted1 _) ?_
  unfold Builtin.«sorted»
  refine wpAny_bind (m := checkCount "sorted" 1 1 _) (wpAny_pure ?_)
  refine wpAny_bind (collect_tup hl ?_ hL)
  refine wpAny_bind (wpAny_newList ?_ hL)
  have hsz : ((s.heap.push (seqObj "list" #[] 0)).update s.heap.objs.size (Obj.mapSeq (· ++ vs.toArray))).objs.size = s.heap.objs.size + 1 := by
    rw [Heap.size_update, PyProof.Rows.size_push']
  show wpAny _ _ _ _ _ { s with heap := PySem.W.copyHeap s.heap vs }
  rw [hsz]
  refine wpAny_bind (wpAny_holding (wpAny_call_entry_kw PyProof.Rows.slot_list_sort ⟨_, PySem.W.copyHeap_at s.heap vs, rfl⟩ PyProof.Rows.entry_list_sort ?body (PyProof.Rows.args_list_sort _)))
  case body =>
    show wpAny (model prog w) A.in1.in1 (Builtin.«list.sort» ⟨[.ref (s.heap.objs.size + 1)], []⟩) _ _ _
    refine wpAny_mono (body _) (fun f s' hf => ?_) fun _ _ e => e
    obtain ⟨rfl, hq⟩ := hf
    exact ⟨_, rfl, wpAny_pure ⟨_, rfl, hq⟩⟩
theorem sorted_dataT {β : Type} {R : Value → β → Prop} {enc : β → PyData} {vs : List Value} {bs : List β} {l : Addr} {Q : Value → Shared → Prop} (hl : s.heap.IsTuple l vs.toArray) (e : PySem.W.EachIs R vs bs) (er : PySem.W.EachIs (fun v b => ∃ as, Reads s.heap v (enc b) as) vs bs) (hal : PySem.W.AllAlike (bs.map enc)) (hk : PySem.W.Sortable (bs.map enc)) (hL : bs.length ≤ sizeLine)
    (hu : ∀ b, b ∈ bs → A.units + 2 + (enc b).depth < cLine) (h : ∀ out, out.length = bs.length → PySem.W.EachIs R out (bs.mergeSort (PySem.W.dataLe false enc)) → Q (.ref (s.heap.objs.size + 1)) { s with heap := PyProof.Rows.sortedAll s.heap vs (List.toArray out) }) :
    wpAny (model prog w) A (call (.builtin "sorted") [.ref l]) Q E s := by
  have er' : PySem.W.EachIs (fun v b => ∃ as, Reads (PySem.W.sortingHeap (PySem.W.copyHeap s.heap vs) (s.heap.objs.size + 1) vs) v (enc b) as) vs bs := er.mono fun _ _ ⟨as, r⟩ => ⟨as, PyProof.Rows.Reads.keeps (fun _ _ => PySem.W.sorting_copy_old) r⟩
  exact sorted_of_sortT hl (by rw [e.length]; exact hL) fun _ => PySem.W.list_sort_vals (s := { s with heap := PySem.W.copyHeap s.heap vs }) (PySem.W.copyHeap_at s.heap vs)
    (PySem.W.SortsAt.data (s := { s with heap := PySem.W.sortingHeap (PySem.W.copyHeap s.heap vs) (s.heap.objs.size + 1) vs }) (PySem.W.each_map (R := fun v d => ∃ as, Reads (PySem.W.sortingHeap (PySem.W.copyHeap s.heap vs) (s.heap.objs.size + 1) vs) v d as) enc er') hal hk (PySem.W.bound_map hu)) (by rw [e.length]; exact hL)
    ⟨rfl, h _ (by rw [PySem.W.sortVals_length false rfl]; exact e.length) (PySem.W.sortVals_data false e er' hal)⟩
end
section
variable {K : PySem.W.Frag} {X : Cx}
def sortedA : List PD → Option PD
  | [.list ds] => if sortOk ds = true then some (.list (ds.mergeSort (PySem.W.dataLe false fun d => d))) else none
  | [.tuple ds] => if sortOk ds = true then some (.list (ds.mergeSort (PySem.W.dataLe false fun d => d))) else none
  | _ => none
def rSortT (K : PySem.W.Frag) : List V → Hp → VK → Prop := fun vs H Q => ∃ (a : Addr) (xs : List V) (ds : List PD) (O : AS), vs = [V.ref a] ∧ SqT K H a xs ∧ RepL K H O xs ds ∧ sortOk ds = true ∧ ds.length ≤ sizeLine ∧
  ∀ ys p, RepL K H O ys (ds.mergeSort (PySem.W.dataLe false fun d => d)) → H p = none → Q (.ref p) (upd H p (.lst ys))
theorem cr_sortT (hu : X.A.units + 64 < cLine) : CallR X (.builtin "sorted") (rSortT X.K) := by
  intro pins s σ H vs us Q I r h
  obtain ⟨a, xs, ds, O, rfl, hs, hr, hok, hL, q⟩ := h
  obtain ⟨its, rv, hl, hz⟩ := I.tuple hs
  rw [Vals.ref1 r]
  simp only [sortOk, Bool.and_eq_true, Bool.or_eq_true, List.all_eq_true, decide_eq_true_eq] at hok
  obtain ⟨⟨⟨h1, h2⟩, h3⟩, h4⟩ := hok
  obtain ⟨as, hR⟩ := Dp.readsAll I ds xs its (hr.dp h1) rv
  have er : PySem.W.EachIs (fun v b => ∃ as, Reads s.heap v ((fun d => d) b) as) its ds := PySem.W.readsAll_each (fun d => d) (by rw [List.map_id']; exact hR)
  have hal : PySem.W.AllAlike (ds.map fun d => d) := by
    rw [List.map_id']
    exact fun d hd d' hd' => h2 d hd d' hd'
  have hk : PySem.W.Sortable (ds.map fun d => d) := by
    rw [List.map_id']
    rcases h3 with h3 | h3
    · left
      intro d hd
      have := h3 d hd
      split at this
      · exact ⟨_, _, rfl⟩
      · cases this
    · right
      intro d hd
      have := h3 d hd
      refine ⟨fun z => ?_, fun ys z => ?_⟩
      · subst z; cases this
      · subst z; cases this
  refine sorted_dataT (enc := fun d => d) (R := EachV X.K H O) hl (each_of rv hr) er hal hk hL (fun b hb => ?_) fun out hout hE => ?_
  · have := h4 b hb
    show X.A.units + 2 + b.depth < cLine
    omega
  · obtain ⟨ys, v1, v2⟩ := of_each hE
    obtain ⟨ep, he'⟩ := PyProof.Rows.sortedAll_at s.heap its out.toArray
    have hlen2 : ys.length ≤ sizeLine := by rw [v2.length, List.length_mergeSort]; exact hL
    exact ⟨.ref _, upd H (s.heap.objs.size + 1) (.lst ys), I.laid (t' := s.toks) (fun _ _ => PyProof.Rows.sortedAll_old) (Nat.le_succ _) ⟨hlen2, out, ep, v1, he'⟩, rfl, q ys _ v2 (I.hok.fresh (Nat.le_succ _))⟩
def rSortAll (K : PySem.W.Frag) : List V → Hp → VK → Prop := fun vs H Q => rSortP K (fun _ => True) vs H Q ∨ rSortT K vs H Q
theorem cr_sortA (hu : X.A.units + 64 < cLine) : CallR X (.builtin "sorted") (rSortAll X.K) := (cr_sortP hu).or (cr_sortT hu)
theorem ok_sortA : CallOk K (rSortAll K) sortedA := fun O H vs ds z Q dm r e1 k => by
  unfold sortedA at e1
  split at e1
  · obtain ⟨v, rfl, r1⟩ := r.one
    obtain ⟨hok, rfl⟩ := some_if e1
    obtain ⟨a, xs, rfl, g1, z1, w1⟩ := r1.lst
    refine .inl ⟨a, xs, _, O, rfl, g1, w1, hok, by rw [← w1.length]; exact z1, fun ys p hr hp => k _ _ (same_upd hp) ?_⟩
    refine .lst ⟨.inl ⟨.inl upd_same, fun o => dm p o hp⟩, ?_⟩ (hr.same (same_upd hp))
    rw [hr.length, List.length_mergeSort, ← w1.length]
    exact z1
  · obtain ⟨v, rfl, r1⟩ := r.one
    obtain ⟨hok, rfl⟩ := some_if e1
    obtain ⟨a, xs, rfl, g1, z1, w1⟩ := r1.tup
    refine .inr ⟨a, xs, _, O, rfl, g1, w1, hok, by rw [← w1.length]; exact z1, fun ys p hr hp => k _ _ (same_upd hp) ?_⟩
    refine .lst ⟨.inl ⟨.inl upd_same, fun o => dm p o hp⟩, ?_⟩ (hr.same (same_upd hp))
    rw [hr.length, List.length_mergeSort, ← w1.length]
    exact z1
  · cases e1
end

/-! ### t[::-1], t a tuple -/
section
variable {prog : Program} {w : World} {A : Around} {E : Value → Shared → Prop} {s : Shared}
theorem sliceApplied_rev {sl : Addr} {n : Nat} {t : Tok} {Q : Int × Int × Nat → Shared → Prop} (hs : s.heap.IsSliceOf sl .none .none (.int (-1) t))
    (h : Q ((n : Int) - 1, -1, n) s) : wpAny (model prog w) A (Builtin.Slice.sliceApplied (.ref sl) (pure (n : Int))) Q E s := by
  obtain ⟨os, hos, hcs, hds⟩ := id hs
  unfold Builtin.Slice.sliceApplied Builtin.Slice.sliceFields
  refine wpAny_bind (wpAny_bind (wpAny_field hos hds (x := .none) rfl (wpAny_bind (wpAny_field hos hds (x := .none) rfl (wpAny_bind (wpAny_field hos hds (x := .int (-1) t) rfl (wpAny_pure ?_)))))))
  refine wpAny_bind (PyProof.Rows.slicePart_int ?_)
  show wpAny _ _ (if ((-1 : Int) == 0) = true then _ else _) _ _ s
  rw [if_neg (by decide)]
  refine wpAny_bind (PyProof.Rows.slicePart_none (wpAny_bind (PyProof.Rows.slicePart_none (wpAny_bind (wpAny_pure ?_)))))
  show wpAny _ _ (match Builtin.Slice.sliceAdjust none none (-1) (n : Int) with | (lo, hi) => pure (lo, (-1 : Int), Builtin.Slice.slicePlaces lo hi (-1))) _ _ s
  show wpAny _ _ (pure ((n : Int) - 1, (-1 : Int), Builtin.Slice.slicePlaces ((n : Int) - 1) (-1) (-1))) _ _ s
  have e : Builtin.Slice.slicePlaces ((n : Int) - 1) (-1) (-1) = n := by
    unfold Builtin.Slice.slicePlaces
    have h1 : ¬ ((-1 : Int) > 0) := by omega
    simp only [h1, if_false]
    split
    · rw [show (- -1 : Int) = 1 by decide, Int.ediv_one]; omega
    · omega
  rw [e]
  exact wpAny_pure h
theorem fm_congr {α β : Type} {f g : α → Option β} : ∀ {l : List α}, (∀ x ∈ l, f x = g x) → l.filterMap f = l.filterMap g
  | [], _ => rfl
  | x :: l, h => by
    rw [List.filterMap_cons, List.filterMap_cons, h x List.mem_cons_self, fm_congr fun y hy => h y (List.mem_cons_of_mem _ hy)]
theorem pick_rev (xs : Array Value) : ((List.range xs.size).filterMap fun (m : Nat) => xs[((xs.size : Int) - 1 + (m : Int) * (-1)).toNat]?).toArray = xs.toList.reverse.toArray := by
  have e : ((List.range xs.size).filterMap fun (m : Nat) => xs[((xs.size : Int) - 1 + (m : Int) * (-1)).toNat]?) = ((List.range xs.size).map fun k => xs.size - 1 - k).filterMap (xs[·]?) := by
    rw [List.filterMap_map]
    apply fm_congr
    intro m hm
    have := List.mem_range.mp hm
    have ee : ((xs.size : Int) - 1 + (m : Int) * (-1)).toNat = xs.size - 1 - m := by omega
    show xs[((xs.size : Int) - 1 + (m : Int) * (-1)).toNat]? = xs[xs.size - 1 - m]?
    rw [ee]
  rw [e, PySem.W.krv_range, List.filterMap_reverse, PySem.W.krv_all]
theorem getItem_tuple_rev {t sl : Addr} {items : Array Value} {u : Tok} {Q : Value → Shared → Prop} (ht : IsTup s.heap t items) (hs : s.heap.IsSliceOf sl .none .none (.int (-1) u))
    (h : Q (.ref s.heap.objs.size) { s with heap := s.heap.push { cls := .type "tuple", data := .seq items.toList.reverse.toArray } })
    (hsz : items.size ≤ sizeLine) : wpAny (model prog w) A (getItem (.ref t) (.ref sl)) Q E s := by
  have htake : sizeOk (.seq items.toList.reverse.toArray) := by
    show items.toList.reverse.toArray.size ≤ sizeLine
    rw [List.size_toArray, List.length_reverse, Array.length_toList]
    omega
  obtain ⟨os, hos, hcs, hds⟩ := id hs
  have hTs : s.TypeIs (.ref sl) "slice" := ⟨os, hos, hcs⟩
  unfold getItem
  try with_reducible refine wpAny_holding ?_
  first | refine wpAny_bind (wpAny_pure ?_) | skip
  refine wpAny_bind (wpAny_sequenceKey ht.typeIs (by decide) ?_)
  refine wpAny_bind (wpAny_callSpecial?_slot (name := Str.ofString "__getitem__") ht.typeIs PyProof.Rows.slot_tuple_getitem
    (wpAny_call_entry PyProof.Rows.slot_tuple_getitem ht.typeIs PyProof.Rows.entry_tuple_getitem ?_ (PyProof.Rows.args_tuple_getitem _ _)))
  show wpAny _ _ (Builtin.Tuple.tupleItemsOf (.ref t) >>= _) _ _ s
  refine wpAny_bind (PyProof.Rows.tupleItemsOf_ ht ?_)
  refine wpAny_bind (wpAny_typeOf hTs ?_)
  rw [if_pos (by decide)]
  refine wpAny_bind (sliceApplied_rev hs ?_)
  have hno : ¬ ((((items.size : Int) - 1) == 0 && (-1 : Int) == 1 && items.size == items.size) = true) := by
    intro q
    rw [Bool.and_eq_true, Bool.and_eq_true] at q
    exact absurd q.1.2 (by decide)
  show wpAny _ _ (if ((((items.size : Int) - 1) == 0 && (-1 : Int) == 1 && items.size == items.size) = true) then _ else _) _ _ s
  rw [if_neg hno, pick_rev]
  first
    | exact wpAny_bind (m := Builtin.Tuple.tupleExact _) (wpAny_newObj_type (wpAny_pure ⟨_, rfl, wpAny_pure h⟩) htake)
    | exact wpAny_bind (m := Builtin.Tuple.tupleExact _) (wpAny_newObj_type (wpAny_bind (wpAny_pure (wpAny_pure ⟨_, rfl, wpAny_pure h⟩))) htake)
    | exact wpAny_bind (wpAny_bind (m := Builtin.Tuple.tupleExact _) (wpAny_newObj_type (wpAny_pure (wpAny_pure ⟨_, rfl, wpAny_pure h⟩)) htake))
    | exact wpAny_bind (wpAny_bind (m := Builtin.Tuple.tupleExact _) (wpAny_newObj_type (wpAny_pure ⟨_, rfl, wpAny_pure h⟩) htake))
end
section
variable {X : Cx} {e k : Expr} {p q : Qd} {p2 pos : Pos}
def revD (d c : PD) : Option PD := match d, c with
  | .tuple ds, .int (-1) => some (.tuple ds.reverse)
  | _, _ => none
theorem Vals.reverse' : ∀ {xs : List V} {us : List Value}, Vals xs us → Vals xs.reverse us.reverse
  | _, _, .nil => .nil
  | _, _, .cons a b => by
    rw [List.reverse_cons, List.reverse_cons]
    exact (Vals.reverse' b).append (.cons a .nil)
theorem qe_rev3 (he : PQ X e p) (hk : PQ X k q) : QE X (.Subscript e (.Slice none none (some k) p2) pos) (q2 revD p q) := by
  refine ⟨fun pins s σ H Q I ⟨T, pa, O, env, z, e1, w, kk⟩ => ?_⟩
  obtain ⟨d, h1, h2⟩ := bind_some e1
  obtain ⟨c, h3, h4⟩ := bind_some h2
  unfold revD at h4
  split at h4
  · cases h4
    refine Subscript_ (thn (he.run pins s σ H (fun v H1 => Same H H1 ∧ RepT X.K H1 O v _) I ⟨T, pa, O, env, _, h1, w, fun v H' s' r' => ⟨s', r'⟩⟩) fun v s1 ⟨x, H1, I1, r1, sm1, rt1⟩ => ?_)
    refine PySem.wpAny_Slice (thn ((po_none (X := X)).run pins s1 σ H1 (fun o H2 => H2 = H1 ∧ o = none) I1 ⟨rfl, rfl⟩) fun vl s2 ⟨l, H2, I2, pl, e2, e3⟩ => thn ((po_none (X := X)).run pins s2 σ H2 (fun o H2 => H2 = H1 ∧ o = none) I2 ⟨e2, rfl⟩) fun vu s3 ⟨u, H3, I3, pu, e4, e5⟩ => ?_)
    subst e2 e3 e4 e5
    rw [evalPart_some]
    refine thn (hk.run pins s3 σ H3 (fun v H4 => Same H3 H4 ∧ v = .int (-1)) I3 ⟨T, pa, O, env, _, h3, w.same sm1, fun v H' s' r' => ⟨s', r'.int⟩⟩) fun vk s4 ⟨x4, H4, I4, r4, sm4, e4⟩ => ?_
    subst e4
    obtain ⟨t, rfl⟩ := r4
    cases pl
    cases pu
    have rt4 := rt1.same sm4
    obtain ⟨a, xs, rfl, g1, z1, w1⟩ := rt4.tup
    obtain rfl : v = Value.ref a := r1
    obtain ⟨its, rv, ht, hz⟩ := I4.tuple g1
    have hlen := rv.length
    have I5 : Inv X pins σ H4 { s4 with heap := s4.heap.push { cls := .type "slice", data := .fields #[.none, .none, .int (-1) t] } } := I4.kept (t' := s4.toks) fun b ob q => Heap.get?_push_of_some _ q
    have ht5 : IsTup (s4.heap.push { cls := .type "slice", data := .fields #[.none, .none, .int (-1) t] }) a its.toArray := by
      obtain ⟨o, e1, e2, n, e3⟩ := ht
      exact ⟨o, Heap.get?_push_of_some _ e1, e2, n, e3⟩
    show wpAny (model X.prog X.w) X.A (subscriptTail e (.Slice none none (some k) p2) (.ref a) (.ref s4.heap.objs.size)) (EP X pins σ Q) X.xe { s4 with heap := s4.heap.push { cls := .type "slice", data := .fields #[.none, .none, .int (-1) t] } }
    refine tail_any (ops := [.ref a, .ref s4.heap.objs.size]) (T := "tuple") (by obtain ⟨o, e1, e2, _⟩ := ht5; exact ⟨o, e1, e2⟩) PyProof.Rows.slot_tuple_getitem.lookup (getItem_tuple_rev ht5 (Heap.IsSliceOf.new ..) ?_ (by simp only [List.size_toArray]; omega)) (by with_unfolding_all rfl)
    have hn : H4 (s4.heap.push { cls := .type "slice", data := .fields #[.none, .none, .int (-1) t] }).objs.size = none := I5.hok.fresh (Nat.le_refl _)
    refine ⟨.ref _, upd H4 _ (.tup xs.reverse), I5.laid (t' := s4.toks) (fun b o e => Heap.get?_push_of_some _ e) (Nat.le_refl _) ?_, rfl, kk _ _ ((sm1.trans sm4).trans (same_upd hn)) (tup_new hn (by rw [List.length_reverse]; exact z1) w1.reverse)⟩
    exact ⟨by rw [List.length_reverse]; exact z1, its.reverse, Vals.reverse' rv, ⟨_, Heap.get?_push_size _ rfl, rfl, 0, by simp⟩⟩
  · cases h4
end
end D
end
section
set_option Elab.async false
set_option linter.all false
set_option maxRecDepth 100000
set_option maxHeartbeats 4000000
/-! The pure layer, part Q: a zip drawn from by another (its tuple held or not). -/
namespace D
open PySem PySem.Spec PyProof.Rows L2

/-- a zip in any state -/
abbrev ZF (h : Heap) (z TI TO : Addr) (f0 : Value) (f : Bool) : Prop :=
  h.get? z = some { cls := .type "zip", dict := none, data := .fields #[f0, .bool f, .bool false, .ref TI, .ref TO], slots := #[] }
def okF0 (v : Value) : Prop := v = .none ∨ ∃ T : Addr, v = rawInt T
section
variable {prog : Program} {w : World} {A : Around} {E : Value → Shared → Prop} {s : Shared} {z TI TO i1 i2 : Addr} {fp1 fp2 : List Addr} {n1 n2 i : Nat} {P1 P2 : Nat → Value → Prop} {St1 St2 : Nat → Heap → Prop} {a1 a2 : Value} {f0 : Value} {f : Bool}
theorem zip_isFree {Q : Bool → Shared → Prop} (hz : ZF s.heap z TI TO f0 f) (h0 : okF0 f0) (ht : Q true s) (hf : ∀ h', ZF h' z TI TO f0 true → Heap.SameBut z s.heap h' → Q false { s with heap := h' }) :
    wpAny (model prog w) A (Builtin.SmallTypes.ownedTupleIsFree (.ref z)) Q E s := by
  rcases h0 with rfl | ⟨T, rfl⟩
  · unfold Builtin.SmallTypes.ownedTupleIsFree
    exact wpAny_bind (wpAny_field hz rfl (x := .none) rfl (wpAny_pure ht))
  · unfold Builtin.SmallTypes.ownedTupleIsFree
    refine wpAny_bind (wpAny_field hz rfl (x := rawInt T) rfl ?_)
    show wpAny _ _ (loadIfAlive ((T : Int).toNat) >>= _) _ _ _
    rw [Int.toNat_natCast]
    have alive : ∀ {Q' : Option Obj → Shared → Prop}, Q' (s.heap.get? T) s → wpAny (model prog w) A (loadIfAlive T) Q' E s := fun {Q'} h => fun _ _ _ => h
    refine wpAny_bind (alive ?_)
    cases hT : s.heap.get? T with
    | none =>
      simp only [Option.isNone_none, if_true]
      exact wpAny_pure ht
    | some oT =>
      simp only [Option.isNone_some, Bool.false_eq_true, if_false]
      refine wpAny_bind (wpAny_field hz rfl (x := .bool f) rfl ?_)
      cases f with
      | true =>
        rw [if_neg (show ¬ ((Value.bool true != Value.bool true) = true) from Bool.false_ne_true)]
        exact wpAny_pure (hf s.heap hz (Heap.SameBut.refl _ _))
      | false =>
        rw [if_pos (show (Value.bool false != Value.bool true) = true from rfl)]
        exact wpAny_bind (wpAny_setField_rec hz (by simp) fun h₁ hz₁ hs₁ => wpAny_pure (hf h₁ hz₁ hs₁))
/-- the zip's state, between its turns -/
def ZS (h : Heap) (z TI TO i1 i2 : Addr) : Prop := (∃ f0 f, ZF h z TI TO f0 f ∧ okF0 f0) ∧ IsTupOf2 h TI (.ref i1) (.ref i2) ∧ ∃ a b, IsTupOf2 h TO a b
theorem zipU_item {Q : Value → Shared → Prop} (S : ZipSep2 z TI TO i1 i2 fp1 fp2) (hTI2 : TI ≠ i2) (D1 : Draws prog w A i1 fp1 n1 P1 St1) (D2 : Draws prog w A i2 fp2 n2 P2 St2)
    (hZ : ZS s.heap z TI TO i1 i2) (st1 : St1 i s.heap) (st2 : St2 i s.heap) (hlt1 : i < n1) (hlt2 : i < n2)
    (hQ : ∀ x1 x2 h' tk, P1 i x1 → P2 i x2 → ZS h' z TI TO i1 i2 → St1 (i + 1) h' → St2 (i + 1) h' → IsTupOf2 h' s.heap.objs.size x1 x2 → h'.objs.size = s.heap.objs.size + 1 →
      (∀ c o, c ≠ z → c ≠ TO → c ≠ i1 → c ≠ i2 → s.heap.get? c = some o → h'.get? c = some o) → Q (.ref s.heap.objs.size) { s with heap := h', toks := tk }) :
    wpAny (model prog w) A (Builtin.«zip.__next__» ⟨[.ref z], []⟩) (fun fin s' => ∃ v, fin = .done (.ret v) ∧ Q v s') E s := by
  obtain ⟨⟨f0, f, hz, h0⟩, hTI, a1, a2, hTO⟩ := hZ
  obtain ⟨hp, g, d, tk0, os⟩ := s
  show wpAny _ _ (field (.ref z) 2 >>= _) _ _ _
  refine wpAny_bind (wpAny_field hz rfl (x := .bool false) rfl ?_)
  show wpAny _ _ (field (.ref z) 3 >>= _) _ _ _
  refine wpAny_bind (wpAny_field hz rfl (x := .ref TI) rfl ?_)
  refine wpAny_bind (wpAny_seqItems hTI rfl ?_)
  show wpAny _ _ (Builtin.SmallTypes.ownedTupleIsFree (.ref z) >>= _) _ _ _
  refine wpAny_bind (zip_isFree hz h0 ?_ fun h₁ hz₁ hs₁ => ?_)
  · simp only [if_true]
    refine wpAny_bind (wpAny_rule ?_)
    refine wpAny_bind (wpAny_field hz rfl (x := .ref TO) rfl ?_)
    refine wpAny_bind (wpAny_setField_rec hz (by simp) fun g0 hz0 hs0 => ?_)
    replace hz0 : ZF g0 z TI TO .ellipsis f := hz0
    replace hs0 : Heap.SameBut z hp g0 := hs0
    refine wpAny_bind ?_
    simp only [List.zipIdx_cons, List.zipIdx_nil, List.forIn_cons, List.forIn_nil]
    refine wpAny_bind (wpAny_bind (wpAny_onRaise ?_))
    show wpAny _ _ (Builtin.SmallTypes.nextOf (.ref i1) >>= _) _ _ ⟨g0, g, d, tk0, os⟩
    refine wpAny_bind (D1.item i _ _ _ hlt1 (D1.over st1 hs0 S.zf1) fun x1 p1 tk1 hx1 sn1 hp1 => wpAny_pure ?_)
    replace hp1 : Heap.SameBut i1 g0 p1 := hp1
    have hU1 : IsTupOf2 p1 TO a1 a2 := hp1.extBut _ _ S.Ti1 (hs0.extBut _ _ S.TOz hTO)
    refine wpAny_bind (wpAny_seqItems (s := ⟨p1, g, d, tk1, os⟩) hU1 rfl ?_)
    refine wpAny_bind (updateSeq_IsTupOf2 (s := ⟨p1, g, d, tk1, os⟩) hU1 fun g1 hT1 hs1 => ?_)
    replace hT1 : IsTupOf2 g1 TO x1 a2 := hT1
    replace hs1 : Heap.SameBut TO p1 g1 := hs1
    refine wpAny_bind (wpAny_letGo (wpAny_pure ?_))
    refine wpAny_bind (wpAny_bind (wpAny_onRaise ?_))
    show wpAny _ _ (Builtin.SmallTypes.nextOf (.ref i2) >>= _) _ _ ⟨g1, g, d, tk1, os⟩
    refine wpAny_bind (D2.item i _ _ _ hlt2 (D2.over (D2.over (D2.over st2 hs0 S.zf2) hp1 S.sep1_2) hs1 S.Tf2) fun x2 p2 tk2 hx2 sn2 hp2 => wpAny_pure ?_)
    replace hp2 : Heap.SameBut i2 g1 p2 := hp2
    have hU2 : IsTupOf2 p2 TO x1 a2 := hp2.extBut _ _ S.Ti2 hT1
    refine wpAny_bind (wpAny_seqItems (s := ⟨p2, g, d, tk2, os⟩) hU2 rfl ?_)
    refine wpAny_bind (updateSeq_IsTupOf2 (s := ⟨p2, g, d, tk2, os⟩) hU2 fun g2 hT2 hs2 => ?_)
    replace hT2 : IsTupOf2 g2 TO x1 x2 := hT2
    replace hs2 : Heap.SameBut TO p2 g2 := hs2
    refine wpAny_bind (wpAny_letGo (wpAny_pure (wpAny_pure ?_)))
    refine wpAny_bind (wpAny_seqItems (s := ⟨g2, g, d, tk2, os⟩) hT2 rfl ?_)
    refine wpAny_bind (wpAny_newTuple ?_)
    have hsz : g2.objs.size = hp.objs.size := by rw [hs2.1, hp2.1, hs1.1, hp1.1, hs0.1]
    have hzz : ZF g2 z TI TO .ellipsis f := (hs2.extBut _ _ S.TOz.symm (hp2.extBut _ _ S.zi2 (hs1.extBut _ _ S.TOz.symm (hp1.extBut _ _ S.zi1 hz0))))
    have hkk : ∀ c o, c ≠ z → c ≠ TO → c ≠ i1 → c ≠ i2 → hp.get? c = some o → g2.get? c = some o := fun c o cz cT c1 c2 e =>
      (hs2.extBut _ _ cT (hp2.extBut _ _ c2 (hs1.extBut _ _ cT (hp1.extBut _ _ c1 (hs0.extBut _ _ cz e)))))
    have hj1 : St1 (i + 1) g2 := (D1.over (D1.over (D1.over sn1 hs1 S.Tf1) hp2 S.sep2_1) hs2 S.Tf1)
    have hj2 : St2 (i + 1) g2 := (D2.over sn2 hs2 S.Tf2)
    have hzlt : z < g2.objs.size := Heap.lt_size hzz
    show wpAny _ _ (Builtin.SmallTypes.ownedTupleHandOut (.ref z) (.ref g2.objs.size) >>= _) _ _ ⟨g2.push { cls := .type "tuple", data := .seq #[x1, x2] }, g, d, tk2, os⟩
    refine wpAny_bind ?_
    unfold Builtin.SmallTypes.ownedTupleHandOut
    have hz₆ : ZF (g2.push { cls := .type "tuple", data := .seq #[x1, x2] }) z TI TO .ellipsis f := Heap.get?_push_of_some _ hzz
    refine wpAny_bind (wpAny_setField_rec hz₆ (by simp) fun h₇ hz₇ hs₇ => ?_)
    replace hz₇ : ZF h₇ z TI TO (rawInt g2.objs.size) f := hz₇
    refine wpAny_setField_rec hz₇ (by simp) fun h₈ hz₈ hs₈ => ?_
    replace hz₈ : ZF h₈ z TI TO (rawInt g2.objs.size) false := hz₈
    replace hs₇ : Heap.SameBut z (g2.push { cls := .type "tuple", data := .seq #[x1, x2] }) h₇ := hs₇
    replace hs₈ : Heap.SameBut z h₇ h₈ := hs₈
    have up : ∀ c o, c ≠ z → g2.get? c = some o → h₈.get? c = some o := fun c o c1 e => hs₈.extBut _ _ c1 (hs₇.extBut _ _ c1 (Heap.get?_push_of_some _ e))
    have hT₈ : IsTupOf2 h₈ g2.objs.size x1 x2 := hs₈.extBut _ _ (Nat.ne_of_gt hzlt) (hs₇.extBut _ _ (Nat.ne_of_gt hzlt) (Heap.get?_push_size _ rfl))
    have hz8 : h₈.objs.size = g2.objs.size + 1 := by rw [hs₈.1, hs₇.1, Heap.size_push]
    have hTI₈ : IsTupOf2 h₈ TI (.ref i1) (.ref i2) := up _ _ S.TIz (hkk _ _ S.TIz S.TITO S.TIi1 hTI2 hTI)
    rw [hsz] at hz₈ hT₈ hz8
    refine wpAny_pure ⟨_, rfl, ?_⟩
    show Q (.ref g2.objs.size) ⟨h₈, g, d, tk2, os⟩
    rw [hsz]
    exact hQ x1 x2 h₈ tk2 hx1 hx2 ⟨⟨_, _, hz₈, .inr ⟨_, rfl⟩⟩, hTI₈, x1, x2, up _ _ S.TOz hT2⟩ (D1.frame _ _ _ hj1 fun b hb o e => up b o (fun q => S.zf1 (q ▸ hb)) e) (D2.frame _ _ _ hj2 fun b hb o e => up b o (fun q => S.zf2 (q ▸ hb)) e) hT₈ hz8 fun c o cz cT c1 c2 e => up c o cz (hkk c o cz cT c1 c2 e)
  · simp only [Bool.false_eq_true, if_false]
    replace hs₁ : Heap.SameBut z hp h₁ := hs₁
    refine wpAny_bind ?_
    rw [← Array.forIn_toList]
    simp only [List.forIn_cons, List.forIn_nil]
    refine wpAny_bind (wpAny_bind (wpAny_holding ?_))
    show wpAny _ _ (Builtin.SmallTypes.nextOf (.ref i1) >>= _) _ _ ⟨h₁, g, d, tk0, os⟩
    refine wpAny_bind (D1.item i _ _ _ hlt1 (D1.over st1 hs₁ S.zf1) fun x1 p1 tk1 hx1 sn1 hp1 => wpAny_pure ?_)
    replace hp1 : Heap.SameBut i1 h₁ p1 := hp1
    refine wpAny_pure ?_
    refine wpAny_bind (wpAny_bind (wpAny_holding ?_))
    show wpAny _ _ (Builtin.SmallTypes.nextOf (.ref i2) >>= _) _ _ ⟨p1, g, d, tk1, os⟩
    refine wpAny_bind (D2.item i _ _ _ hlt2 (D2.over (D2.over st2 hs₁ S.zf2) hp1 S.sep1_2) fun x2 p2 tk2 hx2 sn2 hp2 => wpAny_pure ?_)
    replace hp2 : Heap.SameBut i2 p1 p2 := hp2
    refine wpAny_pure (wpAny_pure ?_)
    show wpAny _ _ (newTuple [x1, x2] >>= _) _ _ ⟨p2, g, d, tk2, os⟩
    refine wpAny_bind (wpAny_newTuple ?_)
    have hsz : p2.objs.size = hp.objs.size := by rw [hp2.1, hp1.1, hs₁.1]
    have hkk : ∀ c o, c ≠ z → c ≠ i1 → c ≠ i2 → hp.get? c = some o → p2.get? c = some o := fun c o cz c1 c2 e => hp2.extBut _ _ c2 (hp1.extBut _ _ c1 (hs₁.extBut _ _ cz e))
    have hz3 : ZF p2 z TI TO f0 true := hp2.extBut _ _ S.zi2 (hp1.extBut _ _ S.zi1 hz₁)
    have hTO3 : IsTupOf2 p2 TO a1 a2 := hkk _ _ S.TOz S.Ti1 S.Ti2 hTO
    have hTI3 : IsTupOf2 p2 TI (.ref i1) (.ref i2) := hkk _ _ S.TIz S.TIi1 hTI2 hTI
    refine wpAny_pure ⟨_, rfl, ?_⟩
    show Q (.ref p2.objs.size) ⟨p2.push { cls := .type "tuple", data := .seq #[x1, x2] }, g, d, tk2, os⟩
    have up : ∀ c o, p2.get? c = some o → (p2.push { cls := .type "tuple", data := .seq #[x1, x2] }).get? c = some o := fun c o e => Heap.get?_push_of_some _ e
    have hj1 : St1 (i + 1) p2 := D1.over sn1 hp2 S.sep2_1
    have hT4 : IsTupOf2 (p2.push { cls := .type "tuple", data := .seq #[x1, x2] }) p2.objs.size x1 x2 := Heap.get?_push_size _ rfl
    have hz4 : (p2.push { cls := .type "tuple", data := .seq #[x1, x2] }).objs.size = p2.objs.size + 1 := Heap.size_push ..
    rw [hsz] at hT4 hz4 ⊢
    exact hQ x1 x2 _ tk2 hx1 hx2 ⟨⟨_, _, up _ _ hz3, h0⟩, up _ _ hTI3, a1, a2, up _ _ hTO3⟩ (D1.frame _ _ _ hj1 fun b hb o e => up b o e) (D2.frame _ _ _ sn2 fun b hb o e => up b o e) hT4 hz4 fun c o cz cT c1 c2 e => up c o (hkk c o cz c1 c2 e)
theorem zipU_end {Q : Fin → Shared → Prop} (S : ZipSep2 z TI TO i1 i2 fp1 fp2) (D1 : Draws prog w A i1 fp1 n1 P1 St1) (D2 : Draws prog w A i2 fp2 n2 P2 St2)
    (hZ : ZS s.heap z TI TO i1 i2) (st1 : St1 i s.heap) (st2 : St2 i s.heap) (hle1 : i ≤ n1) (hle2 : i ≤ n2) (hend : i = n1 ∨ i = n2)
    (hE : ∀ h' tk e, (∀ c o, c ≠ z → c ≠ TO → c ≠ i1 → c ≠ i2 → s.heap.get? c = some o → h'.get? c = some o) → (∃ o, h'.get? e = some o ∧ o.cls = .type "StopIteration") → E (.ref e) { s with heap := h', toks := tk }) :
    wpAny (model prog w) A (Builtin.«zip.__next__» ⟨[.ref z], []⟩) Q E s := by
  obtain ⟨⟨f0, f, hz, h0⟩, hTI, a1, a2, hTO⟩ := hZ
  obtain ⟨hp, g, d, tk0, os⟩ := s
  show wpAny _ _ (field (.ref z) 2 >>= _) _ _ _
  refine wpAny_bind (wpAny_field hz rfl (x := .bool false) rfl ?_)
  show wpAny _ _ (field (.ref z) 3 >>= _) _ _ _
  refine wpAny_bind (wpAny_field hz rfl (x := .ref TI) rfl ?_)
  refine wpAny_bind (wpAny_seqItems hTI rfl ?_)
  show wpAny _ _ (Builtin.SmallTypes.ownedTupleIsFree (.ref z) >>= _) _ _ _
  refine wpAny_bind (zip_isFree hz h0 ?_ fun h₁ hz₁ hs₁ => ?_)
  · simp only [if_true]
    refine wpAny_bind (wpAny_rule ?_)
    refine wpAny_bind (wpAny_field hz rfl (x := .ref TO) rfl ?_)
    refine wpAny_bind (wpAny_setField_rec hz (by simp) fun g0 hz0 hs0 => ?_)
    replace hz0 : ZF g0 z TI TO .ellipsis f := hz0
    replace hs0 : Heap.SameBut z hp g0 := hs0
    refine wpAny_bind ?_
    simp only [List.zipIdx_cons, List.zipIdx_nil, List.forIn_cons, List.forIn_nil]
    refine wpAny_bind (wpAny_bind (wpAny_onRaise ?_))
    show wpAny _ _ (Builtin.SmallTypes.nextOf (.ref i1) >>= _) _ _ ⟨g0, g, d, tk0, os⟩
    by_cases hlt1 : i < n1
    · refine wpAny_bind (D1.item i _ _ _ hlt1 (D1.over st1 hs0 S.zf1) fun x1 p1 tk1 hx1 sn1 hp1 => wpAny_pure ?_)
      replace hp1 : Heap.SameBut i1 g0 p1 := hp1
      have hU1 : IsTupOf2 p1 TO a1 a2 := hp1.extBut _ _ S.Ti1 (hs0.extBut _ _ S.TOz hTO)
      refine wpAny_bind (wpAny_seqItems (s := ⟨p1, g, d, tk1, os⟩) hU1 rfl ?_)
      refine wpAny_bind (updateSeq_IsTupOf2 (s := ⟨p1, g, d, tk1, os⟩) hU1 fun g1 hT1 hs1 => ?_)
      replace hT1 : IsTupOf2 g1 TO x1 a2 := hT1
      replace hs1 : Heap.SameBut TO p1 g1 := hs1
      refine wpAny_bind (wpAny_letGo (wpAny_pure ?_))
      have hi2 : i = n2 := by omega
      refine wpAny_bind (wpAny_bind (wpAny_onRaise ?_))
      show wpAny _ _ (Builtin.SmallTypes.nextOf (.ref i2) >>= _) _ _ ⟨g1, g, d, tk1, os⟩
      refine wpAny_bind (D2.done ⟨g1, g, d, tk1, os⟩ _ _ (by rw [← hi2]; exact (D2.over (D2.over (D2.over st2 hs0 S.zf2) hp1 S.sep1_2) hs1 S.Tf2)) fun q e hq he => ?_)
      replace hq : Heap.ExtBut i2 g1 q := hq
      obtain ⟨oe, hoe, hce⟩ := he
      replace hoe : q.get? e = some oe := hoe
      have hzq : ZF q z TI TO .ellipsis f := hq _ _ S.zi2 (hs1.extBut _ _ S.TOz.symm (hp1.extBut _ _ S.zi1 hz0))
      have hez : e ≠ z := fun x => by subst x; rw [hzq] at hoe; cases hoe; simp at hce
      refine wpAny_setField_rec (s := ⟨q, g, d, tk1, os⟩) hzq (by simp) fun q' _ hq' => ?_
      replace hq' : Heap.SameBut z q q' := hq'
      exact hE q' tk1 e (fun c o cz cT c1 c2 x => hq'.extBut _ _ cz (hq _ _ c2 (hs1.extBut _ _ cT (hp1.extBut _ _ c1 (hs0.extBut _ _ cz x))))) ⟨oe, hq'.extBut _ _ hez hoe, hce⟩
    · have hi1 : i = n1 := by omega
      refine wpAny_bind (D1.done ⟨g0, g, d, tk0, os⟩ _ _ (by rw [← hi1]; exact (D1.over st1 hs0 S.zf1)) fun q e hq he => ?_)
      replace hq : Heap.ExtBut i1 g0 q := hq
      obtain ⟨oe, hoe, hce⟩ := he
      replace hoe : q.get? e = some oe := hoe
      have hzq : ZF q z TI TO .ellipsis f := hq _ _ S.zi1 hz0
      have hez : e ≠ z := fun x => by subst x; rw [hzq] at hoe; cases hoe; simp at hce
      refine wpAny_setField_rec (s := ⟨q, g, d, tk0, os⟩) hzq (by simp) fun q' _ hq' => ?_
      replace hq' : Heap.SameBut z q q' := hq'
      exact hE q' tk0 e (fun c o cz cT c1 c2 x => hq'.extBut _ _ cz (hq _ _ c1 (hs0.extBut _ _ cz x))) ⟨oe, hq'.extBut _ _ hez hoe, hce⟩
  · simp only [Bool.false_eq_true, if_false]
    replace hs₁ : Heap.SameBut z hp h₁ := hs₁
    refine wpAny_bind ?_
    rw [← Array.forIn_toList]
    simp only [List.forIn_cons, List.forIn_nil]
    refine wpAny_bind (wpAny_bind (wpAny_holding ?_))
    show wpAny _ _ (Builtin.SmallTypes.nextOf (.ref i1) >>= _) _ _ ⟨h₁, g, d, tk0, os⟩
    by_cases hlt1 : i < n1
    · refine wpAny_bind (D1.item i _ _ _ hlt1 (D1.over st1 hs₁ S.zf1) fun x1 p1 tk1 hx1 sn1 hp1 => wpAny_pure ?_)
      replace hp1 : Heap.SameBut i1 h₁ p1 := hp1
      refine wpAny_pure ?_
      have hi2 : i = n2 := by omega
      refine wpAny_bind (wpAny_bind (wpAny_holding ?_))
      show wpAny _ _ (Builtin.SmallTypes.nextOf (.ref i2) >>= _) _ _ ⟨p1, g, d, tk1, os⟩
      refine wpAny_bind (D2.done ⟨p1, g, d, tk1, os⟩ _ _ (by rw [← hi2]; exact D2.over (D2.over st2 hs₁ S.zf2) hp1 S.sep1_2) fun q e hq he => ?_)
      replace hq : Heap.ExtBut i2 p1 q := hq
      exact hE q tk1 e (fun c o cz cT c1 c2 x => hq _ _ c2 (hp1.extBut _ _ c1 (hs₁.extBut _ _ cz x))) he
    · have hi1 : i = n1 := by omega
      refine wpAny_bind (D1.done ⟨h₁, g, d, tk0, os⟩ _ _ (by rw [← hi1]; exact (D1.over st1 hs₁ S.zf1)) fun q e hq he => ?_)
      replace hq : Heap.ExtBut i1 h₁ q := hq
      exact hE q tk0 e (fun c o cz cT c1 c2 x => hq _ _ c1 (hs₁.extBut _ _ cz x)) he
end
end D
end
section
set_option Elab.async false
set_option linter.all false
set_option maxRecDepth 100000
set_option maxHeartbeats 4000000
/-! The pure layer, part R: enumerate over a zip. -/
namespace D
open PySem PySem.Spec PyProof.Rows L2

section
variable {prog : Program} {w : World} {A : Around} {E : Value → Shared → Prop} {s : Shared} {z TI TO i1 i2 e : Addr} {fp1 fp2 : List Addr} {n1 n2 i : Nat} {P1 P2 : Nat → Value → Prop} {St1 St2 : Nat → Heap → Prop}
theorem nextOf_zipU {Q : Value → Shared → Prop} (S : ZipSep2 z TI TO i1 i2 fp1 fp2) (hTI2 : TI ≠ i2) (D1 : Draws prog w A.in1 i1 fp1 n1 P1 St1) (D2 : Draws prog w A.in1 i2 fp2 n2 P2 St2)
    (hZ : ZS s.heap z TI TO i1 i2) (st1 : St1 i s.heap) (st2 : St2 i s.heap) (hlt1 : i < n1) (hlt2 : i < n2)
    (hQ : ∀ x1 x2 h' tk, P1 i x1 → P2 i x2 → ZS h' z TI TO i1 i2 → St1 (i + 1) h' → St2 (i + 1) h' → IsTupOf2 h' s.heap.objs.size x1 x2 → h'.objs.size = s.heap.objs.size + 1 →
      (∀ c o, c ≠ z → c ≠ TO → c ≠ i1 → c ≠ i2 → s.heap.get? c = some o → h'.get? c = some o) → Q (.ref s.heap.objs.size) { s with heap := h', toks := tk }) :
    wpAny (model prog w) A (Builtin.SmallTypes.nextOf (.ref z)) Q E s := by
  have hT : s.TypeIs (.ref z) "zip" := let ⟨⟨_, _, hz, _⟩, _⟩ := hZ; ⟨_, hz, rfl⟩
  unfold Builtin.SmallTypes.nextOf
  refine wpAny_bind (wpAny_callSpecial?_slot (name := Str.ofString "__next__") hT PySem.F.slot_zip_next
    (wpAny_call_entry PySem.F.slot_zip_next hT PySem.F.entry_zip_next
      (zipU_item S hTI2 D1 D2 hZ st1 st2 hlt1 hlt2 fun x1 x2 h' tk a b c d e f g k => wpAny_pure (hQ x1 x2 h' tk a b c d e f g k)) (PySem.F.args_zip_next_1 _)))
theorem nextOf_zipU_end {Q : Value → Shared → Prop} (S : ZipSep2 z TI TO i1 i2 fp1 fp2) (D1 : Draws prog w A.in1 i1 fp1 n1 P1 St1) (D2 : Draws prog w A.in1 i2 fp2 n2 P2 St2)
    (hZ : ZS s.heap z TI TO i1 i2) (st1 : St1 i s.heap) (st2 : St2 i s.heap) (hle1 : i ≤ n1) (hle2 : i ≤ n2) (hend : i = n1 ∨ i = n2)
    (hE : ∀ h' tk e, (∀ c o, c ≠ z → c ≠ TO → c ≠ i1 → c ≠ i2 → s.heap.get? c = some o → h'.get? c = some o) → (∃ o, h'.get? e = some o ∧ o.cls = .type "StopIteration") → E (.ref e) { s with heap := h', toks := tk }) :
    wpAny (model prog w) A (Builtin.SmallTypes.nextOf (.ref z)) Q E s := by
  have hT : s.TypeIs (.ref z) "zip" := let ⟨⟨_, _, hz, _⟩, _⟩ := hZ; ⟨_, hz, rfl⟩
  unfold Builtin.SmallTypes.nextOf
  exact wpAny_bind (wpAny_callSpecial?_slot (name := Str.ofString "__next__") hT PySem.F.slot_zip_next
    (wpAny_call_entry PySem.F.slot_zip_next hT PySem.F.entry_zip_next
      (zipU_end S D1 D2 hZ st1 st2 hle1 hle2 hend hE) (PySem.F.args_zip_next_1 _)))
/-- enumerate's next over any iterator -/
theorem enumW_item {it : Addr} {c : Int} {old : Value} {R : Value → Heap → Prop} {wr : List Addr} {Q : Value → Shared → Prop} (he : IsEnum s.heap e it c old) (hew : e ∉ wr)
    (hit : ∀ (Q : Value → Shared → Prop) (E : Value → Shared → Prop), (∀ x h' tk, R x h' → s.heap.objs.size ≤ h'.objs.size → (∀ b o, b ∉ wr → s.heap.get? b = some o → h'.get? b = some o) → Q x { s with heap := h', toks := tk }) → wpAny (model prog w) A (Builtin.SmallTypes.nextOf (.ref it)) Q E s)
    (hQ : ∀ x h₁ h' tk tk', R x h₁ → s.heap.objs.size ≤ h₁.objs.size → (∀ b o, b ∉ wr → s.heap.get? b = some o → h₁.get? b = some o) → IsEnumOut h' e it (c + 1) x h₁.objs.size →
      h'.get? h₁.objs.size = some { cls := .type "tuple", data := .seq #[.int c tk', x] } → (∀ b o, b ≠ e → h₁.get? b = some o → h'.get? b = some o) → Q (.ref h₁.objs.size) { s with heap := h', toks := tk }) :
    wpAny (model prog w) A (Builtin.«enumerate.__next__» ⟨[.ref e], []⟩) (fun fin s' => ∃ v, fin = .done (.ret v) ∧ Q v s') E s := by
  obtain ⟨hp, g, d, tk₀, os⟩ := s
  show wpAny _ _ (field (.ref e) 2 >>= _) _ _ _
  refine wpAny_bind (wpAny_field he rfl (x := .ref it) rfl ?_)
  refine wpAny_bind (hit _ _ fun x h₁ tk hPx hsz₁ hs₁ => ?_)
  replace hs₁ : ∀ b o, b ∉ wr → hp.get? b = some o → h₁.get? b = some o := hs₁
  have he₁ : IsEnum h₁ e it c old := hs₁ _ _ hew he
  show wpAny _ _ (field (.ref e) 3 >>= _) _ _ ⟨h₁, g, d, tk, os⟩
  refine wpAny_bind (wpAny_field he₁ rfl (x := rawInt c) rfl ?_)
  show wpAny _ _ (field (.ref e) 4 >>= _) _ _ ⟨h₁, g, d, tk, os⟩
  refine wpAny_bind (wpAny_field he₁ rfl (x := .none) rfl ?_)
  show wpAny _ _ (mkInt c >>= _) _ _ ⟨h₁, g, d, tk, os⟩
  refine wpAny_bind (wpAny_mkInt ?_)
  show wpAny _ _ (setField (.ref e) 3 (rawInt (c + 1)) >>= _) _ _ ⟨h₁, g, d, tk + 1, os⟩
  refine wpAny_bind (wpAny_setField_rec he₁ (by simp) fun h₂ he₂ hs₂ => ?_)
  replace hs₂ : Heap.SameBut e h₁ h₂ := hs₂
  replace he₂ : IsEnum h₂ e it (c + 1) old := he₂
  show wpAny _ _ (setField (.ref e) 4 .none >>= _) _ _ ⟨h₂, g, d, tk + 1, os⟩
  refine wpAny_bind (wpAny_setField_rec he₂ (by simp) fun h₃ he₃ hs₃ => ?_)
  replace hs₃ : Heap.SameBut e h₂ h₃ := hs₃
  replace he₃ : IsEnum h₃ e it (c + 1) old := he₃
  show wpAny _ _ (newTuple [.int c tk, x] >>= _) _ _ ⟨h₃, g, d, tk + 1, os⟩
  refine wpAny_bind (wpAny_newTuple ?_)
  have he₄ : IsEnum (h₃.push { cls := .type "tuple", data := .seq #[.int c tk, x] }) e it (c + 1) old := Heap.get?_push_of_some _ he₃
  generalize hh₄ : h₃.push { cls := .type "tuple", data := .seq #[.int c tk, x] } = h₄ at he₄
  have hsz : h₃.objs.size = h₁.objs.size := by rw [hs₃.1, hs₂.1]
  have hel : e < h₁.objs.size := Heap.lt_size he₁
  have ht₄ : h₄.get? h₁.objs.size = some { cls := .type "tuple", data := .seq #[.int c tk, x] } := by rw [← hh₄, ← hsz]; exact Heap.get?_push_size _ rfl
  have hk₄ : ∀ b o, b ≠ e → h₁.get? b = some o → h₄.get? b = some o := fun b o hbe hb => by
    rw [← hh₄]; exact Heap.get?_push_of_some _ (hs₃.extBut b o hbe (hs₂.extBut b o hbe hb))
  show wpAny _ _ (Builtin.SmallTypes.ownedTupleIsFree (.ref e) >>= _) _ _ ⟨h₄, g, d, tk + 1, os⟩
  rw [hsz]
  clear hh₄ he₃ hs₃ he₂ hs₂ hsz h₃ h₂
  refine wpAny_bind ?_
  · unfold Builtin.SmallTypes.ownedTupleIsFree
    refine wpAny_bind (wpAny_field he₄ rfl (x := .none) rfl (wpAny_pure ?_))
    simp only [if_true]
    refine wpAny_bind (wpAny_rule ?_)
    refine wpAny_bind (wpAny_field he₄ rfl (x := old) rfl ?_)
    refine wpAny_bind (wpAny_setField_rec he₄ (by simp) fun h₅ he₅ hs₅ => ?_)
    replace hs₅ : Heap.SameBut e h₄ h₅ := hs₅
    replace he₅ : IsEnum h₅ e it (c + 1) x := he₅
    show wpAny _ _ (Builtin.SmallTypes.ownedTupleHandOut (.ref e) (.ref h₁.objs.size) >>= _) _ _ ⟨h₅, g, d, tk + 1, os⟩
    refine wpAny_bind ?_
    · unfold Builtin.SmallTypes.ownedTupleHandOut
      refine wpAny_bind (wpAny_setField_rec he₅ (by simp) fun h₆ he₆ hs₆ => ?_)
      replace hs₆ : Heap.SameBut e h₅ h₆ := hs₆
      replace he₆ : IsEnumOut h₆ e it (c + 1) x h₁.objs.size := he₆
      refine wpAny_setField_rec he₆ (by simp) fun h₇ he₇ hs₇ => ?_
      replace hs₇ : Heap.SameBut e h₆ h₇ := hs₇
      replace he₇ : IsEnumOut h₇ e it (c + 1) x h₁.objs.size := he₇
      refine wpAny_bind (wpAny_letGo (wpAny_pure ⟨_, rfl, hQ x h₁ h₇ (tk + 1) tk hPx hsz₁ hs₁ he₇ ?_ ?_⟩))
      · exact hs₇.extBut _ _ (Nat.ne_of_gt hel) (hs₆.extBut _ _ (Nat.ne_of_gt hel) (hs₅.extBut _ _ (Nat.ne_of_gt hel) ht₄))
      · exact fun b o hbe hb => hs₇.extBut b o hbe (hs₆.extBut b o hbe (hs₅.extBut b o hbe (hk₄ b o hbe hb)))
theorem pyNext_enumW {it : Addr} {c : Int} {old : Value} {R : Value → Heap → Prop} {wr : List Addr} {Q : Option Value → Shared → Prop} (he : IsEnum s.heap e it c old) (hew : e ∉ wr)
    (hit : ∀ (Q : Value → Shared → Prop) (E : Value → Shared → Prop), (∀ x h' tk, R x h' → s.heap.objs.size ≤ h'.objs.size → (∀ b o, b ∉ wr → s.heap.get? b = some o → h'.get? b = some o) → Q x { s with heap := h', toks := tk }) → wpAny (model prog w) A.in1 (Builtin.SmallTypes.nextOf (.ref it)) Q E s)
    (hQ : ∀ x h₁ h' tk tk', R x h₁ → s.heap.objs.size ≤ h₁.objs.size → (∀ b o, b ∉ wr → s.heap.get? b = some o → h₁.get? b = some o) → IsEnumOut h' e it (c + 1) x h₁.objs.size →
      h'.get? h₁.objs.size = some { cls := .type "tuple", data := .seq #[.int c tk', x] } → (∀ b o, b ≠ e → h₁.get? b = some o → h'.get? b = some o) → Q (some (.ref h₁.objs.size)) { s with heap := h', toks := tk }) :
    wpAny (model prog w) A (pyNext (.ref e)) Q E s := by
  have hT : s.TypeIs (.ref e) "enumerate" := ⟨_, he, rfl⟩
  unfold pyNext
  exact wpAny_bind (wpAny_attempt (wpAny_callSpecial?_slot (name := Str.ofString "__next__") hT PySem.F.slot_enumerate_next
    (wpAny_call_entry PySem.F.slot_enumerate_next hT PySem.F.entry_enumerate_next
      (enumW_item he hew hit fun x h₁ h' tk tk' a b c d k q => wpAny_pure (hQ x h₁ h' tk tk' a b c d k q)) (PySem.F.args_enumerate_next_1 _))))
theorem pyNext_enumW_end {it : Addr} {c : Int} {old : Value} {wr : List Addr} {Q : Option Value → Shared → Prop} (he : IsEnum s.heap e it c old)
    (hit : ∀ (Q : Value → Shared → Prop) (E : Value → Shared → Prop), (∀ h' tk x, (∀ b o, b ∉ wr → s.heap.get? b = some o → h'.get? b = some o) → (∃ o, h'.get? x = some o ∧ o.cls = .type "StopIteration") → E (.ref x) { s with heap := h', toks := tk }) → wpAny (model prog w) A.in1 (Builtin.SmallTypes.nextOf (.ref it)) Q E s)
    (hQ : ∀ h' tk, (∀ b o, b ∉ wr → s.heap.get? b = some o → h'.get? b = some o) → Q none { s with heap := h', toks := tk }) : wpAny (model prog w) A (pyNext (.ref e)) Q E s := by
  have hT : s.TypeIs (.ref e) "enumerate" := ⟨_, he, rfl⟩
  unfold pyNext
  refine wpAny_bind (wpAny_attempt (wpAny_callSpecial?_slot (name := Str.ofString "__next__") hT PySem.F.slot_enumerate_next
    (wpAny_call_entry PySem.F.slot_enumerate_next hT PySem.F.entry_enumerate_next ?_ (PySem.F.args_enumerate_next_1 _))))
  show wpAny _ _ (field (.ref e) 2 >>= _) _ _ _
  refine wpAny_bind (wpAny_field he rfl (x := .ref it) rfl ?_)
  refine wpAny_bind (hit _ _ fun h' tk x he' hx' => ?_)
  obtain ⟨o, ho, hc⟩ := hx'
  refine wpAny_bind (wpAny_isInstance (T := "StopIteration") (b := true) ⟨o, ho, hc⟩ isSubtype_stop ?_)
  exact wpAny_pure (hQ _ _ he')
end

def ItEz (K : PySem.W.Frag) (q r : Sq) : It :=
  ⟨fun i H => ∃ (xs ys : List V) (x y : V), q.has K H xs ∧ r.has K H ys ∧ xs[i]? = some x ∧ ys[i]? = some y,
    fun i H v H' => ∃ T T2 x y, v = .ref T ∧ H T2 = none ∧ (upd H T2 (.tup [x, y])) T = none ∧ H' = upd (upd H T2 (.tup [x, y])) T (.tup [.int (i : Nat), .ref T2]) ∧ (∀ xs, q.has K H xs → xs[i]? = some x) ∧ ∀ ys, r.has K H ys → ys[i]? = some y,
    fun i H => ∃ xs ys : List V, q.has K H xs ∧ r.has K H ys ∧ min xs.length ys.length = i⟩
theorem turn_ez {P : Program} {w : World} {K : PySem.W.Frag} {elts : List Expr} {kk : Nat} {tpos : Pos} {q r : Sq} {e z TI TO i1 i2 : Addr} (Z : ZA z TI TO i1 i2) (ne : e ∉ [z, TI, TO, i1, i2]) :
    Turn P w K (.Tuple elts kk tpos) (ItEz K q r) [e, z, TI, TO, i1, i2] e (fun i h => (∃ old, IsEnum h e z ((0 : Int) + (i : Int)) old) ∧ ZS h z TI TO i1 i2 ∧ q.itr i1 i h ∧ r.itr i2 i h) where
  mem := by simp
  obj := fun i h st c hc => by
    obtain ⟨⟨old, he⟩, ⟨⟨f0, f, hz, _⟩, hTI, x, y, hTO⟩, h1, h2⟩ := st
    obtain ⟨o1, e1, d1, _⟩ := Sq.itrOb h1
    obtain ⟨o2, e2, d2, _⟩ := Sq.itrOb h2
    have e' : c = e ∨ c = z ∨ c = TI ∨ c = TO ∨ c = i1 ∨ c = i2 := by simpa using hc
    rcases e' with q | q | q | q | q | q
    · rw [q]; exact ⟨_, he, fun v q => nomatch q⟩
    · rw [q]; exact ⟨_, hz, fun v q => nomatch q⟩
    · rw [q]; exact ⟨_, hTI, fun v q => nomatch q⟩
    · rw [q]; exact ⟨_, hTO, fun v q => nomatch q⟩
    · rw [q]; exact ⟨o1, e1, d1⟩
    · rw [q]; exact ⟨o2, e2, d2⟩
  keep := fun i h h' st k => by
    obtain ⟨⟨old, he⟩, ⟨⟨f0, f, hz, h0⟩, hTI, x, y, hTO⟩, h1, h2⟩ := st
    exact ⟨⟨old, k e (by simp) _ he⟩, ⟨⟨f0, f, k z (by simp) _ hz, h0⟩, k TI (by simp) _ hTI, x, y, k TO (by simp) _ hTO⟩, Sq.itrAt h1 fun o q => k i1 (by simp) o q, Sq.itrAt h2 fun o q => k i2 (by simp) o q⟩
  item := by
    intro X hP hw hK hc i pins s σ H E I hf st hg
    subst hP hw hK
    obtain ⟨⟨old, he⟩, hZ, h1, h2⟩ := st
    obtain ⟨xs, ys, x, y, hqx, hqy, hx, hy⟩ := hg
    obtain ⟨its, rv, p, _⟩ := Sq.of I hqx
    obtain ⟨its2, rv2, p2, _⟩ := Sq.of I hqy
    obtain ⟨u, hu, ru⟩ := rv.get hx
    obtain ⟨u2, hu2, ru2⟩ := rv2.get hy
    have hel : e < s.heap.objs.size := Heap.lt_size he
    have na : ∀ b ∈ [e, z, TI, TO, i1, i2], b ≠ q.adr := fun b hb => Sq.nfp I hqx (hf b hb)
    have nb : ∀ b ∈ [e, z, TI, TO, i1, i2], b ≠ r.adr := fun b hb => Sq.nfp I hqy (hf b hb)
    have S := Z.sep (na z (by simp)) (nb z (by simp)) (na TO (by simp)) (nb TO (by simp)) (nb i1 (by simp)) (na i2 (by simp))
    have D1 := q.draws (prog := X.prog) (w := X.w) (A := X.A.in1.in1) (I.ok.hd hc) i1 (Ne.symm (na i1 (by simp))) its.toArray
    have D2 := r.draws (prog := X.prog) (w := X.w) (A := X.A.in1.in1) (I.ok.hd hc) i2 (Ne.symm (nb i2 (by simp))) its2.toArray
    have hl1 : i < its.toArray.size := by have := (List.getElem?_eq_some_iff.mp hu).1; simpa using this
    have hl2 : i < its2.toArray.size := by have := (List.getElem?_eq_some_iff.mp hu2).1; simpa using this
    have ne' : e ≠ z ∧ e ≠ TI ∧ e ≠ TO ∧ e ≠ i1 ∧ e ≠ i2 := by simpa using ne
    obtain ⟨nz, nTI, nTO, n1, n2⟩ := ne'
    refine pyNext_enumW (R := fun x h' => x = .ref s.heap.objs.size ∧ ZS h' z TI TO i1 i2 ∧ (q.itr i1 (i + 1) h' ∧ q.is h' its.toArray) ∧ (r.itr i2 (i + 1) h' ∧ r.is h' its2.toArray) ∧ IsTupOf2 h' s.heap.objs.size u u2 ∧ h'.objs.size = s.heap.objs.size + 1) (wr := [z, TO, i1, i2]) he (by simp; exact ⟨nz, nTO, n1, n2⟩) (fun Q E k => ?_) fun x' h₁ h' tk tk' hR hsz hk ho hT hk2 => ?_
    · refine nextOf_zipU S Z.TI2 D1 D2 hZ ⟨h1, p⟩ ⟨h2, p2⟩ hl1 hl2 fun x1 x2 h' tk y1 y2 z' st1 st2 hT hsz hk => ?_
      have e1 : x1 = u := by have z : its.toArray[i]? = some u := by simpa using hu
                             rw [z] at y1; cases y1; rfl
      have e2 : x2 = u2 := by have z : its2.toArray[i]? = some u2 := by simpa using hu2
                              rw [z] at y2; cases y2; rfl
      subst e1 e2
      exact k _ h' tk ⟨rfl, z', st1, st2, hT, hsz⟩ (by omega) fun b o hb q => hk b o (fun q' => hb (by simp [q'])) (fun q' => hb (by simp [q'])) (fun q' => hb (by simp [q'])) (fun q' => hb (by simp [q'])) q
    · obtain ⟨rfl, hZ', st1, st2, hT2, hsz1⟩ := hR
      refine ⟨_, rfl, wpAny_letOwnedTupleGo_enum (s := { s with heap := h', toks := tk }) ho fun h'' he' sb => ?_⟩
      have hn2 : H s.heap.objs.size = none := I.hok.fresh (Nat.le_refl _)
      -- behind the zip's turn
      have I1 : Inv X pins σ (upd H s.heap.objs.size (.tup [x, y])) { s with heap := h₁, toks := tk } :=
        I.turnedNew (t' := tk) (ch := [e, z, TI, TO, i1, i2]) (fun c o hb q => hk c o (fun q' => hb (by simp at q'; rcases q' with q' | q' | q' | q' <;> simp [q'])) q) hf (Nat.le_refl _)
          ⟨by show 2 ≤ sizeLine; decide, [u, u2], .cons ru (.cons ru2 .nil), ⟨_, hT2, rfl, _, rfl⟩⟩
      have fr : ∀ b ∈ [e, z, TI, TO, i1, i2], b < s.heap.objs.size := fun c hcm => by
        obtain ⟨⟨f0, f, hz, _⟩, hTI, x, y, hTO⟩ := hZ
        have e' : c = e ∨ c = z ∨ c = TI ∨ c = TO ∨ c = i1 ∨ c = i2 := by simpa using hcm
        rcases e' with q | q | q | q | q | q
        · rw [q]; exact hel
        · rw [q]; exact Heap.lt_size hz
        · rw [q]; exact Heap.lt_size hTI
        · rw [q]; exact Heap.lt_size hTO
        · rw [q]; obtain ⟨_, e1, _⟩ := Sq.itrOb h1; exact Heap.lt_size e1
        · rw [q]; obtain ⟨_, e2, _⟩ := Sq.itrOb h2; exact Heap.lt_size e2
      have hf1 : ∀ b ∈ [e, z, TI, TO, i1, i2], FpOk X pins (upd H s.heap.objs.size (.tup [x, y])) b := fun b hb => ⟨by rw [upd_ne (Nat.ne_of_lt (fr b hb))]; exact (hf b hb).1, (hf b hb).2⟩
      have hT' : h''.get? h₁.objs.size = some { cls := .type "tuple", data := .seq #[.int ((0 : Int) + (i : Int)) tk', .ref s.heap.objs.size] } := (sb.2 _ (Nat.ne_of_gt (Nat.lt_of_lt_of_le hel hsz))).trans hT
      have hk3 : ∀ b o, b ≠ e → h₁.get? b = some o → h''.get? b = some o := fun b o hb q => (sb.2 b hb).trans (hk2 b o hb q)
      have hn1 : (upd H s.heap.objs.size (.tup [x, y])) h₁.objs.size = none := I1.hok.fresh (Nat.le_refl _)
      have I2 : Inv X pins σ (upd (upd H s.heap.objs.size (.tup [x, y])) h₁.objs.size (.tup [.int (i : Nat), .ref s.heap.objs.size])) { s with heap := h'', toks := tk } :=
        I1.turnedNew (t' := tk) (ch := [e]) (fun c o hb q => hk3 c o (by simpa using hb) q) (fun b hb => hf1 b (List.mem_cons.mpr (.inl (List.mem_singleton.mp hb)))) (Nat.le_refl _)
          ⟨by show 2 ≤ sizeLine; decide, [.int ((0 : Int) + (i : Int)) tk', .ref s.heap.objs.size], .cons ⟨_, by rw [Int.zero_add]⟩ (.cons rfl .nil), ⟨_, hT', rfl, _, rfl⟩⟩
      refine ⟨.ref h₁.objs.size, _, I2, rfl, ⟨_, _, x, y, rfl, hn2, hn1, rfl, fun l hl => by rw [Sq.inj I hl hqx]; exact hx, fun l hl => by rw [Sq.inj I hl hqy]; exact hy⟩, ⟨⟨.ref s.heap.objs.size, ?_⟩, ?_, Sq.itrAt st1.1 fun o q => hk3 _ o (Ne.symm n1) q, Sq.itrAt st2.1 fun o q => hk3 _ o (Ne.symm n2) q⟩, fun c hcm => ?_⟩
      · have e1 : (0 : Int) + ((i + 1 : Nat) : Int) = (0 : Int) + (i : Int) + 1 := by omega
        rw [e1]; exact he'
      · obtain ⟨⟨f0, f, hz, h0⟩, hTI, x, y, hTO⟩ := hZ'
        exact ⟨⟨f0, f, hk3 _ _ (Ne.symm nz) hz, h0⟩, hk3 _ _ (Ne.symm nTI) hTI, x, y, hk3 _ _ (Ne.symm nTO) hTO⟩
      · have := fr c hcm
        rw [upd_ne (Nat.ne_of_lt (Nat.lt_of_lt_of_le this hsz))]
        exact (hf1 c hcm).1
  done := by
    intro X hP hw hK hc i pins s σ H E I hf st hg
    subst hP hw hK
    obtain ⟨⟨old, he⟩, hZ, h1, h2⟩ := st
    obtain ⟨xs, ys, hqx, hqy, hend⟩ := hg
    obtain ⟨its, rv, p, _⟩ := Sq.of I hqx
    obtain ⟨its2, rv2, p2, _⟩ := Sq.of I hqy
    have na : ∀ b ∈ [e, z, TI, TO, i1, i2], b ≠ q.adr := fun b hb => Sq.nfp I hqx (hf b hb)
    have nb : ∀ b ∈ [e, z, TI, TO, i1, i2], b ≠ r.adr := fun b hb => Sq.nfp I hqy (hf b hb)
    have S := Z.sep (na z (by simp)) (nb z (by simp)) (na TO (by simp)) (nb TO (by simp)) (nb i1 (by simp)) (na i2 (by simp))
    have D1 := q.draws (prog := X.prog) (w := X.w) (A := X.A.in1.in1) (I.ok.hd hc) i1 (Ne.symm (na i1 (by simp))) its.toArray
    have D2 := r.draws (prog := X.prog) (w := X.w) (A := X.A.in1.in1) (I.ok.hd hc) i2 (Ne.symm (nb i2 (by simp))) its2.toArray
    have l1 := rv.length
    have l2 := rv2.length
    have s1 : its.toArray.size = xs.length := by simp [l1]
    have s2 : its2.toArray.size = ys.length := by simp [l2]
    refine pyNext_enumW_end (wr := [z, TO, i1, i2]) he (fun Q E k => ?_) fun h' tk hk => ⟨rfl, I.turnedL (t' := tk) (ch := [e, z, TI, TO, i1, i2]) (fun c o hb q => hk c o (fun q' => hb (by simp at q'; rcases q' with q' | q' | q' | q' <;> simp [q'])) q) hf⟩
    exact nextOf_zipU_end S D1 D2 hZ ⟨h1, p⟩ ⟨h2, p2⟩ (by omega) (by omega) (by omega) fun h' tk x hk hx => k h' tk x (fun b o hb q => hk b o (fun q' => hb (by simp [q'])) (fun q' => hb (by simp [q'])) (fun q' => hb (by simp [q'])) (fun q' => hb (by simp [q'])) q) hx
  self := fun A i s Q E st h => let ⟨⟨_, he⟩, _⟩ := st; wpAny_pyIter_enum he h

section
variable {X : Cx}
theorem beg_zip {z TI TO : Addr} : Beg (.ref z) (fun _ => z) (fun h => h) (fun h => IsZip h z TI TO .none) := ⟨fun prog w A E s Q hz h => wpAny_pyIter_zip hz h, fun h b o e => e⟩
def iEzG (K : PySem.W.Frag) (ta : TA) : TI := fun σ H R => ta σ H fun vs H1 => ∃ q r xs ys, vs = [.ref (Sq.adr q), .ref (Sq.adr r)] ∧ q.has K H1 xs ∧ r.has K H1 ys ∧ R (ItEz K q r) H1
theorem pi_ezG {e e2 : Expr} {ta : TA} {p p2 pos pos2 tpos : Pos} {elts : List Expr} {kk : Nat} (hg0 : Gl X "enumerate") (hm0 : X.mg "enumerate" = none) (hg : Gl X "zip") (hm : X.mg "zip" = none) (ha : PA X [e, e2] ta)
    (hs0 : starEach [.Call (.Name "zip" p2) [e, e2] [] pos2] X.env = (false, eval (.Call (.Name "zip" p2) [e, e2] [] pos2) X.env) :: starEach [] X.env := by rfl)
    (hs : starEach [e, e2] X.env = (false, eval e X.env) :: starEach [e2] X.env := by rfl) (hpl : (backTo pos2 (starEach [e2] X.env)).any (·.1) = false := by rfl) :
    PI X (.Tuple elts kk tpos) (.Call (.Name "enumerate" p) [.Call (.Name "zip" p2) [e, e2] [] pos2] [] pos) (iEzG X.K ta) := by
  refine ⟨fun pins s σ H R I h => ?_⟩
  refine Call_ (ld_blt I hg0 hm0 PyProof.Rows.boot_enumerate (PyProof.Rows.callWith_type1 (args_cons ?_ hs0) hs0 rfl))
  refine Call_ (ld_blt I hg hm PyProof.Rows.boot_zip (PyProof.Rows.callWith_type1 (thn (ha.run pos2 pins s σ H _ I h) fun us s1 ⟨vs, H1, I1, r1, q1⟩ => ?_) hs hpl))
  obtain ⟨q, r, xs, ys, ex, hqx, hqy, k⟩ := q1
  subst ex
  cases r1 with
  | @cons _ u0 _ _ r rr =>
    cases rr with
    | @cons _ u1 _ _ r' rr =>
      cases rr
      obtain rfl : u0 = Value.ref q.adr := r
      obtain rfl : u1 = Value.ref _ := r'
      obtain ⟨its, rv, p1, _⟩ := Sq.of I1 hqx
      obtain ⟨its2, rv2, p2, _⟩ := Sq.of I1 hqy
      refine zip_begins2 (q.begins its.toArray) (Sq.begins _ its2.toArray) p1 p2 fun h' hz hTI hTO h1 h2 hsz hk => args_nil ?_
      refine call_enumB (s := { s1 with heap := h' }) (beg_zip (TI := s1.heap.objs.size + 2) (TO := s1.heap.objs.size + 3)) hz fun he => wpAny_pyIter_enum he ?_
      have up : ∀ b o, h'.get? b = some o → (h'.push (enOb (s1.heap.objs.size + 4))).get? b = some o := fun b o e => Heap.get?_push_of_some _ e
      have I2 : Inv X pins σ H1 { s1 with heap := h'.push (enOb (s1.heap.objs.size + 4)) } := I1.kept (t' := s1.toks) fun b o e => up b o (hk b o e)
      have hN : h'.objs.size = s1.heap.objs.size + 5 := hsz
      refine ⟨h'.objs.size, [h'.objs.size, s1.heap.objs.size + 4, s1.heap.objs.size + 2, s1.heap.objs.size + 3, s1.heap.objs.size, s1.heap.objs.size + 1], _, _, H1, rfl, I2, turn_ez (za_new s1.heap.objs.size) ?_, ⟨⟨.none, he⟩, ⟨⟨_, _, up _ _ hz, .inl rfl⟩, up _ _ hTI, _, _, up _ _ hTO⟩, Sq.itr0 (up _ _ h1), Sq.itr0 (up _ _ h2)⟩, fun c hcm => ?_, k⟩
      · rw [hN]
        simp only [List.mem_cons, List.not_mem_nil, or_false, not_or]
        exact ⟨show (s1.heap.objs.size + 5 : Nat) ≠ _ by omega, show (s1.heap.objs.size + 5 : Nat) ≠ _ by omega, show (s1.heap.objs.size + 5 : Nat) ≠ _ by omega, show (s1.heap.objs.size + 5 : Nat) ≠ _ by omega, show (s1.heap.objs.size + 5 : Nat) ≠ _ by omega⟩
      · have e' : c = h'.objs.size ∨ c = s1.heap.objs.size + 4 ∨ c = s1.heap.objs.size + 2 ∨ c = s1.heap.objs.size + 3 ∨ c = s1.heap.objs.size ∨ c = s1.heap.objs.size + 1 := by simpa using hcm
        have hle : s1.heap.objs.size ≤ c := by
          rcases e' with z | z | z | z | z | z
          · rw [z, hN]; exact Nat.le_add_right _ _
          · rw [z]; exact Nat.le_add_right _ _
          · rw [z]; exact Nat.le_add_right _ _
          · rw [z]; exact Nat.le_add_right _ _
          · rw [z]; exact Nat.le_refl _
          · rw [z]; exact Nat.le_add_right _ _
        exact I1.fpOk hle (I1.hok.fresh hle)
/-- enumerate(zip(a, b)) -/
def iEz (q : SE → Option (List PD)) : SE → Option (List PD) := fun env => (iZp q env).map enL
theorem qi_enz {b : Bool} {e e2 : Expr} {p p2 pos pos2 tpos : Pos} {elts : List Expr} {kk : Nat} {q : SE → Option (List PD)} (hg0 : Gl X "enumerate") (hm0 : X.mg "enumerate" = none) (hg : Gl X "zip") (hm : X.mg "zip" = none) (ha : XA X b [e, e2] q)
    (hs0 : starEach [.Call (.Name "zip" p2) [e, e2] [] pos2] X.env = (false, eval (.Call (.Name "zip" p2) [e, e2] [] pos2) X.env) :: starEach [] X.env := by rfl)
    (hs : starEach [e, e2] X.env = (false, eval e X.env) :: starEach [e2] X.env := by rfl) (hpl : (backTo pos2 (starEach [e2] X.env)).any (·.1) = false := by rfl) :
    QI X b (.Tuple elts kk tpos) (.Call (.Name "enumerate" p) [.Call (.Name "zip" p2) [e, e2] [] pos2] [] pos) (iEz q) :=
  pi_weak (pi_ezG hg0 hm0 hg hm (xa_as ha) hs0 hs hpl) fun σ H R ⟨T, pa, O, env, ds, e1, w, k⟩ => by
    obtain ⟨zs, e0, rfl⟩ := Option.map_eq_some_iff.mp e1
    unfold iZp at e0
    split at e0
    · rename_i d1 d2 h1
      obtain ⟨ds, hd1, e0⟩ := bind_some e0
      obtain ⟨es, hd2, e0⟩ := bind_some e0
      cases e0
      refine ⟨T, pa, O, env, _, h1, w, fun vs H' s' r' => ?_⟩
      obtain ⟨v, v2, rfl, r1, r2⟩ := RepXL.two r'
      obtain ⟨q, xs, ev, hq, _⟩ := src_of (T := T) r1 (seqOf_some hd1)
      obtain ⟨r, ys, ev2, hr, _⟩ := src_of (T := T) r2 (seqOf_some hd2)
      have hl : xs.length = ds.length := (hq O H' Kp.refl).2.length
      have hl2 : ys.length = es.length := (hr O H' Kp.refl).2.length
      have hn : (enL (zpL ds es)).length = min ds.length es.length := by simp [zpL, enL]
      refine ⟨q, r, xs, ys, by rw [ev, ev2], (hq O H' Kp.refl).1, (hr O H' Kp.refl).1, k _ H' s' ⟨fun i O2 H2 k2 hi => ?_, fun O2 H2 k2 => ?_, fun i O2 H2 v2 H3 d2 k2 hd y => ?_⟩⟩
      · exact ⟨xs, ys, xs[i]'(by omega), ys[i]'(by omega), (hq O2 H2 k2).1, (hr O2 H2 k2).1, List.getElem?_eq_getElem _, List.getElem?_eq_getElem _⟩
      · exact ⟨xs, ys, (hq O2 H2 k2).1, (hr O2 H2 k2).1, by omega⟩
      · obtain ⟨h5, h6⟩ := hq O2 H2 k2
        obtain ⟨h7, h8⟩ := hr O2 H2 k2
        obtain ⟨T1, T2, x2, y2, rfl, hT2, hT1, rfl, ya, yb⟩ := y
        obtain ⟨zz, hzz, rfl⟩ := enL_get hd
        obtain ⟨z, z', z1, z2, rfl⟩ := zpL_get hzz
        obtain ⟨v', e5, e6⟩ := h6.get z1
        obtain ⟨v'', e7, e8⟩ := h8.get z2
        have := ya xs h5
        rw [this] at e5; cases e5
        have := yb ys h7
        rw [this] at e7; cases e7
        exact ⟨(same_upd hT2).trans (same_upd hT1), fun _ => tup_new hT1 line2 (.cons (.int _) (.cons (tup_new hT2 line2 (.cons e6 (.cons e8 .nil))) .nil))⟩
    · cases e0
end
end D
end
section
set_option Elab.async false
set_option linter.all false
set_option maxRecDepth 100000
set_option maxHeartbeats 4000000
/-! The pure layer, part U: statements with effects; the body's context in one bundle. -/
namespace D
open PySem PySem.Spec PyProof.Rows L2

section
variable {X : Cx} {x y : Str} {e a b : Expr} {es : List Expr} {q : Qd} {f g : Ed} {pos pos' apos p p2 px py pt pt2 : Pos} {kt k2 : Nat}
/-- xs.append(e), e with effects on other objects -/
def dAppE (i : Nat) (f : Ed) : DS := fun env => match f env with
  | some (d, e1) => match mineD i e1, mineD i env with
    | some (.list ds), some (.list _) => if ds.length < LIM then some (.nx (putM i (.list (ds ++ [d])) e1)) else none
    | _, _ => none
  | none => none
theorem ss_appE (i : Nat) {o : Expr} (ho : PE X o (tVar i)) (he : EE X e f) (hs : swapsWith (.Call (.Attribute o "append" apos) [e] [] p) none pos.line X.env = pure false := by rfl)
    (hbase : attributeBase o "append" X.env (eval o X.env) = eval o X.env := by rfl)
    (hfew : ((backTo p (starEach (e :: []) X.env)).all (fun x => !x.1) && (backToKw p (keywordEach [] X.env)).all (fun x => x.1.isSome) && decide ((e :: []).length + ([] : List Keyword).length + (if ([] : List Keyword).isEmpty then 0 else 1) < 30)) = true := by rfl)
    (hline : (apos.endLine == p.line) = true := by rfl) (hst : starEach (e :: []) X.env = (false, eval e X.env) :: starEach [] X.env := by rfl) (hplain : (backTo p (starEach [] X.env)).any (·.1) = false := by rfl) :
    SS X (.Expr (.Call (.Attribute o "append" apos) [e] [] p) pos) (dAppE i f) :=
  ps_weak (ps_expr (pe_bm PySem.F.plainAttrs_list PySem.F.slot_list_append PySem.F.type_list_append mt_append ho (pa_cons he pa_nil hst) hbase hfew hline hst hplain) hs) fun D σ H ⟨T, pa, O, env, out, e1, w, k⟩ => by
    unfold dAppE at e1
    split at e1
    · rename_i d en hf
      split at e1
      · rename_i ds ds0 hm hm0
        obtain ⟨hz, rfl⟩ := some_if e1
        obtain ⟨a, h1, h2, h3, h4⟩ := w.mine hm0
        obtain ⟨xs, g1, g2, g3⟩ := id h2
        refine ⟨.ref a, h1, .inl ⟨rfl, xs, .inl (.inl g1)⟩, T, pa, O, env, d, en, hf, w, fun v H' w' f' r' => ?_⟩
        obtain ⟨a', h1', h2', h3', h4'⟩ := w'.mine hm
        rw [h1] at h1'; cases h1'
        obtain ⟨xs', g1', g2', g3'⟩ := id h2'
        have hz' : xs'.length < sizeLine := by rw [g3'.length, lim_eq]; exact hz
        refine ⟨a, xs', v, rfl, rfl, g1', hz', ?_⟩
        have kp := own_rep (u := .lst (xs' ++ [v])) h3' g1' rfl
        obtain ⟨w2, f2⟩ := w'.change (d' := .list (ds ++ [d])) hm h1 (u := .lst (xs' ++ [v])) ⟨xs' ++ [v], upd_same, by rw [List.length_append]; exact hz', (g3'.append (.cons r' .nil)).kp kp fun _ _ n => n⟩ h3' h4' h2'
        exact k σ O _ w2 (f'.trans f2)
      · cases e1
    · cases e1
/-- a slice whose upper bound has effects -/
def eSl (p : Qd) (f : Ed) : Ed := fun env => match p env with
  | some d => match f env with
    | some (.int i, e1) => (sliceD d none (some i)).map fun z => (z, e1)
    | _ => none
  | none => none
theorem ee_slice {hi : Expr} (he : QE X e q) (hh : EE X hi f) : EE X (.Subscript e (.Slice none (some hi) none p2) pos) (eSl q f) :=
  pe_weak (pe_slice sl_all he po_none (po_some hh)) fun σ H Q ⟨T, pa, O, env, z, env', e1, w, k⟩ => by
    unfold eSl at e1
    split at e1
    · rename_i d hd
      split at e1
      · rename_i i en hf
        obtain ⟨z', h3, h4⟩ := Option.map_eq_some_iff.mp e1
        cases h4
        refine ⟨T, pa, O, env, d, hd, w, fun v H1 s1 r1 => ⟨T, pa, O, env, _, _, hf, w.same s1, fun v2 H2 w2 f2 r2 => ⟨i, by cases r2; rfl, ?_⟩⟩⟩
        have r3 : Rep X.K H2 O v d := r1.fr f2
        have fa := (Fr.of_same (T := T) (O := O) s1).trans f2
        unfold sliceD at h3
        split at h3
        · cases h3
          obtain ⟨a, xs, rfl, g1, z1, w1⟩ := RepT.lst (.inl r3)
          refine .inl ⟨a, xs, rfl, g1, fun q hq => k _ _ (w2.same (same_upd hq)) (fa.trans (Fr.of_same (same_upd hq))) (.lst ⟨.inl ⟨.inl upd_same, fun o => w2.dom q o hq⟩, Nat.le_trans (cutV_length _ _ _) z1⟩ ((repL_cut w1 none (some i)).same (same_upd hq)))⟩
        · cases h3
          obtain ⟨a, xs, rfl, g1, z1, w1⟩ := RepT.tup (.inl r3)
          refine .inr (.inl ⟨a, xs, rfl, g1, fun hw => ?_, fun _ q hq => k _ _ (w2.same (same_upd hq)) (fa.trans (Fr.of_same (same_upd hq))) (.tup ⟨SqT.of upd_same, Nat.le_trans (cutV_length _ _ _) z1⟩ ((repL_cut w1 none (some i)).same (same_upd hq)))⟩)
          have wc := repL_cut w1 none (some i)
          have ec : cutV xs none (some i) = xs := by
            unfold cutV
            rw [hw.1, hw.2, List.drop_zero, Nat.sub_zero, List.take_length]
          rw [ec] at wc
          exact k _ H2 w2 fa (.tup ⟨g1, z1⟩ wc)
        · obtain ⟨hz, rfl⟩ := some_if h3
          have := RepT.str (.inl r3)
          exact .inr (.inr ⟨_, this, by rw [lim_eq]; exact hz, k _ H2 w2 fa (.str _)⟩)
        · cases h3
      · cases e1
    · cases e1
/-! ### for over what effects gave -/
def dForE (it : Ed) (g : PD → SE → Option SE) (b : DS) : DS := fun env => match it env with
  | some (d, e1) => match seqOf d with
    | some ds => dForL g b ds e1
    | none => none
  | none => none
theorem for_tr {K : PySem.W.Frag} {T O : AS} {pa : Option Addr} {H1 : Hp} {J : It} {ds : List PD} {ix : List Nat} {g : PD → SE → Option SE} {b : DS} {D : Ends} {σ : L2.St} {env : SE} {out : Out} (w : ER K T pa O σ H1 env) (wk : Wk K true T O J H1 ds) (e1 : dForL g b ds env = some out) (k : OutP K T pa O H1 D out) :
    ∃ W : Nat → Nat → L2.St → Hp → Prop, (∃ m, W 0 m σ H1) ∧ ∀ i m σ H, W i m σ H →
      (J.stop i H ∧ D.nx σ H) ∨ (J.go i H ∧ ∃ N : L2.St → Hp → Prop, (∀ σ' H', N σ' H' → ∃ m', m' < m ∧ W (i + 1) m' σ' H') ∧ ∀ x H', J.yld i H x H' → tG K ix g x σ H' fun σ2 H2 => tS K b { D with nx := N, ct := N, bk := D.nx } σ2 H2) := by
  refine ⟨fun i m σ' H' => m = ds.length - i ∧ i ≤ ds.length ∧ ∃ O' env', dForL g b (ds.drop i) env' = some out ∧ ER K T pa O' σ' H' env' ∧ Fr T O H1 O' H', ⟨ds.length, rfl, Nat.zero_le _, O, env, e1, w, Fr.refl⟩, ?_⟩
  rintro i m σ' H' ⟨rfl, hi, O', env', e2, w', f'⟩
  by_cases hlt : i < ds.length
  · rw [List.drop_eq_getElem_cons hlt] at e2
    unfold dForL at e2
    refine .inr ⟨wk.go i O' H' f' hlt, fun σ2 H2 => ∃ O2 env2, dForL g b (ds.drop (i + 1)) env2 = some out ∧ ER K T pa O2 σ2 H2 env2 ∧ Fr T O H1 O2 H2, fun σ2 H2 ⟨O2, env2, q⟩ => ⟨ds.length - (i + 1), by omega, rfl, hlt, O2, env2, q⟩, fun x H2 y => ?_⟩
    obtain ⟨s2, r2⟩ := wk.yld i O' H' x H2 _ f' (List.getElem?_eq_getElem hlt) y
    have w2 := w'.same s2
    cases h2 : g ds[i] env' with
    | none => rw [h2] at e2; cases e2
    | some e3 =>
      rw [h2] at e2
      simp only at e2
      refine ⟨T, pa, O', env', _, e3, h2, w2, r2 w'.dom, fun σ3 w3 _ => ?_⟩
      have f2 := f'.trans (Fr.of_same s2)
      cases h3 : b e3 with
      | none => rw [h3] at e2; cases e2
      | some o =>
        rw [h3] at e2
        refine ⟨T, pa, O', e3, o, h3, w3, ?_⟩
        cases o with
        | nx e4 => exact fun σ4 O4 H4 w4 f4 => ⟨O4, e4, e2, w4, f2.trans f4⟩
        | ct e4 => exact fun σ4 O4 H4 w4 f4 => ⟨O4, e4, e2, w4, f2.trans f4⟩
        | bk e4 => cases e2; exact fun σ4 O4 H4 w4 f4 => k σ4 O4 H4 w4 (f2.trans f4)
        | rt d e4 => cases e2; exact fun v σ4 O4 H4 w4 f4 r4 => k v σ4 O4 H4 w4 (f2.trans f4) r4
  · have hi' : i = ds.length := by omega
    subst hi'
    rw [List.drop_eq_nil_of_le (Nat.le_refl _)] at e2
    cases e2
    exact .inl ⟨wk.stop O' H' f', k σ' O' H' w' f'⟩
theorem ss_forE {tg iter : Expr} {ix : List Nat} {body : List Stmt} {g : PD → SE → Option SE} {b : DS} (hp : PassesOwn (model X.prog X.w) X.A X.env X.xe) (hc : X.calm = true) (hi : EE X iter f) (hg : GT X tg ix g) (hb : SSs X body b) (hs : ∀ x, foldedSetIterable iter X.env x = pure x := by intro _; rfl) :
    SS X (.For tg iter body [] pos) (dForE f g b) := by
  refine ⟨fun pins s σ H D I h => ?_⟩
  obtain ⟨T, pa, O, env, out, e1, w, k⟩ := h
  unfold dForE at e1
  split at e1
  · rename_i d en hf
    split at e1
    · rename_i ds hd
      rcases seqOf_some hd with rfl | rfl
      · refine (ps_for (wi := iList X.K (tE X.K f)) (g := tG X.K ix g) (tb := tS X.K b) hp hc (pi_list hi) hg hb hs).run pins s σ H D I ⟨T, pa, O, env, _, en, hf, w, fun v H1 w1 f1 r1 => ?_⟩
        obtain ⟨q, xs, ev, hq, a, ea⟩ := src_of (b := true) (T := T) r1 (seqOf_some hd)
        subst ea
        exact ⟨a, ev, ⟨xs, (hq O H1 Kp.refl).1⟩, for_tr w1 (wk_seq hq) e1 (k.fr f1)⟩
      · refine (ps_for (wi := iTup X.K (tE X.K f)) (g := tG X.K ix g) (tb := tS X.K b) hp hc (pi_tup hi) hg hb hs).run pins s σ H D I ⟨T, pa, O, env, _, en, hf, w, fun v H1 w1 f1 r1 => ?_⟩
        obtain ⟨q, xs, ev, hq, a, ea⟩ := src_of (b := true) (T := T) r1 (seqOf_some hd)
        subst ea
        exact ⟨a, ev, ⟨xs, (hq O H1 Kp.refl).1⟩, for_tr w1 (wk_seq hq) e1 (k.fr f1)⟩
    · cases e1
  · cases e1
/-- a, b = x, y, of effects; shared values -/
def dParE (is : List Nat) (r : Eds) : DS := fun env => match r env with
  | some (ds, e1) => (storeAll is (ds.map fun d => (false, d)) e1).map .nx
  | none => none
theorem pendL_sh {K : PySem.W.Frag} {T O : AS} {pa : Option Addr} {σ : L2.St} {H : Hp} {env : SE} : ∀ {vs : List V} {ds : List PD}, RepL K H O vs ds → PendL K T pa O σ H env vs (ds.map fun d => (false, d))
  | _, _, .nil => .nil
  | v :: vs, d :: ds, .cons a b => by
    refine .cons (.sh a) (fun z => nomatch z) (pendL_sh b)
theorem ss_par2E (i j : Nat) {r : Eds} (hc : X.calm = true) (hN : X.N.Nodup) (hi : X.N[i]? = some x) (hj : X.N[j]? = some y) (hij : i ≠ j)
    (hx : X.env.scope.names.lookup x = some .local) (hy : X.env.scope.names.lookup y = some .local) (ha : EA X [a, b] r)
    (hw : swappedStores [.Tuple [.Name x px, .Name y py] kt pt] (.Tuple [a, b] k2 pt2) X.env = pure (some [x, y]))
    (hs : swapsWithSole [.Tuple [.Name x px, .Name y py] kt pt] (.Tuple [a, b] k2 pt2) pos.line X.env = pure false := by rfl) :
    SS X (.Assign [.Tuple [.Name x px, .Name y py] kt pt] (.Tuple [a, b] k2 pt2) pos) (dParE [i, j] r) := ps_weak (ps_par hc hN hi hj hij hx hy ha hw hs) fun D σ H ⟨T, pa, O, env, out, e1, w, k⟩ => by
  unfold dParE at e1
  split at e1
  · rename_i ds en h1
    obtain ⟨env', h3, rfl⟩ := Option.map_eq_some_iff.mp e1
    refine ⟨T, pa, O, env, ds, en, h1, w, fun vs H' w' f' r' => ?_⟩
    have hlen : ds.length = 2 := by
      match ds, h3 with
      | [], h3 => cases h3
      | [_], h3 => obtain ⟨_, h3⟩ := if_some h3; cases h3
      | [_, _], _ => rfl
      | _ :: _ :: _ :: _, h3 =>
        obtain ⟨_, h3⟩ := if_some h3
        obtain ⟨_, h3⟩ := if_some h3
        cases h3
    have hl2 := r'.length
    match vs, (hl2.trans hlen), r' with
    | [v, u], _, r' =>
      obtain ⟨v1, r1, e1, v2, r2, e2, z⟩ := tgNames_ok [i, j] (Q := fun σ1 H1 => D.nx σ1 H1) w' (pendL_sh r') h3 fun σ1 w1 => k σ1 O H' w1 f'
      cases e1
      cases e2
      exact ⟨v, u, rfl, z.2⟩
  · cases e1
end

/-! ### the context of a body, in one -/
structure Bd (X : Cx) (N : List Str) (sc : Scope) (k : Nat) : Prop where
  hN : X.N = N
  sc : X.env.scope = sc
  calm : X.calm = true
  room : Room k X.A
  po : PassesOwn (model X.prog X.w) X.A X.env X.xe
  nd : N.Nodup
def visB (sc : Scope) (x : Str) : Bool := match sc.names.lookup x with
  | some .local => true
  | some .cell => true
  | some .free => true
  | _ => false
def locB (sc : Scope) (x : Str) : Bool := match sc.names.lookup x with
  | some .local => true
  | some .cell => true
  | _ => false
def isLocB (sc : Scope) (x : Str) : Bool := match sc.names.lookup x with
  | some .local => true
  | _ => false
def glB (sc : Scope) (x : Str) : Bool := match sc.names.lookup x with
  | some .globalImplicit => true
  | _ => false
def strB (x y : Str) : Bool := x == y
def atB (N : List Str) (i : Nat) (x : Str) : Bool := match N[i]? with
  | some y => x == y
  | none => false
def nmB (N : List Str) (sc : Scope) (i : Nat) (x : Str) : Bool := atB N i x && visB sc x && !(x == ("__debug__" : Str)) && !(x == ("__classdict__" : Str))
def stB (N : List Str) (sc : Scope) (i : Nat) (x : Str) : Bool := atB N i x && locB sc x
theorem atB_ok {N : List Str} {i : Nat} {x : Str} (h : atB N i x = true) : N[i]? = some x := by
  unfold atB at h
  split at h
  · rename_i y e; rw [e]; congr 1; exact (eq_of_beq h).symm
  · cases h
theorem visB_ok {sc : Scope} {x : Str} (h : visB sc x = true) : Vis sc x := by
  unfold visB at h
  split at h <;> first | exact .inl (by assumption) | exact .inr (.inl (by assumption)) | exact .inr (.inr (by assumption)) | cases h
theorem locB_ok {sc : Scope} {x : Str} (h : locB sc x = true) : Loc sc x := by
  unfold locB at h
  split at h <;> first | exact .inl (by assumption) | exact .inr (by assumption) | cases h
theorem isLocB_ok {sc : Scope} {x : Str} (h : isLocB sc x = true) : sc.names.lookup x = some .local := by
  unfold isLocB at h
  split at h
  · assumption
  · cases h
section
variable {X : Cx} {N : List Str} {sc : Scope} {k : Nat} {x : Str} {pos p : Pos} {i : Nat}
theorem Bd.at (B : Bd X N sc k) (h : atB N i x = true) : X.N[i]? = some x := by rw [B.hN]; exact atB_ok h
theorem Bd.gl (B : Bd X N sc k) (h : glB sc x = true) : Gl X x := by
  unfold glB at h
  show X.env.scope.names.lookup x = _
  rw [B.sc]
  split at h
  · assumption
  · cases h
theorem Bd.hu (B : Bd X N sc k) : X.A.units + 64 < cLine := B.room.units
theorem Bd.nodup (B : Bd X N sc k) : X.N.Nodup := by rw [B.hN]; exact B.nd
theorem nmB_ok (h : nmB N sc i x = true) : atB N i x = true ∧ visB sc x = true ∧ (x == ("__debug__" : Str)) = false ∧ (x == ("__classdict__" : Str)) = false := by
  unfold nmB at h
  simp only [Bool.and_eq_true, Bool.not_eq_true'] at h
  exact ⟨h.1.1.1, h.1.1.2, h.1.2, h.2⟩
theorem pv_ (B : Bd X N sc k) (i : Nat) (h : nmB N sc i x = true) : PQ X (.Name x pos) (pVar i) := by
  obtain ⟨h1, h2, h3, h4⟩ := nmB_ok h
  exact pq_var i (B.at h1) (by rw [B.sc]; exact visB_ok h2) h3 h4
theorem qv_ (B : Bd X N sc k) (i : Nat) (h : nmB N sc i x = true) : QE X (.Name x pos) (qVar i) := by
  obtain ⟨h1, h2, h3, h4⟩ := nmB_ok h
  exact qe_var i (B.at h1) (by rw [B.sc]; exact visB_ok h2) h3 h4
theorem ov_ (B : Bd X N sc k) (i : Nat) (h : nmB N sc i x = true) : PE X (.Name x pos) (tVar i) := by
  obtain ⟨h1, h2, h3, h4⟩ := nmB_ok h
  exact pe_var (B.at h1) (by rw [B.sc]; exact visB_ok h2) h3 h4
theorem Bd.lc (B : Bd X N sc k) (h : locB sc x = true) : Loc X.env.scope x := by rw [B.sc]; exact locB_ok h
theorem Bd.il (B : Bd X N sc k) (h : isLocB sc x = true) : X.env.scope.names.lookup x = some .local := by rw [B.sc]; exact isLocB_ok h
theorem Bd.blk (B : Bd X N sc k) {scope : Scope} {own : List (Str × Nat)} (h : blkC N sc scope own = true) : BlkOk X.N X.env.scope scope own := by rw [B.hN, B.sc]; exact blkOk_by h
def rl (scope sc : Scope) : Scope := { scope with names := scope.names.map fun (n, k) => if (k == NameKind.free && sc.kind == .function && sc.names.lookup n == some .cell) then (n, NameKind.cell) else (n, k) }
theorem Bd.sub (B : Bd X N sc k) (s : Shared) (H : Hp) (C : Addr) (cl : List (Str × Addr)) (fp : List Addr) (scope : Scope) : Bd (X.blk s H scope (compEnvC scope cl C X.env) fp) N (rl scope sc) k where
  hN := B.hN
  sc := by
    have e := B.sc
    subst e
    rfl
  calm := B.calm
  room := B.room
  po := PassesOwn.never
  nd := B.nd
/-- a target in a comprehension's block -/
def sbB (N : List Str) (scope sc : Scope) (i : Nat) (x : Str) : Bool := stB N (rl scope sc) i x && ((scope.names.lookup x == some .cell) || isLocB (rl scope sc) x)
theorem gb_ (B : Bd X N sc k) (s : Shared) (H : Hp) (C : Addr) (cl : List (Str × Addr)) (fp : List Addr) (scope : Scope) (i : Nat) (h : sbB N scope sc i x = true) : GT (X.blk s H scope (compEnvC scope cl C X.env) fp) (.Name x pos) [i] (gN i) := by
  unfold sbB stB at h
  simp only [Bool.and_eq_true, Bool.or_eq_true] at h
  have B2 := B.sub s H C cl fp scope
  refine gt_name i B2.nodup (B2.at h.1.1) (B2.lc h.1.2) ?_
  rcases h.2 with z | z
  · exact .inl z
  · exact .inr (B2.il z)
/-- a target in a def's body -/
theorem gd_ (B : Bd X N sc k) (fn : ∀ x, X.fn x = true) (i : Nat) (h : stB N sc i x = true) : GT X (.Name x pos) [i] (gN i) := by
  unfold stB at h
  simp only [Bool.and_eq_true] at h
  exact gt_name i B.nodup (B.at h.1) (B.lc h.2) (.inl (fn x))
end
end D
end
section
set_option Elab.async false
set_option linter.all false
set_option maxRecDepth 100000
set_option maxHeartbeats 4000000
/-! The pure layer, part T: dict comprehensions, tuple(zip(..)), dict(zip(..)). -/
namespace D
open PySem PySem.Spec PyProof.Rows L2

/-! ### a dict of data, a key stored -/
def putD (ds : List (PD × PD)) (k : Key) (d : PD) : List (PD × PD) :=
  if (ds.any fun p => PyData.eqv p.1 (kD k)) = true then ds.map (fun p => if PyData.eqv p.1 (kD k) = true then (p.1, d) else p) else ds ++ [(kD k, d)]
theorem eqv_kD (k' k : Key) : PyData.eqv (kD k') (kD k) = decide (k' = k) := by
  cases k' <;> cases k <;> simp [kD, PyData.eqv]
  all_goals rw [Bool.eq_iff_iff]; simp
section
variable {K : PySem.W.Frag} {H : Hp} {O : AS}
theorem repD_any (k : Key) : ∀ {kvs : List (Key × V)} {ds : List (PD × PD)}, RepD K H O kvs ds → (kvs.any fun kv => decide (kv.1 = k)) = ds.any fun p => PyData.eqv p.1 (kD k)
  | _, _, .nil => rfl
  | _, _, .cons a b => by
    rw [List.any_cons, List.any_cons, repD_any k b, eqv_kD]
theorem repD_map (k : Key) {v : V} {d : PD} (r : Rep K H O v d) : ∀ {kvs : List (Key × V)} {ds : List (PD × PD)}, RepD K H O kvs ds → RepD K H O (kvs.map fun kv => if kv.1 = k then (kv.1, v) else kv) (ds.map fun p => if PyData.eqv p.1 (kD k) = true then (p.1, d) else p)
  | _, _, .nil => .nil
  | _, _, .cons (k := k') (v := v') (d := d') a b => by
    rw [List.map_cons, List.map_cons, eqv_kD]
    by_cases e : k' = k
    · simp only [e, decide_true, if_true]
      exact .cons r (repD_map k r b)
    · simp only [e, decide_false, if_false, Bool.false_eq_true]
      exact .cons a (repD_map k r b)
theorem repD_app {kvs : List (Key × V)} {ds : List (PD × PD)} {k : Key} {v : V} {d : PD} (r : Rep K H O v d) : ∀ {kvs : List (Key × V)} {ds : List (PD × PD)}, RepD K H O kvs ds → RepD K H O (kvs ++ [(k, v)]) (ds ++ [(kD k, d)])
  | _, _, .nil => .cons r .nil
  | _, _, .cons a b => .cons a (repD_app (kvs := []) (ds := []) r b)
theorem RepD.put {kvs : List (Key × V)} {ds : List (PD × PD)} (h : RepD K H O kvs ds) (k : Key) {v : V} {d : PD} (r : Rep K H O v d) : RepD K H O (putK kvs k v) (putD ds k d) := by
  unfold putK putD
  rw [repD_any k h]
  split
  · exact repD_map k r h
  · exact repD_app (kvs := []) (ds := []) r h
theorem putK_len (kvs : List (Key × V)) (k : Key) (v : V) : (putK kvs k v).length ≤ kvs.length + 1 := by
  unfold putK
  split
  · rw [List.length_map]; omega
  · rw [List.length_append]; exact Nat.le_refl _
end
/-! ### {k: v for tg in it if t} -/
def dcL (g : PD → SE → Option SE) (t : SE → Option Bool) (ke e : Qd) (env : SE) : List (PD × PD) → List PD → Option (List (PD × PD))
  | acc, [] => some acc
  | acc, d :: ds => match g d env with
    | none => none
    | some e1 => match t e1 with
      | none => none
      | some false => dcL g t ke e env acc ds
      | some true => match ke e1 with
        | none => none
        | some y => match keyOf y with
          | none => none
          | some k => match e e1 with
            | none => none
            | some x => dcL g t ke e env (putD acc k x) ds
def dDc (it : SE → Option (List PD)) (g : PD → SE → Option SE) (t : SE → Option Bool) (ke e : Qd) (vs : List Nat) : Qd := fun env => match it env with
  | some ds => if ds.length ≤ LIM then (dcL g t ke e (wipeE env vs) [] ds).map .dict else none
  | none => none
theorem dc_tr {K : PySem.W.Frag} {it : SE → Option (List PD)} {ix : List Nat} {g : PD → SE → Option SE} {t : SE → Option Bool} {ke e : Qd} {vs : List Nat} (hix : ∀ i ∈ ix, i ∈ vs) {σ : L2.St} {H : Hp} {Q : VK}
    (h : tF K (dDc it g t ke e vs) σ H Q) : tDc (tI K false it) (tG K ix g) (tB t K) (tQ K ke) (tQ K e) vs σ H Q := by
  obtain ⟨T, pa, O, env, d, e1, w, k⟩ := h
  unfold dDc at e1
  split at e1
  · rename_i ds h1
    obtain ⟨hz, e1⟩ := if_some e1
    obtain ⟨dall, e2, rfl⟩ := Option.map_eq_some_iff.mp e1
    refine ⟨T, pa, O, env, ds, h1, w, fun J H1 s1 wk D hD => ?_⟩
    have w1 := (w.same s1).wipe vs
    obtain ⟨wD, nD⟩ := w1.fresh (u := .dK []) hD
    have hz' : ds.length ≤ sizeLine := by rw [← lim_eq] at hz; exact hz
    have kpf : ∀ {H' : Hp}, Same H1 H' → Kp false T O H1 (fun b => O b ∨ b = D) H' := fun sm => ⟨sm, fun a h n z => z.elim n fun q => h (by rw [q]; exact hD)⟩
    refine ⟨fun i m H' => m = ds.length - i ∧ i ≤ ds.length ∧ ∃ acc dacc, H' D = some (.dK acc) ∧ acc.length ≤ i ∧ RepD K H' (fun b => O b ∨ b = D) acc dacc ∧ dcL g t ke e (wipeE env vs) dacc (ds.drop i) = some dall ∧ Same H1 H' ∧ ER K T pa (fun b => O b ∨ b = D) (L2.wipe σ vs) H' (wipeE env vs),
      ⟨ds.length, rfl, Nat.zero_le _, [], [], upd_same, Nat.le_refl _, .nil, e2, same_upd hD, wD⟩, ?_⟩
    rintro i m H' ⟨rfl, hi, acc, dacc, hH, hacc, rl, e3, sm, w'⟩
    by_cases hlt : i < ds.length
    · rw [List.drop_eq_getElem_cons hlt] at e3
      unfold dcL at e3
      refine .inr ⟨wk.go i _ H' (kpf sm) hlt, fun H2 => ∃ acc dacc, H2 D = some (.dK acc) ∧ acc.length ≤ i + 1 ∧ RepD K H2 (fun b => O b ∨ b = D) acc dacc ∧ dcL g t ke e (wipeE env vs) dacc (ds.drop (i + 1)) = some dall ∧ Same H1 H2 ∧ ER K T pa (fun b => O b ∨ b = D) (L2.wipe σ vs) H2 (wipeE env vs),
        fun H2 q => ⟨ds.length - (i + 1), by omega, rfl, hlt, q⟩, fun x H2 y => ?_⟩
      obtain ⟨s2, r2⟩ := wk.yld i _ H' x H2 _ (kpf sm) (List.getElem?_eq_getElem hlt) y
      have w2 := w'.same s2
      cases h2 : g ds[i] (wipeE env vs) with
      | none => rw [h2] at e3; cases e3
      | some e4 =>
        rw [h2] at e3
        simp only at e3
        refine ⟨T, pa, _, _, _, e4, h2, w2, r2 w'.dom, fun σ3 w3 b3 => ⟨wipe_but b3 hix, ?_⟩⟩
        cases h3 : t e4 with
        | none => rw [h3] at e3; cases e3
        | some c =>
          rw [h3] at e3
          refine ⟨T, pa, _, e4, c, h3, w3, fun H3 s3 => ?_⟩
          have s13 := sm.trans (s2.trans s3)
          have hD3 : H3 D = some (.dK acc) := (s2.trans s3) _ _ hH
          have w5 := w'.same (s2.trans s3)
          have rl3 := rl.same (s2.trans s3)
          cases c with
          | false => exact ⟨acc, dacc, hD3, by omega, rl3, e3, s13, w5⟩
          | true =>
            show (if true = true then _ else _)
            rw [if_pos rfl]
            simp only at e3
            cases h4 : ke e4 with
            | none => rw [h4] at e3; cases e3
            | some y5 =>
              rw [h4] at e3
              simp only at e3
              cases h6 : keyOf y5 with
              | none => rw [h6] at e3; cases e3
              | some kk =>
                rw [h6] at e3
                simp only at e3
                cases h5 : e e4 with
                | none => rw [h5] at e3; cases e3
                | some x5 =>
                  rw [h5] at e3
                  refine ⟨T, pa, _, e4, y5, h4, w3.same s3, fun vk H4 s4 r4 => ⟨T, pa, _, e4, x5, h5, (w3.same s3).same s4, fun v H5 s5 r5 => ?_⟩⟩
                  have hD5 := s5 _ _ (s4 _ _ hD3)
                  have ey := keyOf_kV h6
                  subst ey
                  have kp := own_rep (u := .dK (putK acc kk v)) (O := fun b => O b ∨ b = D) (Or.inr rfl) hD5 rfl
                  refine ⟨acc, kk, repT_key (.inl r4), hD5, by omega, putK acc kk v, putD dacc kk x5, upd_same, Nat.le_trans (putK_len _ _ _) (Nat.succ_le_succ hacc), (((rl3.same s4).same s5).put kk r5).kp kp (fun _ _ n => n), e3, fun a o q => ?_, ((w5.same s4).same s5).loose (Or.inr rfl) hD5 rfl nD⟩
                  have na : a ≠ D := fun z => by rw [z, hD] at q; cases q
                  rw [upd_ne na]
                  exact s5 _ _ (s4 _ _ (s13 _ _ q))
    · have hi' : i = ds.length := by omega
      subst hi'
      rw [List.drop_eq_nil_of_le (Nat.le_refl _)] at e3
      cases e3
      refine .inl ⟨wk.stop _ H' (kpf sm), k D H' (s1.trans sm) ?_ ⟨acc, hH, by omega, rl⟩⟩
      cases hn : H D with
      | none => rfl
      | some o => rw [s1 _ _ hn] at hD; cases hD
  · cases e1
section
variable {X : Cx} {kx vx tg iter : Expr} {ifs : List Expr} {scope : Scope} {own : List (Str × Nat)} {pos : Pos} {it : SE → Option (List PD)} {ix : List Nat} {g : PD → SE → Option SE} {t : SE → Option Bool} {ke e : Qd}
theorem fe_dc (hc : X.calm = true) (hN : X.N.Nodup) (hi : QI X false tg iter it) (ok : BlkOk X.N X.env.scope scope own)
    (hg : ∀ (s : Shared) (H : Hp) (C : Addr) (cl : List (Str × Addr)) (fp : List Addr), GT (X.blk s H scope (compEnvC scope cl C X.env) fp) tg ix g) (ht : ∀ (s : Shared) (H : Hp) (C : Addr) (cl : List (Str × Addr)) (fp : List Addr), TsQ (X.blk s H scope (compEnvC scope cl C X.env) fp) ifs t)
    (hk : ∀ (s : Shared) (H : Hp) (C : Addr) (cl : List (Str × Addr)) (fp : List Addr), QE (X.blk s H scope (compEnvC scope cl C X.env) fp) kx ke)
    (he : ∀ (s : Shared) (H : Hp) (C : Addr) (cl : List (Str × Addr)) (fp : List Addr), QE (X.blk s H scope (compEnvC scope cl C X.env) fp) vx e) (hix : ∀ i ∈ ix, i ∈ own.map (·.2)) (hs : ∀ x, foldedSetIterable iter X.env x = pure x := by intro _; rfl) :
    FE X (.DictComp kx vx [⟨tg, iter, ifs, 0⟩] scope pos) (dDc it g t ke e (own.map (·.2))) :=
  pe_weak (pe_dc (wi := tI X.K false it) (g := tG X.K ix g) (tt := tB t X.K) (tk := tQ X.K ke) (tv := tQ X.K e) hc hN hi ok hg ht hk he hs) fun σ H Q h => dc_tr hix h
end
end D
end
section
set_option Elab.async false
set_option linter.all false
set_option maxRecDepth 100000
set_option maxHeartbeats 4000000
/-! The pure layer, part X: tuple(zip(a, b)). -/
namespace D
open PySem PySem.Spec PyProof.Rows L2

section
variable {prog : Program} {w : World} {A : Around} {E : Value → Shared → Prop} {s : Shared} {z TI TO i1 i2 : Addr} {fp1 fp2 : List Addr} {n1 n2 i : Nat} {P1 P2 : Nat → Value → Prop} {St1 St2 : Nat → Heap → Prop}
theorem pyNext_zipU {Q : Option Value → Shared → Prop} (S : ZipSep2 z TI TO i1 i2 fp1 fp2) (hTI2 : TI ≠ i2) (D1 : Draws prog w A.in1 i1 fp1 n1 P1 St1) (D2 : Draws prog w A.in1 i2 fp2 n2 P2 St2)
    (hZ : ZS s.heap z TI TO i1 i2) (st1 : St1 i s.heap) (st2 : St2 i s.heap) (hlt1 : i < n1) (hlt2 : i < n2)
    (hQ : ∀ x1 x2 h' tk, P1 i x1 → P2 i x2 → ZS h' z TI TO i1 i2 → St1 (i + 1) h' → St2 (i + 1) h' → IsTupOf2 h' s.heap.objs.size x1 x2 → h'.objs.size = s.heap.objs.size + 1 →
      (∀ c o, c ≠ z → c ≠ TO → c ≠ i1 → c ≠ i2 → s.heap.get? c = some o → h'.get? c = some o) → Q (some (.ref s.heap.objs.size)) { s with heap := h', toks := tk }) :
    wpAny (model prog w) A (pyNext (.ref z)) Q E s := by
  have hT : s.TypeIs (.ref z) "zip" := let ⟨⟨_, _, hz, _⟩, _⟩ := hZ; ⟨_, hz, rfl⟩
  unfold pyNext
  exact wpAny_bind (wpAny_attempt (wpAny_callSpecial?_slot (name := Str.ofString "__next__") hT PySem.F.slot_zip_next
    (wpAny_call_entry PySem.F.slot_zip_next hT PySem.F.entry_zip_next
      (zipU_item S hTI2 D1 D2 hZ st1 st2 hlt1 hlt2 fun x1 x2 h' tk a b c d e f g k => wpAny_pure (hQ x1 x2 h' tk a b c d e f g k)) (PySem.F.args_zip_next_1 _))))
theorem pyNext_zipU_end {Q : Option Value → Shared → Prop} (S : ZipSep2 z TI TO i1 i2 fp1 fp2) (D1 : Draws prog w A.in1 i1 fp1 n1 P1 St1) (D2 : Draws prog w A.in1 i2 fp2 n2 P2 St2)
    (hZ : ZS s.heap z TI TO i1 i2) (st1 : St1 i s.heap) (st2 : St2 i s.heap) (hle1 : i ≤ n1) (hle2 : i ≤ n2) (hend : i = n1 ∨ i = n2)
    (hQ : ∀ h' tk, (∀ c o, c ≠ z → c ≠ TO → c ≠ i1 → c ≠ i2 → s.heap.get? c = some o → h'.get? c = some o) → Q none { s with heap := h', toks := tk }) : wpAny (model prog w) A (pyNext (.ref z)) Q E s := by
  have hT : s.TypeIs (.ref z) "zip" := let ⟨⟨_, _, hz, _⟩, _⟩ := hZ; ⟨_, hz, rfl⟩
  unfold pyNext
  refine wpAny_bind (wpAny_attempt (wpAny_callSpecial?_slot (name := Str.ofString "__next__") hT PySem.F.slot_zip_next
    (wpAny_call_entry PySem.F.slot_zip_next hT PySem.F.entry_zip_next (zipU_end S D1 D2 hZ st1 st2 hle1 hle2 hend fun h' tk e hk he => ?_) (PySem.F.args_zip_next_1 _))))
  obtain ⟨o, ho, hc⟩ := he
  refine wpAny_bind (wpAny_isInstance (T := "StopIteration") (b := true) ⟨o, ho, hc⟩ isSubtype_stop ?_)
  exact wpAny_pure (hQ _ _ hk)
end
section
variable {X : Cx} {pins : List (Addr × Obj)} {σ : L2.St} {A : Around} {q r : Sq} {xs ys : List V} {S z TI TO i1 i2 : Addr} {O : AS} {H0 : Hp} {ds es : List PD}
theorem extend_loopZ (hh : A.handled = none) (Z : ZA z TI TO i1 i2) (hSn : S ∉ [z, TI, TO, i1, i2]) (hq : ∀ H', Same H0 H' → q.has X.K H' xs ∧ RepL X.K H' O xs ds) (hr : ∀ H', Same H0 H' → r.has X.K H' ys ∧ RepL X.K H' O ys es) (hn : min ds.length es.length ≤ sizeLine) (res : Value) {R : Result → Shared → Prop}
    (hR : ∀ s' Hn acc' c' vs', Inv X pins σ Hn s' → Same H0 Hn → s'.heap.get? S = some { cls := .type "list", dict := none, data := .seq acc' c', slots := #[] } → Vals vs' acc'.toList → RepL X.K Hn O vs' (zpL ds es) → R (.ok (.ret res)) s') :
    ∀ (k i : Nat) (s : Shared) (Hi : Hp) (acc : Array Value) (vs : List V) (c : Nat), min ds.length es.length - i = k → i ≤ min ds.length es.length → Inv X pins σ Hi s → Same H0 Hi → ZS s.heap z TI TO i1 i2 → q.itr i1 i s.heap → r.itr i2 i s.heap → (∀ b ∈ [S, z, TI, TO, i1, i2], FpOk X pins Hi b) →
      s.heap.get? S = some { cls := .type "list", dict := none, data := .seq acc c, slots := #[] } → Vals vs acc.toList → RepL X.K Hi O vs ((zpL ds es).take i) → codeAny (model X.prog X.w) A (.builtin "list.extend.loop" ⟨[.ref S, .ref z, res], []⟩) R s := by
  have hS' : S ≠ z ∧ S ≠ TI ∧ S ≠ TO ∧ S ≠ i1 ∧ S ≠ i2 := by simpa using hSn
  obtain ⟨nz, nTI, nTO, n1, n2⟩ := hS'
  have hzl : (zpL ds es).length = min ds.length es.length := by simp [zpL]
  intro k
  induction k with
  | zero =>
    intro i s Hi acc vs c hk hi I sm hZ h1 h2 hf hS rv rl
    have hin : i = min ds.length es.length := by omega
    obtain ⟨hqx, rqx⟩ := hq Hi sm
    obtain ⟨hqy, rqy⟩ := hr Hi sm
    obtain ⟨its, rvx, p, _⟩ := Sq.of I hqx
    obtain ⟨its2, rvy, p2, _⟩ := Sq.of I hqy
    have na : ∀ b ∈ [z, TI, TO, i1, i2], b ≠ q.adr := fun b hb => Sq.nfp I hqx (hf b (List.mem_cons_of_mem _ hb))
    have nb : ∀ b ∈ [z, TI, TO, i1, i2], b ≠ r.adr := fun b hb => Sq.nfp I hqy (hf b (List.mem_cons_of_mem _ hb))
    have Sp := Z.sep (na z (by simp)) (nb z (by simp)) (na TO (by simp)) (nb TO (by simp)) (nb i1 (by simp)) (na i2 (by simp))
    have D1 := q.draws (prog := X.prog) (w := X.w) (A := A.in1.in1) hh i1 (Ne.symm (na i1 (by simp))) its.toArray
    have D2 := r.draws (prog := X.prog) (w := X.w) (A := A.in1.in1) hh i2 (Ne.symm (nb i2 (by simp))) its2.toArray
    have s1 : its.toArray.size = ds.length := by simp [← rvx.length, rqx.length]
    have s2 : its2.toArray.size = es.length := by simp [← rvy.length, rqy.length]
    refine codeAny_builtin PySem.F.entry_extend_loop ?_
    rw [Around.under_plainId PySem.F.plain_extend_loop _]
    show wpAny _ A.in1 (pyNext (.ref z) >>= _) _ _ s
    refine wpAny_bind (pyNext_zipU_end Sp D1 D2 hZ ⟨h1, p⟩ ⟨h2, p2⟩ (by omega) (by omega) (by omega) fun h' tk hk => ?_)
    have I2 : Inv X pins σ Hi { s with heap := h', toks := tk } := I.turnedL (t' := tk) (ch := [S, z, TI, TO, i1, i2]) (fun c o hb e => hk c o (fun q' => hb (by simp [q'])) (fun q' => hb (by simp [q'])) (fun q' => hb (by simp [q'])) (fun q' => hb (by simp [q'])) e) hf
    refine wpAny_pure (hR _ Hi acc c vs I2 sm (hk _ _ nz nTO n1 n2 hS) rv ?_)
    rw [hin, ← hzl, List.take_length] at rl
    exact rl
  | succ k ih =>
    intro i s Hi acc vs c hk hi I sm hZ h1 h2 hf hS rv rl
    have hlt : i < min ds.length es.length := by omega
    obtain ⟨hqx, rqx⟩ := hq Hi sm
    obtain ⟨hqy, rqy⟩ := hr Hi sm
    obtain ⟨its, rvx, p, _⟩ := Sq.of I hqx
    obtain ⟨its2, rvy, p2, _⟩ := Sq.of I hqy
    have na : ∀ b ∈ [z, TI, TO, i1, i2], b ≠ q.adr := fun b hb => Sq.nfp I hqx (hf b (List.mem_cons_of_mem _ hb))
    have nb : ∀ b ∈ [z, TI, TO, i1, i2], b ≠ r.adr := fun b hb => Sq.nfp I hqy (hf b (List.mem_cons_of_mem _ hb))
    have Sp := Z.sep (na z (by simp)) (nb z (by simp)) (na TO (by simp)) (nb TO (by simp)) (nb i1 (by simp)) (na i2 (by simp))
    have D1 := q.draws (prog := X.prog) (w := X.w) (A := A.in1.in1) hh i1 (Ne.symm (na i1 (by simp))) its.toArray
    have D2 := r.draws (prog := X.prog) (w := X.w) (A := A.in1.in1) hh i2 (Ne.symm (nb i2 (by simp))) its2.toArray
    have s1 : its.toArray.size = ds.length := by simp [← rvx.length, rqx.length]
    have s2 : its2.toArray.size = es.length := by simp [← rvy.length, rqy.length]
    have hdx : i < ds.length := by omega
    have hex : i < es.length := by omega
    obtain ⟨x, hx, rx⟩ := rqx.get (List.getElem?_eq_getElem hdx)
    obtain ⟨y, hy, ry⟩ := rqy.get (List.getElem?_eq_getElem hex)
    obtain ⟨u, hu, ru⟩ := rvx.get hx
    obtain ⟨u2, hu2, ru2⟩ := rvy.get hy
    refine codeAny_builtin PySem.F.entry_extend_loop ?_
    rw [Around.under_plainId PySem.F.plain_extend_loop _]
    show wpAny _ A.in1 (pyNext (.ref z) >>= _) _ _ s
    refine wpAny_bind (pyNext_zipU Sp Z.TI2 D1 D2 hZ ⟨h1, p⟩ ⟨h2, p2⟩ (by omega) (by omega) fun x1 x2 h' tk y1 y2 hZ' st1 st2 hT hsz hkp => ?_)
    have e1 : x1 = u := by have z : its.toArray[i]? = some u := by simpa using hu
                           rw [z] at y1; cases y1; rfl
    have e2 : x2 = u2 := by have z : its2.toArray[i]? = some u2 := by simpa using hu2
                            rw [z] at y2; cases y2; rfl
    subst e1 e2
    have hn2 : Hi s.heap.objs.size = none := I.hok.fresh (Nat.le_refl _)
    have I1 : Inv X pins σ (upd Hi s.heap.objs.size (.tup [x, y])) { s with heap := h', toks := tk } :=
      I.turnedNew (t' := tk) (ch := [S, z, TI, TO, i1, i2]) (fun c o hb e => hkp c o (fun q' => hb (by simp [q'])) (fun q' => hb (by simp [q'])) (fun q' => hb (by simp [q'])) (fun q' => hb (by simp [q'])) e) hf (Nat.le_refl _)
        ⟨by show 2 ≤ sizeLine; decide, [x1, x2], .cons ru (.cons ru2 .nil), ⟨_, hT, rfl, _, rfl⟩⟩
    have hSl : S < s.heap.objs.size := Heap.lt_size hS
    have fr : ∀ b ∈ [S, z, TI, TO, i1, i2], b < s.heap.objs.size := fun c hcm => by
      obtain ⟨⟨f0, f, hz, _⟩, hTI, x, y, hTO⟩ := hZ
      have e' : c = S ∨ c = z ∨ c = TI ∨ c = TO ∨ c = i1 ∨ c = i2 := by simpa using hcm
      rcases e' with q | q | q | q | q | q
      · rw [q]; exact hSl
      · rw [q]; exact Heap.lt_size hz
      · rw [q]; exact Heap.lt_size hTI
      · rw [q]; exact Heap.lt_size hTO
      · rw [q]; obtain ⟨_, e1, _⟩ := Sq.itrOb h1; exact Heap.lt_size e1
      · rw [q]; obtain ⟨_, e2, _⟩ := Sq.itrOb h2; exact Heap.lt_size e2
    have hf1 : ∀ b ∈ [S, z, TI, TO, i1, i2], FpOk X pins (upd Hi s.heap.objs.size (.tup [x, y])) b := fun b hb => ⟨by rw [upd_ne (Nat.ne_of_lt (fr b hb))]; exact (hf b hb).1, (hf b hb).2⟩
    have hS1 : h'.get? S = some { cls := .type "list", dict := none, data := .seq acc c, slots := #[] } := hkp _ _ nz nTO n1 n2 hS
    have hvl : vs.length = i := by rw [rl.length, List.length_take, hzl]; omega
    have hal : acc.size = i := by rw [← hvl, rv.length]; simp
    show wpAny _ A.in1 (updateSeq S (·.push (.ref s.heap.objs.size)) >>= _) _ _ _
    refine wpAny_bind ?_
    have oth : ∀ b o, b ≠ S → h'.get? b = some o → (h'.update S (Obj.mapSeq (·.push (.ref s.heap.objs.size)))).get? b = some o := fun b o hb e => (Heap.get?_update_other _ _ (Ne.symm hb)).trans e
    have I2 : Inv X pins σ (upd Hi s.heap.objs.size (.tup [x, y])) { s with heap := h'.update S (Obj.mapSeq (·.push (.ref s.heap.objs.size))), toks := tk } := by
      obtain ⟨f0, f1, f2, f3, f4, f5⟩ := hf1 S (by simp)
      exact I1.turned (t' := tk) (fun b o hb e => oth b o hb e) f0 f1 f3 f4 f5
    have sm2 : Same H0 (upd Hi s.heap.objs.size (.tup [x, y])) := sm.trans (same_upd hn2)
    refine wpAny_updateSeq (s := { s with heap := h', toks := tk }) hS1 rfl (wpAny_pure ⟨plainId_quiet PySem.F.plain_extend_loop _, ih (i + 1) _ _ (acc.push (.ref s.heap.objs.size)) (vs ++ [.ref s.heap.objs.size]) _ (by omega) (by omega) I2 sm2 ?_ ?_ ?_ hf1 (Heap.get?_update_self _ hS1 rfl) ?_ ?_⟩)
      (by rw [hal]; omega) (by show (acc.push _).size ≤ sizeLine + 1; rw [Array.size_push, hal]; omega)
    · obtain ⟨⟨f0, f, hz, h0⟩, hTI, x, y, hTO⟩ := hZ'
      exact ⟨⟨f0, f, oth _ _ (Ne.symm nz) hz, h0⟩, oth _ _ (Ne.symm nTI) hTI, x, y, oth _ _ (Ne.symm nTO) hTO⟩
    · exact Sq.itrAt st1.1 fun o e => oth _ o (Ne.symm n1) e
    · exact Sq.itrAt st2.1 fun o e => oth _ o (Ne.symm n2) e
    · rw [Array.toList_push]
      exact rv.append (.cons rfl .nil)
    · have et : (zpL ds es).take (i + 1) = (zpL ds es).take i ++ [.tuple [ds[i], es[i]]] := by
        have hg : (zpL ds es)[i]? = some (.tuple [ds[i], es[i]]) := by
          unfold zpL
          rw [List.getElem?_zipWith, List.getElem?_eq_getElem hdx, List.getElem?_eq_getElem hex]
        rw [List.take_add_one, hg]; rfl
      rw [et]
      exact (rl.same (same_upd hn2)).append (.cons (tup_new hn2 line2 (.cons rx (.cons ry .nil))) .nil)
theorem nolen_zip : typeLookup (.type "zip") "__len__" = pure none := by rw [typeLookup_type, builtinLookup_eq_fast]; kernel_rfl
theorem nohint_zip : typeLookup (.type "zip") "__length_hint__" = pure none := by rw [typeLookup_type, builtinLookup_eq_fast]; kernel_rfl
theorem collect_zip (hh : A.handled = none) (Z : ZA z TI TO i1 i2) (hq : ∀ H', Same H0 H' → q.has X.K H' xs ∧ RepL X.K H' O xs ds) (hr : ∀ H', Same H0 H' → r.has X.K H' ys ∧ RepL X.K H' O ys es) (hn : min ds.length es.length ≤ sizeLine)
    {s : Shared} {Hi : Hp} {E : Value → Shared → Prop} {Q : List Value → Shared → Prop} (I : Inv X pins σ Hi s) (sm : Same H0 Hi) (hZ : ZS s.heap z TI TO i1 i2) (h1 : q.itr i1 0 s.heap) (h2 : r.itr i2 0 s.heap) (hf : ∀ b ∈ [z, TI, TO, i1, i2], FpOk X pins Hi b)
    (hQ : ∀ s' Hn its vs, Inv X pins σ Hn s' → Same H0 Hn → Vals vs its → RepL X.K Hn O vs (zpL ds es) → Q its s') : wpAny (model X.prog X.w) A (collect (.ref z)) Q E s := by
  have hT : s.TypeIs (.ref z) "zip" := let ⟨⟨_, _, hz, _⟩, _⟩ := hZ; ⟨_, hz, rfl⟩
  have fr : ∀ b ∈ [z, TI, TO, i1, i2], b < s.heap.objs.size := fun c hcm => by
    obtain ⟨⟨f0, f, hz, _⟩, hTI, x, y, hTO⟩ := hZ
    have e' : c = z ∨ c = TI ∨ c = TO ∨ c = i1 ∨ c = i2 := by simpa using hcm
    rcases e' with q | q | q | q | q
    · rw [q]; exact Heap.lt_size hz
    · rw [q]; exact Heap.lt_size hTI
    · rw [q]; exact Heap.lt_size hTO
    · rw [q]; obtain ⟨_, e1, _⟩ := Sq.itrOb h1; exact Heap.lt_size e1
    · rw [q]; obtain ⟨_, e2, _⟩ := Sq.itrOb h2; exact Heap.lt_size e2
  have hSn : s.heap.objs.size ∉ [z, TI, TO, i1, i2] := fun hm => Nat.lt_irrefl _ (fr _ hm)
  have hSz : s.heap.objs.size ≠ z := fun e => hSn (by simp [e])
  unfold collect
  refine wpAny_bind (wpAny_runValue (codeAny_builtin PySem.F.entry_proto_collect ?_))
  rw [Around.under_plainId PySem.F.plain_proto_collect _]
  show wpAny _ A.in1 (newList [] >>= fun l => again (.builtin "list.__iadd__" ⟨[l, .ref z], []⟩)) _ _ s
  refine wpAny_bind (wpAny_newObj_type ?_)
  refine wpAny_pure ⟨plainId_quiet PySem.F.plain_list_iadd _, codeAny_builtin PySem.F.entry_list_iadd ?_⟩
  rw [Around.under_plainId PySem.F.plain_list_iadd _]
  have up : ∀ b o, s.heap.get? b = some o → (s.heap.push { cls := .type "list", data := .seq ([] : List Value).toArray }).get? b = some o := fun b o e => Heap.get?_push_of_some _ e
  have hT1 : ({ s with heap := s.heap.push { cls := .type "list", data := .seq ([] : List Value).toArray } } : Shared).TypeIs (.ref z) "zip" := by
    obtain ⟨⟨_, _, hz, _⟩, _⟩ := hZ
    exact ⟨_, up _ _ hz, rfl⟩
  show wpAny _ A.in1 (Builtin.List.listExtendWith (.ref s.heap.objs.size) (.ref z) (.ref s.heap.objs.size)) _ _ _
  unfold Builtin.List.listExtendWith
  refine wpAny_bind (wpAny_typeOf hT1 ?_)
  have e1 : Builtin.List.listSameRef (.ref s.heap.objs.size) (.ref z) = false := by simp [Builtin.List.listSameRef, hSz]
  have e2 : (Value.type "zip" == Value.type "list") = false := by decide
  have e3 : (Value.type "zip" == Value.type "tuple") = false := by decide
  simp only [e1, e2, e3, Bool.or_false, Bool.false_eq_true, if_false]
  have pit : ∀ {A' : Around} {Q' : Value → Shared → Prop} {E' : Value → Shared → Prop} {s1 : Shared}, s1.TypeIs (.ref z) "zip" → (∃ f0 f, ZF s1.heap z TI TO f0 f) → Q' (.ref z) s1 → wpAny (model X.prog X.w) A' (pyIter (.ref z)) Q' E' s1 := fun {A' Q' E' s1} hT ⟨f0, f, hz⟩ hQ' =>
    wpAny_pyIter_slot hT PySem.F.slot_zip_iter (wpAny_call_entry PySem.F.slot_zip_iter hT PySem.F.entry_zip_iter
      (by
        show wpAny _ _ (ret (.ref z)) _ _ s1
        exact wpAny_pure ⟨_, rfl, "zip", _, hT, PySem.F.slot_zip_next.lookup, hQ'⟩) (PySem.F.args_zip_iter_1 _))
  refine wpAny_bind (pit hT1 (let ⟨⟨f0, f, hz, _⟩, _⟩ := hZ; ⟨f0, f, up _ _ hz⟩) ?_)
  refine wpAny_bind (wpAny_holding ?_)
  unfold Builtin.List.listLengthHint
  refine wpAny_bind (wpAny_specialOf hT1 nolen_zip ?_)
  show wpAny _ A.in1 (specialOf (Value.ref z) (Str.ofString "__length_hint__") >>= _) _ _ _
  refine wpAny_bind (wpAny_specialOf hT1 nohint_zip ?_)
  refine wpAny_pure ?_
  show wpAny _ A.in1 (rule "list.extend.makes-room" >>= fun _ => Builtin.List.listTouch (.ref s.heap.objs.size) >>= fun _ =>
    again (.builtin "list.extend.loop" ⟨[.ref s.heap.objs.size, .ref z, .ref s.heap.objs.size], []⟩)) _ _ _
  refine wpAny_bind (wpAny_rule ?_)
  have hS₁ : (s.heap.push { cls := .type "list", data := .seq ([] : List Value).toArray }).get? s.heap.objs.size = some { cls := .type "list", data := .seq ([] : List Value).toArray } := Heap.get?_push_size _ rfl
  refine wpAny_bind ?_
  show wpAny _ A.in1 (updateSeq s.heap.objs.size (·.push .none) >>= fun _ => updateSeq s.heap.objs.size (·.pop)) _ _ _
  refine wpAny_bind (wpAny_updateSeq hS₁ rfl ?_)
  have hS₂ := Heap.get?_update_self (Obj.mapSeq (·.push Value.none)) hS₁ rfl
  refine wpAny_updateSeq hS₂ rfl ?_
  have hS₃ := Heap.get?_update_self (Obj.mapSeq (·.pop)) hS₂ rfl
  have oth : ∀ b o, b ≠ s.heap.objs.size → (s.heap.push { cls := .type "list", data := .seq ([] : List Value).toArray }).get? b = some o →
      (((s.heap.push { cls := .type "list", data := .seq ([] : List Value).toArray }).update s.heap.objs.size (Obj.mapSeq (·.push Value.none))).update s.heap.objs.size (Obj.mapSeq (·.pop))).get? b = some o :=
    fun b o hb e => (Heap.get?_update_other _ _ (Ne.symm hb)).trans ((Heap.get?_update_other _ _ (Ne.symm hb)).trans e)
  have hnS : Hi s.heap.objs.size = none := I.hok.fresh (Nat.le_refl _)
  have fS : FpOk X pins Hi s.heap.objs.size := I.fpOk (Nat.le_refl _) hnS
  have kp : ∀ b o, s.heap.get? b = some o → (((s.heap.push { cls := .type "list", data := .seq ([] : List Value).toArray }).update s.heap.objs.size (Obj.mapSeq (·.push Value.none))).update s.heap.objs.size (Obj.mapSeq (·.pop))).get? b = some o :=
    fun b o e => oth b o (Nat.ne_of_lt (Heap.lt_size e)) (up b o e)
  have I2 : Inv X pins σ Hi { s with heap := ((s.heap.push { cls := .type "list", data := .seq ([] : List Value).toArray }).update s.heap.objs.size (Obj.mapSeq (·.push Value.none))).update s.heap.objs.size (Obj.mapSeq (·.pop)) } := I.kept (t' := s.toks) kp
  refine wpAny_pure ⟨plainId_quiet PySem.F.plain_extend_loop _, extend_loopZ (A := A) (S := s.heap.objs.size) hh Z hSn hq hr hn _ (fun s' Hn acc' c' vs' I' sm' hS' rv' rl' => ?_) _ 0 _ Hi _ [] _ rfl (Nat.zero_le _) I2 sm ?_ (Sq.itrAt h1 fun o e => kp _ o e) (Sq.itrAt h2 fun o e => kp _ o e) (fun b hb => ?_) hS₃ ?_ ?_⟩
  · show wpAny _ A (load s.heap.objs.size >>= _) _ _ s'
    refine wpAny_bind (wpAny_load hS' ?_)
    exact wpAny_pure (hQ s' Hn acc'.toList vs' I' sm' rv' rl')
  · obtain ⟨⟨f0, f, hz, h0⟩, hTI, x, y, hTO⟩ := hZ
    exact ⟨⟨f0, f, kp _ _ hz, h0⟩, kp _ _ hTI, x, y, kp _ _ hTO⟩
  · rcases List.mem_cons.mp hb with rfl | hb
    · exact fS
    · exact hf b hb
  · exact .nil
  · exact .nil
theorem code_tuple_zip (hh : A.handled = none) (Z : ZA z TI TO i1 i2) (hq : ∀ H', Same H0 H' → q.has X.K H' xs ∧ RepL X.K H' O xs ds) (hr : ∀ H', Same H0 H' → r.has X.K H' ys ∧ RepL X.K H' O ys es) (hn : min ds.length es.length ≤ sizeLine)
    {s : Shared} {Hi : Hp} {E : Value → Shared → Prop} {Q₁ : Value → Shared → Prop} (I : Inv X pins σ Hi s) (sm : Same H0 Hi) (hZ : ZS s.heap z TI TO i1 i2) (h1 : q.itr i1 0 s.heap) (h2 : r.itr i2 0 s.heap) (hf : ∀ b ∈ [z, TI, TO, i1, i2], FpOk X pins Hi b)
    (hQ : ∀ s' Hn its vs, Inv X pins σ Hn s' → Same H0 Hn → Vals vs its → RepL X.K Hn O vs (zpL ds es) → Q₁ (.ref s'.heap.objs.size) { s' with heap := s'.heap.push { cls := .type "tuple", data := .seq its.toArray } }) :
    codeAny (model X.prog X.w) A (.call (.builtin "tuple.__new__") ⟨[.type "tuple", .ref z], []⟩) (wants Q₁ E) s := by
  have hzl : (zpL ds es).length = min ds.length es.length := by simp [zpL]
  refine codeAny_of_tree ?_
  show wpAny _ A.in1 (do checkBuiltinCall "tuple.__new__" ⟨[.type "tuple", .ref z], []⟩; again (.builtin "tuple.__new__" ⟨[.type "tuple", .ref z], []⟩)) _ _ s
  refine wpAny_bind (wpAny_of_eq (PySem.F.newCall_tuple_1 _) (wpAny_pure ⟨plainId_quiet PySem.F.plain_tuple_new _, codeAny_builtin PySem.F.entry_tuple_new ?_⟩))
  rw [Around.under_plainId PySem.F.plain_tuple_new _]
  have hsub := sub_tuple_self
  have hinit := init_tuple_lookup
  have hmh := madeHere_tuple
  have hTI : s.TypeIs (.ref z) "zip" := let ⟨⟨_, _, hz, _⟩, _⟩ := hZ; ⟨_, hz, rfl⟩
  have hh1 : A.in1.handled = none := hh
  wp_walk using wpAny_typeOf hTI, collect_zip (A := A.in1) hh1 Z hq hr hn I sm hZ h1 h2 hf
  intro s' Hn its vs I' sm' rv rl
  show wpAny _ _ (Builtin.Tuple.tupleExact its.toArray >>= fun v => ret v) _ _ _
  unfold Builtin.Tuple.tupleExact
  refine wpAny_bind (wpAny_newObj_type ?_ (by show its.toArray.size ≤ sizeLine; rw [List.size_toArray, ← rv.length, rl.length, hzl]; exact hn))
  refine wpAny_pure ?_
  exact hQ s' Hn its vs I' sm' rv rl
end
section
variable {X : Cx} {e e2 : Expr} {p p2 pos pos2 : Pos} {q : SE → Option (List PD)}
/-! ### tuple(zip(a, b)) -/
def qZipT (q : SE → Option (List PD)) : Qd := fun env => (iZp q env).map .tuple
theorem qe_tupZip (hc : X.calm = true) (hg0 : Gl X "tuple") (hm0 : X.mg "tuple" = none) (hg : Gl X "zip") (hm : X.mg "zip" = none) (ha : QAP X [e, e2] q)
    (hs0 : starEach [.Call (.Name "zip" p2) [e, e2] [] pos2] X.env = (false, eval (.Call (.Name "zip" p2) [e, e2] [] pos2) X.env) :: starEach [] X.env := by rfl)
    (hs : starEach [e, e2] X.env = (false, eval e X.env) :: starEach [e2] X.env := by rfl) (hpl : (backTo pos2 (starEach [e2] X.env)).any (·.1) = false := by rfl) :
    QE X (.Call (.Name "tuple" p) [.Call (.Name "zip" p2) [e, e2] [] pos2] [] pos) (qZipT q) := by
  refine ⟨fun pins s σ H Q I ⟨T, pa, O, env, d, e1, w, k⟩ => ?_⟩
  obtain ⟨zs, e0, rfl⟩ := Option.map_eq_some_iff.mp e1
  unfold iZp at e0
  split at e0
  · rename_i d1 d2 hd
    obtain ⟨ds, hd1, e0⟩ := bind_some e0
    obtain ⟨es, hd2, e0⟩ := bind_some e0
    cases e0
    refine Call_ (ld_blt I hg0 hm0 PyProof.Rows.boot_tuple (PyProof.Rows.callWith_type1 (args_cons ?_ hs0) hs0 rfl))
    refine Call_ (ld_blt I hg hm PyProof.Rows.boot_zip (PyProof.Rows.callWith_type1 (thn (ha.run pos2 pins s σ H (fun vs H1 => Same H H1 ∧ RepTL X.K H1 O vs [d1, d2]) I ⟨T, pa, O, env, _, hd, w, fun vs H' s' r' => ⟨s', r'⟩⟩) fun us s1 ⟨vs, H1, I1, r1, sm1, rt⟩ => ?_) hs hpl))
    obtain ⟨v, v2, rfl, ra, rb⟩ := rt.two
    obtain ⟨q, xs, ev, hq, _⟩ := src_of (b := false) (T := T) ra (seqOf_some hd1)
    obtain ⟨r, ys, ev2, hr, _⟩ := src_of (b := false) (T := T) rb (seqOf_some hd2)
    subst ev ev2
    have hq' : ∀ H', Same H1 H' → q.has X.K H' xs ∧ RepL X.K H' O xs ds := fun H' sm => hq O H' ⟨sm, fun _ _ n => n⟩
    have hr' : ∀ H', Same H1 H' → r.has X.K H' ys ∧ RepL X.K H' O ys es := fun H' sm => hr O H' ⟨sm, fun _ _ n => n⟩
    cases r1 with
    | @cons _ u0 _ _ rr0 rr =>
      cases rr with
      | @cons _ u1 _ _ rr1 rr =>
        cases rr
        obtain rfl : u0 = Value.ref q.adr := rr0
        obtain rfl : u1 = Value.ref r.adr := rr1
        obtain ⟨its, rv, p1, hz1⟩ := Sq.of I1 (hq' H1 (Same.refl _)).1
        obtain ⟨its2, rv2, p2, hz2⟩ := Sq.of I1 (hr' H1 (Same.refl _)).1
        have hl1 := (hq' H1 (Same.refl _)).2.length
        refine zip_begins2 (q.begins its.toArray) (Sq.begins _ its2.toArray) p1 p2 fun h' hz hTI hTO h1 h2 hsz hk => args_nil ?_
        have I2 : Inv X pins σ H1 { s1 with heap := h' } := I1.kept (t' := s1.toks) hk
        have fp : ∀ b ∈ [s1.heap.objs.size + 4, s1.heap.objs.size + 2, s1.heap.objs.size + 3, s1.heap.objs.size, s1.heap.objs.size + 1], FpOk X pins H1 b := fun c hcm => by
          have e' : c = s1.heap.objs.size + 4 ∨ c = s1.heap.objs.size + 2 ∨ c = s1.heap.objs.size + 3 ∨ c = s1.heap.objs.size ∨ c = s1.heap.objs.size + 1 := by simpa using hcm
          have hle : s1.heap.objs.size ≤ c := by
            rcases e' with z | z | z | z | z
            · rw [z]; exact Nat.le_add_right _ _
            · rw [z]; exact Nat.le_add_right _ _
            · rw [z]; exact Nat.le_add_right _ _
            · rw [z]; exact Nat.le_refl _
            · rw [z]; exact Nat.le_add_right _ _
          exact I1.fpOk hle (I1.hok.fresh hle)
        have hh : X.A.handled = none := I.ok.hd hc
        have hzl : (zpL ds es).length = min ds.length es.length := by simp [zpL]
        refine callType_codes (Q₁ := fun obj s₁ => s₁.TypeIs obj "tuple" ∧ EP X pins σ Q obj s₁) PySem.F.called_tuple (PySem.F.typeCall_tuple_1 _) PySem.F.entry_object_init
          (code_tuple_zip (A := X.A.in1) hh (za_new s1.heap.objs.size) hq' hr' (by omega) I2 (Same.refl _) ⟨⟨_, _, hz, .inl rfl⟩, hTI, _, _, hTO⟩ (Sq.itr0 h1) (Sq.itr0 h2) fp fun s' Hn its vs I' sm' rv rl => ?_) fun obj s₁ h₁ => ?_
        · have hfr : Hn s'.heap.objs.size = none := I'.hok.fresh (Nat.le_refl _)
          have hvl : vs.length ≤ sizeLine := by rw [rl.length, hzl]; omega
          refine ⟨⟨_, Heap.get?_push_size _ rfl, rfl⟩, .ref s'.heap.objs.size, upd Hn s'.heap.objs.size (.tup vs), I'.laid (t' := s'.toks) (fun b o e => Heap.get?_push_of_some _ e) (Nat.le_refl _) ?_, rfl, k _ _ ((sm1.trans sm').trans (same_upd hfr)) (tup_new hfr hvl rl)⟩
          exact ⟨hvl, its, rv, ⟨_, Heap.get?_push_size _ rfl, rfl, 0, rfl⟩⟩
        · exact ⟨h₁.1, PySem.F.args_object_init_2 obj _, object_init_meets PySem.F.called_tuple.init.lookup PySem.F.called_tuple.made (by decide) X.prog X.w X.A.in1 _ s₁ ⟨h₁.1, rfl, h₁.2⟩⟩
  · cases e0
end
end D
end
section
set_option Elab.async false
set_option linter.all false
set_option maxRecDepth 100000
set_option maxHeartbeats 4000000
/-! The pure layer, part Y: dict(zip(a, b)). -/
namespace D
open PySem PySem.Spec PyProof.Rows L2

theorem pairArgZ {prog : Program} {w : World} {q r : Sq} {z TI TO i1 i2 : Addr} (Z : ZA z TI TO i1 i2) (na : ∀ b ∈ [z, TI, TO, i1, i2], b ≠ q.adr) (nb : ∀ b ∈ [z, TI, TO, i1, i2], b ≠ r.adr) (its its2 : Array Value) :
    PairArg prog w "zip" z [z, TI, TO, i1, i2, q.adr, r.adr] [z, TO, i1, i2] (min its.size its2.size) (fun i k v => its[i]? = some k ∧ its2[i]? = some v)
      (fun h => IsZip h z TI TO .none ∧ IsTupOf2 h TI (.ref i1) (.ref i2) ∧ (∃ a b, IsTupOf2 h TO a b) ∧ q.itr i1 0 h ∧ r.itr i2 0 h ∧ q.is h its ∧ r.is h its2) where
  type := fun s ok => ⟨_, ok.1, rfl⟩
  notDict := by decide
  keep := fun h h' ok hk => by
    obtain ⟨hz, hTI, ⟨a, b, hTO⟩, h1, h2, hl1, hl2⟩ := ok
    refine ⟨hk _ _ hz, hk _ _ hTI, ⟨a, b, hk _ _ hTO⟩, Sq.itrAt h1 fun o e => hk _ o e, Sq.itrAt h2 fun o e => hk _ o e, (q.begins its).keeps _ _ hl1 hk, (r.begins its2).keeps _ _ hl2 hk⟩
  there := fun h ok b hb => by
    obtain ⟨hz, hTI, ⟨a, c, hTO⟩, h1, h2, hl1, hl2⟩ := ok
    obtain ⟨o1, e1, _⟩ := Sq.itrOb h1
    obtain ⟨o2, e2, _⟩ := Sq.itrOb h2
    obtain ⟨o3, c3, e3, _⟩ := Sq.cls hl1
    obtain ⟨o4, c4, e4, _⟩ := Sq.cls hl2
    simp only [List.mem_cons, List.not_mem_nil, or_false] at hb
    rcases hb with e | e | e | e | e | e | e <;> rw [e]
    · exact ⟨_, hz⟩
    · exact ⟨_, hTI⟩
    · exact ⟨_, hTO⟩
    · exact ⟨_, e1⟩
    · exact ⟨_, e2⟩
    · exact ⟨_, e3⟩
    · exact ⟨_, e4⟩
  sub := fun b hb => by simp at hb ⊢; rcases hb with rfl | rfl | rfl | rfl <;> simp
  noKeys := fun A s Q E hA ok h => getAttrOr_miss_zip ok.1 rfl rfl rfl zip_no_keys (by decide +kernel) hA h
  iter := fun A s d Q E hA ok hd hdf h => by
    obtain ⟨hz, hTI, ⟨a, b, hTO⟩, h1, h2, hl1, hl2⟩ := ok
    simp only [List.mem_cons, List.not_mem_nil, or_false, not_or] at hdf
    obtain ⟨dz, dTI, dTO, di1, di2, dl1, dl2⟩ := hdf
    have Sp := Z.sep (na z (by simp)) (nb z (by simp)) (na TO (by simp)) (nb TO (by simp)) (nb i1 (by simp)) (na i2 (by simp))
    have D1 := q.draws (prog := prog) (w := w) (A := A.in1) hA i1 (Ne.symm (na i1 (by simp))) its
    have D2 := r.draws (prog := prog) (w := w) (A := A.in1) hA i2 (Ne.symm (nb i2 (by simp))) its2
    refine wpAny_pyIter_zip hz (h z [z, TO, i1, i2] (fun i h => ZS h z TI TO i1 i2 ∧ (q.itr i1 i h ∧ q.is h its) ∧ (r.itr i2 i h ∧ r.is h its2)) s.heap s.toks ?_
      ⟨⟨⟨_, _, hz, .inl rfl⟩, hTI, a, b, hTO⟩, ⟨h1, hl1⟩, h2, hl2⟩ (fun _ _ e => e) fun b hb => .inl hb)
    exact {
      off := fun hm => by
        simp only [List.mem_cons, List.not_mem_nil, or_false] at hm
        rcases hm with e | e | e | e
        · exact dz e
        · exact dTO e
        · exact di1 e
        · exact di2 e
      frame := fun i h₁ h₂ st hk => by
        obtain ⟨⟨⟨f0, f, hz, h0⟩, hTI, x, y, hTO⟩, st1, st2⟩ := st
        refine ⟨⟨⟨f0, f, hk _ _ (Ne.symm dz) hz, h0⟩, hk _ _ (Ne.symm dTI) hTI, x, y, hk _ _ (Ne.symm dTO) hTO⟩, D1.frame _ _ _ st1 fun b hb o e => ?_, D2.frame _ _ _ st2 fun b hb o e => ?_⟩
        · refine hk b o (fun z => ?_) e
          have hb' : b = i1 ∨ b = q.adr := by simpa using hb
          rcases hb' with z' | z'
          · exact di1 (z ▸ z')
          · exact dl1 (z ▸ z')
        · refine hk b o (fun z => ?_) e
          have hb' : b = i2 ∨ b = r.adr := by simpa using hb
          rcases hb' with z' | z'
          · exact di2 (z ▸ z')
          · exact dl2 (z ▸ z')
      item := fun i s₁ Q₁ E₁ hi st hds hQ => by
        obtain ⟨hZ, st1, st2⟩ := st
        refine pyNext_zipU Sp Z.TI2 D1 D2 hZ st1 st2 (by omega) (by omega) fun x1 x2 h' tk y1 y2 hZ' sn1 sn2 hT hsz hk => ?_
        exact hQ s₁.heap.objs.size _ _ h' tk ⟨y1, y2⟩ (.inl ⟨_, hT, rfl, _, rfl⟩) ⟨hZ', sn1, sn2⟩
          fun c o hc e => hk c o (fun x => hc (by simp [x])) (fun x => hc (by simp [x])) (fun x => hc (by simp [x])) (fun x => hc (by simp [x])) e
      done := fun s₁ Q₁ E₁ st hQ => by
        obtain ⟨hZ, st1, st2⟩ := st
        exact pyNext_zipU_end Sp D1 D2 hZ st1 st2 (by omega) (by omega) (by omega) fun h' tk hk => hQ h' tk fun c o hc e => hk c o (fun x => hc (by simp [x])) (fun x => hc (by simp [x])) (fun x => hc (by simp [x])) (fun x => hc (by simp [x])) e }

/-- keys, of data -/
def keysL : List PD → Option (List Key)
  | [] => some []
  | d :: r => match keyOf d with
    | some k => (keysL r).map (k :: ·)
    | none => none
theorem keysL_eq : ∀ {ds : List PD} {ks : List Key}, keysL ds = some ks → ds = ks.map kD
  | [], ks, h => by cases h; rfl
  | d :: r, ks, h => by
    unfold keysL at h
    split at h
    · rename_i k hk
      obtain ⟨ms, h1, rfl⟩ := Option.map_eq_some_iff.mp h
      rw [keyOf_kV hk, keysL_eq h1]; rfl
    · cases h
def mkD (acc : List (PD × PD)) (ps : List (Key × PD)) : List (PD × PD) := ps.foldl (fun acc p => putD acc p.1 p.2) acc
def qZipD (q : SE → Option (List PD)) : Qd := fun env => match q env with
  | some [d, e] => do
    let ds ← seqOf d
    let es ← seqOf e
    let ks ← keysL ds
    pure (.dict (mkD [] (ks.zip es)))
  | _ => none
section
variable {K : PySem.W.Frag} {H : Hp} {O : AS}
theorem merge_ok : ∀ (ks : List Key) (xs : List V) (us : List Value) (es : List PD) (kvs : List (Key × V)) (vs : List (Key × Value)) (ds : List (PD × PD)), KV kvs vs → RepD K H O kvs ds → Vals xs us → RepL K H O xs es →
    ∃ kvs', KV kvs' (merged vs (ks.zip us)) ∧ RepD K H O kvs' (mkD ds (ks.zip es)) ∧ kvs'.length ≤ kvs.length + ks.length
  | [], xs, us, es, kvs, vs, ds, h1, h2, _, _ => ⟨kvs, by simpa [merged] using h1, by simpa [mkD] using h2, by simp⟩
  | k :: ks, xs, us, es, kvs, vs, ds, h1, h2, h3, h4 => by
    cases h3 with
    | nil =>
      cases h4
      exact ⟨kvs, by simpa [merged] using h1, by simpa [mkD] using h2, by simp⟩
    | cons r t =>
      cases h4 with
      | cons a b =>
        obtain ⟨kvs', g1, g2, g3⟩ := merge_ok ks _ _ _ _ _ _ (h1.put k r) (h2.put k a) t b
        refine ⟨kvs', by simpa [merged] using g1, by simpa [mkD] using g2, ?_⟩
        have := putK_len kvs k (by assumption)
        rw [List.length_cons]
        omega
end
section
variable {X : Cx} {e e2 : Expr} {p p2 pos pos2 : Pos} {q : SE → Option (List PD)}
theorem kd_is {P : Program} {w : World} {k : Key} {u : Value} (r : RelV (kV k) u) : (mixKind P w).is k u = true := kV_is r
theorem fe_dictZip (hc : X.calm = true) (hg0 : Gl X "dict") (hm0 : X.mg "dict" = none) (hg : Gl X "zip") (hm : X.mg "zip" = none) (ha : QAP X [e, e2] q)
    (hs0 : starEach [.Call (.Name "zip" p2) [e, e2] [] pos2] X.env = (false, eval (.Call (.Name "zip" p2) [e, e2] [] pos2) X.env) :: starEach [] X.env := by rfl)
    (hs : starEach [e, e2] X.env = (false, eval e X.env) :: starEach [e2] X.env := by rfl) (hpl : (backTo pos2 (starEach [e2] X.env)).any (·.1) = false := by rfl) :
    FE X (.Call (.Name "dict" p) [.Call (.Name "zip" p2) [e, e2] [] pos2] [] pos) (qZipD q) := by
  refine ⟨fun pins s σ H Q I ⟨T, pa, O, env, d, e0, w, k⟩ => ?_⟩
  unfold qZipD at e0
  split at e0
  · rename_i d1 d2 hd
    obtain ⟨ds, hd1, e0⟩ := bind_some e0
    obtain ⟨es, hd2, e0⟩ := bind_some e0
    obtain ⟨ks, hks, e0⟩ := bind_some e0
    cases e0
    refine Call_ (ld_blt I hg0 hm0 PyProof.Rows.Boot.dict (PyProof.Rows.callWith_type1 (args_cons ?_ hs0) hs0 rfl))
    refine Call_ (ld_blt I hg hm PyProof.Rows.boot_zip (PyProof.Rows.callWith_type1 (thn (ha.run pos2 pins s σ H (fun vs H1 => Same H H1 ∧ RepTL X.K H1 O vs [d1, d2]) I ⟨T, pa, O, env, _, hd, w, fun vs H' s' r' => ⟨s', r'⟩⟩) fun us s1 ⟨vs, H1, I1, r1, sm1, rt⟩ => ?_) hs hpl))
    obtain ⟨v, v2, rfl, ra, rb⟩ := rt.two
    obtain ⟨q, xs, ev, hq, _⟩ := src_of (b := false) (T := T) ra (seqOf_some hd1)
    obtain ⟨r, ys, ev2, hr, _⟩ := src_of (b := false) (T := T) rb (seqOf_some hd2)
    subst ev ev2
    have hq' : ∀ H', Same H1 H' → q.has X.K H' xs ∧ RepL X.K H' O xs ds := fun H' sm => hq O H' ⟨sm, fun _ _ n => n⟩
    have hr' : ∀ H', Same H1 H' → r.has X.K H' ys ∧ RepL X.K H' O ys es := fun H' sm => hr O H' ⟨sm, fun _ _ n => n⟩
    cases r1 with
    | @cons _ u0 _ _ rr0 rr =>
      cases rr with
      | @cons _ u1 _ _ rr1 rr =>
        cases rr
        obtain rfl : u0 = Value.ref q.adr := rr0
        obtain rfl : u1 = Value.ref r.adr := rr1
        obtain ⟨its, rv, p1, hz1⟩ := Sq.of I1 (hq' H1 (Same.refl _)).1
        obtain ⟨its2, rv2, p2, hz2⟩ := Sq.of I1 (hr' H1 (Same.refl _)).1
        have rlx := (hq' H1 (Same.refl _)).2
        have rly := (hr' H1 (Same.refl _)).2
        have hl1 := rlx.length
        have hl2 := rly.length
        have hlv := rv.length
        have hlv2 := rv2.length
        refine zip_begins2 (q.begins its.toArray) (Sq.begins _ its2.toArray) p1 p2 fun h' hz hTI hTO h1 h2 hsz hk => args_nil ?_
        have I2 : Inv X pins σ H1 { s1 with heap := h' } := I1.kept (t' := s1.toks) hk
        have fp : ∀ b ∈ [s1.heap.objs.size + 4, s1.heap.objs.size + 2, s1.heap.objs.size + 3, s1.heap.objs.size, s1.heap.objs.size + 1], FpOk X pins H1 b := fun c hcm => by
          have e' : c = s1.heap.objs.size + 4 ∨ c = s1.heap.objs.size + 2 ∨ c = s1.heap.objs.size + 3 ∨ c = s1.heap.objs.size ∨ c = s1.heap.objs.size + 1 := by simpa using hcm
          have hle : s1.heap.objs.size ≤ c := by
            rcases e' with z | z | z | z | z
            · rw [z]; exact Nat.le_add_right _ _
            · rw [z]; exact Nat.le_add_right _ _
            · rw [z]; exact Nat.le_add_right _ _
            · rw [z]; exact Nat.le_refl _
            · rw [z]; exact Nat.le_add_right _ _
          exact I1.fpOk hle (I1.hok.fresh hle)
        have na : ∀ b ∈ [s1.heap.objs.size + 4, s1.heap.objs.size + 2, s1.heap.objs.size + 3, s1.heap.objs.size, s1.heap.objs.size + 1], b ≠ q.adr := fun b hb => Sq.nfp I1 (hq' H1 (Same.refl _)).1 (fp b hb)
        have nb : ∀ b ∈ [s1.heap.objs.size + 4, s1.heap.objs.size + 2, s1.heap.objs.size + 3, s1.heap.objs.size, s1.heap.objs.size + 1], b ≠ r.adr := fun b hb => Sq.nfp I1 (hr' H1 (Same.refl _)).1 (fp b hb)
        have hh : X.A.handled = none := I.ok.hd hc
        have edk := keysL_eq hks
        have hkl : ks.length = ds.length := by rw [edk, List.length_map]
        refine call_dict_pairs (s := { s1 with heap := h' }) (knd := mixKind X.prog X.w) (kvs := ks.zip its2) (pairArgZ (za_new s1.heap.objs.size) na nb its.toArray its2.toArray) hh
          ⟨hz, hTI, ⟨_, _, hTO⟩, Sq.itr0 h1, Sq.itr0 h2, (q.begins its.toArray).keeps _ _ p1 hk, (Sq.begins _ its2.toArray).keeps _ _ p2 hk⟩ ⟨?_, fun i key v hkv => ?_⟩ ?_ fun h'' tk hd' hk2 => ?_
        · simp only [List.length_zip, List.size_toArray]
          omega
        · obtain ⟨g1, g2⟩ := hkv
          have g1' : its[i]? = some key := by simpa using g1
          have g2' : its2[i]? = some v := by simpa using g2
          have hi : i < ks.length := by have := (List.getElem?_eq_some_iff.mp g1').1; omega
          obtain ⟨x, hx⟩ : ∃ x, xs[i]? = some x := ⟨xs[i]'(by omega), List.getElem?_eq_getElem _⟩
          obtain ⟨u, hu, ru⟩ := rv.get hx
          rw [g1'] at hu; cases hu
          obtain ⟨dd, hdd, rdd⟩ := rlx.getV hx
          rw [edk, List.getElem?_map, List.getElem?_eq_getElem hi] at hdd
          cases hdd
          refine ⟨ks[i], ?_, kd_is ?_⟩
          · rw [List.getElem?_zip_eq_some]
            exact ⟨List.getElem?_eq_getElem hi, g2'⟩
          · rw [← repT_key (.inl rdd)]
            exact ru
        · simp only [List.size_toArray]
          omega
        · obtain ⟨kvs', g1, g2, g3⟩ := merge_ok (K := X.K) (H := H1) (O := O) ks ys its2 es [] [] [] .nil .nil rv2 rly
          have hfr : H1 h'.objs.size = none := I2.hok.fresh (Nat.le_refl _)
          have hkv : kvs'.length ≤ sizeLine := by simp only [List.length_nil] at g3; omega
          have I3 : Inv X pins σ (upd H1 h'.objs.size (.dK kvs')) { s1 with heap := h'', toks := tk } :=
            I2.turnedNew (t' := tk) (ch := [s1.heap.objs.size + 4, s1.heap.objs.size + 2, s1.heap.objs.size + 3, s1.heap.objs.size, s1.heap.objs.size + 1]) (fun b o hb e => hk2 b o (fun hm => hb (by
              have hm' : b = s1.heap.objs.size + 4 ∨ b = s1.heap.objs.size + 3 ∨ b = s1.heap.objs.size ∨ b = s1.heap.objs.size + 1 := by simpa using hm
              rcases hm' with z | z | z | z <;> simp [z])) e) fp (Nat.le_refl _)
              (dk_new hkv (beq_eq_false_iff_ne.mpr (Ne.symm (Nat.ne_of_lt I2.big))) g1 hd')
          refine ⟨.ref h'.objs.size, _, I3, rfl, k _ _ (sm1.trans (same_upd hfr)) ?_ ⟨kvs', upd_same, hkv, (g2.kp (fun a o e _ => e) (O' := fun b => O b ∨ b = h'.objs.size) fun a na n z => z.elim n fun q => na (by rw [q]; exact hfr)).same (same_upd hfr)⟩⟩
          exact sm1.free hfr
  · cases e0
end
end D
end
section
set_option Elab.async false
set_option linter.all false
set_option maxRecDepth 100000
set_option maxHeartbeats 4000000
/-! The pure layer, part V: what the printed derivations name. -/
namespace D
open PySem PySem.Spec PyProof.Rows L2

/-! ### parallel stores: which names, by the scope -/
def starB : Expr → Bool
  | .Starred .. => true
  | _ => false
def swName (sc : Scope) (line : Nat) : Expr → Option Str
  | .Name id pos => if sc.names.lookup id == some .local && pos.line == line then some id else none
  | _ => none
def swB (bk : ScopeKind) (sc : Scope) (ts vs : List Expr) : Option (Option (List Str)) :=
  if (!(ts.length == 2 || ts.length == 3) || vs.length != ts.length || bk != .function) = true then some none
  else if vs.any starB = true then some none
  else if ((ts.filterMap (swName sc ((ts.head?.map (·.pos.line)).getD 0))).length != ts.length || (ts.filterMap (swName sc ((ts.head?.map (·.pos.line)).getD 0))).eraseDups.length != (ts.filterMap (swName sc ((ts.head?.map (·.pos.line)).getD 0))).length) = true then some none
  else if vs.all (foldedForSure 8) = true then some none
  else if vs.all (constantsAlone 8) = true then none
  else some (some (ts.filterMap (swName sc ((ts.head?.map (·.pos.line)).getD 0))))
theorem swB_ok {env : Env} {ts vs : List Expr} {kt k2 : Nat} {pt pt2 : Pos} {r : Option (List Str)} (h : swB env.blockKind env.scope ts vs = some r) : swappedStores [.Tuple ts kt pt] (.Tuple vs k2 pt2) env = pure r := by
  unfold swappedStores
  show (if (!(ts.length == 2 || ts.length == 3) || vs.length != ts.length || env.blockKind != .function) = true then pure none else if vs.any starB = true then pure none else
    if ((ts.filterMap (swName env.scope ((ts.head?.map (·.pos.line)).getD 0))).length != ts.length || (ts.filterMap (swName env.scope ((ts.head?.map (·.pos.line)).getD 0))).eraseDups.length != (ts.filterMap (swName env.scope ((ts.head?.map (·.pos.line)).getD 0))).length) = true then pure none
    else if vs.all (foldedForSure 8) = true then pure none else if vs.all (constantsAlone 8) = true then _ else pure (some (ts.filterMap (swName env.scope ((ts.head?.map (·.pos.line)).getD 0))))) = pure r
  unfold swB at h
  split at h
  · rename_i c; rw [if_pos c]; cases h; rfl
  · rename_i c; rw [if_neg c]
    split at h
    · rename_i c; rw [if_pos c]; cases h; rfl
    · rename_i c; rw [if_neg c]
      split at h
      · rename_i c; rw [if_pos c]; cases h; rfl
      · rename_i c; rw [if_neg c]
        split at h
        · rename_i c; rw [if_pos c]; cases h; rfl
        · rename_i c; rw [if_neg c]
          split at h
          · cases h
          · rename_i c; rw [if_neg c]; cases h; rfl
section
variable {X : Cx} {N : List Str} {sc : Scope} {k : Nat}
theorem Bd.kd (B : Bd X N sc k) (h : sc.kind = .function) : X.env.scope.kind = .function := by rw [B.sc]; exact h
theorem Bd.bk (B : Bd X N sc k) (h : sc.kind = .function) : X.env.blockKind = .function := by
  unfold Env.blockKind
  rw [B.kd h]; rfl
theorem SW (B : Bd X N sc k) (hk : sc.kind = .function) {ts vs : List Expr} {kt k2 : Nat} {pt pt2 : Pos} {r : Option (List Str)} (h : swB .function sc ts vs = some r) : swappedStores [.Tuple ts kt pt] (.Tuple vs k2 pt2) X.env = pure r :=
  swB_ok (by rw [B.bk hk, B.sc]; exact h)
/-- a store of a comprehension under a name that a comprehension takes, or on another line -/
theorem SWC (B : Bd X N sc k) {e : Expr} {scope : Scope} {t : Str} {p : Pos} {l : Nat} (he : (∃ a b c, e = .ListComp a b scope c) ∨ ∃ a b c d, e = .DictComp a b c scope d) (h : (isLocB sc t && (p.line == e.pos.line)) = false) : swapsWith e (some (.Name t p)) l X.env = pure false := by
  have h2 : (X.env.kindOf t == some .local && p.line == e.pos.line) = false := by
    cases hk : X.env.kindOf t == some .local with
    | false => rfl
    | true =>
      have z : X.env.scope.names.lookup t = some .local := eq_of_beq hk
      rw [B.sc] at z
      have : isLocB sc t = true := by unfold isLocB; rw [z]
      rw [this] at h
      exact h
  rcases he with ⟨a, b, c, rfl⟩ | ⟨a, b, c, d, rfl⟩
  · unfold swapsWith
    have e3 : (X.env.blockKind == .function && X.env.kindOf t == some .local && p.line == c.line) = false := by
      rw [Bool.and_assoc]
      have : (X.env.kindOf t == some .local && p.line == c.line) = false := h2
      rw [this, Bool.and_false]
    show pure (X.env.blockKind == .function && X.env.kindOf t == some .local && p.line == c.line && _) = pure false
    rw [e3, Bool.false_and]
  · unfold swapsWith
    have e3 : (X.env.blockKind == .function && X.env.kindOf t == some .local && p.line == d.line) = false := by
      rw [Bool.and_assoc]
      have : (X.env.kindOf t == some .local && p.line == d.line) = false := h2
      rw [this, Bool.and_false]
    show pure (X.env.blockKind == .function && X.env.kindOf t == some .local && p.line == d.line && _) = pure false
    rw [e3, Bool.false_and]
end
/-! ### comprehensions, from the bundle -/
section
variable {X : Cx} {N : List Str} {sc : Scope} {k : Nat} {elt kx vx tg iter : Expr} {ifs : List Expr} {scope : Scope} {own : List (Str × Nat)} {pos spos py : Pos} {it : SE → Option (List PD)} {ix : List Nat} {g : PD → SE → Option SE} {t : SE → Option Bool} {ke e : Qd} {y : Str}
abbrev InBlk (X : Cx) (N : List Str) (sc scope : Scope) (k : Nat) (P : Cx → Prop) : Prop := ∀ (s : Shared) (H : Hp) (C : Addr) (cl : List (Str × Addr)) (fp : List Addr), Bd (X.blk s H scope (compEnvC scope cl C X.env) fp) N (rl scope sc) k → P (X.blk s H scope (compEnvC scope cl C X.env) fp)
theorem fe_lcB (B : Bd X N sc k) (hi : QI X false tg iter it) (ok : blkC N sc scope own = true) (hg : InBlk X N sc scope k fun Y => GT Y tg ix g) (ht : InBlk X N sc scope k fun Y => TsQ Y ifs t) (he : InBlk X N sc scope k fun Y => QE Y elt e)
    (hix : ∀ i ∈ ix, i ∈ own.map (·.2)) (hs : ∀ x, foldedSetIterable iter X.env x = pure x := by intro _; rfl) : FE X (.ListComp elt [⟨tg, iter, ifs, 0⟩] scope pos) (dLc it g t e (own.map (·.2))) :=
  fe_lc B.calm B.nodup hi (B.blk ok) (fun s H C cl fp => hg s H C cl fp (B.sub s H C cl fp scope)) (fun s H C cl fp => ht s H C cl fp (B.sub s H C cl fp scope)) (fun s H C cl fp => he s H C cl fp (B.sub s H C cl fp scope)) hix hs
theorem fe_dcB (B : Bd X N sc k) (hi : QI X false tg iter it) (ok : blkC N sc scope own = true) (hg : InBlk X N sc scope k fun Y => GT Y tg ix g) (ht : InBlk X N sc scope k fun Y => TsQ Y ifs t) (hk : InBlk X N sc scope k fun Y => QE Y kx ke) (he : InBlk X N sc scope k fun Y => QE Y vx e)
    (hix : ∀ i ∈ ix, i ∈ own.map (·.2)) (hs : ∀ x, foldedSetIterable iter X.env x = pure x := by intro _; rfl) : FE X (.DictComp kx vx [⟨tg, iter, ifs, 0⟩] scope pos) (dDc it g t ke e (own.map (·.2))) :=
  fe_dc B.calm B.nodup hi (B.blk ok) (fun s H C cl fp => hg s H C cl fp (B.sub s H C cl fp scope)) (fun s H C cl fp => ht s H C cl fp (B.sub s H C cl fp scope)) (fun s H C cl fp => hk s H C cl fp (B.sub s H C cl fp scope)) (fun s H C cl fp => he s H C cl fp (B.sub s H C cl fp scope)) hix hs
theorem ss_setLcB (i : Nat) (B : Bd X N sc k) (hkd : sc.kind = .function) (hy : atB N i y = true) (hyl : isLocB sc y = true) (hl : (py.line == pos.line) = true) (ha : (scope.names.any fun (n, k) => n == y && (k == .local || k == .cell)) = false)
    (hi : QI X false tg iter it) (ok : blkC N sc scope own = true) (hg : InBlk X N sc scope k fun Y => GT Y tg ix g) (ht : InBlk X N sc scope k fun Y => TsQ Y ifs t) (he : InBlk X N sc scope k fun Y => QE Y elt e)
    (hix : ∀ i ∈ ix, i ∈ own.map (·.2)) (hs : ∀ x, foldedSetIterable iter X.env x = pure x := by intro _; rfl) : SS X (.Assign [.Name y py] (.ListComp elt [⟨tg, iter, ifs, 0⟩] scope pos) spos) (dSet i (dLc it g t e (own.map (·.2)))) :=
  ss_setLc i B.calm B.nodup (B.at hy) (B.il hyl) (sw_true (B.kd hkd) (B.il hyl) hl ha) hi (B.blk ok) (fun s H C cl fp => hg s H C cl fp (B.sub s H C cl fp scope)) (fun s H C cl fp => ht s H C cl fp (B.sub s H C cl fp scope)) (fun s H C cl fp => he s H C cl fp (B.sub s H C cl fp scope)) hix hs
theorem ss_setLcFB (i : Nat) (B : Bd X N sc k) (hkd : sc.kind = .function) (hy : atB N i y = true) (hyl : isLocB sc y = true) (hl : (py.line == pos.line) = true) (ha : (scope.names.any fun (n, k) => n == y && (k == .local || k == .cell)) = false)
    (hi : QI X false tg iter it) (ok : blkC N sc scope own = true) (hg : InBlk X N sc scope k fun Y => GT Y tg ix g) (ht : InBlk X N sc scope k fun Y => TsQ Y ifs t) (he : InBlk X N sc scope k fun Y => QE Y elt e)
    (hix : ∀ i ∈ ix, i ∈ own.map (·.2)) (hs : ∀ x, foldedSetIterable iter X.env x = pure x := by intro _; rfl) : SS X (.Assign [.Name y py] (.ListComp elt [⟨tg, iter, ifs, 0⟩] scope pos) spos) (dSetF i (dLc it g t e (own.map (·.2)))) :=
  ss_setLcF i B.calm B.nodup (B.at hy) (B.il hyl) (sw_true (B.kd hkd) (B.il hyl) hl ha) hi (B.blk ok) (fun s H C cl fp => hg s H C cl fp (B.sub s H C cl fp scope)) (fun s H C cl fp => ht s H C cl fp (B.sub s H C cl fp scope)) (fun s H C cl fp => he s H C cl fp (B.sub s H C cl fp scope)) hix hs
end
/-! ### the module -/
structure Mb (mg : Str → Option Value) : Prop where
  isinstance : mg "isinstance" = none
  int : mg "int" = none
  bool : mg "bool" = none
  str : mg "str" = none
  tuple : mg "tuple" = none
  list : mg "list" = none
  dict : mg "dict" = none
  len : mg "len" = none
  min : mg "min" = none
  max : mg "max" = none
  sum : mg "sum" = none
  all : mg "all" = none
  any : mg "any" = none
  sorted : mg "sorted" = none
  range : mg "range" = none
  enumerate : mg "enumerate" = none
  zip : mg "zip" = none
  reversed : mg "reversed" = none
abbrev DefM (K : PySem.W.Frag) (mg : Str → Option Value) (x : Str) (st : Stmt) : Prop := ∃ f fd, FunD K x x (defArgs st) (defBody st) (defScope st) [] [] f fd ∧ mg x = some (.ref f)
theorem fn_none {P : Program} {w : World} {K : PySem.W.Frag} {mg : Str → Option Value} {base : Heap} {k : Nat} {f : Addr} {fd : FuncData} {ps : List Str} {n : Nat} : FnOk P w K mg base CX0 k f fd ps (spP K n fun _ => none) :=
  ⟨fun vs H Q E ⟨_, _, _, _, h, _⟩ => (nomatch h), fun A outer s H args us vs Q E _ _ _ _ ⟨_, _, _, _, h, _⟩ => (nomatch h)⟩
def augAdd : PD → PD → Option PD := fun d e => match d, e with
  | .int i, .int j => some (.int (i + j))
  | _, _ => none
def catD : PD → PD → Option PD := fun d e => match d, e with
  | .list xs, .list ys => if xs.length + ys.length ≤ LIM then some (.list (xs ++ ys)) else none
  | _, _ => none

end D
end
section
set_option Elab.async false
set_option linter.all false
set_option maxRecDepth 100000
set_option maxHeartbeats 0
/-! Printed by gen.py (own work): what each def computes over plain data, and that its body does so. -/
namespace K12
open PySem PySem.Spec PyProof.Rows L2 D
/-! ### is_whole -/
def N_is_whole : List Str := ["thing"]
def P_is_whole : List Str := ["thing"]
noncomputable def f_is_whole : DS := (dRet (qAnd (qIsi .int (pVar 0)) (qNot (qIsi .bool (pVar 0)))))
noncomputable def F_is_whole : List PD → Option PD := fnD 1 f_is_whole
theorem sc_is_whole : FnScope N_is_whole P_is_whole (defScope s_is_whole) := ⟨rfl, rfl, rfl, by decide +kernel, rfl, by decide +kernel, by decide +kernel⟩
theorem b_is_whole {X : Cx} (B : Bd X N_is_whole (defScope s_is_whole) 0) (fn : ∀ x, X.fn x = true) (M : Mb X.mg) : SSs X (defBody s_is_whole) f_is_whole :=
  (sss_one (ss_ret (qe_and (qe_isi (T := .int) (B.gl (by kernel_rfl)) M.isinstance PyProof.Rows.Boot.isinstance (pv_ B 0 (by kernel_rfl)) (B.gl (by kernel_rfl)) M.int PyProof.Rows.Boot.int) (qe_one (qe_not (pq_of (qe_isi (T := .bool) (B.gl (by kernel_rfl)) M.isinstance PyProof.Rows.Boot.isinstance (pv_ B 0 (by kernel_rfl)) (B.gl (by kernel_rfl)) M.bool PyProof.Rows.Boot.bool)))))))
theorem cal_is_whole {P : Program} {w : World} {K : PySem.W.Frag} {mg : Str → Option Value} {base : Heap} (d : DefM K mg "is_whole" s_is_whole) (M : Mb mg) : Cal P w K mg base 1 "is_whole" (spP K 1 F_is_whole) := by
  obtain ⟨f, fd, F, hm⟩ := d
  exact ⟨f, fd, P_is_whole, ok_fnP F sc_is_whole (g := F_is_whole) (fun ds d _ h => h) (fun cdv A outer s H E hr => b_is_whole ⟨rfl, rfl, rfl, hr, PassesOwn.never, sc_is_whole.nd⟩ (fun _ => rfl) M), hm, F.kp, F.bindsN (ps := P_is_whole) fun _ _ _ _ _ _ us hl => match us, hl with | [_], _ => rfl⟩
/-! ### is_between -/
def N_is_between : List Str := ["thing", "least", "most"]
def P_is_between : List Str := ["thing", "least", "most"]
noncomputable def f_is_between : DS := (dRet (qAnd (qCall (fun ds => if ds.length = 1 then F_is_whole ds else none) (aCons (qVar 0) aNil)) (qChain leD leD (pVar 1) (pVar 0) (pVar 2))))
noncomputable def F_is_between : List PD → Option PD := fnD 3 f_is_between
theorem sc_is_between : FnScope N_is_between P_is_between (defScope s_is_between) := ⟨rfl, rfl, rfl, by decide +kernel, rfl, by decide +kernel, by decide +kernel⟩
theorem b_is_between {X : Cx} (B : Bd X N_is_between (defScope s_is_between) 1) (fn : ∀ x, X.fn x = true) (M : Mb X.mg) (c_is_whole : CalX X 1 "is_whole" (spP X.K 1 F_is_whole)) : SSs X (defBody s_is_between) f_is_between :=
  (sss_one (ss_ret (qe_and (qe_call c_is_whole B.room (by decide) (B.gl (by kernel_rfl)) (qa_cons (qv_ B 0 (by kernel_rfl)) qa_nil)) (qe_one (qe_chain op_le op_le ok_cmpI ok_cmpI (pv_ B 1 (by kernel_rfl)) (pv_ B 0 (by kernel_rfl)) (pv_ B 2 (by kernel_rfl)) (by rfl))))))
theorem cal_is_between {P : Program} {w : World} {K : PySem.W.Frag} {mg : Str → Option Value} {base : Heap} (d : DefM K mg "is_between" s_is_between) (M : Mb mg) (c_is_whole : Cal P w K mg base 1 "is_whole" (spP K 1 F_is_whole)) : Cal P w K mg base 2 "is_between" (spP K 3 F_is_between) := by
  obtain ⟨f, fd, F, hm⟩ := d
  exact ⟨f, fd, P_is_between, ok_fnP F sc_is_between (g := F_is_between) (fun ds d _ h => h) (fun cdv A outer s H E hr => b_is_between ⟨rfl, rfl, rfl, hr, PassesOwn.never, sc_is_between.nd⟩ (fun _ => rfl) M c_is_whole), hm, F.kp, F.bindsN (ps := P_is_between) fun _ _ _ _ _ _ us hl => match us, hl with | [_, _, _], _ => rfl⟩
/-! ### is_pair -/
def N_is_pair : List Str := ["thing"]
def P_is_pair : List Str := ["thing"]
noncomputable def f_is_pair : DS := (dRet (qAnd (qIsi .tuple (pVar 0)) (q2 eqD (qCall lenD (aCons (pVar 0) aNil)) (qC (.int 2)))))
noncomputable def F_is_pair : List PD → Option PD := fnD 1 f_is_pair
theorem sc_is_pair : FnScope N_is_pair P_is_pair (defScope s_is_pair) := ⟨rfl, rfl, rfl, by decide +kernel, rfl, by decide +kernel, by decide +kernel⟩
theorem b_is_pair {X : Cx} (B : Bd X N_is_pair (defScope s_is_pair) 0) (fn : ∀ x, X.fn x = true) (M : Mb X.mg) : SSs X (defBody s_is_pair) f_is_pair :=
  (sss_one (ss_ret (qe_and (qe_isi (T := .tuple) (B.gl (by kernel_rfl)) M.isinstance PyProof.Rows.Boot.isinstance (pv_ B 0 (by kernel_rfl)) (B.gl (by kernel_rfl)) M.tuple PyProof.Rows.Boot.tuple) (qe_one (qe_cmp (op_eqP B.hu) ok_eq (pq_of (qe_callB cr_len ok_len (B.gl (by kernel_rfl)) M.len PyProof.Rows.Boot.len (qap_cons (pv_ B 0 (by kernel_rfl)) qap_nil))) (pq_of qe_int) (by rfl))))))
theorem cal_is_pair {P : Program} {w : World} {K : PySem.W.Frag} {mg : Str → Option Value} {base : Heap} (d : DefM K mg "is_pair" s_is_pair) (M : Mb mg) : Cal P w K mg base 1 "is_pair" (spP K 1 F_is_pair) := by
  obtain ⟨f, fd, F, hm⟩ := d
  exact ⟨f, fd, P_is_pair, ok_fnP F sc_is_pair (g := F_is_pair) (fun ds d _ h => h) (fun cdv A outer s H E hr => b_is_pair ⟨rfl, rfl, rfl, hr, PassesOwn.never, sc_is_pair.nd⟩ (fun _ => rfl) M), hm, F.kp, F.bindsN (ps := P_is_pair) fun _ _ _ _ _ _ us hl => match us, hl with | [_], _ => rfl⟩
/-! ### are_texts -/
def N_are_texts : List Str := ["thing", "one"]
def P_are_texts : List Str := ["thing"]
noncomputable def f_are_texts : DS := (dRet (qAnd (qIsi .tuple (pVar 0)) (qCall allD (aCons (dLc (iSeq (pVar 0)) (gN 1) tYesD (qIsi .str (pVar 1)) [1]) aNil))))
noncomputable def F_are_texts : List PD → Option PD := fnD 2 f_are_texts
theorem sc_are_texts : FnScope N_are_texts P_are_texts (defScope s_are_texts) := ⟨rfl, rfl, rfl, by decide +kernel, rfl, by decide +kernel, by decide +kernel⟩
theorem b_are_texts {X : Cx} (B : Bd X N_are_texts (defScope s_are_texts) 0) (fn : ∀ x, X.fn x = true) (M : Mb X.mg) : SSs X (defBody s_are_texts) f_are_texts :=
  (sss_one (ss_ret (qe_and (qe_isi (T := .tuple) (B.gl (by kernel_rfl)) M.isinstance PyProof.Rows.Boot.isinstance (pv_ B 0 (by kernel_rfl)) (B.gl (by kernel_rfl)) M.tuple PyProof.Rows.Boot.tuple) (qe_one (qe_callB (cr_all B.calm) ok_all (B.gl (by kernel_rfl)) M.all PyProof.Rows.Boot.all (qap_cons (pq_of (qe_of (fe_lcB (own := [("one", 1)]) B (qi_seq (pv_ B 0 (by kernel_rfl))) (by kernel_rfl) (fun s1 H1 C1 l1 p1 B1 => (gb_ B s1 H1 C1 l1 p1 _ 1 (by kernel_rfl))) (fun s1 H1 C1 l1 p1 B1 => tsq_nil) (fun s1 H1 C1 l1 p1 B1 => (qe_isi (T := .str) (B1.gl (by kernel_rfl)) M.isinstance PyProof.Rows.Boot.isinstance (pv_ B1 1 (by kernel_rfl)) (B1.gl (by kernel_rfl)) M.str PyProof.Rows.Boot.str)) (by decide)))) qap_nil))))))
theorem cal_are_texts {P : Program} {w : World} {K : PySem.W.Frag} {mg : Str → Option Value} {base : Heap} (d : DefM K mg "are_texts" s_are_texts) (M : Mb mg) : Cal P w K mg base 1 "are_texts" (spP K 1 F_are_texts) := by
  obtain ⟨f, fd, F, hm⟩ := d
  exact ⟨f, fd, P_are_texts, ok_fnP F sc_are_texts (g := F_are_texts) (fun ds d _ h => h) (fun cdv A outer s H E hr => b_are_texts ⟨rfl, rfl, rfl, hr, PassesOwn.never, sc_are_texts.nd⟩ (fun _ => rfl) M), hm, F.kp, F.bindsN (ps := P_are_texts) fun _ _ _ _ _ _ us hl => match us, hl with | [_], _ => rfl⟩
/-! ### names_of -/
def N_names_of : List Str := ["system", "task"]
def P_names_of : List Str := ["system"]
noncomputable def f_names_of : DS := (dRet (dLc (iSeq (q2 getD' (pVar 0) (qC (.int 5)))) (gN 1) tYesD (q2 getD' (pVar 1) (qC (.int 0))) [1]))
noncomputable def F_names_of : List PD → Option PD := fnD 2 f_names_of
theorem sc_names_of : FnScope N_names_of P_names_of (defScope s_names_of) := ⟨rfl, rfl, rfl, by decide +kernel, rfl, by decide +kernel, by decide +kernel⟩
theorem b_names_of {X : Cx} (B : Bd X N_names_of (defScope s_names_of) 0) (fn : ∀ x, X.fn x = true) (M : Mb X.mg) : SSs X (defBody s_names_of) f_names_of :=
  (sss_one (ss_ret (qe_of (fe_lcB (own := [("task", 1)]) B (qi_seq (pq_of (qe_ix B.hu (pv_ B 0 (by kernel_rfl)) (pq_of qe_int) (fun _ _ => rfl)))) (by kernel_rfl) (fun s1 H1 C1 l1 p1 B1 => (gb_ B s1 H1 C1 l1 p1 _ 1 (by kernel_rfl))) (fun s1 H1 C1 l1 p1 B1 => tsq_nil) (fun s1 H1 C1 l1 p1 B1 => (qe_ix B1.hu (pv_ B1 1 (by kernel_rfl)) (pq_of qe_int) (fun _ _ => rfl))) (by decide)))))
theorem cal_names_of {P : Program} {w : World} {K : PySem.W.Frag} {mg : Str → Option Value} {base : Heap} (d : DefM K mg "names_of" s_names_of) (M : Mb mg) : Cal P w K mg base 1 "names_of" (spP K 1 F_names_of) := by
  obtain ⟨f, fd, F, hm⟩ := d
  exact ⟨f, fd, P_names_of, ok_fnP F sc_names_of (g := F_names_of) (fun ds d _ h => h) (fun cdv A outer s H E hr => b_names_of ⟨rfl, rfl, rfl, hr, PassesOwn.never, sc_names_of.nd⟩ (fun _ => rfl) M), hm, F.kp, F.bindsN (ps := P_names_of) fun _ _ _ _ _ _ us hl => match us, hl with | [_], _ => rfl⟩
/-! ### tasks_of -/
def N_tasks_of : List Str := ["system"]
def P_tasks_of : List Str := ["system"]
noncomputable def f_tasks_of : DS := (dRet (q2 getD' (pVar 0) (qC (.int 5))))
noncomputable def F_tasks_of : List PD → Option PD := fnD 1 f_tasks_of
theorem sc_tasks_of : FnScope N_tasks_of P_tasks_of (defScope s_tasks_of) := ⟨rfl, rfl, rfl, by decide +kernel, rfl, by decide +kernel, by decide +kernel⟩
theorem b_tasks_of {X : Cx} (B : Bd X N_tasks_of (defScope s_tasks_of) 0) (fn : ∀ x, X.fn x = true) (M : Mb X.mg) : SSs X (defBody s_tasks_of) f_tasks_of :=
  (sss_one (ss_ret (qe_ix B.hu (pv_ B 0 (by kernel_rfl)) (pq_of qe_int) (fun _ _ => rfl))))
theorem cal_tasks_of {P : Program} {w : World} {K : PySem.W.Frag} {mg : Str → Option Value} {base : Heap} (d : DefM K mg "tasks_of" s_tasks_of) (M : Mb mg) : Cal P w K mg base 1 "tasks_of" (spP K 1 F_tasks_of) := by
  obtain ⟨f, fd, F, hm⟩ := d
  exact ⟨f, fd, P_tasks_of, ok_fnP F sc_tasks_of (g := F_tasks_of) (fun ds d _ h => h) (fun cdv A outer s H E hr => b_tasks_of ⟨rfl, rfl, rfl, hr, PassesOwn.never, sc_tasks_of.nd⟩ (fun _ => rfl) M), hm, F.kp, F.bindsN (ps := P_tasks_of) fun _ _ _ _ _ _ us hl => match us, hl with | [_], _ => rfl⟩
/-! ### task_of -/
def N_task_of : List Str := ["system", "name", "rows", "task"]
def P_task_of : List Str := ["system", "name"]
noncomputable def f_task_of : DS := (dSeq (dSet 2 (dLc (iSeq (qCall (fun ds => if ds.length = 1 then F_tasks_of ds else none) (aCons (qVar 0) aNil))) (gN 3) (asB (q2 eqD (q2 getD' (pVar 3) (qC (.int 0))) (pVar 1))) (qVar 3) [3])) (dRet (qIf (tru (pVar 2)) (q2 getD' (pVar 2) (qC (.int 0))) (qC .none))))
noncomputable def F_task_of : List PD → Option PD := fnD 4 f_task_of
theorem sc_task_of : FnScope N_task_of P_task_of (defScope s_task_of) := ⟨rfl, rfl, rfl, by decide +kernel, rfl, by decide +kernel, by decide +kernel⟩
theorem b_task_of {X : Cx} (B : Bd X N_task_of (defScope s_task_of) 1) (fn : ∀ x, X.fn x = true) (M : Mb X.mg) (c_tasks_of : CalX X 1 "tasks_of" (spP X.K 1 F_tasks_of)) : SSs X (defBody s_task_of) f_task_of :=
  (sss_cons (ss_setLcB 2 (own := [("task", 3)]) B sc_task_of.kind (by kernel_rfl) (by kernel_rfl) (by kernel_rfl) (by kernel_rfl) (qi_seq (pq_of (qe_call c_tasks_of B.room (by decide) (B.gl (by kernel_rfl)) (qa_cons (qv_ B 0 (by kernel_rfl)) qa_nil)))) (by kernel_rfl) (fun s1 H1 C1 l1 p1 B1 => (gb_ B s1 H1 C1 l1 p1 _ 3 (by kernel_rfl))) (fun s1 H1 C1 l1 p1 B1 => (tsq_one (tq_cmp (op_eqP B1.hu) ok_eq (pq_of (qe_ix B1.hu (pv_ B1 3 (by kernel_rfl)) (pq_of qe_int) (fun _ _ => rfl))) (pv_ B1 1 (by kernel_rfl)) (by rfl)))) (fun s1 H1 C1 l1 p1 B1 => (qv_ B1 3 (by kernel_rfl))) (by decide)) (sss_one (ss_ret (qe_if (tq_tru (pv_ B 2 (by kernel_rfl))) (qe_ix B.hu (pv_ B 2 (by kernel_rfl)) (pq_of qe_int) (fun _ _ => rfl)) qe_non))))
theorem cal_task_of {P : Program} {w : World} {K : PySem.W.Frag} {mg : Str → Option Value} {base : Heap} (d : DefM K mg "task_of" s_task_of) (M : Mb mg) (c_tasks_of : Cal P w K mg base 1 "tasks_of" (spP K 1 F_tasks_of)) : Cal P w K mg base 2 "task_of" (spP K 2 F_task_of) := by
  obtain ⟨f, fd, F, hm⟩ := d
  exact ⟨f, fd, P_task_of, ok_fnP F sc_task_of (g := F_task_of) (fun ds d _ h => h) (fun cdv A outer s H E hr => b_task_of ⟨rfl, rfl, rfl, hr, PassesOwn.never, sc_task_of.nd⟩ (fun _ => rfl) M c_tasks_of), hm, F.kp, F.bindsN (ps := P_task_of) fun _ _ _ _ _ _ us hl => match us, hl with | [_, _], _ => rfl⟩
/-! ### with_tasks -/
def N_with_tasks : List Str := ["system", "tasks", "mosts", "locks", "task", "row"]
def P_with_tasks : List Str := ["system", "tasks"]
noncomputable def f_with_tasks : DS := (dSeq (dSet 2 (dDc (iSeq (pVar 1)) (gN 4) tYesD (q2 getD' (pVar 4) (qC (.int 0))) (q2 getD' (pVar 4) (qC (.int 6))) [4])) (dSeq (dSet 3 (qCall tupleD (aCons (dLc (iSeq (q2 getD' (pVar 0) (qC (.int 6)))) (gN 5) (asB (q2 leD (q2 getD' (pVar 5) (qC (.int 3))) (fun _ => none))) (qVar 5) [5]) aNil))) (dRet (q2 addD (qSl (pVar 0) none (some (qC (.int 5)))) (qTup (aCons (qCall tupleD (aCons (pVar 1) aNil)) (aCons (qVar 3) aNil)))))))
noncomputable def F_with_tasks : List PD → Option PD := fnD 6 f_with_tasks
theorem sc_with_tasks : FnScope N_with_tasks P_with_tasks (defScope s_with_tasks) := ⟨rfl, rfl, rfl, by decide +kernel, rfl, by decide +kernel, by decide +kernel⟩
theorem b_with_tasks {X : Cx} (B : Bd X N_with_tasks (defScope s_with_tasks) 0) (fn : ∀ x, X.fn x = true) (M : Mb X.mg) : SSs X (defBody s_with_tasks) f_with_tasks :=
  (sss_cons (ss_set 2 B.nodup (B.at (by kernel_rfl)) (B.lc (by kernel_rfl)) (qe_of (fe_dcB (own := [("task", 4)]) B (qi_seq (pv_ B 1 (by kernel_rfl))) (by kernel_rfl) (fun s1 H1 C1 l1 p1 B1 => (gb_ B s1 H1 C1 l1 p1 _ 4 (by kernel_rfl))) (fun s1 H1 C1 l1 p1 B1 => tsq_nil) (fun s1 H1 C1 l1 p1 B1 => (qe_ix B1.hu (pv_ B1 4 (by kernel_rfl)) (pq_of qe_int) (fun _ _ => rfl))) (fun s1 H1 C1 l1 p1 B1 => (qe_ix B1.hu (pv_ B1 4 (by kernel_rfl)) (pq_of qe_int) (fun _ _ => rfl))) (by decide))) (.inl (fn _)) (SWC B (.inr ⟨_, _, _, _, rfl⟩) (by kernel_rfl))) (sss_cons (ss_set 3 B.nodup (B.at (by kernel_rfl)) (B.lc (by kernel_rfl)) (qe_callTy call_tuple_of ok_tuple (B.gl (by kernel_rfl)) M.tuple PyProof.Rows.Boot.tuple (qap_cons (pq_of (qe_of (fe_lcB (own := [("row", 5)]) B (qi_seq (pq_of (qe_ix B.hu (pv_ B 0 (by kernel_rfl)) (pq_of qe_int) (fun _ _ => rfl)))) (by kernel_rfl) (fun s1 H1 C1 l1 p1 B1 => (gb_ B s1 H1 C1 l1 p1 _ 5 (by kernel_rfl))) (fun s1 H1 C1 l1 p1 B1 => (tsq_one (tq_cmp op_le ok_cmpI (pq_of (qe_ix B1.hu (pv_ B1 5 (by kernel_rfl)) (pq_of qe_int) (fun _ _ => rfl))) pq_no (by rfl)))) (fun s1 H1 C1 l1 p1 B1 => (qv_ B1 5 (by kernel_rfl))) (by decide)))) qap_nil)) (.inl (fn _))) (sss_one (ss_ret (qe_op op_addA ok_add (pq_of (qe_slice (pv_ B 0 (by kernel_rfl)) qo_none (qo_some (pq_of qe_int)))) (pq_of (qe_tup (qa_cons (qe_callTy call_tuple_of ok_tuple (B.gl (by kernel_rfl)) M.tuple PyProof.Rows.Boot.tuple (qap_cons (pv_ B 1 (by kernel_rfl)) qap_nil)) (qa_cons (qv_ B 3 (by kernel_rfl)) qa_nil)))))))))
theorem cal_with_tasks {P : Program} {w : World} {K : PySem.W.Frag} {mg : Str → Option Value} {base : Heap} (d : DefM K mg "with_tasks" s_with_tasks) (M : Mb mg) : Cal P w K mg base 1 "with_tasks" (spP K 2 F_with_tasks) := by
  obtain ⟨f, fd, F, hm⟩ := d
  exact ⟨f, fd, P_with_tasks, ok_fnP F sc_with_tasks (g := F_with_tasks) (fun ds d _ h => h) (fun cdv A outer s H E hr => b_with_tasks ⟨rfl, rfl, rfl, hr, PassesOwn.never, sc_with_tasks.nd⟩ (fun _ => rfl) M), hm, F.kp, F.bindsN (ps := P_with_tasks) fun _ _ _ _ _ _ us hl => match us, hl with | [_, _], _ => rfl⟩
/-! ### only -/
def N_only : List Str := ["system", "names", "task"]
def P_only : List Str := ["system", "names"]
noncomputable def f_only : DS := (dRet (qCall (fun ds => if ds.length = 2 then F_with_tasks ds else none) (aCons (qVar 0) (aCons (dLc (iSeq (qCall (fun ds => if ds.length = 1 then F_tasks_of ds else none) (aCons (qVar 0) aNil))) (gN 2) (asB (q2 inD (q2 getD' (pVar 2) (qC (.int 0))) (pVar 1))) (qVar 2) [2]) aNil))))
noncomputable def F_only : List PD → Option PD := fnD 3 f_only
theorem sc_only : FnScope N_only P_only (defScope s_only) := ⟨rfl, rfl, rfl, by decide +kernel, rfl, by decide +kernel, by decide +kernel⟩
theorem b_only {X : Cx} (B : Bd X N_only (defScope s_only) 1) (fn : ∀ x, X.fn x = true) (M : Mb X.mg) (c_tasks_of : CalX X 1 "tasks_of" (spP X.K 1 F_tasks_of)) (c_with_tasks : CalX X 1 "with_tasks" (spP X.K 2 F_with_tasks)) : SSs X (defBody s_only) f_only :=
  (sss_one (ss_ret (qe_call c_with_tasks B.room (by decide) (B.gl (by kernel_rfl)) (qa_cons (qv_ B 0 (by kernel_rfl)) (qa_cons (qe_of (fe_lcB (own := [("task", 2)]) B (qi_seq (pq_of (qe_call c_tasks_of B.room (by decide) (B.gl (by kernel_rfl)) (qa_cons (qv_ B 0 (by kernel_rfl)) qa_nil)))) (by kernel_rfl) (fun s1 H1 C1 l1 p1 B1 => (gb_ B s1 H1 C1 l1 p1 _ 2 (by kernel_rfl))) (fun s1 H1 C1 l1 p1 B1 => (tsq_one (tq_cmp (op_inA B1.hu) ok_in (pq_of (qe_ix B1.hu (pv_ B1 2 (by kernel_rfl)) (pq_of qe_int) (fun _ _ => rfl))) (pv_ B1 1 (by kernel_rfl)) (by rfl)))) (fun s1 H1 C1 l1 p1 B1 => (qv_ B1 2 (by kernel_rfl))) (by decide))) qa_nil)))))
theorem cal_only {P : Program} {w : World} {K : PySem.W.Frag} {mg : Str → Option Value} {base : Heap} (d : DefM K mg "only" s_only) (M : Mb mg) (c_tasks_of : Cal P w K mg base 1 "tasks_of" (spP K 1 F_tasks_of)) (c_with_tasks : Cal P w K mg base 1 "with_tasks" (spP K 2 F_with_tasks)) : Cal P w K mg base 2 "only" (spP K 2 F_only) := by
  obtain ⟨f, fd, F, hm⟩ := d
  exact ⟨f, fd, P_only, ok_fnP F sc_only (g := F_only) (fun ds d _ h => h) (fun cdv A outer s H E hr => b_only ⟨rfl, rfl, rfl, hr, PassesOwn.never, sc_only.nd⟩ (fun _ => rfl) M c_tasks_of c_with_tasks), hm, F.kp, F.bindsN (ps := P_only) fun _ _ _ _ _ _ us hl => match us, hl with | [_, _], _ => rfl⟩
/-! ### with_order -/
def N_with_order : List Str := ["system", "names", "name"]
def P_with_order : List Str := ["system", "names"]
noncomputable def f_with_order : DS := (dRet (qCall (fun ds => if ds.length = 2 then F_with_tasks ds else none) (aCons (qVar 0) (aCons (dLc (iSeq (pVar 1)) (gN 2) tYesD (qCall (fun ds => if ds.length = 2 then F_task_of ds else none) (aCons (qVar 0) (aCons (qVar 2) aNil))) [2]) aNil))))
noncomputable def F_with_order : List PD → Option PD := fnD 3 f_with_order
theorem sc_with_order : FnScope N_with_order P_with_order (defScope s_with_order) := ⟨rfl, rfl, rfl, by decide +kernel, rfl, by decide +kernel, by decide +kernel⟩
theorem b_with_order {X : Cx} (B : Bd X N_with_order (defScope s_with_order) 2) (fn : ∀ x, X.fn x = true) (M : Mb X.mg) (c_task_of : CalX X 2 "task_of" (spP X.K 2 F_task_of)) (c_with_tasks : CalX X 1 "with_tasks" (spP X.K 2 F_with_tasks)) : SSs X (defBody s_with_order) f_with_order :=
  (sss_one (ss_ret (qe_call c_with_tasks B.room (by decide) (B.gl (by kernel_rfl)) (qa_cons (qv_ B 0 (by kernel_rfl)) (qa_cons (qe_of (fe_lcB (own := [("name", 2)]) B (qi_seq (pv_ B 1 (by kernel_rfl))) (by kernel_rfl) (fun s1 H1 C1 l1 p1 B1 => (gb_ B s1 H1 C1 l1 p1 _ 2 (by kernel_rfl))) (fun s1 H1 C1 l1 p1 B1 => tsq_nil) (fun s1 H1 C1 l1 p1 B1 => (qe_call c_task_of B1.room (by decide) (B1.gl (by kernel_rfl)) (qa_cons (qv_ B1 0 (by kernel_rfl)) (qa_cons (qv_ B1 2 (by kernel_rfl)) qa_nil)))) (by decide))) qa_nil)))))
theorem cal_with_order {P : Program} {w : World} {K : PySem.W.Frag} {mg : Str → Option Value} {base : Heap} (d : DefM K mg "with_order" s_with_order) (M : Mb mg) (c_task_of : Cal P w K mg base 2 "task_of" (spP K 2 F_task_of)) (c_with_tasks : Cal P w K mg base 1 "with_tasks" (spP K 2 F_with_tasks)) : Cal P w K mg base 3 "with_order" (spP K 2 F_with_order) := by
  obtain ⟨f, fd, F, hm⟩ := d
  exact ⟨f, fd, P_with_order, ok_fnP F sc_with_order (g := F_with_order) (fun ds d _ h => h) (fun cdv A outer s H E hr => b_with_order ⟨rfl, rfl, rfl, hr, PassesOwn.never, sc_with_order.nd⟩ (fun _ => rfl) M c_task_of c_with_tasks), hm, F.kp, F.bindsN (ps := P_with_order) fun _ _ _ _ _ _ us hl => match us, hl with | [_, _], _ => rfl⟩
/-! ### is_full -/
def N_is_full : List Str := ["system"]
def P_is_full : List Str := ["system"]
noncomputable def f_is_full : DS := (dRet (q2 niD (qC (.int 0)) (q2 getD' (pVar 0) (qC (.int 4)))))
noncomputable def F_is_full : List PD → Option PD := fnD 1 f_is_full
theorem sc_is_full : FnScope N_is_full P_is_full (defScope s_is_full) := ⟨rfl, rfl, rfl, by decide +kernel, rfl, by decide +kernel, by decide +kernel⟩
theorem b_is_full {X : Cx} (B : Bd X N_is_full (defScope s_is_full) 0) (fn : ∀ x, X.fn x = true) (M : Mb X.mg) : SSs X (defBody s_is_full) f_is_full :=
  (sss_one (ss_ret (qe_cmp (op_niA B.hu) ok_ni (pq_of qe_int) (pq_of (qe_ix B.hu (pv_ B 0 (by kernel_rfl)) (pq_of qe_int) (fun _ _ => rfl))) (by rfl))))
theorem cal_is_full {P : Program} {w : World} {K : PySem.W.Frag} {mg : Str → Option Value} {base : Heap} (d : DefM K mg "is_full" s_is_full) (M : Mb mg) : Cal P w K mg base 1 "is_full" (spP K 1 F_is_full) := by
  obtain ⟨f, fd, F, hm⟩ := d
  exact ⟨f, fd, P_is_full, ok_fnP F sc_is_full (g := F_is_full) (fun ds d _ h => h) (fun cdv A outer s H E hr => b_is_full ⟨rfl, rfl, rfl, hr, PassesOwn.never, sc_is_full.nd⟩ (fun _ => rfl) M), hm, F.kp, F.bindsN (ps := P_is_full) fun _ _ _ _ _ _ us hl => match us, hl with | [_], _ => rfl⟩
/-! ### least_supply -/
def N_least_supply : List Str := ["supply", "n", "many", "rounds", "rest", "twice", "at"]
def P_least_supply : List Str := ["supply", "n"]
noncomputable def f_least_supply : DS := (dSeq (dSet 2 (qCall lenD (aCons (pVar 0) aNil))) (dSeq (dPar [3, 4] (mCons false (q2 fdivD (pVar 1) (pVar 2)) (mCons false (q2 modD (pVar 1) (pVar 2)) mNil))) (dSeq (dSet 5 (q2 addD (pVar 0) (pVar 0))) (dRet (q2 addD (q2 mulD (pVar 3) (qCall sumD (aCons (pVar 0) aNil))) (qCall minD (aCons (dLc (iRng1 (aCons (pVar 2) aNil)) (gN 6) tYesD (qCall sumD (aCons (qSl (pVar 5) (some (pVar 6)) (some (q2 addD (pVar 6) (pVar 4)))) aNil)) [6]) aNil)))))))
noncomputable def F_least_supply : List PD → Option PD := fnD 7 f_least_supply
theorem sc_least_supply : FnScope N_least_supply P_least_supply (defScope s_least_supply) := ⟨rfl, rfl, rfl, by decide +kernel, rfl, by decide +kernel, by decide +kernel⟩
theorem b_least_supply {X : Cx} (B : Bd X N_least_supply (defScope s_least_supply) 0) (fn : ∀ x, X.fn x = true) (M : Mb X.mg) : SSs X (defBody s_least_supply) f_least_supply :=
  (sss_cons (ss_set 2 B.nodup (B.at (by kernel_rfl)) (B.lc (by kernel_rfl)) (qe_callB cr_len ok_len (B.gl (by kernel_rfl)) M.len PyProof.Rows.Boot.len (qap_cons (pv_ B 0 (by kernel_rfl)) qap_nil)) (.inl (fn _))) (sss_cons (ss_parO [3, 4] B.calm (ma_sh (qe_op op_fdiv ok_fdiv (pv_ B 1 (by kernel_rfl)) (pv_ B 2 (by kernel_rfl))) (ma_sh (qe_op op_mod ok_mod (pv_ B 1 (by kernel_rfl)) (pv_ B 2 (by kernel_rfl))) ma_nil)) (pgs_cons (pg_name (i := 3) B.nodup (B.at (by kernel_rfl)) (B.lc (by kernel_rfl)) (.inl (fn _))) (pgs_cons (pg_name (i := 4) B.nodup (B.at (by kernel_rfl)) (B.lc (by kernel_rfl)) (.inl (fn _))) pgs_nil)) (by rfl) (by rfl) (by decide) (by rfl) (SW B sc_least_supply.kind (by kernel_rfl)) (by rfl)) (sss_cons (ss_set 5 B.nodup (B.at (by kernel_rfl)) (B.lc (by kernel_rfl)) (qe_op op_addA ok_add (pv_ B 0 (by kernel_rfl)) (pv_ B 0 (by kernel_rfl))) (.inl (fn _))) (sss_one (ss_ret (qe_op op_addA ok_add (pq_of (qe_op op_mul ok_mul (pv_ B 3 (by kernel_rfl)) (pq_of (qe_callB (cr_sumT B.calm) ok_sum (B.gl (by kernel_rfl)) M.sum PyProof.Rows.Boot.sum (qap_cons (pv_ B 0 (by kernel_rfl)) qap_nil))))) (pq_of (qe_callB (cr_minA B.calm) ok_min (B.gl (by kernel_rfl)) M.min PyProof.Rows.Boot.min (qap_cons (pq_of (qe_of (fe_lcB (own := [("at", 6)]) B (qi_rng1 (B.gl (by kernel_rfl)) M.range (qap_cons (pv_ B 2 (by kernel_rfl)) qap_nil)) (by kernel_rfl) (fun s1 H1 C1 l1 p1 B1 => (gb_ B s1 H1 C1 l1 p1 _ 6 (by kernel_rfl))) (fun s1 H1 C1 l1 p1 B1 => tsq_nil) (fun s1 H1 C1 l1 p1 B1 => (qe_callB (cr_sumT B1.calm) ok_sum (B1.gl (by kernel_rfl)) M.sum PyProof.Rows.Boot.sum (qap_cons (pq_of (qe_slice (pv_ B1 5 (by kernel_rfl)) (qo_some (pv_ B1 6 (by kernel_rfl))) (qo_some (pq_of (qe_op op_addA ok_add (pv_ B1 6 (by kernel_rfl)) (pv_ B1 4 (by kernel_rfl))))))) qap_nil))) (by decide)))) qap_nil)))))))))
theorem cal_least_supply {P : Program} {w : World} {K : PySem.W.Frag} {mg : Str → Option Value} {base : Heap} (d : DefM K mg "least_supply" s_least_supply) (M : Mb mg) : Cal P w K mg base 1 "least_supply" (spP K 2 F_least_supply) := by
  obtain ⟨f, fd, F, hm⟩ := d
  exact ⟨f, fd, P_least_supply, ok_fnP F sc_least_supply (g := F_least_supply) (fun ds d _ h => h) (fun cdv A outer s H E hr => b_least_supply ⟨rfl, rfl, rfl, hr, PassesOwn.never, sc_least_supply.nd⟩ (fun _ => rfl) M), hm, F.kp, F.bindsN (ps := P_least_supply) fun _ _ _ _ _ _ us hl => match us, hl with | [_, _], _ => rfl⟩
/-! ### up -/
def N_up : List Str := ["number", "gap"]
def P_up : List Str := ["number", "gap"]
noncomputable def f_up : DS := (dRet (q2 subD (qC (.int 0)) (q2 fdivD (q2 subD (qC (.int 0)) (pVar 0)) (pVar 1))))
noncomputable def F_up : List PD → Option PD := fnD 2 f_up
theorem sc_up : FnScope N_up P_up (defScope s_up) := ⟨rfl, rfl, rfl, by decide +kernel, rfl, by decide +kernel, by decide +kernel⟩
theorem b_up {X : Cx} (B : Bd X N_up (defScope s_up) 0) (fn : ∀ x, X.fn x = true) (M : Mb X.mg) : SSs X (defBody s_up) f_up :=
  (sss_one (ss_ret (qe_op op_sub ok_sub (pq_of qe_int) (pq_of (qe_op op_fdiv ok_fdiv (pq_of (qe_op op_sub ok_sub (pq_of qe_int) (pv_ B 0 (by kernel_rfl)))) (pv_ B 1 (by kernel_rfl)))))))
theorem cal_up {P : Program} {w : World} {K : PySem.W.Frag} {mg : Str → Option Value} {base : Heap} (d : DefM K mg "up" s_up) (M : Mb mg) : Cal P w K mg base 1 "up" (spP K 2 F_up) := by
  obtain ⟨f, fd, F, hm⟩ := d
  exact ⟨f, fd, P_up, ok_fnP F sc_up (g := F_up) (fun ds d _ h => h) (fun cdv A outer s H E hr => b_up ⟨rfl, rfl, rfl, hr, PassesOwn.never, sc_up.nd⟩ (fun _ => rfl) M), hm, F.kp, F.bindsN (ps := P_up) fun _ _ _ _ _ _ us hl => match us, hl with | [_, _], _ => rfl⟩
/-! ### hold_of -/
def N_hold_of : List Str := ["system", "name", "names", "ahead", "behind", "locks", "row"]
def P_hold_of : List Str := ["system", "name"]
noncomputable def f_hold_of : DS := (dSeq (dSet 2 (qCall (fun ds => if ds.length = 1 then F_names_of ds else none) (aCons (qVar 0) aNil))) (dSeq (dPar [3, 4] (mCons false (qSl (pVar 2) none (some (q2 addD (q2 idxD (pVar 2) (pVar 1)) (qC (.int 1))))) (mCons false (qSl (pVar 2) (some (q2 addD (q2 idxD (pVar 2) (pVar 1)) (qC (.int 1)))) none) mNil))) (dSeq (dSet 5 (dLc (iSeq (q2 getD' (pVar 0) (qC (.int 6)))) (gN 6) (asB (q2 inD (q2 getD' (pVar 6) (qC (.int 0))) (pVar 3))) (q2 getD' (pVar 6) (qC (.int 1))) [6])) (dRet (q2 maxDfD (dLc (iSeq (q2 getD' (pVar 0) (qC (.int 6)))) (gN 6) (tAndB (asB (q2 inD (q2 getD' (pVar 6) (qC (.int 0))) (pVar 4))) (asB (q2 inD (q2 getD' (pVar 6) (qC (.int 1))) (pVar 5)))) (q2 subD (q2 subD (q2 getD' (pVar 6) (qC (.int 3))) (q2 getD' (pVar 6) (qC (.int 2)))) (qC (.int 1))) [6]) (qC (.int 0)))))))
noncomputable def F_hold_of : List PD → Option PD := fnD 7 f_hold_of
theorem sc_hold_of : FnScope N_hold_of P_hold_of (defScope s_hold_of) := ⟨rfl, rfl, rfl, by decide +kernel, rfl, by decide +kernel, by decide +kernel⟩
theorem b_hold_of {X : Cx} (B : Bd X N_hold_of (defScope s_hold_of) 1) (fn : ∀ x, X.fn x = true) (M : Mb X.mg) (c_names_of : CalX X 1 "names_of" (spP X.K 1 F_names_of)) : SSs X (defBody s_hold_of) f_hold_of :=
  (sss_cons (ss_set 2 B.nodup (B.at (by kernel_rfl)) (B.lc (by kernel_rfl)) (qe_call c_names_of B.room (by decide) (B.gl (by kernel_rfl)) (qa_cons (qv_ B 0 (by kernel_rfl)) qa_nil)) (.inl (fn _))) (sss_cons (ss_parO [3, 4] B.calm (ma_sh (qe_slice (pv_ B 2 (by kernel_rfl)) qo_none (qo_some (pq_of (qe_op op_addA ok_add (pq_of (qe_index (by have := B.room.un; omega) (pv_ B 2 (by kernel_rfl)) (pv_ B 1 (by kernel_rfl)))) (pq_of qe_int))))) (ma_sh (qe_slice (pv_ B 2 (by kernel_rfl)) (qo_some (pq_of (qe_op op_addA ok_add (pq_of (qe_index (by have := B.room.un; omega) (pv_ B 2 (by kernel_rfl)) (pv_ B 1 (by kernel_rfl)))) (pq_of qe_int)))) qo_none) ma_nil)) (pgs_cons (pg_name (i := 3) B.nodup (B.at (by kernel_rfl)) (B.lc (by kernel_rfl)) (.inl (fn _))) (pgs_cons (pg_name (i := 4) B.nodup (B.at (by kernel_rfl)) (B.lc (by kernel_rfl)) (.inl (fn _))) pgs_nil)) (by rfl) (by rfl) (by decide) (by rfl) (SW B sc_hold_of.kind (by kernel_rfl)) (by rfl)) (sss_cons (ss_set 5 B.nodup (B.at (by kernel_rfl)) (B.lc (by kernel_rfl)) (qe_of (fe_lcB (own := [("row", 6)]) B (qi_seq (pq_of (qe_ix B.hu (pv_ B 0 (by kernel_rfl)) (pq_of qe_int) (fun _ _ => rfl)))) (by kernel_rfl) (fun s1 H1 C1 l1 p1 B1 => (gb_ B s1 H1 C1 l1 p1 _ 6 (by kernel_rfl))) (fun s1 H1 C1 l1 p1 B1 => (tsq_one (tq_cmp (op_inA B1.hu) ok_in (pq_of (qe_ix B1.hu (pv_ B1 6 (by kernel_rfl)) (pq_of qe_int) (fun _ _ => rfl))) (pv_ B1 3 (by kernel_rfl)) (by rfl)))) (fun s1 H1 C1 l1 p1 B1 => (qe_ix B1.hu (pv_ B1 6 (by kernel_rfl)) (pq_of qe_int) (fun _ _ => rfl))) (by decide))) (.inl (fn _)) (SWC B (.inl ⟨_, _, _, rfl⟩) (by kernel_rfl))) (sss_one (ss_ret (qe_maxDf B.calm B.hu (B.gl (by kernel_rfl)) M.max (pq_of (qe_of (fe_lcB (own := [("row", 6)]) B (qi_seq (pq_of (qe_ix B.hu (pv_ B 0 (by kernel_rfl)) (pq_of qe_int) (fun _ _ => rfl)))) (by kernel_rfl) (fun s1 H1 C1 l1 p1 B1 => (gb_ B s1 H1 C1 l1 p1 _ 6 (by kernel_rfl))) (fun s1 H1 C1 l1 p1 B1 => (tsq_one (tq_w (wq_and (tq_cmp (op_inA B1.hu) ok_in (pq_of (qe_ix B1.hu (pv_ B1 6 (by kernel_rfl)) (pq_of qe_int) (fun _ _ => rfl))) (pv_ B1 4 (by kernel_rfl)) (by rfl)) (wq_and1 (tq_cmp (op_inA B1.hu) ok_in (pq_of (qe_ix B1.hu (pv_ B1 6 (by kernel_rfl)) (pq_of qe_int) (fun _ _ => rfl))) (pv_ B1 5 (by kernel_rfl)) (by rfl))))))) (fun s1 H1 C1 l1 p1 B1 => (qe_op op_sub ok_sub (pq_of (qe_op op_sub ok_sub (pq_of (qe_ix B1.hu (pv_ B1 6 (by kernel_rfl)) (pq_of qe_int) (fun _ _ => rfl))) (pq_of (qe_ix B1.hu (pv_ B1 6 (by kernel_rfl)) (pq_of qe_int) (fun _ _ => rfl))))) (pq_of qe_int))) (by decide)))) qe_int))))))
theorem cal_hold_of {P : Program} {w : World} {K : PySem.W.Frag} {mg : Str → Option Value} {base : Heap} (d : DefM K mg "hold_of" s_hold_of) (M : Mb mg) (c_names_of : Cal P w K mg base 1 "names_of" (spP K 1 F_names_of)) : Cal P w K mg base 2 "hold_of" (spP K 2 F_hold_of) := by
  obtain ⟨f, fd, F, hm⟩ := d
  exact ⟨f, fd, P_hold_of, ok_fnP F sc_hold_of (g := F_hold_of) (fun ds d _ h => h) (fun cdv A outer s H E hr => b_hold_of ⟨rfl, rfl, rfl, hr, PassesOwn.never, sc_hold_of.nd⟩ (fun _ => rfl) M c_names_of), hm, F.kp, F.bindsN (ps := P_hold_of) fun _ _ _ _ _ _ us hl => match us, hl with | [_, _], _ => rfl⟩
/-! ### need_of -/
def N_need_of : List Str := ["system", "name", "n", "found", "task"]
def P_need_of : List Str := ["system", "name", "n"]
noncomputable def L_need_of_1 : DS := (dSeq (dIf (asB (q2 eqD (q2 getD' (pVar 4) (qC (.int 0))) (pVar 1))) (dRet (qVar 3)) dNil) (dAug 3 augAdd (q2 mulD (q2 getD' (pVar 4) (qC (.int 6))) (qCall (fun ds => if ds.length = 2 then F_up ds else none) (aCons (qVar 2) (aCons (q2 getD' (pVar 4) (qC (.int 3))) aNil))))))
noncomputable def f_need_of : DS := (dSeq (dSet 3 (q2 addD (q2 getD' (qCall (fun ds => if ds.length = 2 then F_task_of ds else none) (aCons (qVar 0) (aCons (qVar 1) aNil))) (qC (.int 6))) (qCall (fun ds => if ds.length = 2 then F_hold_of ds else none) (aCons (qVar 0) (aCons (qVar 1) aNil))))) (dSeq (dFor (iSeq (qCall (fun ds => if ds.length = 1 then F_tasks_of ds else none) (aCons (qVar 0) aNil))) (gN 4) L_need_of_1) (dRet (qVar 3))))
noncomputable def F_need_of : List PD → Option PD := fnD 5 f_need_of
theorem sc_need_of : FnScope N_need_of P_need_of (defScope s_need_of) := ⟨rfl, rfl, rfl, by decide +kernel, rfl, by decide +kernel, by decide +kernel⟩
theorem b_need_of {X : Cx} (B : Bd X N_need_of (defScope s_need_of) 2) (fn : ∀ x, X.fn x = true) (M : Mb X.mg) (c_tasks_of : CalX X 1 "tasks_of" (spP X.K 1 F_tasks_of)) (c_up : CalX X 1 "up" (spP X.K 2 F_up)) (c_task_of : CalX X 2 "task_of" (spP X.K 2 F_task_of)) (c_hold_of : CalX X 2 "hold_of" (spP X.K 2 F_hold_of)) : SSs X (defBody s_need_of) f_need_of :=
  (sss_cons (ss_set 3 B.nodup (B.at (by kernel_rfl)) (B.lc (by kernel_rfl)) (qe_op op_addA ok_add (pq_of (qe_ix B.hu (pq_of (qe_call c_task_of B.room (by decide) (B.gl (by kernel_rfl)) (qa_cons (qv_ B 0 (by kernel_rfl)) (qa_cons (qv_ B 1 (by kernel_rfl)) qa_nil)))) (pq_of qe_int) (fun _ _ => rfl))) (pq_of (qe_call c_hold_of B.room (by decide) (B.gl (by kernel_rfl)) (qa_cons (qv_ B 0 (by kernel_rfl)) (qa_cons (qv_ B 1 (by kernel_rfl)) qa_nil))))) (.inl (fn _))) (sss_cons (ss_for B.po B.calm (qi_seq (qe_call c_tasks_of B.room (by decide) (B.gl (by kernel_rfl)) (qa_cons (qv_ B 0 (by kernel_rfl)) qa_nil))) (gd_ B fn 4 (by kernel_rfl)) (sss_cons (ss_if (tq_cmp (op_eqP B.hu) ok_eq (pq_of (qe_ix B.hu (pv_ B 4 (by kernel_rfl)) (pq_of qe_int) (fun _ _ => rfl))) (pv_ B 1 (by kernel_rfl)) (by rfl)) (sss_one (ss_ret (qv_ B 3 (by kernel_rfl)))) sss_nil) (sss_one (ss_aug 3 B.nodup (B.at (by kernel_rfl)) (B.lc (by kernel_rfl)) (pq_of (qe_op op_mul ok_mul (pq_of (qe_ix B.hu (pv_ B 4 (by kernel_rfl)) (pq_of qe_int) (fun _ _ => rfl))) (pq_of (qe_call c_up B.room (by decide) (B.gl (by kernel_rfl)) (qa_cons (qv_ B 2 (by kernel_rfl)) (qa_cons (qe_ix B.hu (pv_ B 4 (by kernel_rfl)) (pq_of qe_int) (fun _ _ => rfl)) qa_nil)))))) ip_add ok_ipI (.inl (fn _)))))) (sss_one (ss_ret (qv_ B 3 (by kernel_rfl))))))
theorem cal_need_of {P : Program} {w : World} {K : PySem.W.Frag} {mg : Str → Option Value} {base : Heap} (d : DefM K mg "need_of" s_need_of) (M : Mb mg) (c_tasks_of : Cal P w K mg base 1 "tasks_of" (spP K 1 F_tasks_of)) (c_up : Cal P w K mg base 1 "up" (spP K 2 F_up)) (c_task_of : Cal P w K mg base 2 "task_of" (spP K 2 F_task_of)) (c_hold_of : Cal P w K mg base 2 "hold_of" (spP K 2 F_hold_of)) : Cal P w K mg base 3 "need_of" (spP K 3 F_need_of) := by
  obtain ⟨f, fd, F, hm⟩ := d
  exact ⟨f, fd, P_need_of, ok_fnP F sc_need_of (g := F_need_of) (fun ds d _ h => h) (fun cdv A outer s H E hr => b_need_of ⟨rfl, rfl, rfl, hr, PassesOwn.never, sc_need_of.nd⟩ (fun _ => rfl) M c_tasks_of c_up c_task_of c_hold_of), hm, F.kp, F.bindsN (ps := P_need_of) fun _ _ _ _ _ _ us hl => match us, hl with | [_, _, _], _ => rfl⟩
/-! ### is_timed -/
def N_is_timed : List Str := ["system"]
def P_is_timed : List Str := ["system"]
noncomputable def f_is_timed : DS := (dRet (qAnd (q2 eqD (q2 getD' (pVar 0) (qC (.int 1))) (qC (.int 1))) (qAnd (q2 eqD (q2 getD' (pVar 0) (qC (.int 2))) (qC (.str "fixed"))) (q2 getD' (pVar 0) (qC (.int 3))))))
noncomputable def F_is_timed : List PD → Option PD := fnD 1 f_is_timed
theorem sc_is_timed : FnScope N_is_timed P_is_timed (defScope s_is_timed) := ⟨rfl, rfl, rfl, by decide +kernel, rfl, by decide +kernel, by decide +kernel⟩
theorem b_is_timed {X : Cx} (B : Bd X N_is_timed (defScope s_is_timed) 0) (fn : ∀ x, X.fn x = true) (M : Mb X.mg) : SSs X (defBody s_is_timed) f_is_timed :=
  (sss_one (ss_ret (qe_and (qe_cmp (op_eqP B.hu) ok_eq (pq_of (qe_ix B.hu (pv_ B 0 (by kernel_rfl)) (pq_of qe_int) (fun _ _ => rfl))) (pq_of qe_int) (by rfl)) (qe_and (qe_cmp (op_eqP B.hu) ok_eq (pq_of (qe_ix B.hu (pv_ B 0 (by kernel_rfl)) (pq_of qe_int) (fun _ _ => rfl))) (pq_of qe_str) (by rfl)) (qe_one (qe_ix B.hu (pv_ B 0 (by kernel_rfl)) (pq_of qe_int) (fun _ _ => rfl)))))))
theorem cal_is_timed {P : Program} {w : World} {K : PySem.W.Frag} {mg : Str → Option Value} {base : Heap} (d : DefM K mg "is_timed" s_is_timed) (M : Mb mg) : Cal P w K mg base 1 "is_timed" (spP K 1 F_is_timed) := by
  obtain ⟨f, fd, F, hm⟩ := d
  exact ⟨f, fd, P_is_timed, ok_fnP F sc_is_timed (g := F_is_timed) (fun ds d _ h => h) (fun cdv A outer s H E hr => b_is_timed ⟨rfl, rfl, rfl, hr, PassesOwn.never, sc_is_timed.nd⟩ (fun _ => rfl) M), hm, F.kp, F.bindsN (ps := P_is_timed) fun _ _ _ _ _ _ us hl => match us, hl with | [_], _ => rfl⟩
/-! ### is_enough_time -/
def N_is_enough_time : List Str := ["system", "name", "n"]
def P_is_enough_time : List Str := ["system", "name", "n"]
noncomputable def f_is_enough_time : DS := (dRet (q2 leD (qCall (fun ds => if ds.length = 3 then F_need_of ds else none) (aCons (qVar 0) (aCons (qVar 1) (aCons (qVar 2) aNil)))) (qCall (fun ds => if ds.length = 2 then F_least_supply ds else none) (aCons (q2 getD' (pVar 0) (qC (.int 4))) (aCons (qVar 2) aNil)))))
noncomputable def F_is_enough_time : List PD → Option PD := fnD 3 f_is_enough_time
theorem sc_is_enough_time : FnScope N_is_enough_time P_is_enough_time (defScope s_is_enough_time) := ⟨rfl, rfl, rfl, by decide +kernel, rfl, by decide +kernel, by decide +kernel⟩
theorem b_is_enough_time {X : Cx} (B : Bd X N_is_enough_time (defScope s_is_enough_time) 3) (fn : ∀ x, X.fn x = true) (M : Mb X.mg) (c_need_of : CalX X 3 "need_of" (spP X.K 3 F_need_of)) (c_least_supply : CalX X 1 "least_supply" (spP X.K 2 F_least_supply)) : SSs X (defBody s_is_enough_time) f_is_enough_time :=
  (sss_one (ss_ret (qe_cmp op_le ok_cmpI (pq_of (qe_call c_need_of B.room (by decide) (B.gl (by kernel_rfl)) (qa_cons (qv_ B 0 (by kernel_rfl)) (qa_cons (qv_ B 1 (by kernel_rfl)) (qa_cons (qv_ B 2 (by kernel_rfl)) qa_nil))))) (pq_of (qe_call c_least_supply B.room (by decide) (B.gl (by kernel_rfl)) (qa_cons (qe_ix B.hu (pv_ B 0 (by kernel_rfl)) (pq_of qe_int) (fun _ _ => rfl)) (qa_cons (qv_ B 2 (by kernel_rfl)) qa_nil)))) (by rfl))))
theorem cal_is_enough_time {P : Program} {w : World} {K : PySem.W.Frag} {mg : Str → Option Value} {base : Heap} (d : DefM K mg "is_enough_time" s_is_enough_time) (M : Mb mg) (c_need_of : Cal P w K mg base 3 "need_of" (spP K 3 F_need_of)) (c_least_supply : Cal P w K mg base 1 "least_supply" (spP K 2 F_least_supply)) : Cal P w K mg base 4 "is_enough_time" (spP K 3 F_is_enough_time) := by
  obtain ⟨f, fd, F, hm⟩ := d
  exact ⟨f, fd, P_is_enough_time, ok_fnP F sc_is_enough_time (g := F_is_enough_time) (fun ds d _ h => h) (fun cdv A outer s H E hr => b_is_enough_time ⟨rfl, rfl, rfl, hr, PassesOwn.never, sc_is_enough_time.nd⟩ (fun _ => rfl) M c_need_of c_least_supply), hm, F.kp, F.bindsN (ps := P_is_enough_time) fun _ _ _ _ _ _ us hl => match us, hl with | [_, _, _], _ => rfl⟩
/-! ### _least_time -/
def N__least_time : List Str := ["system", "task", "n"]
def P__least_time : List Str := ["system", "task"]
noncomputable def L__least_time_1 : DS := (dIf (tru (qCall (fun ds => if ds.length = 3 then F_is_enough_time ds else none) (aCons (qVar 0) (aCons (q2 getD' (pVar 1) (qC (.int 0))) (aCons (qVar 2) aNil))))) (dRet (qVar 2)) dNil)
noncomputable def f__least_time : DS := (dSeq (dFor (iRng2 (aCons (qC (.int 1)) (aCons (q2 addD (q2 getD' (pVar 1) (qC (.int 4))) (qC (.int 1))) aNil))) (gN 2) L__least_time_1) (dRet (qC .none)))
noncomputable def F__least_time : List PD → Option PD := fnD 3 f__least_time
theorem sc__least_time : FnScope N__least_time P__least_time (defScope s__least_time) := ⟨rfl, rfl, rfl, by decide +kernel, rfl, by decide +kernel, by decide +kernel⟩
theorem b__least_time {X : Cx} (B : Bd X N__least_time (defScope s__least_time) 4) (fn : ∀ x, X.fn x = true) (M : Mb X.mg) (c_is_enough_time : CalX X 4 "is_enough_time" (spP X.K 3 F_is_enough_time)) : SSs X (defBody s__least_time) f__least_time :=
  (sss_cons (ss_for B.po B.calm (qi_rng2 (B.gl (by kernel_rfl)) M.range (qap_cons (pq_of qe_int) (qap_cons (pq_of (qe_op op_addA ok_add (pq_of (qe_ix B.hu (pv_ B 1 (by kernel_rfl)) (pq_of qe_int) (fun _ _ => rfl))) (pq_of qe_int))) qap_nil))) (gd_ B fn 2 (by kernel_rfl)) (sss_one (ss_if (tq_tru (pq_of (qe_call c_is_enough_time B.room (by decide) (B.gl (by kernel_rfl)) (qa_cons (qv_ B 0 (by kernel_rfl)) (qa_cons (qe_ix B.hu (pv_ B 1 (by kernel_rfl)) (pq_of qe_int) (fun _ _ => rfl)) (qa_cons (qv_ B 2 (by kernel_rfl)) qa_nil)))))) (sss_one (ss_ret (qv_ B 2 (by kernel_rfl)))) sss_nil))) (sss_one (ss_ret qe_non)))
theorem cal__least_time {P : Program} {w : World} {K : PySem.W.Frag} {mg : Str → Option Value} {base : Heap} (d : DefM K mg "_least_time" s__least_time) (M : Mb mg) (c_is_enough_time : Cal P w K mg base 4 "is_enough_time" (spP K 3 F_is_enough_time)) : Cal P w K mg base 5 "_least_time" (spP K 2 F__least_time) := by
  obtain ⟨f, fd, F, hm⟩ := d
  exact ⟨f, fd, P__least_time, ok_fnP F sc__least_time (g := F__least_time) (fun ds d _ h => h) (fun cdv A outer s H E hr => b__least_time ⟨rfl, rfl, rfl, hr, PassesOwn.never, sc__least_time.nd⟩ (fun _ => rfl) M c_is_enough_time), hm, F.kp, F.bindsN (ps := P__least_time) fun _ _ _ _ _ _ us hl => match us, hl with | [_, _], _ => rfl⟩
/-! ### timed -/
def N_timed : List Str := ["system", "rows", "task", "n"]
def P_timed : List Str := ["system"]
noncomputable def L_timed_1 : DS := (dSeq (dSet 3 (qCall (fun ds => if ds.length = 2 then F__least_time ds else none) (aCons (qVar 0) (aCons (qVar 2) aNil)))) (dSeq (dIf (asB (q2 isD (pVar 3) (qC .none))) (dRet (qTup (aCons (qC (.str "over")) (aCons (q2 getD' (pVar 2) (qC (.int 0))) aNil)))) dNil) (dApp 1 (qTup (aCons (q2 getD' (pVar 2) (qC (.int 0))) (aCons (qVar 3) aNil))))))
noncomputable def f_timed : DS := (dSeq (dSetF 1 (qLst aNil)) (dSeq (dFor (iSeq (qCall (fun ds => if ds.length = 1 then F_tasks_of ds else none) (aCons (qVar 0) aNil))) (gN 2) L_timed_1) (dRet (qTup (aCons (qC (.str "meets")) (aCons (qTup (aCons (qC (.str "times")) (aCons (qCall tupleD (aCons (pVar 1) aNil)) aNil))) aNil))))))
noncomputable def F_timed : List PD → Option PD := fnD 4 f_timed
theorem sc_timed : FnScope N_timed P_timed (defScope s_timed) := ⟨rfl, rfl, rfl, by decide +kernel, rfl, by decide +kernel, by decide +kernel⟩
theorem b_timed {X : Cx} (B : Bd X N_timed (defScope s_timed) 5) (fn : ∀ x, X.fn x = true) (M : Mb X.mg) (c_tasks_of : CalX X 1 "tasks_of" (spP X.K 1 F_tasks_of)) (c__least_time : CalX X 5 "_least_time" (spP X.K 2 F__least_time)) : SSs X (defBody s_timed) f_timed :=
  (sss_cons (ss_setF 1 B.nodup (B.at (by kernel_rfl)) (B.lc (by kernel_rfl)) (fe_lst qa_nil) (.inl (fn _))) (sss_cons (ss_for B.po B.calm (qi_seq (qe_call c_tasks_of B.room (by decide) (B.gl (by kernel_rfl)) (qa_cons (qv_ B 0 (by kernel_rfl)) qa_nil))) (gd_ B fn 2 (by kernel_rfl)) (sss_cons (ss_set 3 B.nodup (B.at (by kernel_rfl)) (B.lc (by kernel_rfl)) (qe_call c__least_time B.room (by decide) (B.gl (by kernel_rfl)) (qa_cons (qv_ B 0 (by kernel_rfl)) (qa_cons (qv_ B 2 (by kernel_rfl)) qa_nil))) (.inl (fn _))) (sss_cons (ss_if (tq_cmp op_isA ok_is (pv_ B 3 (by kernel_rfl)) (pq_of qe_non) (by rfl)) (sss_one (ss_ret (qe_tup (qa_cons qe_str (qa_cons (qe_ix B.hu (pv_ B 2 (by kernel_rfl)) (pq_of qe_int) (fun _ _ => rfl)) qa_nil))))) sss_nil) (sss_one (ss_app 1 (ov_ B 1 (by kernel_rfl)) (qe_tup (qa_cons (qe_ix B.hu (pv_ B 2 (by kernel_rfl)) (pq_of qe_int) (fun _ _ => rfl)) (qa_cons (qv_ B 3 (by kernel_rfl)) qa_nil)))))))) (sss_one (ss_ret (qe_tup (qa_cons qe_str (qa_cons (qe_tup (qa_cons qe_str (qa_cons (qe_callTy call_tuple_of ok_tuple (B.gl (by kernel_rfl)) M.tuple PyProof.Rows.Boot.tuple (qap_cons (pv_ B 1 (by kernel_rfl)) qap_nil)) qa_nil))) qa_nil)))))))
theorem cal_timed {P : Program} {w : World} {K : PySem.W.Frag} {mg : Str → Option Value} {base : Heap} (d : DefM K mg "timed" s_timed) (M : Mb mg) (c_tasks_of : Cal P w K mg base 1 "tasks_of" (spP K 1 F_tasks_of)) (c__least_time : Cal P w K mg base 5 "_least_time" (spP K 2 F__least_time)) : Cal P w K mg base 6 "timed" (spP K 1 F_timed) := by
  obtain ⟨f, fd, F, hm⟩ := d
  exact ⟨f, fd, P_timed, ok_fnP F sc_timed (g := F_timed) (fun ds d _ h => h) (fun cdv A outer s H E hr => b_timed ⟨rfl, rfl, rfl, hr, PassesOwn.never, sc_timed.nd⟩ (fun _ => rfl) M c_tasks_of c__least_time), hm, F.kp, F.bindsN (ps := P_timed) fun _ _ _ _ _ _ us hl => match us, hl with | [_], _ => rfl⟩
/-! ### is_started -/
def N_is_started : List Str := ["system"]
def P_is_started : List Str := ["system"]
noncomputable def f_is_started : DS := (dRet (qAnd (q2 eqD (q2 getD' (pVar 0) (qC (.int 1))) (qC (.int 1))) (qAnd (q2 eqD (q2 getD' (pVar 0) (qC (.int 2))) (qC (.str "fixed"))) (qAnd (qNot (q2 getD' (pVar 0) (qC (.int 3)))) (qCall (fun ds => if ds.length = 1 then F_is_full ds else none) (aCons (qVar 0) aNil))))))
noncomputable def F_is_started : List PD → Option PD := fnD 1 f_is_started
theorem sc_is_started : FnScope N_is_started P_is_started (defScope s_is_started) := ⟨rfl, rfl, rfl, by decide +kernel, rfl, by decide +kernel, by decide +kernel⟩
theorem b_is_started {X : Cx} (B : Bd X N_is_started (defScope s_is_started) 1) (fn : ∀ x, X.fn x = true) (M : Mb X.mg) (c_is_full : CalX X 1 "is_full" (spP X.K 1 F_is_full)) : SSs X (defBody s_is_started) f_is_started :=
  (sss_one (ss_ret (qe_and (qe_cmp (op_eqP B.hu) ok_eq (pq_of (qe_ix B.hu (pv_ B 0 (by kernel_rfl)) (pq_of qe_int) (fun _ _ => rfl))) (pq_of qe_int) (by rfl)) (qe_and (qe_cmp (op_eqP B.hu) ok_eq (pq_of (qe_ix B.hu (pv_ B 0 (by kernel_rfl)) (pq_of qe_int) (fun _ _ => rfl))) (pq_of qe_str) (by rfl)) (qe_and (qe_not (pq_of (qe_ix B.hu (pv_ B 0 (by kernel_rfl)) (pq_of qe_int) (fun _ _ => rfl)))) (qe_one (qe_call c_is_full B.room (by decide) (B.gl (by kernel_rfl)) (qa_cons (qv_ B 0 (by kernel_rfl)) qa_nil))))))))
theorem cal_is_started {P : Program} {w : World} {K : PySem.W.Frag} {mg : Str → Option Value} {base : Heap} (d : DefM K mg "is_started" s_is_started) (M : Mb mg) (c_is_full : Cal P w K mg base 1 "is_full" (spP K 1 F_is_full)) : Cal P w K mg base 2 "is_started" (spP K 1 F_is_started) := by
  obtain ⟨f, fd, F, hm⟩ := d
  exact ⟨f, fd, P_is_started, ok_fnP F sc_is_started (g := F_is_started) (fun ds d _ h => h) (fun cdv A outer s H E hr => b_is_started ⟨rfl, rfl, rfl, hr, PassesOwn.never, sc_is_started.nd⟩ (fun _ => rfl) M c_is_full), hm, F.kp, F.bindsN (ps := P_is_started) fun _ _ _ _ _ _ us hl => match us, hl with | [_], _ => rfl⟩
/-! ### is_enough_start -/
def N_is_enough_start : List Str := ["system", "at", "n", "tasks", "need", "task"]
def P_is_enough_start : List Str := ["system", "at", "n"]
noncomputable def f_is_enough_start : DS := (dSeq (dSet 3 (qCall (fun ds => if ds.length = 1 then F_tasks_of ds else none) (aCons (qVar 0) aNil))) (dSeq (dSet 4 (qCall maxD (aCons (dLc (iSeq (qSl (pVar 3) (some (pVar 1)) none)) (gN 5) tYesD (q2 getD' (pVar 5) (qC (.int 6))) [5]) aNil))) (dSeq (dAug 4 augAdd (qCall sumD (aCons (dLc (iSeq (qSl (pVar 3) none (some (pVar 1)))) (gN 5) tYesD (q2 mulD (q2 addD (q2 fdivD (pVar 2) (q2 getD' (pVar 5) (qC (.int 3)))) (qC (.int 1))) (q2 getD' (pVar 5) (qC (.int 6)))) [5]) aNil))) (dRet (q2 leD (pVar 4) (pVar 2))))))
noncomputable def F_is_enough_start : List PD → Option PD := fnD 6 f_is_enough_start
theorem sc_is_enough_start : FnScope N_is_enough_start P_is_enough_start (defScope s_is_enough_start) := ⟨rfl, rfl, rfl, by decide +kernel, rfl, by decide +kernel, by decide +kernel⟩
theorem b_is_enough_start {X : Cx} (B : Bd X N_is_enough_start (defScope s_is_enough_start) 1) (fn : ∀ x, X.fn x = true) (M : Mb X.mg) (c_tasks_of : CalX X 1 "tasks_of" (spP X.K 1 F_tasks_of)) : SSs X (defBody s_is_enough_start) f_is_enough_start :=
  (sss_cons (ss_set 3 B.nodup (B.at (by kernel_rfl)) (B.lc (by kernel_rfl)) (qe_call c_tasks_of B.room (by decide) (B.gl (by kernel_rfl)) (qa_cons (qv_ B 0 (by kernel_rfl)) qa_nil)) (.inl (fn _))) (sss_cons (ss_set 4 B.nodup (B.at (by kernel_rfl)) (B.lc (by kernel_rfl)) (qe_callB (cr_maxA B.calm) ok_max (B.gl (by kernel_rfl)) M.max PyProof.Rows.Boot.max (qap_cons (pq_of (qe_of (fe_lcB (own := [("task", 5)]) B (qi_seq (pq_of (qe_slice (pv_ B 3 (by kernel_rfl)) (qo_some (pv_ B 1 (by kernel_rfl))) qo_none))) (by kernel_rfl) (fun s1 H1 C1 l1 p1 B1 => (gb_ B s1 H1 C1 l1 p1 _ 5 (by kernel_rfl))) (fun s1 H1 C1 l1 p1 B1 => tsq_nil) (fun s1 H1 C1 l1 p1 B1 => (qe_ix B1.hu (pv_ B1 5 (by kernel_rfl)) (pq_of qe_int) (fun _ _ => rfl))) (by decide)))) qap_nil)) (.inl (fn _))) (sss_cons (ss_aug 4 B.nodup (B.at (by kernel_rfl)) (B.lc (by kernel_rfl)) (pq_of (qe_callB (cr_sumT B.calm) ok_sum (B.gl (by kernel_rfl)) M.sum PyProof.Rows.Boot.sum (qap_cons (pq_of (qe_of (fe_lcB (own := [("task", 5)]) B (qi_seq (pq_of (qe_slice (pv_ B 3 (by kernel_rfl)) qo_none (qo_some (pv_ B 1 (by kernel_rfl)))))) (by kernel_rfl) (fun s1 H1 C1 l1 p1 B1 => (gb_ B s1 H1 C1 l1 p1 _ 5 (by kernel_rfl))) (fun s1 H1 C1 l1 p1 B1 => tsq_nil) (fun s1 H1 C1 l1 p1 B1 => (qe_op op_mul ok_mul (pq_of (qe_op op_addA ok_add (pq_of (qe_op op_fdiv ok_fdiv (pv_ B1 2 (by kernel_rfl)) (pq_of (qe_ix B1.hu (pv_ B1 5 (by kernel_rfl)) (pq_of qe_int) (fun _ _ => rfl))))) (pq_of qe_int))) (pq_of (qe_ix B1.hu (pv_ B1 5 (by kernel_rfl)) (pq_of qe_int) (fun _ _ => rfl))))) (by decide)))) qap_nil))) ip_add ok_ipI (.inl (fn _))) (sss_one (ss_ret (qe_cmp op_le ok_cmpI (pv_ B 4 (by kernel_rfl)) (pv_ B 2 (by kernel_rfl)) (by rfl)))))))
theorem cal_is_enough_start {P : Program} {w : World} {K : PySem.W.Frag} {mg : Str → Option Value} {base : Heap} (d : DefM K mg "is_enough_start" s_is_enough_start) (M : Mb mg) (c_tasks_of : Cal P w K mg base 1 "tasks_of" (spP K 1 F_tasks_of)) : Cal P w K mg base 2 "is_enough_start" (spP K 3 F_is_enough_start) := by
  obtain ⟨f, fd, F, hm⟩ := d
  exact ⟨f, fd, P_is_enough_start, ok_fnP F sc_is_enough_start (g := F_is_enough_start) (fun ds d _ h => h) (fun cdv A outer s H E hr => b_is_enough_start ⟨rfl, rfl, rfl, hr, PassesOwn.never, sc_is_enough_start.nd⟩ (fun _ => rfl) M c_tasks_of), hm, F.kp, F.bindsN (ps := P_is_enough_start) fun _ _ _ _ _ _ us hl => match us, hl with | [_, _, _], _ => rfl⟩
/-! ### started -/
def N_started : List Str := ["system", "rows", "at", "task", "good", "n"]
def P_started : List Str := ["system"]
noncomputable def L_started_1 : DS := (dSeq (dSet 4 (dLc (iRng1 (aCons (q2 addD (q2 subD (q2 getD' (pVar 3) (qC (.int 4))) (q2 getD' (pVar 3) (qC (.int 6)))) (qC (.int 1))) aNil)) (gN 5) (tru (qCall (fun ds => if ds.length = 3 then F_is_enough_start ds else none) (aCons (qVar 0) (aCons (qVar 2) (aCons (qVar 5) aNil))))) (qVar 5) [5])) (dSeq (dIf (tNotB (tru (pVar 4))) (dRet (qTup (aCons (qC (.str "over")) (aCons (q2 getD' (pVar 3) (qC (.int 0))) aNil)))) dNil) (dApp 1 (qTup (aCons (q2 getD' (pVar 3) (qC (.int 0))) (aCons (q2 getD' (pVar 4) (qC (.int 0))) aNil))))))
noncomputable def f_started : DS := (dSeq (dSetF 1 (qLst aNil)) (dSeq (dFor (iEn (qCall (fun ds => if ds.length = 1 then F_tasks_of ds else none) (aCons (qVar 0) aNil))) (gT 2 (gsCons (gN 2) (gsCons (gN 3) gsNil))) L_started_1) (dRet (qTup (aCons (qC (.str "meets")) (aCons (qTup (aCons (qC (.str "starts")) (aCons (qCall tupleD (aCons (pVar 1) aNil)) aNil))) aNil))))))
noncomputable def F_started : List PD → Option PD := fnD 6 f_started
theorem sc_started : FnScope N_started P_started (defScope s_started) := ⟨rfl, rfl, rfl, by decide +kernel, rfl, by decide +kernel, by decide +kernel⟩
theorem b_started {X : Cx} (B : Bd X N_started (defScope s_started) 2) (fn : ∀ x, X.fn x = true) (M : Mb X.mg) (c_tasks_of : CalX X 1 "tasks_of" (spP X.K 1 F_tasks_of)) (c_is_enough_start : CalX X 2 "is_enough_start" (spP X.K 3 F_is_enough_start)) : SSs X (defBody s_started) f_started :=
  (sss_cons (ss_setF 1 B.nodup (B.at (by kernel_rfl)) (B.lc (by kernel_rfl)) (fe_lst qa_nil) (.inl (fn _))) (sss_cons (ss_for B.po B.calm (qi_enum (B.gl (by kernel_rfl)) M.enumerate (qe_call c_tasks_of B.room (by decide) (B.gl (by kernel_rfl)) (qa_cons (qv_ B 0 (by kernel_rfl)) qa_nil))) (gt_tup B.calm (gts_cons (gd_ B fn 2 (by kernel_rfl)) (gts_cons (gd_ B fn 3 (by kernel_rfl)) gts_nil))) (sss_cons (ss_setLcB 4 (own := [("n", 5)]) B sc_started.kind (by kernel_rfl) (by kernel_rfl) (by kernel_rfl) (by kernel_rfl) (qi_rng1 (B.gl (by kernel_rfl)) M.range (qap_cons (pq_of (qe_op op_addA ok_add (pq_of (qe_op op_sub ok_sub (pq_of (qe_ix B.hu (pv_ B 3 (by kernel_rfl)) (pq_of qe_int) (fun _ _ => rfl))) (pq_of (qe_ix B.hu (pv_ B 3 (by kernel_rfl)) (pq_of qe_int) (fun _ _ => rfl))))) (pq_of qe_int))) qap_nil)) (by kernel_rfl) (fun s1 H1 C1 l1 p1 B1 => (gb_ B s1 H1 C1 l1 p1 _ 5 (by kernel_rfl))) (fun s1 H1 C1 l1 p1 B1 => (tsq_one (tq_tru (pq_of (qe_call c_is_enough_start B1.room (by decide) (B1.gl (by kernel_rfl)) (qa_cons (qv_ B1 0 (by kernel_rfl)) (qa_cons (qv_ B1 2 (by kernel_rfl)) (qa_cons (qv_ B1 5 (by kernel_rfl)) qa_nil)))))))) (fun s1 H1 C1 l1 p1 B1 => (qv_ B1 5 (by kernel_rfl))) (by decide)) (sss_cons (ss_if (tq_not (tq_tru (pv_ B 4 (by kernel_rfl)))) (sss_one (ss_ret (qe_tup (qa_cons qe_str (qa_cons (qe_ix B.hu (pv_ B 3 (by kernel_rfl)) (pq_of qe_int) (fun _ _ => rfl)) qa_nil))))) sss_nil) (sss_one (ss_app 1 (ov_ B 1 (by kernel_rfl)) (qe_tup (qa_cons (qe_ix B.hu (pv_ B 3 (by kernel_rfl)) (pq_of qe_int) (fun _ _ => rfl)) (qa_cons (qe_ix B.hu (pv_ B 4 (by kernel_rfl)) (pq_of qe_int) (fun _ _ => rfl)) qa_nil)))))))) (sss_one (ss_ret (qe_tup (qa_cons qe_str (qa_cons (qe_tup (qa_cons qe_str (qa_cons (qe_callTy call_tuple_of ok_tuple (B.gl (by kernel_rfl)) M.tuple PyProof.Rows.Boot.tuple (qap_cons (pv_ B 1 (by kernel_rfl)) qap_nil)) qa_nil))) qa_nil)))))))
theorem cal_started {P : Program} {w : World} {K : PySem.W.Frag} {mg : Str → Option Value} {base : Heap} (d : DefM K mg "started" s_started) (M : Mb mg) (c_tasks_of : Cal P w K mg base 1 "tasks_of" (spP K 1 F_tasks_of)) (c_is_enough_start : Cal P w K mg base 2 "is_enough_start" (spP K 3 F_is_enough_start)) : Cal P w K mg base 3 "started" (spP K 1 F_started) := by
  obtain ⟨f, fd, F, hm⟩ := d
  exact ⟨f, fd, P_started, ok_fnP F sc_started (g := F_started) (fun ds d _ h => h) (fun cdv A outer s H E hr => b_started ⟨rfl, rfl, rfl, hr, PassesOwn.never, sc_started.nd⟩ (fun _ => rfl) M c_tasks_of c_is_enough_start), hm, F.kp, F.bindsN (ps := P_started) fun _ _ _ _ _ _ us hl => match us, hl with | [_], _ => rfl⟩
/-! ### _are_rows -/
def N__are_rows : List Str := ["system", "thing", "row"]
def P__are_rows : List Str := ["system", "thing"]
noncomputable def f__are_rows : DS := (dSeq (dIf (tOrB (tNotB (tru (qIsi .tuple (pVar 1)))) (tNotB (tru (qCall allD (aCons (dLc (iSeq (pVar 1)) (gN 2) tYesD (qCall (fun ds => if ds.length = 1 then F_is_pair ds else none) (aCons (qVar 2) aNil)) [2]) aNil))))) (dRet (qC (.bool false))) dNil) (dRet (q2 eqD (dLc (iSeq (pVar 1)) (gN 2) tYesD (q2 getD' (pVar 2) (qC (.int 0))) [2]) (qCall (fun ds => if ds.length = 1 then F_names_of ds else none) (aCons (qVar 0) aNil)))))
noncomputable def F__are_rows : List PD → Option PD := fnD 3 f__are_rows
theorem sc__are_rows : FnScope N__are_rows P__are_rows (defScope s__are_rows) := ⟨rfl, rfl, rfl, by decide +kernel, rfl, by decide +kernel, by decide +kernel⟩
theorem b__are_rows {X : Cx} (B : Bd X N__are_rows (defScope s__are_rows) 1) (fn : ∀ x, X.fn x = true) (M : Mb X.mg) (c_names_of : CalX X 1 "names_of" (spP X.K 1 F_names_of)) (c_is_pair : CalX X 1 "is_pair" (spP X.K 1 F_is_pair)) : SSs X (defBody s__are_rows) f__are_rows :=
  (sss_cons (ss_if (tq_w (wq_or (tq_not (tq_tru (pq_of (qe_isi (T := .tuple) (B.gl (by kernel_rfl)) M.isinstance PyProof.Rows.Boot.isinstance (pv_ B 1 (by kernel_rfl)) (B.gl (by kernel_rfl)) M.tuple PyProof.Rows.Boot.tuple)))) (wq_or1 (tq_not (tq_tru (pq_of (qe_callB (cr_all B.calm) ok_all (B.gl (by kernel_rfl)) M.all PyProof.Rows.Boot.all (qap_cons (pq_of (qe_of (fe_lcB (own := [("row", 2)]) B (qi_seq (pv_ B 1 (by kernel_rfl))) (by kernel_rfl) (fun s1 H1 C1 l1 p1 B1 => (gb_ B s1 H1 C1 l1 p1 _ 2 (by kernel_rfl))) (fun s1 H1 C1 l1 p1 B1 => tsq_nil) (fun s1 H1 C1 l1 p1 B1 => (qe_call c_is_pair B1.room (by decide) (B1.gl (by kernel_rfl)) (qa_cons (qv_ B1 2 (by kernel_rfl)) qa_nil))) (by decide)))) qap_nil)))))))) (sss_one (ss_ret qe_bl)) sss_nil) (sss_one (ss_ret (qe_cmp (op_eqP B.hu) ok_eq (pq_of (qe_of (fe_lcB (own := [("row", 2)]) B (qi_seq (pv_ B 1 (by kernel_rfl))) (by kernel_rfl) (fun s1 H1 C1 l1 p1 B1 => (gb_ B s1 H1 C1 l1 p1 _ 2 (by kernel_rfl))) (fun s1 H1 C1 l1 p1 B1 => tsq_nil) (fun s1 H1 C1 l1 p1 B1 => (qe_ix B1.hu (pv_ B1 2 (by kernel_rfl)) (pq_of qe_int) (fun _ _ => rfl))) (by decide)))) (pq_of (qe_call c_names_of B.room (by decide) (B.gl (by kernel_rfl)) (qa_cons (qv_ B 0 (by kernel_rfl)) qa_nil))) (by rfl)))))
theorem cal__are_rows {P : Program} {w : World} {K : PySem.W.Frag} {mg : Str → Option Value} {base : Heap} (d : DefM K mg "_are_rows" s__are_rows) (M : Mb mg) (c_names_of : Cal P w K mg base 1 "names_of" (spP K 1 F_names_of)) (c_is_pair : Cal P w K mg base 1 "is_pair" (spP K 1 F_is_pair)) : Cal P w K mg base 2 "_are_rows" (spP K 2 F__are_rows) := by
  obtain ⟨f, fd, F, hm⟩ := d
  exact ⟨f, fd, P__are_rows, ok_fnP F sc__are_rows (g := F__are_rows) (fun ds d _ h => h) (fun cdv A outer s H E hr => b__are_rows ⟨rfl, rfl, rfl, hr, PassesOwn.never, sc__are_rows.nd⟩ (fun _ => rfl) M c_names_of c_is_pair), hm, F.kp, F.bindsN (ps := P__are_rows) fun _ _ _ _ _ _ us hl => match us, hl with | [_, _], _ => rfl⟩
/-! ### _are_times -/
def N__are_times : List Str := ["system", "thing", "name", "n", "row", "task"]
def P__are_times : List Str := ["system", "thing"]
noncomputable def f__are_times : DS := (dSeq (dIf (tOrB (tNotB (tru (qCall (fun ds => if ds.length = 1 then F_is_timed ds else none) (aCons (qVar 0) aNil)))) (tNotB (tru (qCall (fun ds => if ds.length = 2 then F__are_rows ds else none) (aCons (qVar 0) (aCons (qVar 1) aNil)))))) (dRet (qC (.bool false))) dNil) (dSeq (dIf (tNotB (tru (qCall allD (aCons (dLc (iZp (aCons (pVar 1) (aCons (qCall (fun ds => if ds.length = 1 then F_tasks_of ds else none) (aCons (qVar 0) aNil)) aNil))) (gT 2 (gsCons (gN 4) (gsCons (gN 5) gsNil))) tYesD (qCall (fun ds => if ds.length = 3 then F_is_between ds else none) (aCons (q2 getD' (pVar 4) (qC (.int 1))) (aCons (qC (.int 1)) (aCons (q2 getD' (pVar 5) (qC (.int 4))) aNil)))) [4, 5]) aNil)))) (dRet (qC (.bool false))) dNil) (dRet (qCall allD (aCons (dLc (iSeq (pVar 1)) (gT 2 (gsCons (gN 2) (gsCons (gN 3) gsNil))) tYesD (qCall (fun ds => if ds.length = 3 then F_is_enough_time ds else none) (aCons (qVar 0) (aCons (qVar 2) (aCons (qVar 3) aNil)))) [2, 3]) aNil)))))
noncomputable def F__are_times : List PD → Option PD := fnD 6 f__are_times
theorem sc__are_times : FnScope N__are_times P__are_times (defScope s__are_times) := ⟨rfl, rfl, rfl, by decide +kernel, rfl, by decide +kernel, by decide +kernel⟩
theorem b__are_times {X : Cx} (B : Bd X N__are_times (defScope s__are_times) 4) (fn : ∀ x, X.fn x = true) (M : Mb X.mg) (c_is_enough_time : CalX X 4 "is_enough_time" (spP X.K 3 F_is_enough_time)) (c_tasks_of : CalX X 1 "tasks_of" (spP X.K 1 F_tasks_of)) (c_is_between : CalX X 2 "is_between" (spP X.K 3 F_is_between)) (c__are_rows : CalX X 2 "_are_rows" (spP X.K 2 F__are_rows)) (c_is_timed : CalX X 1 "is_timed" (spP X.K 1 F_is_timed)) : SSs X (defBody s__are_times) f__are_times :=
  (sss_cons (ss_if (tq_w (wq_or (tq_not (tq_tru (pq_of (qe_call c_is_timed B.room (by decide) (B.gl (by kernel_rfl)) (qa_cons (qv_ B 0 (by kernel_rfl)) qa_nil))))) (wq_or1 (tq_not (tq_tru (pq_of (qe_call c__are_rows B.room (by decide) (B.gl (by kernel_rfl)) (qa_cons (qv_ B 0 (by kernel_rfl)) (qa_cons (qv_ B 1 (by kernel_rfl)) qa_nil))))))))) (sss_one (ss_ret qe_bl)) sss_nil) (sss_cons (ss_if (tq_not (tq_tru (pq_of (qe_callB (cr_all B.calm) ok_all (B.gl (by kernel_rfl)) M.all PyProof.Rows.Boot.all (qap_cons (pq_of (qe_of (fe_lcB (own := [("row", 4), ("task", 5)]) B (qi_zip (B.gl (by kernel_rfl)) M.zip (qap_cons (pv_ B 1 (by kernel_rfl)) (qap_cons (pq_of (qe_call c_tasks_of B.room (by decide) (B.gl (by kernel_rfl)) (qa_cons (qv_ B 0 (by kernel_rfl)) qa_nil))) qap_nil))) (by kernel_rfl) (fun s1 H1 C1 l1 p1 B1 => (gt_tup B1.calm (gts_cons (gb_ B s1 H1 C1 l1 p1 _ 4 (by kernel_rfl)) (gts_cons (gb_ B s1 H1 C1 l1 p1 _ 5 (by kernel_rfl)) gts_nil)))) (fun s1 H1 C1 l1 p1 B1 => tsq_nil) (fun s1 H1 C1 l1 p1 B1 => (qe_call c_is_between B1.room (by decide) (B1.gl (by kernel_rfl)) (qa_cons (qe_ix B1.hu (pv_ B1 4 (by kernel_rfl)) (pq_of qe_int) (fun _ _ => rfl)) (qa_cons qe_int (qa_cons (qe_ix B1.hu (pv_ B1 5 (by kernel_rfl)) (pq_of qe_int) (fun _ _ => rfl)) qa_nil))))) (by decide)))) qap_nil))))) (sss_one (ss_ret qe_bl)) sss_nil) (sss_one (ss_ret (qe_callB (cr_all B.calm) ok_all (B.gl (by kernel_rfl)) M.all PyProof.Rows.Boot.all (qap_cons (pq_of (qe_of (fe_lcB (own := [("name", 2), ("n", 3)]) B (qi_seq (pv_ B 1 (by kernel_rfl))) (by kernel_rfl) (fun s1 H1 C1 l1 p1 B1 => (gt_tup B1.calm (gts_cons (gb_ B s1 H1 C1 l1 p1 _ 2 (by kernel_rfl)) (gts_cons (gb_ B s1 H1 C1 l1 p1 _ 3 (by kernel_rfl)) gts_nil)))) (fun s1 H1 C1 l1 p1 B1 => tsq_nil) (fun s1 H1 C1 l1 p1 B1 => (qe_call c_is_enough_time B1.room (by decide) (B1.gl (by kernel_rfl)) (qa_cons (qv_ B1 0 (by kernel_rfl)) (qa_cons (qv_ B1 2 (by kernel_rfl)) (qa_cons (qv_ B1 3 (by kernel_rfl)) qa_nil))))) (by decide)))) qap_nil))))))
theorem cal__are_times {P : Program} {w : World} {K : PySem.W.Frag} {mg : Str → Option Value} {base : Heap} (d : DefM K mg "_are_times" s__are_times) (M : Mb mg) (c_is_enough_time : Cal P w K mg base 4 "is_enough_time" (spP K 3 F_is_enough_time)) (c_tasks_of : Cal P w K mg base 1 "tasks_of" (spP K 1 F_tasks_of)) (c_is_between : Cal P w K mg base 2 "is_between" (spP K 3 F_is_between)) (c__are_rows : Cal P w K mg base 2 "_are_rows" (spP K 2 F__are_rows)) (c_is_timed : Cal P w K mg base 1 "is_timed" (spP K 1 F_is_timed)) : Cal P w K mg base 5 "_are_times" (spP K 2 F__are_times) := by
  obtain ⟨f, fd, F, hm⟩ := d
  exact ⟨f, fd, P__are_times, ok_fnP F sc__are_times (g := F__are_times) (fun ds d _ h => h) (fun cdv A outer s H E hr => b__are_times ⟨rfl, rfl, rfl, hr, PassesOwn.never, sc__are_times.nd⟩ (fun _ => rfl) M c_is_enough_time c_tasks_of c_is_between c__are_rows c_is_timed), hm, F.kp, F.bindsN (ps := P__are_times) fun _ _ _ _ _ _ us hl => match us, hl with | [_, _], _ => rfl⟩
/-! ### _are_starts -/
def N__are_starts : List Str := ["system", "thing", "at", "row", "task"]
def P__are_starts : List Str := ["system", "thing"]
noncomputable def f__are_starts : DS := (dSeq (dIf (tOrB (tNotB (tru (qCall (fun ds => if ds.length = 1 then F_is_started ds else none) (aCons (qVar 0) aNil)))) (tNotB (tru (qCall (fun ds => if ds.length = 2 then F__are_rows ds else none) (aCons (qVar 0) (aCons (qVar 1) aNil)))))) (dRet (qC (.bool false))) dNil) (dSeq (dIf (tNotB (tru (qCall allD (aCons (dLc (iZp (aCons (pVar 1) (aCons (qCall (fun ds => if ds.length = 1 then F_tasks_of ds else none) (aCons (qVar 0) aNil)) aNil))) (gT 2 (gsCons (gN 3) (gsCons (gN 4) gsNil))) tYesD (qCall (fun ds => if ds.length = 3 then F_is_between ds else none) (aCons (q2 getD' (pVar 3) (qC (.int 1))) (aCons (qC (.int 0)) (aCons (q2 subD (q2 getD' (pVar 4) (qC (.int 4))) (q2 getD' (pVar 4) (qC (.int 6)))) aNil)))) [3, 4]) aNil)))) (dRet (qC (.bool false))) dNil) (dRet (qCall allD (aCons (dLc (iEn (pVar 1)) (gT 2 (gsCons (gN 2) (gsCons (gN 3) gsNil))) tYesD (qCall (fun ds => if ds.length = 3 then F_is_enough_start ds else none) (aCons (qVar 0) (aCons (qVar 2) (aCons (q2 getD' (pVar 3) (qC (.int 1))) aNil)))) [2, 3]) aNil)))))
noncomputable def F__are_starts : List PD → Option PD := fnD 5 f__are_starts
theorem sc__are_starts : FnScope N__are_starts P__are_starts (defScope s__are_starts) := ⟨rfl, rfl, rfl, by decide +kernel, rfl, by decide +kernel, by decide +kernel⟩
theorem b__are_starts {X : Cx} (B : Bd X N__are_starts (defScope s__are_starts) 2) (fn : ∀ x, X.fn x = true) (M : Mb X.mg) (c_is_enough_start : CalX X 2 "is_enough_start" (spP X.K 3 F_is_enough_start)) (c_tasks_of : CalX X 1 "tasks_of" (spP X.K 1 F_tasks_of)) (c_is_between : CalX X 2 "is_between" (spP X.K 3 F_is_between)) (c__are_rows : CalX X 2 "_are_rows" (spP X.K 2 F__are_rows)) (c_is_started : CalX X 2 "is_started" (spP X.K 1 F_is_started)) : SSs X (defBody s__are_starts) f__are_starts :=
  (sss_cons (ss_if (tq_w (wq_or (tq_not (tq_tru (pq_of (qe_call c_is_started B.room (by decide) (B.gl (by kernel_rfl)) (qa_cons (qv_ B 0 (by kernel_rfl)) qa_nil))))) (wq_or1 (tq_not (tq_tru (pq_of (qe_call c__are_rows B.room (by decide) (B.gl (by kernel_rfl)) (qa_cons (qv_ B 0 (by kernel_rfl)) (qa_cons (qv_ B 1 (by kernel_rfl)) qa_nil))))))))) (sss_one (ss_ret qe_bl)) sss_nil) (sss_cons (ss_if (tq_not (tq_tru (pq_of (qe_callB (cr_all B.calm) ok_all (B.gl (by kernel_rfl)) M.all PyProof.Rows.Boot.all (qap_cons (pq_of (qe_of (fe_lcB (own := [("row", 3), ("task", 4)]) B (qi_zip (B.gl (by kernel_rfl)) M.zip (qap_cons (pv_ B 1 (by kernel_rfl)) (qap_cons (pq_of (qe_call c_tasks_of B.room (by decide) (B.gl (by kernel_rfl)) (qa_cons (qv_ B 0 (by kernel_rfl)) qa_nil))) qap_nil))) (by kernel_rfl) (fun s1 H1 C1 l1 p1 B1 => (gt_tup B1.calm (gts_cons (gb_ B s1 H1 C1 l1 p1 _ 3 (by kernel_rfl)) (gts_cons (gb_ B s1 H1 C1 l1 p1 _ 4 (by kernel_rfl)) gts_nil)))) (fun s1 H1 C1 l1 p1 B1 => tsq_nil) (fun s1 H1 C1 l1 p1 B1 => (qe_call c_is_between B1.room (by decide) (B1.gl (by kernel_rfl)) (qa_cons (qe_ix B1.hu (pv_ B1 3 (by kernel_rfl)) (pq_of qe_int) (fun _ _ => rfl)) (qa_cons qe_int (qa_cons (qe_op op_sub ok_sub (pq_of (qe_ix B1.hu (pv_ B1 4 (by kernel_rfl)) (pq_of qe_int) (fun _ _ => rfl))) (pq_of (qe_ix B1.hu (pv_ B1 4 (by kernel_rfl)) (pq_of qe_int) (fun _ _ => rfl)))) qa_nil))))) (by decide)))) qap_nil))))) (sss_one (ss_ret qe_bl)) sss_nil) (sss_one (ss_ret (qe_callB (cr_all B.calm) ok_all (B.gl (by kernel_rfl)) M.all PyProof.Rows.Boot.all (qap_cons (pq_of (qe_of (fe_lcB (own := [("at", 2), ("row", 3)]) B (qi_enum (B.gl (by kernel_rfl)) M.enumerate (pv_ B 1 (by kernel_rfl))) (by kernel_rfl) (fun s1 H1 C1 l1 p1 B1 => (gt_tup B1.calm (gts_cons (gb_ B s1 H1 C1 l1 p1 _ 2 (by kernel_rfl)) (gts_cons (gb_ B s1 H1 C1 l1 p1 _ 3 (by kernel_rfl)) gts_nil)))) (fun s1 H1 C1 l1 p1 B1 => tsq_nil) (fun s1 H1 C1 l1 p1 B1 => (qe_call c_is_enough_start B1.room (by decide) (B1.gl (by kernel_rfl)) (qa_cons (qv_ B1 0 (by kernel_rfl)) (qa_cons (qv_ B1 2 (by kernel_rfl)) (qa_cons (qe_ix B1.hu (pv_ B1 3 (by kernel_rfl)) (pq_of qe_int) (fun _ _ => rfl)) qa_nil))))) (by decide)))) qap_nil))))))
theorem cal__are_starts {P : Program} {w : World} {K : PySem.W.Frag} {mg : Str → Option Value} {base : Heap} (d : DefM K mg "_are_starts" s__are_starts) (M : Mb mg) (c_is_enough_start : Cal P w K mg base 2 "is_enough_start" (spP K 3 F_is_enough_start)) (c_tasks_of : Cal P w K mg base 1 "tasks_of" (spP K 1 F_tasks_of)) (c_is_between : Cal P w K mg base 2 "is_between" (spP K 3 F_is_between)) (c__are_rows : Cal P w K mg base 2 "_are_rows" (spP K 2 F__are_rows)) (c_is_started : Cal P w K mg base 2 "is_started" (spP K 1 F_is_started)) : Cal P w K mg base 3 "_are_starts" (spP K 2 F__are_starts) := by
  obtain ⟨f, fd, F, hm⟩ := d
  exact ⟨f, fd, P__are_starts, ok_fnP F sc__are_starts (g := F__are_starts) (fun ds d _ h => h) (fun cdv A outer s H E hr => b__are_starts ⟨rfl, rfl, rfl, hr, PassesOwn.never, sc__are_starts.nd⟩ (fun _ => rfl) M c_is_enough_start c_tasks_of c_is_between c__are_rows c_is_started), hm, F.kp, F.bindsN (ps := P__are_starts) fun _ _ _ _ _ _ us hl => match us, hl with | [_, _], _ => rfl⟩
/-! ### is_paper -/
def N_is_paper : List Str := ["system", "thing", "at"]
def P_is_paper : List Str := ["system", "thing"]
noncomputable def f_is_paper : DS := (dSeq (dIf (tOrB (tNotB (tru (qIsi .tuple (pVar 1)))) (tNotB (asB (qChain leD leD (qC (.int 1)) (qCall lenD (aCons (pVar 1) aNil)) (qC (.int 2)))))) (dRet (qC (.bool false))) dNil) (dSeq (dIf (asB (q2 eqD (qCall lenD (aCons (pVar 1) aNil)) (qC (.int 1)))) (dSeq (dIf (asB (q2 eqD (q2 getD' (pVar 1) (qC (.int 0))) (qC (.str "work")))) (dRet (qAnd (fun _ => none) (qCall allD (aCons (dLc (iRng1 (aCons (qCall lenD (aCons (qCall (fun ds => if ds.length = 1 then F_tasks_of ds else none) (aCons (qVar 0) aNil)) aNil)) aNil)) (gN 2) tYesD (fun _ => none) [2]) aNil)))) dNil) (dRet (qAnd (q2 eqD (q2 getD' (pVar 1) (qC (.int 0))) (qC (.str "density"))) (qAnd (fun _ => none) (fun _ => none))))) dNil) (dSeq (dIf (asB (q2 inD (q2 getD' (pVar 1) (qC (.int 0))) (qTup (aCons (qC (.str "states")) (aCons (qC (.str "covers")) aNil))))) (fun _ => none) dNil) (dSeq (dIf (asB (q2 eqD (q2 getD' (pVar 1) (qC (.int 0))) (qC (.str "times")))) (dRet (qCall (fun ds => if ds.length = 2 then F__are_times ds else none) (aCons (qVar 0) (aCons (q2 getD' (pVar 1) (qC (.int 1))) aNil)))) dNil) (dSeq (dIf (asB (q2 eqD (q2 getD' (pVar 1) (qC (.int 0))) (qC (.str "starts")))) (dRet (qCall (fun ds => if ds.length = 2 then F__are_starts ds else none) (aCons (qVar 0) (aCons (q2 getD' (pVar 1) (qC (.int 1))) aNil)))) dNil) (dSeq (dIf (asB (q2 eqD (q2 getD' (pVar 1) (qC (.int 0))) (qC (.str "blocked")))) (fun _ => none) dNil) (dRet (qAnd (q2 eqD (q2 getD' (pVar 1) (qC (.int 0))) (qC (.str "demand"))) (fun _ => none)))))))))
noncomputable def F_is_paper : List PD → Option PD := fnD 3 f_is_paper
theorem sc_is_paper : FnScope N_is_paper P_is_paper (defScope s_is_paper) := ⟨rfl, rfl, rfl, by decide +kernel, rfl, by decide +kernel, by decide +kernel⟩
theorem b_is_paper {X : Cx} (B : Bd X N_is_paper (defScope s_is_paper) 5) (fn : ∀ x, X.fn x = true) (M : Mb X.mg) (c__are_starts : CalX X 3 "_are_starts" (spP X.K 2 F__are_starts)) (c__are_times : CalX X 5 "_are_times" (spP X.K 2 F__are_times)) (c_tasks_of : CalX X 1 "tasks_of" (spP X.K 1 F_tasks_of)) : SSs X (defBody s_is_paper) f_is_paper :=
  (sss_cons (ss_if (tq_w (wq_or (tq_not (tq_tru (pq_of (qe_isi (T := .tuple) (B.gl (by kernel_rfl)) M.isinstance PyProof.Rows.Boot.isinstance (pv_ B 1 (by kernel_rfl)) (B.gl (by kernel_rfl)) M.tuple PyProof.Rows.Boot.tuple)))) (wq_or1 (tq_not (tq_chain op_le op_le ok_cmpI ok_cmpI (pq_of qe_int) (pq_of (qe_callB cr_len ok_len (B.gl (by kernel_rfl)) M.len PyProof.Rows.Boot.len (qap_cons (pv_ B 1 (by kernel_rfl)) qap_nil))) (pq_of qe_int) (by rfl)))))) (sss_one (ss_ret qe_bl)) sss_nil) (sss_cons (ss_if (tq_cmp (op_eqP B.hu) ok_eq (pq_of (qe_callB cr_len ok_len (B.gl (by kernel_rfl)) M.len PyProof.Rows.Boot.len (qap_cons (pv_ B 1 (by kernel_rfl)) qap_nil))) (pq_of qe_int) (by rfl)) (sss_cons (ss_if (tq_cmp (op_eqP B.hu) ok_eq (pq_of (qe_ix B.hu (pv_ B 1 (by kernel_rfl)) (pq_of qe_int) (fun _ _ => rfl))) (pq_of qe_str) (by rfl)) (sss_one (ss_ret (qe_and qe_no (qe_one (qe_callB (cr_all B.calm) ok_all (B.gl (by kernel_rfl)) M.all PyProof.Rows.Boot.all (qap_cons (pq_of (qe_of (fe_lcB (own := [("at", 2)]) B (qi_rng1 (B.gl (by kernel_rfl)) M.range (qap_cons (pq_of (qe_callB cr_len ok_len (B.gl (by kernel_rfl)) M.len PyProof.Rows.Boot.len (qap_cons (pq_of (qe_call c_tasks_of B.room (by decide) (B.gl (by kernel_rfl)) (qa_cons (qv_ B 0 (by kernel_rfl)) qa_nil))) qap_nil))) qap_nil)) (by kernel_rfl) (fun s1 H1 C1 l1 p1 B1 => (gb_ B s1 H1 C1 l1 p1 _ 2 (by kernel_rfl))) (fun s1 H1 C1 l1 p1 B1 => tsq_nil) (fun s1 H1 C1 l1 p1 B1 => qe_no) (by decide)))) qap_nil)))))) sss_nil) (sss_one (ss_ret (qe_and (qe_cmp (op_eqP B.hu) ok_eq (pq_of (qe_ix B.hu (pv_ B 1 (by kernel_rfl)) (pq_of qe_int) (fun _ _ => rfl))) (pq_of qe_str) (by rfl)) (qe_and qe_no (qe_one qe_no)))))) sss_nil) (sss_cons (ss_if (tq_cmp (op_inA B.hu) ok_in (pq_of (qe_ix B.hu (pv_ B 1 (by kernel_rfl)) (pq_of qe_int) (fun _ _ => rfl))) (pq_of (qe_tup (qa_cons qe_str (qa_cons qe_str qa_nil)))) (by rfl)) (sss_one ss_no) sss_nil) (sss_cons (ss_if (tq_cmp (op_eqP B.hu) ok_eq (pq_of (qe_ix B.hu (pv_ B 1 (by kernel_rfl)) (pq_of qe_int) (fun _ _ => rfl))) (pq_of qe_str) (by rfl)) (sss_one (ss_ret (qe_call c__are_times B.room (by decide) (B.gl (by kernel_rfl)) (qa_cons (qv_ B 0 (by kernel_rfl)) (qa_cons (qe_ix B.hu (pv_ B 1 (by kernel_rfl)) (pq_of qe_int) (fun _ _ => rfl)) qa_nil))))) sss_nil) (sss_cons (ss_if (tq_cmp (op_eqP B.hu) ok_eq (pq_of (qe_ix B.hu (pv_ B 1 (by kernel_rfl)) (pq_of qe_int) (fun _ _ => rfl))) (pq_of qe_str) (by rfl)) (sss_one (ss_ret (qe_call c__are_starts B.room (by decide) (B.gl (by kernel_rfl)) (qa_cons (qv_ B 0 (by kernel_rfl)) (qa_cons (qe_ix B.hu (pv_ B 1 (by kernel_rfl)) (pq_of qe_int) (fun _ _ => rfl)) qa_nil))))) sss_nil) (sss_cons (ss_if (tq_cmp (op_eqP B.hu) ok_eq (pq_of (qe_ix B.hu (pv_ B 1 (by kernel_rfl)) (pq_of qe_int) (fun _ _ => rfl))) (pq_of qe_str) (by rfl)) (sss_one ss_no) sss_nil) (sss_one (ss_ret (qe_and (qe_cmp (op_eqP B.hu) ok_eq (pq_of (qe_ix B.hu (pv_ B 1 (by kernel_rfl)) (pq_of qe_int) (fun _ _ => rfl))) (pq_of qe_str) (by rfl)) (qe_one qe_no))))))))))
theorem cal_is_paper {P : Program} {w : World} {K : PySem.W.Frag} {mg : Str → Option Value} {base : Heap} (d : DefM K mg "is_paper" s_is_paper) (M : Mb mg) (c__are_starts : Cal P w K mg base 3 "_are_starts" (spP K 2 F__are_starts)) (c__are_times : Cal P w K mg base 5 "_are_times" (spP K 2 F__are_times)) (c_tasks_of : Cal P w K mg base 1 "tasks_of" (spP K 1 F_tasks_of)) : Cal P w K mg base 6 "is_paper" (spP K 2 F_is_paper) := by
  obtain ⟨f, fd, F, hm⟩ := d
  exact ⟨f, fd, P_is_paper, ok_fnP F sc_is_paper (g := F_is_paper) (fun ds d _ h => h) (fun cdv A outer s H E hr => b_is_paper ⟨rfl, rfl, rfl, hr, PassesOwn.never, sc_is_paper.nd⟩ (fun _ => rfl) M c__are_starts c__are_times c_tasks_of), hm, F.kp, F.bindsN (ps := P_is_paper) fun _ _ _ _ _ _ us hl => match us, hl with | [_, _], _ => rfl⟩
/-! ### check -/
def N_check : List Str := ["system", "claim"]
def P_check : List Str := ["system", "claim"]
noncomputable def f_check : DS := (dSeq (dIf (tNotB (tru (qCall (fun ds => if ds.length = 1 then F_is_pair ds else none) (aCons (qVar 1) aNil)))) (dRet (qC (.bool false))) dNil) (dSeq (dIf (asB (q2 eqD (q2 getD' (pVar 1) (qC (.int 0))) (qC (.str "late")))) (fun _ => none) dNil) (dRet (qAnd (q2 eqD (q2 getD' (pVar 1) (qC (.int 0))) (qC (.str "meets"))) (qCall (fun ds => if ds.length = 2 then F_is_paper ds else none) (aCons (qVar 0) (aCons (q2 getD' (pVar 1) (qC (.int 1))) aNil)))))))
noncomputable def F_check : List PD → Option PD := fnD 2 f_check
theorem sc_check : FnScope N_check P_check (defScope s_check) := ⟨rfl, rfl, rfl, by decide +kernel, rfl, by decide +kernel, by decide +kernel⟩
theorem b_check {X : Cx} (B : Bd X N_check (defScope s_check) 6) (fn : ∀ x, X.fn x = true) (M : Mb X.mg) (c_is_paper : CalX X 6 "is_paper" (spP X.K 2 F_is_paper)) (c_is_pair : CalX X 1 "is_pair" (spP X.K 1 F_is_pair)) : SSs X (defBody s_check) f_check :=
  (sss_cons (ss_if (tq_not (tq_tru (pq_of (qe_call c_is_pair B.room (by decide) (B.gl (by kernel_rfl)) (qa_cons (qv_ B 1 (by kernel_rfl)) qa_nil))))) (sss_one (ss_ret qe_bl)) sss_nil) (sss_cons (ss_if (tq_cmp (op_eqP B.hu) ok_eq (pq_of (qe_ix B.hu (pv_ B 1 (by kernel_rfl)) (pq_of qe_int) (fun _ _ => rfl))) (pq_of qe_str) (by rfl)) (sss_one ss_no) sss_nil) (sss_one (ss_ret (qe_and (qe_cmp (op_eqP B.hu) ok_eq (pq_of (qe_ix B.hu (pv_ B 1 (by kernel_rfl)) (pq_of qe_int) (fun _ _ => rfl))) (pq_of qe_str) (by rfl)) (qe_one (qe_call c_is_paper B.room (by decide) (B.gl (by kernel_rfl)) (qa_cons (qv_ B 0 (by kernel_rfl)) (qa_cons (qe_ix B.hu (pv_ B 1 (by kernel_rfl)) (pq_of qe_int) (fun _ _ => rfl)) qa_nil)))))))))
theorem cal_check {P : Program} {w : World} {K : PySem.W.Frag} {mg : Str → Option Value} {base : Heap} (d : DefM K mg "check" s_check) (M : Mb mg) (c_is_paper : Cal P w K mg base 6 "is_paper" (spP K 2 F_is_paper)) (c_is_pair : Cal P w K mg base 1 "is_pair" (spP K 1 F_is_pair)) : Cal P w K mg base 7 "check" (spP K 2 F_check) := by
  obtain ⟨f, fd, F, hm⟩ := d
  exact ⟨f, fd, P_check, ok_fnP F sc_check (g := F_check) (fun ds d _ h => h) (fun cdv A outer s H E hr => b_check ⟨rfl, rfl, rfl, hr, PassesOwn.never, sc_check.nd⟩ (fun _ => rfl) M c_is_paper c_is_pair), hm, F.kp, F.bindsN (ps := P_check) fun _ _ _ _ _ _ us hl => match us, hl with | [_, _], _ => rfl⟩
/-! ### _last_of -/
def N__last_of : List Str := ["system", "left", "name", "order", "part", "own", "n"]
def P__last_of : List Str := ["system", "left"]
noncomputable def L__last_of_1 : DS := (dSeq (dSet 3 (q2 addD (dLc (iSeq (pVar 1)) (gN 5) (asB (q2 neD (pVar 5) (pVar 2))) (qVar 5) [5]) (qLst (aCons (qVar 2) aNil)))) (dSeq (dSet 4 (qCall (fun ds => if ds.length = 2 then F_with_order ds else none) (aCons (qCall (fun ds => if ds.length = 2 then F_only ds else none) (aCons (qVar 0) (aCons (qVar 1) aNil))) (aCons (qVar 3) aNil)))) (dIf (tru (qCall anyD (aCons (dLc (iRng2 (aCons (qC (.int 1)) (aCons (q2 addD (q2 getD' (qCall (fun ds => if ds.length = 2 then F_task_of ds else none) (aCons (qVar 0) (aCons (qVar 2) aNil))) (qC (.int 4))) (qC (.int 1))) aNil))) (gN 6) tYesD (qCall (fun ds => if ds.length = 3 then F_is_enough_time ds else none) (aCons (qVar 4) (aCons (qVar 2) (aCons (qVar 6) aNil)))) [6]) aNil))) (dRet (qVar 2)) dNil)))
noncomputable def f__last_of : DS := (dSeq (dFor (iRev (qVar 1)) (gN 2) L__last_of_1) (dRet (qC .none)))
noncomputable def F__last_of : List PD → Option PD := fnD 7 f__last_of
theorem sc__last_of : FnScope N__last_of P__last_of (defScope s__last_of) := ⟨rfl, rfl, rfl, by decide +kernel, rfl, by decide +kernel, by decide +kernel⟩
theorem b__last_of {X : Cx} (B : Bd X N__last_of (defScope s__last_of) 4) (fn : ∀ x, X.fn x = true) (M : Mb X.mg) (c_task_of : CalX X 2 "task_of" (spP X.K 2 F_task_of)) (c_is_enough_time : CalX X 4 "is_enough_time" (spP X.K 3 F_is_enough_time)) (c_only : CalX X 2 "only" (spP X.K 2 F_only)) (c_with_order : CalX X 3 "with_order" (spP X.K 2 F_with_order)) : SSs X (defBody s__last_of) f__last_of :=
  (sss_cons (ss_for B.po B.calm (qi_rev (B.gl (by kernel_rfl)) M.reversed (qv_ B 1 (by kernel_rfl))) (gd_ B fn 2 (by kernel_rfl)) (sss_cons (ss_set 3 B.nodup (B.at (by kernel_rfl)) (B.lc (by kernel_rfl)) (qe_op op_addA ok_add (pq_of (qe_of (fe_lcB (own := [("own", 5)]) B (qi_seq (pv_ B 1 (by kernel_rfl))) (by kernel_rfl) (fun s1 H1 C1 l1 p1 B1 => (gb_ B s1 H1 C1 l1 p1 _ 5 (by kernel_rfl))) (fun s1 H1 C1 l1 p1 B1 => (tsq_one (tq_cmp (op_neP B1.hu) ok_ne (pv_ B1 5 (by kernel_rfl)) (pv_ B1 2 (by kernel_rfl)) (by rfl)))) (fun s1 H1 C1 l1 p1 B1 => (qv_ B1 5 (by kernel_rfl))) (by decide)))) (pq_of (qe_of (fe_lst (qa_cons (qv_ B 2 (by kernel_rfl)) qa_nil))))) (.inl (fn _))) (sss_cons (ss_set 4 B.nodup (B.at (by kernel_rfl)) (B.lc (by kernel_rfl)) (qe_call c_with_order B.room (by decide) (B.gl (by kernel_rfl)) (qa_cons (qe_call c_only B.room (by decide) (B.gl (by kernel_rfl)) (qa_cons (qv_ B 0 (by kernel_rfl)) (qa_cons (qv_ B 1 (by kernel_rfl)) qa_nil))) (qa_cons (qv_ B 3 (by kernel_rfl)) qa_nil))) (.inl (fn _))) (sss_one (ss_if (tq_tru (pq_of (qe_callB (cr_any B.calm) ok_any (B.gl (by kernel_rfl)) M.any PyProof.Rows.Boot.any (qap_cons (pq_of (qe_of (fe_lcB (own := [("n", 6)]) B (qi_rng2 (B.gl (by kernel_rfl)) M.range (qap_cons (pq_of qe_int) (qap_cons (pq_of (qe_op op_addA ok_add (pq_of (qe_ix B.hu (pq_of (qe_call c_task_of B.room (by decide) (B.gl (by kernel_rfl)) (qa_cons (qv_ B 0 (by kernel_rfl)) (qa_cons (qv_ B 2 (by kernel_rfl)) qa_nil)))) (pq_of qe_int) (fun _ _ => rfl))) (pq_of qe_int))) qap_nil))) (by kernel_rfl) (fun s1 H1 C1 l1 p1 B1 => (gb_ B s1 H1 C1 l1 p1 _ 6 (by kernel_rfl))) (fun s1 H1 C1 l1 p1 B1 => tsq_nil) (fun s1 H1 C1 l1 p1 B1 => (qe_call c_is_enough_time B1.room (by decide) (B1.gl (by kernel_rfl)) (qa_cons (qv_ B1 4 (by kernel_rfl)) (qa_cons (qv_ B1 2 (by kernel_rfl)) (qa_cons (qv_ B1 6 (by kernel_rfl)) qa_nil))))) (by decide)))) qap_nil)))) (sss_one (ss_ret (qv_ B 2 (by kernel_rfl)))) sss_nil))))) (sss_one (ss_ret qe_non)))
theorem cal__last_of {P : Program} {w : World} {K : PySem.W.Frag} {mg : Str → Option Value} {base : Heap} (d : DefM K mg "_last_of" s__last_of) (M : Mb mg) (c_task_of : Cal P w K mg base 2 "task_of" (spP K 2 F_task_of)) (c_is_enough_time : Cal P w K mg base 4 "is_enough_time" (spP K 3 F_is_enough_time)) (c_only : Cal P w K mg base 2 "only" (spP K 2 F_only)) (c_with_order : Cal P w K mg base 3 "with_order" (spP K 2 F_with_order)) : Cal P w K mg base 5 "_last_of" (spP K 2 F__last_of) := by
  obtain ⟨f, fd, F, hm⟩ := d
  exact ⟨f, fd, P__last_of, ok_fnP F sc__last_of (g := F__last_of) (fun ds d _ h => h) (fun cdv A outer s H E hr => b__last_of ⟨rfl, rfl, rfl, hr, PassesOwn.never, sc__last_of.nd⟩ (fun _ => rfl) M c_task_of c_is_enough_time c_only c_with_order), hm, F.kp, F.bindsN (ps := P__last_of) fun _ _ _ _ _ _ us hl => match us, hl with | [_, _], _ => rfl⟩
/-! ### moved_last -/
def N_moved_last : List Str := ["system", "name", "names", "own"]
def P_moved_last : List Str := ["system", "name"]
noncomputable def f_moved_last : DS := (dSeq (dSet 2 (dLc (iSeq (qCall (fun ds => if ds.length = 1 then F_names_of ds else none) (aCons (qVar 0) aNil))) (gN 3) (asB (q2 neD (pVar 3) (pVar 1))) (qVar 3) [3])) (dRet (qCall (fun ds => if ds.length = 2 then F_with_order ds else none) (aCons (qVar 0) (aCons (q2 addD (pVar 2) (qLst (aCons (qVar 1) aNil))) aNil)))))
noncomputable def F_moved_last : List PD → Option PD := fnD 4 f_moved_last
theorem sc_moved_last : FnScope N_moved_last P_moved_last (defScope s_moved_last) := ⟨rfl, rfl, rfl, by decide +kernel, rfl, by decide +kernel, by decide +kernel⟩
theorem b_moved_last {X : Cx} (B : Bd X N_moved_last (defScope s_moved_last) 3) (fn : ∀ x, X.fn x = true) (M : Mb X.mg) (c_with_order : CalX X 3 "with_order" (spP X.K 2 F_with_order)) (c_names_of : CalX X 1 "names_of" (spP X.K 1 F_names_of)) : SSs X (defBody s_moved_last) f_moved_last :=
  (sss_cons (ss_setLcB 2 (own := [("own", 3)]) B sc_moved_last.kind (by kernel_rfl) (by kernel_rfl) (by kernel_rfl) (by kernel_rfl) (qi_seq (pq_of (qe_call c_names_of B.room (by decide) (B.gl (by kernel_rfl)) (qa_cons (qv_ B 0 (by kernel_rfl)) qa_nil)))) (by kernel_rfl) (fun s1 H1 C1 l1 p1 B1 => (gb_ B s1 H1 C1 l1 p1 _ 3 (by kernel_rfl))) (fun s1 H1 C1 l1 p1 B1 => (tsq_one (tq_cmp (op_neP B1.hu) ok_ne (pv_ B1 3 (by kernel_rfl)) (pv_ B1 1 (by kernel_rfl)) (by rfl)))) (fun s1 H1 C1 l1 p1 B1 => (qv_ B1 3 (by kernel_rfl))) (by decide)) (sss_one (ss_ret (qe_call c_with_order B.room (by decide) (B.gl (by kernel_rfl)) (qa_cons (qv_ B 0 (by kernel_rfl)) (qa_cons (qe_op op_addA ok_add (pv_ B 2 (by kernel_rfl)) (pq_of (qe_of (fe_lst (qa_cons (qv_ B 1 (by kernel_rfl)) qa_nil))))) qa_nil))))))
theorem cal_moved_last {P : Program} {w : World} {K : PySem.W.Frag} {mg : Str → Option Value} {base : Heap} (d : DefM K mg "moved_last" s_moved_last) (M : Mb mg) (c_with_order : Cal P w K mg base 3 "with_order" (spP K 2 F_with_order)) (c_names_of : Cal P w K mg base 1 "names_of" (spP K 1 F_names_of)) : Cal P w K mg base 4 "moved_last" (spP K 2 F_moved_last) := by
  obtain ⟨f, fd, F, hm⟩ := d
  exact ⟨f, fd, P_moved_last, ok_fnP F sc_moved_last (g := F_moved_last) (fun ds d _ h => h) (fun cdv A outer s H E hr => b_moved_last ⟨rfl, rfl, rfl, hr, PassesOwn.never, sc_moved_last.nd⟩ (fun _ => rfl) M c_with_order c_names_of), hm, F.kp, F.bindsN (ps := P_moved_last) fun _ _ _ _ _ _ us hl => match us, hl with | [_, _], _ => rfl⟩
/-! ### order_for -/
def N_order_for : List Str := ["system", "left", "order", "name", "own"]
def P_order_for : List Str := ["system"]
noncomputable def L_order_for_1 : DS := (dSeq (dSet 3 (qCall (fun ds => if ds.length = 2 then F__last_of ds else none) (aCons (qVar 0) (aCons (qVar 1) aNil)))) (dSeq (dIf (asB (q2 isD (pVar 3) (qC .none))) (dRet (qTup (aCons (qC (.str "none")) (aCons (qCall tupleD (aCons (pVar 1) aNil)) aNil)))) dNil) (dSeq (dSet 2 (q2 addD (qLst (aCons (qVar 3) aNil)) (pVar 2))) (dSet 1 (dLc (iSeq (pVar 1)) (gN 4) (asB (q2 neD (pVar 4) (pVar 3))) (qVar 4) [4])))))
noncomputable def f_order_for : DS := (dSeq (dPar [1, 2] (mCons false (qCall (fun ds => if ds.length = 1 then F_names_of ds else none) (aCons (qVar 0) aNil)) (mCons false (qLst aNil) mNil))) (dSeq (dWh (tru (pVar 1)) L_order_for_1) (dRet (qTup (aCons (qC (.str "order")) (aCons (qCall tupleD (aCons (pVar 2) aNil)) (aCons (q2 getD' (qCall (fun ds => if ds.length = 1 then F_timed ds else none) (aCons (qCall (fun ds => if ds.length = 2 then F_with_order ds else none) (aCons (qVar 0) (aCons (qVar 2) aNil))) aNil)) (qC (.int 1))) aNil)))))))
noncomputable def F_order_for : List PD → Option PD := fnD 5 f_order_for
theorem sc_order_for : FnScope N_order_for P_order_for (defScope s_order_for) := ⟨rfl, rfl, rfl, by decide +kernel, rfl, by decide +kernel, by decide +kernel⟩
theorem b_order_for {X : Cx} (B : Bd X N_order_for (defScope s_order_for) 6) (fn : ∀ x, X.fn x = true) (M : Mb X.mg) (c_with_order : CalX X 3 "with_order" (spP X.K 2 F_with_order)) (c_timed : CalX X 6 "timed" (spP X.K 1 F_timed)) (c__last_of : CalX X 5 "_last_of" (spP X.K 2 F__last_of)) (c_names_of : CalX X 1 "names_of" (spP X.K 1 F_names_of)) : SSs X (defBody s_order_for) f_order_for :=
  (sss_cons (ss_par2 1 2 B.calm B.nodup (B.at (by kernel_rfl)) (B.at (by kernel_rfl)) (by decide) (B.il (by kernel_rfl)) (B.il (by kernel_rfl)) (ma_sh (qe_call c_names_of B.room (by decide) (B.gl (by kernel_rfl)) (qa_cons (qv_ B 0 (by kernel_rfl)) qa_nil)) (ma_sh (qe_of (fe_lst qa_nil)) ma_nil)) (SW B sc_order_for.kind (by kernel_rfl))) (sss_cons (ss_while B.po (tq_tru (pv_ B 1 (by kernel_rfl))) (sss_cons (ss_set 3 B.nodup (B.at (by kernel_rfl)) (B.lc (by kernel_rfl)) (qe_call c__last_of B.room (by decide) (B.gl (by kernel_rfl)) (qa_cons (qv_ B 0 (by kernel_rfl)) (qa_cons (qv_ B 1 (by kernel_rfl)) qa_nil))) (.inl (fn _))) (sss_cons (ss_if (tq_cmp op_isA ok_is (pv_ B 3 (by kernel_rfl)) (pq_of qe_non) (by rfl)) (sss_one (ss_ret (qe_tup (qa_cons qe_str (qa_cons (qe_callTy call_tuple_of ok_tuple (B.gl (by kernel_rfl)) M.tuple PyProof.Rows.Boot.tuple (qap_cons (pv_ B 1 (by kernel_rfl)) qap_nil)) qa_nil))))) sss_nil) (sss_cons (ss_set 2 B.nodup (B.at (by kernel_rfl)) (B.lc (by kernel_rfl)) (qe_op op_addA ok_add (pq_of (qe_of (fe_lst (qa_cons (qv_ B 3 (by kernel_rfl)) qa_nil)))) (pv_ B 2 (by kernel_rfl))) (.inl (fn _))) (sss_one (ss_setLcB 1 (own := [("own", 4)]) B sc_order_for.kind (by kernel_rfl) (by kernel_rfl) (by kernel_rfl) (by kernel_rfl) (qi_seq (pv_ B 1 (by kernel_rfl))) (by kernel_rfl) (fun s1 H1 C1 l1 p1 B1 => (gb_ B s1 H1 C1 l1 p1 _ 4 (by kernel_rfl))) (fun s1 H1 C1 l1 p1 B1 => (tsq_one (tq_cmp (op_neP B1.hu) ok_ne (pv_ B1 4 (by kernel_rfl)) (pv_ B1 3 (by kernel_rfl)) (by rfl)))) (fun s1 H1 C1 l1 p1 B1 => (qv_ B1 4 (by kernel_rfl))) (by decide))))))) (sss_one (ss_ret (qe_tup (qa_cons qe_str (qa_cons (qe_callTy call_tuple_of ok_tuple (B.gl (by kernel_rfl)) M.tuple PyProof.Rows.Boot.tuple (qap_cons (pv_ B 2 (by kernel_rfl)) qap_nil)) (qa_cons (qe_ix B.hu (pq_of (qe_call c_timed B.room (by decide) (B.gl (by kernel_rfl)) (qa_cons (qe_call c_with_order B.room (by decide) (B.gl (by kernel_rfl)) (qa_cons (qv_ B 0 (by kernel_rfl)) (qa_cons (qv_ B 2 (by kernel_rfl)) qa_nil))) qa_nil))) (pq_of qe_int) (fun _ _ => rfl)) qa_nil))))))))
theorem cal_order_for {P : Program} {w : World} {K : PySem.W.Frag} {mg : Str → Option Value} {base : Heap} (d : DefM K mg "order_for" s_order_for) (M : Mb mg) (c_with_order : Cal P w K mg base 3 "with_order" (spP K 2 F_with_order)) (c_timed : Cal P w K mg base 6 "timed" (spP K 1 F_timed)) (c__last_of : Cal P w K mg base 5 "_last_of" (spP K 2 F__last_of)) (c_names_of : Cal P w K mg base 1 "names_of" (spP K 1 F_names_of)) : Cal P w K mg base 7 "order_for" (spP K 1 F_order_for) := by
  obtain ⟨f, fd, F, hm⟩ := d
  exact ⟨f, fd, P_order_for, ok_fnP F sc_order_for (g := F_order_for) (fun ds d _ h => h) (fun cdv A outer s H E hr => b_order_for ⟨rfl, rfl, rfl, hr, PassesOwn.never, sc_order_for.nd⟩ (fun _ => rfl) M c_with_order c_timed c__last_of c_names_of), hm, F.kp, F.bindsN (ps := P_order_for) fun _ _ _ _ _ _ us hl => match us, hl with | [_], _ => rfl⟩
/-! ### is_never_last -/
def N_is_never_last : List Str := ["system", "names", "name", "part", "n"]
def P_is_never_last : List Str := ["system", "names", "name"]
noncomputable def f_is_never_last : DS := (dSeq (dSet 3 (qCall (fun ds => if ds.length = 2 then F_moved_last ds else none) (aCons (qCall (fun ds => if ds.length = 2 then F_only ds else none) (aCons (qVar 0) (aCons (qVar 1) aNil))) (aCons (qVar 2) aNil)))) (dRet (qNot (qCall anyD (aCons (dLc (iRng2 (aCons (qC (.int 1)) (aCons (q2 addD (q2 getD' (qCall (fun ds => if ds.length = 2 then F_task_of ds else none) (aCons (qVar 0) (aCons (qVar 2) aNil))) (qC (.int 4))) (qC (.int 1))) aNil))) (gN 4) tYesD (qCall (fun ds => if ds.length = 3 then F_is_enough_time ds else none) (aCons (qVar 3) (aCons (qVar 2) (aCons (qVar 4) aNil)))) [4]) aNil)))))
noncomputable def F_is_never_last : List PD → Option PD := fnD 5 f_is_never_last
theorem sc_is_never_last : FnScope N_is_never_last P_is_never_last (defScope s_is_never_last) := ⟨rfl, rfl, rfl, by decide +kernel, rfl, by decide +kernel, by decide +kernel⟩
theorem b_is_never_last {X : Cx} (B : Bd X N_is_never_last (defScope s_is_never_last) 4) (fn : ∀ x, X.fn x = true) (M : Mb X.mg) (c_task_of : CalX X 2 "task_of" (spP X.K 2 F_task_of)) (c_is_enough_time : CalX X 4 "is_enough_time" (spP X.K 3 F_is_enough_time)) (c_only : CalX X 2 "only" (spP X.K 2 F_only)) (c_moved_last : CalX X 4 "moved_last" (spP X.K 2 F_moved_last)) : SSs X (defBody s_is_never_last) f_is_never_last :=
  (sss_cons (ss_set 3 B.nodup (B.at (by kernel_rfl)) (B.lc (by kernel_rfl)) (qe_call c_moved_last B.room (by decide) (B.gl (by kernel_rfl)) (qa_cons (qe_call c_only B.room (by decide) (B.gl (by kernel_rfl)) (qa_cons (qv_ B 0 (by kernel_rfl)) (qa_cons (qv_ B 1 (by kernel_rfl)) qa_nil))) (qa_cons (qv_ B 2 (by kernel_rfl)) qa_nil))) (.inl (fn _))) (sss_one (ss_ret (qe_not (pq_of (qe_callB (cr_any B.calm) ok_any (B.gl (by kernel_rfl)) M.any PyProof.Rows.Boot.any (qap_cons (pq_of (qe_of (fe_lcB (own := [("n", 4)]) B (qi_rng2 (B.gl (by kernel_rfl)) M.range (qap_cons (pq_of qe_int) (qap_cons (pq_of (qe_op op_addA ok_add (pq_of (qe_ix B.hu (pq_of (qe_call c_task_of B.room (by decide) (B.gl (by kernel_rfl)) (qa_cons (qv_ B 0 (by kernel_rfl)) (qa_cons (qv_ B 2 (by kernel_rfl)) qa_nil)))) (pq_of qe_int) (fun _ _ => rfl))) (pq_of qe_int))) qap_nil))) (by kernel_rfl) (fun s1 H1 C1 l1 p1 B1 => (gb_ B s1 H1 C1 l1 p1 _ 4 (by kernel_rfl))) (fun s1 H1 C1 l1 p1 B1 => tsq_nil) (fun s1 H1 C1 l1 p1 B1 => (qe_call c_is_enough_time B1.room (by decide) (B1.gl (by kernel_rfl)) (qa_cons (qv_ B1 3 (by kernel_rfl)) (qa_cons (qv_ B1 2 (by kernel_rfl)) (qa_cons (qv_ B1 4 (by kernel_rfl)) qa_nil))))) (by decide)))) qap_nil)))))))
theorem cal_is_never_last {P : Program} {w : World} {K : PySem.W.Frag} {mg : Str → Option Value} {base : Heap} (d : DefM K mg "is_never_last" s_is_never_last) (M : Mb mg) (c_task_of : Cal P w K mg base 2 "task_of" (spP K 2 F_task_of)) (c_is_enough_time : Cal P w K mg base 4 "is_enough_time" (spP K 3 F_is_enough_time)) (c_only : Cal P w K mg base 2 "only" (spP K 2 F_only)) (c_moved_last : Cal P w K mg base 4 "moved_last" (spP K 2 F_moved_last)) : Cal P w K mg base 5 "is_never_last" (spP K 3 F_is_never_last) := by
  obtain ⟨f, fd, F, hm⟩ := d
  exact ⟨f, fd, P_is_never_last, ok_fnP F sc_is_never_last (g := F_is_never_last) (fun ds d _ h => h) (fun cdv A outer s H E hr => b_is_never_last ⟨rfl, rfl, rfl, hr, PassesOwn.never, sc_is_never_last.nd⟩ (fun _ => rfl) M c_task_of c_is_enough_time c_only c_moved_last), hm, F.kp, F.bindsN (ps := P_is_never_last) fun _ _ _ _ _ _ us hl => match us, hl with | [_, _, _], _ => rfl⟩
/-! ### check_order -/
def N_check_order : List Str := ["system", "thing", "names", "name"]
def P_check_order : List Str := ["system", "thing"]
noncomputable def f_check_order : DS := (dSeq (dIf (tOrB (tNotB (tru (qIsi .tuple (pVar 1)))) (tOrB (tNotB (asB (qChain leD leD (qC (.int 2)) (qCall lenD (aCons (pVar 1) aNil)) (qC (.int 3))))) (tNotB (tru (qCall (fun ds => if ds.length = 1 then F_are_texts ds else none) (aCons (q2 getD' (pVar 1) (qC (.int 1))) aNil)))))) (dRet (qC (.bool false))) dNil) (dSeq (dSet 2 (q2 getD' (pVar 1) (qC (.int 1)))) (dSeq (dIf (asB (q2 eqD (qCall lenD (aCons (pVar 1) aNil)) (qC (.int 3)))) (dSeq (dIf (tOrB (asB (q2 neD (q2 getD' (pVar 1) (qC (.int 0))) (qC (.str "order")))) (asB (q2 neD (qCall sortedA (aCons (pVar 2) aNil)) (qCall sortedA (aCons (qCall (fun ds => if ds.length = 1 then F_names_of ds else none) (aCons (qVar 0) aNil)) aNil))))) (dRet (qC (.bool false))) dNil) (dRet (qCall (fun ds => if ds.length = 2 then F_check ds else none) (aCons (qCall (fun ds => if ds.length = 2 then F_with_order ds else none) (aCons (qVar 0) (aCons (qVar 2) aNil))) (aCons (qTup (aCons (qC (.str "meets")) (aCons (q2 getD' (pVar 1) (qC (.int 2))) aNil))) aNil))))) dNil) (dSeq (dIf (tOrB (asB (q2 neD (q2 getD' (pVar 1) (qC (.int 0))) (qC (.str "none")))) (tOrB (tNotB (tru (pVar 2))) (asB (q2 neD (qCall listD (aCons (pVar 2) aNil)) (dLc (iSeq (qCall (fun ds => if ds.length = 1 then F_names_of ds else none) (aCons (qVar 0) aNil))) (gN 3) (asB (q2 inD (pVar 3) (pVar 2))) (qVar 3) [3]))))) (dRet (qC (.bool false))) dNil) (dRet (qCall allD (aCons (dLc (iSeq (pVar 2)) (gN 3) tYesD (qCall (fun ds => if ds.length = 3 then F_is_never_last ds else none) (aCons (qVar 0) (aCons (qVar 2) (aCons (qVar 3) aNil)))) [3]) aNil)))))))
noncomputable def F_check_order : List PD → Option PD := fnD 4 f_check_order
theorem sc_check_order : FnScope N_check_order P_check_order (defScope s_check_order) := ⟨rfl, rfl, rfl, by decide +kernel, rfl, by decide +kernel, by decide +kernel⟩
theorem b_check_order {X : Cx} (B : Bd X N_check_order (defScope s_check_order) 7) (fn : ∀ x, X.fn x = true) (M : Mb X.mg) (c_is_never_last : CalX X 5 "is_never_last" (spP X.K 3 F_is_never_last)) (c_names_of : CalX X 1 "names_of" (spP X.K 1 F_names_of)) (c_with_order : CalX X 3 "with_order" (spP X.K 2 F_with_order)) (c_check : CalX X 7 "check" (spP X.K 2 F_check)) (c_are_texts : CalX X 1 "are_texts" (spP X.K 1 F_are_texts)) : SSs X (defBody s_check_order) f_check_order :=
  (sss_cons (ss_if (tq_w (wq_or (tq_not (tq_tru (pq_of (qe_isi (T := .tuple) (B.gl (by kernel_rfl)) M.isinstance PyProof.Rows.Boot.isinstance (pv_ B 1 (by kernel_rfl)) (B.gl (by kernel_rfl)) M.tuple PyProof.Rows.Boot.tuple)))) (wq_or (tq_not (tq_chain op_le op_le ok_cmpI ok_cmpI (pq_of qe_int) (pq_of (qe_callB cr_len ok_len (B.gl (by kernel_rfl)) M.len PyProof.Rows.Boot.len (qap_cons (pv_ B 1 (by kernel_rfl)) qap_nil))) (pq_of qe_int) (by rfl))) (wq_or1 (tq_not (tq_tru (pq_of (qe_call c_are_texts B.room (by decide) (B.gl (by kernel_rfl)) (qa_cons (qe_ix B.hu (pv_ B 1 (by kernel_rfl)) (pq_of qe_int) (fun _ _ => rfl)) qa_nil))))))))) (sss_one (ss_ret qe_bl)) sss_nil) (sss_cons (ss_set 2 B.nodup (B.at (by kernel_rfl)) (B.lc (by kernel_rfl)) (qe_ix B.hu (pv_ B 1 (by kernel_rfl)) (pq_of qe_int) (fun _ _ => rfl)) (.inl (fn _))) (sss_cons (ss_if (tq_cmp (op_eqP B.hu) ok_eq (pq_of (qe_callB cr_len ok_len (B.gl (by kernel_rfl)) M.len PyProof.Rows.Boot.len (qap_cons (pv_ B 1 (by kernel_rfl)) qap_nil))) (pq_of qe_int) (by rfl)) (sss_cons (ss_if (tq_w (wq_or (tq_cmp (op_neP B.hu) ok_ne (pq_of (qe_ix B.hu (pv_ B 1 (by kernel_rfl)) (pq_of qe_int) (fun _ _ => rfl))) (pq_of qe_str) (by rfl)) (wq_or1 (tq_cmp (op_neP B.hu) ok_ne (pq_of (qe_callB (cr_sortA B.hu) ok_sortA (B.gl (by kernel_rfl)) M.sorted PyProof.Rows.Boot.sorted (qap_cons (pv_ B 2 (by kernel_rfl)) qap_nil))) (pq_of (qe_callB (cr_sortA B.hu) ok_sortA (B.gl (by kernel_rfl)) M.sorted PyProof.Rows.Boot.sorted (qap_cons (pq_of (qe_call c_names_of B.room (by decide) (B.gl (by kernel_rfl)) (qa_cons (qv_ B 0 (by kernel_rfl)) qa_nil))) qap_nil))) (by rfl))))) (sss_one (ss_ret qe_bl)) sss_nil) (sss_one (ss_ret (qe_call c_check B.room (by decide) (B.gl (by kernel_rfl)) (qa_cons (qe_call c_with_order B.room (by decide) (B.gl (by kernel_rfl)) (qa_cons (qv_ B 0 (by kernel_rfl)) (qa_cons (qv_ B 2 (by kernel_rfl)) qa_nil))) (qa_cons (qe_tup (qa_cons qe_str (qa_cons (qe_ix B.hu (pv_ B 1 (by kernel_rfl)) (pq_of qe_int) (fun _ _ => rfl)) qa_nil))) qa_nil)))))) sss_nil) (sss_cons (ss_if (tq_w (wq_or (tq_cmp (op_neP B.hu) ok_ne (pq_of (qe_ix B.hu (pv_ B 1 (by kernel_rfl)) (pq_of qe_int) (fun _ _ => rfl))) (pq_of qe_str) (by rfl)) (wq_or (tq_not (tq_tru (pv_ B 2 (by kernel_rfl)))) (wq_or1 (tq_cmp (op_neP B.hu) ok_ne (pq_of (qe_of (fe_list (B.gl (by kernel_rfl)) M.list (qap_cons (pv_ B 2 (by kernel_rfl)) qap_nil)))) (pq_of (qe_of (fe_lcB (own := [("name", 3)]) B (qi_seq (pq_of (qe_call c_names_of B.room (by decide) (B.gl (by kernel_rfl)) (qa_cons (qv_ B 0 (by kernel_rfl)) qa_nil)))) (by kernel_rfl) (fun s1 H1 C1 l1 p1 B1 => (gb_ B s1 H1 C1 l1 p1 _ 3 (by kernel_rfl))) (fun s1 H1 C1 l1 p1 B1 => (tsq_one (tq_cmp (op_inA B1.hu) ok_in (pv_ B1 3 (by kernel_rfl)) (pv_ B1 2 (by kernel_rfl)) (by rfl)))) (fun s1 H1 C1 l1 p1 B1 => (qv_ B1 3 (by kernel_rfl))) (by decide)))) (by rfl)))))) (sss_one (ss_ret qe_bl)) sss_nil) (sss_one (ss_ret (qe_callB (cr_all B.calm) ok_all (B.gl (by kernel_rfl)) M.all PyProof.Rows.Boot.all (qap_cons (pq_of (qe_of (fe_lcB (own := [("name", 3)]) B (qi_seq (pv_ B 2 (by kernel_rfl))) (by kernel_rfl) (fun s1 H1 C1 l1 p1 B1 => (gb_ B s1 H1 C1 l1 p1 _ 3 (by kernel_rfl))) (fun s1 H1 C1 l1 p1 B1 => tsq_nil) (fun s1 H1 C1 l1 p1 B1 => (qe_call c_is_never_last B1.room (by decide) (B1.gl (by kernel_rfl)) (qa_cons (qv_ B1 0 (by kernel_rfl)) (qa_cons (qv_ B1 2 (by kernel_rfl)) (qa_cons (qv_ B1 3 (by kernel_rfl)) qa_nil))))) (by decide)))) qap_nil))))))))
theorem cal_check_order {P : Program} {w : World} {K : PySem.W.Frag} {mg : Str → Option Value} {base : Heap} (d : DefM K mg "check_order" s_check_order) (M : Mb mg) (c_is_never_last : Cal P w K mg base 5 "is_never_last" (spP K 3 F_is_never_last)) (c_names_of : Cal P w K mg base 1 "names_of" (spP K 1 F_names_of)) (c_with_order : Cal P w K mg base 3 "with_order" (spP K 2 F_with_order)) (c_check : Cal P w K mg base 7 "check" (spP K 2 F_check)) (c_are_texts : Cal P w K mg base 1 "are_texts" (spP K 1 F_are_texts)) : Cal P w K mg base 8 "check_order" (spP K 2 F_check_order) := by
  obtain ⟨f, fd, F, hm⟩ := d
  exact ⟨f, fd, P_check_order, ok_fnP F sc_check_order (g := F_check_order) (fun ds d _ h => h) (fun cdv A outer s H E hr => b_check_order ⟨rfl, rfl, rfl, hr, PassesOwn.never, sc_check_order.nd⟩ (fun _ => rfl) M c_is_never_last c_names_of c_with_order c_check c_are_texts), hm, F.kp, F.bindsN (ps := P_check_order) fun _ _ _ _ _ _ us hl => match us, hl with | [_, _], _ => rfl⟩
/-! ### places_told -/
def N_places_told : List Str := ["system", "names", "found", "name", "rest", "good", "place", "part", "own", "n"]
def P_places_told : List Str := ["system"]
noncomputable def L_places_told_1 : DS := (dSeq (dSet 7 (qCall (fun ds => if ds.length = 2 then F_with_order ds else none) (aCons (qVar 0) (aCons (q2 addD (q2 addD (qSl (pVar 4) none (some (pVar 6))) (qLst (aCons (qVar 3) aNil))) (qSl (pVar 4) (some (pVar 6)) none)) aNil)))) (dIf (tru (qCall anyD (aCons (dLc (iRng2 (aCons (qC (.int 1)) (aCons (q2 addD (q2 getD' (qCall (fun ds => if ds.length = 2 then F_task_of ds else none) (aCons (qVar 0) (aCons (qVar 3) aNil))) (qC (.int 4))) (qC (.int 1))) aNil))) (gN 9) tYesD (qCall (fun ds => if ds.length = 3 then F_is_enough_time ds else none) (aCons (qVar 7) (aCons (qVar 3) (aCons (qVar 9) aNil)))) [9]) aNil))) (dApp 5 (qVar 6)) dNil))
noncomputable def L_places_told_2 : DS := (dSeq (dPar [4, 5] (mCons false (dLc (iSeq (pVar 1)) (gN 8) (asB (q2 neD (pVar 8) (pVar 3))) (qVar 8) [8]) (mCons true (qLst aNil) mNil))) (dSeq (dFor (iRng1 (aCons (qCall lenD (aCons (pVar 1) aNil)) aNil)) (gN 6) L_places_told_1) (dApp 2 (qTup (aCons (qVar 3) (aCons (qCall tupleD (aCons (pVar 5) aNil)) aNil))))))
noncomputable def f_places_told : DS := (dSeq (dPar [1, 2] (mCons false (qCall (fun ds => if ds.length = 1 then F_names_of ds else none) (aCons (qVar 0) aNil)) (mCons true (qLst aNil) mNil))) (dSeq (dFor (iSeq (qVar 1)) (gN 3) L_places_told_2) (dRet (qCall tupleD (aCons (pVar 2) aNil)))))
noncomputable def F_places_told : List PD → Option PD := fnD 10 f_places_told
theorem sc_places_told : FnScope N_places_told P_places_told (defScope s_places_told) := ⟨rfl, rfl, rfl, by decide +kernel, rfl, by decide +kernel, by decide +kernel⟩
theorem b_places_told {X : Cx} (B : Bd X N_places_told (defScope s_places_told) 4) (fn : ∀ x, X.fn x = true) (M : Mb X.mg) (c_task_of : CalX X 2 "task_of" (spP X.K 2 F_task_of)) (c_is_enough_time : CalX X 4 "is_enough_time" (spP X.K 3 F_is_enough_time)) (c_with_order : CalX X 3 "with_order" (spP X.K 2 F_with_order)) (c_names_of : CalX X 1 "names_of" (spP X.K 1 F_names_of)) : SSs X (defBody s_places_told) f_places_told :=
  (sss_cons (ss_par2 1 2 B.calm B.nodup (B.at (by kernel_rfl)) (B.at (by kernel_rfl)) (by decide) (B.il (by kernel_rfl)) (B.il (by kernel_rfl)) (ma_sh (qe_call c_names_of B.room (by decide) (B.gl (by kernel_rfl)) (qa_cons (qv_ B 0 (by kernel_rfl)) qa_nil)) (ma_ow (fe_lst qa_nil) ma_nil)) (SW B sc_places_told.kind (by kernel_rfl))) (sss_cons (ss_for B.po B.calm (qi_seq (qv_ B 1 (by kernel_rfl))) (gd_ B fn 3 (by kernel_rfl)) (sss_cons (ss_par2 4 5 B.calm B.nodup (B.at (by kernel_rfl)) (B.at (by kernel_rfl)) (by decide) (B.il (by kernel_rfl)) (B.il (by kernel_rfl)) (ma_sh (qe_of (fe_lcB (own := [("own", 8)]) B (qi_seq (pv_ B 1 (by kernel_rfl))) (by kernel_rfl) (fun s1 H1 C1 l1 p1 B1 => (gb_ B s1 H1 C1 l1 p1 _ 8 (by kernel_rfl))) (fun s1 H1 C1 l1 p1 B1 => (tsq_one (tq_cmp (op_neP B1.hu) ok_ne (pv_ B1 8 (by kernel_rfl)) (pv_ B1 3 (by kernel_rfl)) (by rfl)))) (fun s1 H1 C1 l1 p1 B1 => (qv_ B1 8 (by kernel_rfl))) (by decide))) (ma_ow (fe_lst qa_nil) ma_nil)) (SW B sc_places_told.kind (by kernel_rfl))) (sss_cons (ss_for B.po B.calm (qi_rng1 (B.gl (by kernel_rfl)) M.range (qap_cons (pq_of (qe_callB cr_len ok_len (B.gl (by kernel_rfl)) M.len PyProof.Rows.Boot.len (qap_cons (pv_ B 1 (by kernel_rfl)) qap_nil))) qap_nil)) (gd_ B fn 6 (by kernel_rfl)) (sss_cons (ss_set 7 B.nodup (B.at (by kernel_rfl)) (B.lc (by kernel_rfl)) (qe_call c_with_order B.room (by decide) (B.gl (by kernel_rfl)) (qa_cons (qv_ B 0 (by kernel_rfl)) (qa_cons (qe_op op_addA ok_add (pq_of (qe_op op_addA ok_add (pq_of (qe_slice (pv_ B 4 (by kernel_rfl)) qo_none (qo_some (pv_ B 6 (by kernel_rfl))))) (pq_of (qe_of (fe_lst (qa_cons (qv_ B 3 (by kernel_rfl)) qa_nil)))))) (pq_of (qe_slice (pv_ B 4 (by kernel_rfl)) (qo_some (pv_ B 6 (by kernel_rfl))) qo_none))) qa_nil))) (.inl (fn _))) (sss_one (ss_if (tq_tru (pq_of (qe_callB (cr_any B.calm) ok_any (B.gl (by kernel_rfl)) M.any PyProof.Rows.Boot.any (qap_cons (pq_of (qe_of (fe_lcB (own := [("n", 9)]) B (qi_rng2 (B.gl (by kernel_rfl)) M.range (qap_cons (pq_of qe_int) (qap_cons (pq_of (qe_op op_addA ok_add (pq_of (qe_ix B.hu (pq_of (qe_call c_task_of B.room (by decide) (B.gl (by kernel_rfl)) (qa_cons (qv_ B 0 (by kernel_rfl)) (qa_cons (qv_ B 3 (by kernel_rfl)) qa_nil)))) (pq_of qe_int) (fun _ _ => rfl))) (pq_of qe_int))) qap_nil))) (by kernel_rfl) (fun s1 H1 C1 l1 p1 B1 => (gb_ B s1 H1 C1 l1 p1 _ 9 (by kernel_rfl))) (fun s1 H1 C1 l1 p1 B1 => tsq_nil) (fun s1 H1 C1 l1 p1 B1 => (qe_call c_is_enough_time B1.room (by decide) (B1.gl (by kernel_rfl)) (qa_cons (qv_ B1 7 (by kernel_rfl)) (qa_cons (qv_ B1 3 (by kernel_rfl)) (qa_cons (qv_ B1 9 (by kernel_rfl)) qa_nil))))) (by decide)))) qap_nil)))) (sss_one (ss_app 5 (ov_ B 5 (by kernel_rfl)) (qv_ B 6 (by kernel_rfl)))) sss_nil)))) (sss_one (ss_app 2 (ov_ B 2 (by kernel_rfl)) (qe_tup (qa_cons (qv_ B 3 (by kernel_rfl)) (qa_cons (qe_callTy call_tuple_of ok_tuple (B.gl (by kernel_rfl)) M.tuple PyProof.Rows.Boot.tuple (qap_cons (pv_ B 5 (by kernel_rfl)) qap_nil)) qa_nil)))))))) (sss_one (ss_ret (qe_callTy call_tuple_of ok_tuple (B.gl (by kernel_rfl)) M.tuple PyProof.Rows.Boot.tuple (qap_cons (pv_ B 2 (by kernel_rfl)) qap_nil))))))
theorem cal_places_told {P : Program} {w : World} {K : PySem.W.Frag} {mg : Str → Option Value} {base : Heap} (d : DefM K mg "places_told" s_places_told) (M : Mb mg) (c_task_of : Cal P w K mg base 2 "task_of" (spP K 2 F_task_of)) (c_is_enough_time : Cal P w K mg base 4 "is_enough_time" (spP K 3 F_is_enough_time)) (c_with_order : Cal P w K mg base 3 "with_order" (spP K 2 F_with_order)) (c_names_of : Cal P w K mg base 1 "names_of" (spP K 1 F_names_of)) : Cal P w K mg base 5 "places_told" (spP K 1 F_places_told) := by
  obtain ⟨f, fd, F, hm⟩ := d
  exact ⟨f, fd, P_places_told, ok_fnP F sc_places_told (g := F_places_told) (fun ds d _ h => h) (fun cdv A outer s H E hr => b_places_told ⟨rfl, rfl, rfl, hr, PassesOwn.never, sc_places_told.nd⟩ (fun _ => rfl) M c_task_of c_is_enough_time c_with_order c_names_of), hm, F.kp, F.bindsN (ps := P_places_told) fun _ _ _ _ _ _ us hl => match us, hl with | [_], _ => rfl⟩
/-! ### _law_cell -/
def N__law_cell : List Str := ["script", "k"]
def P__law_cell : List Str := ["script", "k"]
noncomputable def f__law_cell : DS := (dSeq (dIf (asB (q2 ltD (pVar 1) (qCall lenD (aCons (pVar 0) aNil)))) (dRet (q2 getD' (pVar 0) (pVar 1))) dNil) (dRet (qC (.int 0))))
noncomputable def F__law_cell : List PD → Option PD := fnD 2 f__law_cell
theorem sc__law_cell : FnScope N__law_cell P__law_cell (defScope s__law_cell) := ⟨rfl, rfl, rfl, by decide +kernel, rfl, by decide +kernel, by decide +kernel⟩
theorem b__law_cell {X : Cx} (B : Bd X N__law_cell (defScope s__law_cell) 0) (fn : ∀ x, X.fn x = true) (M : Mb X.mg) : SSs X (defBody s__law_cell) f__law_cell :=
  (sss_cons (ss_if (tq_cmp (op_ltP B.hu) ok_lt (pv_ B 1 (by kernel_rfl)) (pq_of (qe_callB cr_len ok_len (B.gl (by kernel_rfl)) M.len PyProof.Rows.Boot.len (qap_cons (pv_ B 0 (by kernel_rfl)) qap_nil))) (by rfl)) (sss_one (ss_ret (qe_ix B.hu (pv_ B 0 (by kernel_rfl)) (pv_ B 1 (by kernel_rfl)) (fun _ _ => rfl)))) sss_nil) (sss_one (ss_ret qe_int)))
theorem cal__law_cell {P : Program} {w : World} {K : PySem.W.Frag} {mg : Str → Option Value} {base : Heap} (d : DefM K mg "_law_cell" s__law_cell) (M : Mb mg) : Cal P w K mg base 1 "_law_cell" (spP K 2 F__law_cell) := by
  obtain ⟨f, fd, F, hm⟩ := d
  exact ⟨f, fd, P__law_cell, ok_fnP F sc__law_cell (g := F__law_cell) (fun ds d _ h => h) (fun cdv A outer s H E hr => b__law_cell ⟨rfl, rfl, rfl, hr, PassesOwn.never, sc__law_cell.nd⟩ (fun _ => rfl) M), hm, F.kp, F.bindsN (ps := P__law_cell) fun _ _ _ _ _ _ us hl => match us, hl with | [_, _], _ => rfl⟩
/-! ### _law_digits -/
def N__law_digits : List Str := ["script", "first", "last", "digits", "k", "cell", "step", "seed"]
def P__law_digits : List Str := ["script", "first", "last"]
noncomputable def L__law_digits_1 : DS := (dIf (asB (q2 gtD (pVar 5) (qC (.int 0)))) (dSeq (dApp 3 (q2 modD (qCall intD (aCons (pVar 5) aNil)) (qC (.int 1000)))) (dSet 5 (q2 fdivD (pVar 5) (qC (.int 1000))))) dNil)
noncomputable def L__law_digits_2 : DS := (dSeq (dSet 7 (q2 modD (qCall intD (aCons (q2 addD (q2 addD (q2 mulD (pVar 7) (qC (.int 16807))) (q2 mulD (qC (.int 7)) (pVar 6))) (qC (.int 1))) aNil)) (qC (.int 2147483647)))) (dApp 3 (q2 modD (qCall intD (aCons (q2 fdivD (pVar 7) (qC (.int 997))) aNil)) (qC (.int 1000)))))
noncomputable def L__law_digits_3 : DS := (dSeq (dSet 5 (qCall (fun ds => if ds.length = 2 then F__law_cell ds else none) (aCons (qVar 0) (aCons (qVar 4) aNil)))) (dSeq (dIf (asB (q2 ltD (pVar 5) (qC (.int 0)))) (dSet 5 (q2 subD (qC (.int 1)) (q2 mulD (qC (.int 2)) (pVar 5)))) dNil) (dSeq (dIf (asB (q2 gtD (qCall lenD (aCons (pVar 3) aNil)) (qC (.int 1500)))) dBk dNil) (dIf (asB (q2 geD (pVar 5) (q2 powD (qC (.int 10)) (qC (.int 18))))) (dFor (iRng1 (aCons (qC (.int 60)) aNil)) (gN 6) L__law_digits_1) (dSeq (dSet 7 (q2 modD (qCall intD (aCons (q2 addD (q2 addD (q2 mulD (pVar 5) (qC (.int 48271))) (q2 mulD (pVar 4) (qC (.int 69621)))) (qC (.int 11))) aNil)) (qC (.int 2147483647)))) (dFor (iRng1 (aCons (qC (.int 12)) aNil)) (gN 6) L__law_digits_2))))))
noncomputable def f__law_digits : DS := (dSeq (dSetF 3 (qLst aNil)) (dSeq (dFor (iRng2 (aCons (pVar 1) (aCons (pVar 2) aNil))) (gN 4) L__law_digits_3) (dFrz 3 (dRet (qVar 3)))))
noncomputable def F__law_digits : List PD → Option PD := fnD 8 f__law_digits
theorem sc__law_digits : FnScope N__law_digits P__law_digits (defScope s__law_digits) := ⟨rfl, rfl, rfl, by decide +kernel, rfl, by decide +kernel, by decide +kernel⟩
theorem b__law_digits {X : Cx} (B : Bd X N__law_digits (defScope s__law_digits) 1) (fn : ∀ x, X.fn x = true) (M : Mb X.mg) (c__law_cell : CalX X 1 "_law_cell" (spP X.K 2 F__law_cell)) : SSs X (defBody s__law_digits) f__law_digits :=
  (sss_cons (ss_setF 3 B.nodup (B.at (by kernel_rfl)) (B.lc (by kernel_rfl)) (fe_lst qa_nil) (.inl (fn _))) (sss_cons (ss_for B.po B.calm (qi_rng2 (B.gl (by kernel_rfl)) M.range (qap_cons (pv_ B 1 (by kernel_rfl)) (qap_cons (pv_ B 2 (by kernel_rfl)) qap_nil))) (gd_ B fn 4 (by kernel_rfl)) (sss_cons (ss_set 5 B.nodup (B.at (by kernel_rfl)) (B.lc (by kernel_rfl)) (qe_call c__law_cell B.room (by decide) (B.gl (by kernel_rfl)) (qa_cons (qv_ B 0 (by kernel_rfl)) (qa_cons (qv_ B 4 (by kernel_rfl)) qa_nil))) (.inl (fn _))) (sss_cons (ss_if (tq_cmp (op_ltP B.hu) ok_lt (pv_ B 5 (by kernel_rfl)) (pq_of qe_int) (by rfl)) (sss_one (ss_set 5 B.nodup (B.at (by kernel_rfl)) (B.lc (by kernel_rfl)) (qe_op op_sub ok_sub (pq_of qe_int) (pq_of (qe_op op_mul ok_mul (pq_of qe_int) (pv_ B 5 (by kernel_rfl))))) (.inl (fn _)))) sss_nil) (sss_cons (ss_if (tq_cmp op_gt ok_cmpI (pq_of (qe_callB cr_len ok_len (B.gl (by kernel_rfl)) M.len PyProof.Rows.Boot.len (qap_cons (pv_ B 3 (by kernel_rfl)) qap_nil))) (pq_of qe_int) (by rfl)) (sss_one ss_break) sss_nil) (sss_one (ss_if (tq_cmp op_ge ok_cmpI (pv_ B 5 (by kernel_rfl)) (pq_of (qe_op op_pow ok_pow (pq_of qe_int) (pq_of qe_int))) (by rfl)) (sss_one (ss_for B.po B.calm (qi_rng1 (B.gl (by kernel_rfl)) M.range (qap_cons (pq_of qe_int) qap_nil)) (gd_ B fn 6 (by kernel_rfl)) (sss_one (ss_if (tq_cmp op_gt ok_cmpI (pv_ B 5 (by kernel_rfl)) (pq_of qe_int) (by rfl)) (sss_cons (ss_app 3 (ov_ B 3 (by kernel_rfl)) (qe_op op_mod ok_mod (pq_of (qe_callTy call_int1 ok_int (B.gl (by kernel_rfl)) M.int PyProof.Rows.Boot.int (qap_cons (pv_ B 5 (by kernel_rfl)) qap_nil))) (pq_of qe_int))) (sss_one (ss_set 5 B.nodup (B.at (by kernel_rfl)) (B.lc (by kernel_rfl)) (qe_op op_fdiv ok_fdiv (pv_ B 5 (by kernel_rfl)) (pq_of qe_int)) (.inl (fn _))))) sss_nil)))) (sss_cons (ss_set 7 B.nodup (B.at (by kernel_rfl)) (B.lc (by kernel_rfl)) (qe_op op_mod ok_mod (pq_of (qe_callTy call_int1 ok_int (B.gl (by kernel_rfl)) M.int PyProof.Rows.Boot.int (qap_cons (pq_of (qe_op op_addA ok_add (pq_of (qe_op op_addA ok_add (pq_of (qe_op op_mul ok_mul (pv_ B 5 (by kernel_rfl)) (pq_of qe_int))) (pq_of (qe_op op_mul ok_mul (pv_ B 4 (by kernel_rfl)) (pq_of qe_int))))) (pq_of qe_int))) qap_nil))) (pq_of qe_int)) (.inl (fn _))) (sss_one (ss_for B.po B.calm (qi_rng1 (B.gl (by kernel_rfl)) M.range (qap_cons (pq_of qe_int) qap_nil)) (gd_ B fn 6 (by kernel_rfl)) (sss_cons (ss_set 7 B.nodup (B.at (by kernel_rfl)) (B.lc (by kernel_rfl)) (qe_op op_mod ok_mod (pq_of (qe_callTy call_int1 ok_int (B.gl (by kernel_rfl)) M.int PyProof.Rows.Boot.int (qap_cons (pq_of (qe_op op_addA ok_add (pq_of (qe_op op_addA ok_add (pq_of (qe_op op_mul ok_mul (pv_ B 7 (by kernel_rfl)) (pq_of qe_int))) (pq_of (qe_op op_mul ok_mul (pq_of qe_int) (pv_ B 6 (by kernel_rfl)))))) (pq_of qe_int))) qap_nil))) (pq_of qe_int)) (.inl (fn _))) (sss_one (ss_app 3 (ov_ B 3 (by kernel_rfl)) (qe_op op_mod ok_mod (pq_of (qe_callTy call_int1 ok_int (B.gl (by kernel_rfl)) M.int PyProof.Rows.Boot.int (qap_cons (pq_of (qe_op op_fdiv ok_fdiv (pv_ B 7 (by kernel_rfl)) (pq_of qe_int))) qap_nil))) (pq_of qe_int)))))))))))))) (sss_one (ss_frz 3 (ss_ret (qv_ B 3 (by kernel_rfl)))))))
theorem cal__law_digits {P : Program} {w : World} {K : PySem.W.Frag} {mg : Str → Option Value} {base : Heap} (d : DefM K mg "_law_digits" s__law_digits) (M : Mb mg) (c__law_cell : Cal P w K mg base 1 "_law_cell" (spP K 2 F__law_cell)) : Cal P w K mg base 2 "_law_digits" (spP K 3 F__law_digits) := by
  obtain ⟨f, fd, F, hm⟩ := d
  exact ⟨f, fd, P__law_digits, ok_fnP F sc__law_digits (g := F__law_digits) (fun ds d _ h => h) (fun cdv A outer s H E hr => b__law_digits ⟨rfl, rfl, rfl, hr, PassesOwn.never, sc__law_digits.nd⟩ (fun _ => rfl) M c__law_cell), hm, F.kp, F.bindsN (ps := P__law_digits) fun _ _ _ _ _ _ us hl => match us, hl with | [_, _, _], _ => rfl⟩
/-! ### _law_draw -/
def N__law_draw : List Str := ["box", "many", "at"]
def P__law_draw : List Str := ["box", "many"]
noncomputable def f__law_draw : DS := (dSeq (dSet 2 (q2 getD' (pVar 0) (qC (.int 1)))) (dSeq (dSetIx 0 (qC (.int 1)) (q2 addD (pVar 2) (qC (.int 1)))) (dSeq (dIf (asB (q2 ltD (pVar 2) (qCall lenD (aCons (q2 getD' (pVar 0) (qC (.int 0))) aNil)))) (dRet (q2 modD (qCall intD (aCons (q2 getD' (q2 getD' (pVar 0) (qC (.int 0))) (pVar 2)) aNil)) (pVar 1))) dNil) (dRet (q2 modD (qCall intD (aCons (q2 mulD (pVar 2) (qC (.int 7))) aNil)) (pVar 1))))))
noncomputable def F__law_draw : List PD → Option (PD × PD) := fnIO 3 0 f__law_draw
theorem sc__law_draw : FnScope N__law_draw P__law_draw (defScope s__law_draw) := ⟨rfl, rfl, rfl, by decide +kernel, rfl, by decide +kernel, by decide +kernel⟩
theorem b__law_draw {X : Cx} (B : Bd X N__law_draw (defScope s__law_draw) 0) (fn : ∀ x, X.fn x = true) (M : Mb X.mg) : SSs X (defBody s__law_draw) f__law_draw :=
  (sss_cons (ss_set 2 B.nodup (B.at (by kernel_rfl)) (B.lc (by kernel_rfl)) (qe_ix B.hu (pv_ B 0 (by kernel_rfl)) (pq_of qe_int) (fun _ _ => rfl)) (.inl (fn _))) (sss_cons (ss_setIx 0 (ov_ B 0 (by kernel_rfl)) (pq_of qe_int) (qe_op op_addA ok_add (pv_ B 2 (by kernel_rfl)) (pq_of qe_int))) (sss_cons (ss_if (tq_cmp (op_ltP B.hu) ok_lt (pv_ B 2 (by kernel_rfl)) (pq_of (qe_callB cr_len ok_len (B.gl (by kernel_rfl)) M.len PyProof.Rows.Boot.len (qap_cons (pq_of (qe_ix B.hu (pv_ B 0 (by kernel_rfl)) (pq_of qe_int) (fun _ _ => rfl))) qap_nil))) (by rfl)) (sss_one (ss_ret (qe_op op_mod ok_mod (pq_of (qe_callTy call_int1 ok_int (B.gl (by kernel_rfl)) M.int PyProof.Rows.Boot.int (qap_cons (pq_of (qe_ix B.hu (pq_of (qe_ix B.hu (pv_ B 0 (by kernel_rfl)) (pq_of qe_int) (fun _ _ => rfl))) (pv_ B 2 (by kernel_rfl)) (fun _ _ => rfl))) qap_nil))) (pv_ B 1 (by kernel_rfl))))) sss_nil) (sss_one (ss_ret (qe_op op_mod ok_mod (pq_of (qe_callTy call_int1 ok_int (B.gl (by kernel_rfl)) M.int PyProof.Rows.Boot.int (qap_cons (pq_of (qe_op op_mul ok_mul (pv_ B 2 (by kernel_rfl)) (pq_of qe_int))) qap_nil))) (pv_ B 1 (by kernel_rfl))))))))
theorem cal__law_draw {P : Program} {w : World} {K : PySem.W.Frag} {mg : Str → Option Value} {base : Heap} (d : DefM K mg "_law_draw" s__law_draw) (M : Mb mg) : Cal P w K mg base 1 "_law_draw" (spIO K 2 0 F__law_draw) := by
  obtain ⟨f, fd, F, hm⟩ := d
  exact ⟨f, fd, P__law_draw, ok_fnIO (j := 0) F sc__law_draw (g := F__law_draw) (fun ds d _ h => h) (fun cdv A outer s H E hr => b__law_draw ⟨rfl, rfl, rfl, hr, PassesOwn.never, sc__law_draw.nd⟩ (fun _ => rfl) M), hm, F.kp, F.bindsN (ps := P__law_draw) fun _ _ _ _ _ _ us hl => match us, hl with | [_, _], _ => rfl⟩
/-! ### _law_like -/
def N__law_like : List Str := ["told", "due", "k"]
def P__law_like : List Str := ["told", "due"]
noncomputable def f__law_like (G : List PD → Option PD) : DS := (dSeq (dIf (tru (qIsi .tuple (pVar 1))) (dSeq (dIf (tOrB (tNotB (tru (qIsi .tuple (pVar 0)))) (asB (q2 neD (qCall lenD (aCons (pVar 0) aNil)) (qCall lenD (aCons (pVar 1) aNil))))) (dRet (qC (.bool false))) dNil) (dRet (q2 eqD (dLc (iRng1 (aCons (qCall lenD (aCons (pVar 1) aNil)) aNil)) (gN 2) (tNotB (tru (qCall (fun ds => if ds.length = 2 then G ds else none) (aCons (q2 getD' (pVar 0) (pVar 2)) (aCons (q2 getD' (pVar 1) (pVar 2)) aNil))))) (qC (.int 1)) [2]) (qLst aNil)))) dNil) (dSeq (dIf (asB (q2 isD (pVar 1) (qC .none))) (dRet (q2 isD (pVar 0) (qC .none))) dNil) (dSeq (dIf (asB (q2 isD (pVar 1) (qC (.bool true)))) (dRet (q2 isD (pVar 0) (qC (.bool true)))) dNil) (dSeq (dIf (asB (q2 isD (pVar 1) (qC (.bool false)))) (dRet (q2 isD (pVar 0) (qC (.bool false)))) dNil) (dSeq (dIf (tru (qIsi .str (pVar 1))) (dRet (qAnd (qIsi .str (pVar 0)) (q2 eqD (q2 joinD (qC (.str "")) (qLst (aCons (qVar 0) aNil))) (pVar 1)))) dNil) (dRet (qAnd (qIsi .int (pVar 0)) (qAnd (qNot (qIsi .bool (pVar 0))) (q2 eqD (pVar 0) (pVar 1))))))))))
noncomputable def R__law_like : Nat → List PD → Option PD
  | 0 => fun _ => none
  | m + 1 => fnD 3 (f__law_like (R__law_like m))
noncomputable def F__law_like : List PD → Option PD := R__law_like 12
theorem sc__law_like : FnScope N__law_like P__law_like (defScope s__law_like) := ⟨rfl, rfl, rfl, by decide +kernel, rfl, by decide +kernel, by decide +kernel⟩
theorem b__law_like (G : List PD → Option PD) {X : Cx} {k : Nat} (hk : 0 ≤ k) (B : Bd X N__law_like (defScope s__law_like) k) (fn : ∀ x, X.fn x = true) (M : Mb X.mg) (c__law_like : CalX X k "_law_like" (spP X.K 2 G)) : SSs X (defBody s__law_like) (f__law_like G) :=
  (sss_cons (ss_if (tq_tru (pq_of (qe_isi (T := .tuple) (B.gl (by kernel_rfl)) M.isinstance PyProof.Rows.Boot.isinstance (pv_ B 1 (by kernel_rfl)) (B.gl (by kernel_rfl)) M.tuple PyProof.Rows.Boot.tuple))) (sss_cons (ss_if (tq_w (wq_or (tq_not (tq_tru (pq_of (qe_isi (T := .tuple) (B.gl (by kernel_rfl)) M.isinstance PyProof.Rows.Boot.isinstance (pv_ B 0 (by kernel_rfl)) (B.gl (by kernel_rfl)) M.tuple PyProof.Rows.Boot.tuple)))) (wq_or1 (tq_cmp (op_neP B.hu) ok_ne (pq_of (qe_callB cr_len ok_len (B.gl (by kernel_rfl)) M.len PyProof.Rows.Boot.len (qap_cons (pv_ B 0 (by kernel_rfl)) qap_nil))) (pq_of (qe_callB cr_len ok_len (B.gl (by kernel_rfl)) M.len PyProof.Rows.Boot.len (qap_cons (pv_ B 1 (by kernel_rfl)) qap_nil))) (by rfl))))) (sss_one (ss_ret qe_bl)) sss_nil) (sss_one (ss_ret (qe_cmp (op_eqP B.hu) ok_eq (pq_of (qe_of (fe_lcB (own := [("k", 2)]) B (qi_rng1 (B.gl (by kernel_rfl)) M.range (qap_cons (pq_of (qe_callB cr_len ok_len (B.gl (by kernel_rfl)) M.len PyProof.Rows.Boot.len (qap_cons (pv_ B 1 (by kernel_rfl)) qap_nil))) qap_nil)) (by kernel_rfl) (fun s1 H1 C1 l1 p1 B1 => (gb_ B s1 H1 C1 l1 p1 _ 2 (by kernel_rfl))) (fun s1 H1 C1 l1 p1 B1 => (tsq_one (tq_not (tq_tru (pq_of (qe_call c__law_like B1.room (by first | exact hk | exact Nat.le_refl _ | omega) (B1.gl (by kernel_rfl)) (qa_cons (qe_ix B1.hu (pv_ B1 0 (by kernel_rfl)) (pv_ B1 2 (by kernel_rfl)) (fun _ _ => rfl)) (qa_cons (qe_ix B1.hu (pv_ B1 1 (by kernel_rfl)) (pv_ B1 2 (by kernel_rfl)) (fun _ _ => rfl)) qa_nil)))))))) (fun s1 H1 C1 l1 p1 B1 => qe_int) (by decide)))) (pq_of (qe_of (fe_lst qa_nil))) (by rfl))))) sss_nil) (sss_cons (ss_if (tq_cmp op_isA ok_is (pv_ B 1 (by kernel_rfl)) (pq_of qe_non) (by rfl)) (sss_one (ss_ret (qe_cmp op_isA ok_is (pv_ B 0 (by kernel_rfl)) (pq_of qe_non) (by rfl)))) sss_nil) (sss_cons (ss_if (tq_cmp op_isA ok_is (pv_ B 1 (by kernel_rfl)) (pq_of qe_bl) (by rfl)) (sss_one (ss_ret (qe_cmp op_isA ok_is (pv_ B 0 (by kernel_rfl)) (pq_of qe_bl) (by rfl)))) sss_nil) (sss_cons (ss_if (tq_cmp op_isA ok_is (pv_ B 1 (by kernel_rfl)) (pq_of qe_bl) (by rfl)) (sss_one (ss_ret (qe_cmp op_isA ok_is (pv_ B 0 (by kernel_rfl)) (pq_of qe_bl) (by rfl)))) sss_nil) (sss_cons (ss_if (tq_tru (pq_of (qe_isi (T := .str) (B.gl (by kernel_rfl)) M.isinstance PyProof.Rows.Boot.isinstance (pv_ B 1 (by kernel_rfl)) (B.gl (by kernel_rfl)) M.str PyProof.Rows.Boot.str))) (sss_one (ss_ret (qe_and (qe_isi (T := .str) (B.gl (by kernel_rfl)) M.isinstance PyProof.Rows.Boot.isinstance (pv_ B 0 (by kernel_rfl)) (B.gl (by kernel_rfl)) M.str PyProof.Rows.Boot.str) (qe_one (qe_cmp (op_eqP B.hu) ok_eq (pq_of (qe_join (pq_of qe_str) (pq_of (qe_of (fe_lst (qa_cons (qv_ B 0 (by kernel_rfl)) qa_nil)))))) (pv_ B 1 (by kernel_rfl)) (by rfl)))))) sss_nil) (sss_one (ss_ret (qe_and (qe_isi (T := .int) (B.gl (by kernel_rfl)) M.isinstance PyProof.Rows.Boot.isinstance (pv_ B 0 (by kernel_rfl)) (B.gl (by kernel_rfl)) M.int PyProof.Rows.Boot.int) (qe_and (qe_not (pq_of (qe_isi (T := .bool) (B.gl (by kernel_rfl)) M.isinstance PyProof.Rows.Boot.isinstance (pv_ B 0 (by kernel_rfl)) (B.gl (by kernel_rfl)) M.bool PyProof.Rows.Boot.bool))) (qe_one (qe_cmp (op_eqP B.hu) ok_eq (pv_ B 0 (by kernel_rfl)) (pv_ B 1 (by kernel_rfl)) (by rfl))))))))))))
theorem cal__law_like {P : Program} {w : World} {K : PySem.W.Frag} {mg : Str → Option Value} {base : Heap} (d : DefM K mg "_law_like" s__law_like) (M : Mb mg) : ∀ m, Cal P w K mg base (0 + m) "_law_like" (spP K 2 (R__law_like m))
  | 0 => by
    obtain ⟨f, fd, F, hm⟩ := d
    exact ⟨f, fd, P__law_like, fn_none, hm, F.kp, F.bindsN (ps := P__law_like) fun _ _ _ _ _ _ us hl => match us, hl with | [_, _], _ => rfl⟩
  | m + 1 => by
    have ih := cal__law_like (P := P) (w := w) (base := base) d M m
    obtain ⟨f, fd, F, hm⟩ := d
    exact ⟨f, fd, P__law_like, ok_fnP F sc__law_like (g := R__law_like (m + 1)) (fun ds d _ h => h) (fun cdv A outer s H E hr => b__law_like (R__law_like m) (Nat.le_add_right _ _) ⟨rfl, rfl, rfl, hr, PassesOwn.never, sc__law_like.nd⟩ (fun _ => rfl) M ih), hm, F.kp, F.bindsN (ps := P__law_like) fun _ _ _ _ _ _ us hl => match us, hl with | [_, _], _ => rfl⟩
/-! ### _law_tasks -/
def N__law_tasks : List Str := ["box", "tasks", "name", "most", "due"]
def P__law_tasks : List Str := ["box"]
noncomputable def L__law_tasks_1 : DS := (dSeq (dSetE 3 (e2 addD (eQ (qC (.int 1))) (eIO 0 2 F__law_draw (aCons (qC (.int 3)) aNil)))) (dSeq (dSetE 4 (e2 addD (eQ (qVar 3)) (eIO 0 2 F__law_draw (aCons (qC (.int 7)) aNil)))) (dAppE 1 (eFn (fun ds => if ds.length ≤ LIM then some (.tuple ds) else none) (eaCons (eQ (qVar 2)) (eaCons (eQ (qC (.str "any"))) (eaCons (eQ (qC (.int 0))) (eaCons (eFn minD (eaCons (eQ (qC (.int 20))) (eaCons (e2 addD (eQ (qVar 4)) (eIO 0 2 F__law_draw (aCons (qC (.int 5)) aNil))) eaNil))) (eaCons (eQ (qVar 4)) (eaCons (e2 addD (eQ (qC (.int 1))) (eIO 0 2 F__law_draw (aCons (qVar 3) aNil))) (eaCons (eQ (qVar 3)) eaNil)))))))))))
noncomputable def f__law_tasks : DS := (dSeq (dSetF 1 (qLst aNil)) (dSeq (dForE (eSl (qLst (aCons (qC (.str "b")) (aCons (qC (.str "a")) (aCons (qC (.str "c")) (aCons (qC (.str "e")) (aCons (qC (.str "d")) aNil)))))) (e2 addD (eQ (qC (.int 2))) (eIO 0 2 F__law_draw (aCons (qC (.int 4)) aNil)))) (gN 2) L__law_tasks_1) (dRet (qCall tupleD (aCons (pVar 1) aNil)))))
noncomputable def F__law_tasks : List PD → Option (PD × PD) := fnIO 5 0 f__law_tasks
theorem sc__law_tasks : FnScope N__law_tasks P__law_tasks (defScope s__law_tasks) := ⟨rfl, rfl, rfl, by decide +kernel, rfl, by decide +kernel, by decide +kernel⟩
theorem b__law_tasks {X : Cx} (B : Bd X N__law_tasks (defScope s__law_tasks) 1) (fn : ∀ x, X.fn x = true) (M : Mb X.mg) (c__law_draw : CalX X 1 "_law_draw" (spIO X.K 2 0 F__law_draw)) : SSs X (defBody s__law_tasks) f__law_tasks :=
  (sss_cons (ss_setF 1 B.nodup (B.at (by kernel_rfl)) (B.lc (by kernel_rfl)) (fe_lst qa_nil) (.inl (fn _))) (sss_cons (ss_forE B.po B.calm (ee_slice (qe_of (fe_lst (qa_cons qe_str (qa_cons qe_str (qa_cons qe_str (qa_cons qe_str (qa_cons qe_str qa_nil))))))) (ee_op op_addA ok_add (ee_q qe_int) (ee_callIO c__law_draw B.room (by decide) (B.gl (by kernel_rfl)) (ov_ B 0 (by kernel_rfl)) (qa_cons qe_int qa_nil)))) (gd_ B fn 2 (by kernel_rfl)) (sss_cons (ss_setE 3 B.nodup (B.at (by kernel_rfl)) (B.lc (by kernel_rfl)) (ee_op op_addA ok_add (ee_q qe_int) (ee_callIO c__law_draw B.room (by decide) (B.gl (by kernel_rfl)) (ov_ B 0 (by kernel_rfl)) (qa_cons qe_int qa_nil))) (.inl (fn _))) (sss_cons (ss_setE 4 B.nodup (B.at (by kernel_rfl)) (B.lc (by kernel_rfl)) (ee_op op_addA ok_add (ee_q (qv_ B 3 (by kernel_rfl))) (ee_callIO c__law_draw B.room (by decide) (B.gl (by kernel_rfl)) (ov_ B 0 (by kernel_rfl)) (qa_cons qe_int qa_nil))) (.inl (fn _))) (sss_one (ss_appE 1 (ov_ B 1 (by kernel_rfl)) (ee_tup (ea_cons (ee_q (qv_ B 2 (by kernel_rfl))) (ea_cons (ee_q qe_str) (ea_cons (ee_q qe_int) (ea_cons (ee_callB (cr_minA B.calm) ok_min (B.gl (by kernel_rfl)) M.min PyProof.Rows.Boot.min (ea_cons (ee_q qe_int) (ea_cons (ee_op op_addA ok_add (ee_q (qv_ B 4 (by kernel_rfl))) (ee_callIO c__law_draw B.room (by decide) (B.gl (by kernel_rfl)) (ov_ B 0 (by kernel_rfl)) (qa_cons qe_int qa_nil))) ea_nil))) (ea_cons (ee_q (qv_ B 4 (by kernel_rfl))) (ea_cons (ee_op op_addA ok_add (ee_q qe_int) (ee_callIO c__law_draw B.room (by decide) (B.gl (by kernel_rfl)) (ov_ B 0 (by kernel_rfl)) (qa_cons (qv_ B 3 (by kernel_rfl)) qa_nil))) (ea_cons (ee_q (qv_ B 3 (by kernel_rfl))) ea_nil))))))))))))) (sss_one (ss_ret (qe_callTy call_tuple_of ok_tuple (B.gl (by kernel_rfl)) M.tuple PyProof.Rows.Boot.tuple (qap_cons (pv_ B 1 (by kernel_rfl)) qap_nil))))))
theorem cal__law_tasks {P : Program} {w : World} {K : PySem.W.Frag} {mg : Str → Option Value} {base : Heap} (d : DefM K mg "_law_tasks" s__law_tasks) (M : Mb mg) (c__law_draw : Cal P w K mg base 1 "_law_draw" (spIO K 2 0 F__law_draw)) : Cal P w K mg base 2 "_law_tasks" (spIO K 1 0 F__law_tasks) := by
  obtain ⟨f, fd, F, hm⟩ := d
  exact ⟨f, fd, P__law_tasks, ok_fnIO (j := 0) F sc__law_tasks (g := F__law_tasks) (fun ds d _ h => h) (fun cdv A outer s H E hr => b__law_tasks ⟨rfl, rfl, rfl, hr, PassesOwn.never, sc__law_tasks.nd⟩ (fun _ => rfl) M c__law_draw), hm, F.kp, F.bindsN (ps := P__law_tasks) fun _ _ _ _ _ _ us hl => match us, hl with | [_], _ => rfl⟩
/-! ### _law_least -/
def N__law_least : List Str := ["supply", "many", "start", "at"]
def P__law_least : List Str := ["supply", "many"]
noncomputable def f__law_least : DS := (dRet (qCall minD (aCons (dLc (iRng1 (aCons (qCall lenD (aCons (pVar 0) aNil)) aNil)) (gN 2) tYesD (qCall sumD (aCons (dLc (iRng1 (aCons (pVar 1) aNil)) (gN 3) tYesD (q2 getD' (pVar 0) (q2 modD (q2 addD (pVar 2) (pVar 3)) (qCall lenD (aCons (pVar 0) aNil)))) [3]) aNil)) [2]) aNil)))
noncomputable def F__law_least : List PD → Option PD := fnD 4 f__law_least
theorem sc__law_least : FnScope N__law_least P__law_least (defScope s__law_least) := ⟨rfl, rfl, rfl, by decide +kernel, rfl, by decide +kernel, by decide +kernel⟩
theorem b__law_least {X : Cx} (B : Bd X N__law_least (defScope s__law_least) 0) (fn : ∀ x, X.fn x = true) (M : Mb X.mg) : SSs X (defBody s__law_least) f__law_least :=
  (sss_one (ss_ret (qe_callB (cr_minA B.calm) ok_min (B.gl (by kernel_rfl)) M.min PyProof.Rows.Boot.min (qap_cons (pq_of (qe_of (fe_lcB (own := [("start", 2)]) B (qi_rng1 (B.gl (by kernel_rfl)) M.range (qap_cons (pq_of (qe_callB cr_len ok_len (B.gl (by kernel_rfl)) M.len PyProof.Rows.Boot.len (qap_cons (pv_ B 0 (by kernel_rfl)) qap_nil))) qap_nil)) (by kernel_rfl) (fun s1 H1 C1 l1 p1 B1 => (gb_ B s1 H1 C1 l1 p1 _ 2 (by kernel_rfl))) (fun s1 H1 C1 l1 p1 B1 => tsq_nil) (fun s1 H1 C1 l1 p1 B1 => (qe_callB (cr_sumT B1.calm) ok_sum (B1.gl (by kernel_rfl)) M.sum PyProof.Rows.Boot.sum (qap_cons (pq_of (qe_of (fe_lcB (own := [("at", 3)]) B1 (qi_rng1 (B1.gl (by kernel_rfl)) M.range (qap_cons (pv_ B1 1 (by kernel_rfl)) qap_nil)) (by kernel_rfl) (fun s2 H2 C2 l2 p2 B2 => (gb_ B1 s2 H2 C2 l2 p2 _ 3 (by kernel_rfl))) (fun s2 H2 C2 l2 p2 B2 => tsq_nil) (fun s2 H2 C2 l2 p2 B2 => (qe_ix B2.hu (pv_ B2 0 (by kernel_rfl)) (pq_of (qe_op op_mod ok_mod (pq_of (qe_op op_addA ok_add (pv_ B2 2 (by kernel_rfl)) (pv_ B2 3 (by kernel_rfl)))) (pq_of (qe_callB cr_len ok_len (B2.gl (by kernel_rfl)) M.len PyProof.Rows.Boot.len (qap_cons (pv_ B2 0 (by kernel_rfl)) qap_nil))))) (fun _ _ => rfl))) (by decide)))) qap_nil))) (by decide)))) qap_nil))))
theorem cal__law_least {P : Program} {w : World} {K : PySem.W.Frag} {mg : Str → Option Value} {base : Heap} (d : DefM K mg "_law_least" s__law_least) (M : Mb mg) : Cal P w K mg base 1 "_law_least" (spP K 2 F__law_least) := by
  obtain ⟨f, fd, F, hm⟩ := d
  exact ⟨f, fd, P__law_least, ok_fnP F sc__law_least (g := F__law_least) (fun ds d _ h => h) (fun cdv A outer s H E hr => b__law_least ⟨rfl, rfl, rfl, hr, PassesOwn.never, sc__law_least.nd⟩ (fun _ => rfl) M), hm, F.kp, F.bindsN (ps := P__law_least) fun _ _ _ _ _ _ us hl => match us, hl with | [_, _], _ => rfl⟩
/-! ### _law_time -/
def N__law_time : List Str := ["task", "ahead", "supply", "ticks", "own"]
def P__law_time : List Str := ["task", "ahead", "supply"]
noncomputable def L__law_time_1 : DS := (dIf (asB (q2 leD (q2 addD (q2 getD' (pVar 0) (qC (.int 6))) (qCall sumD (aCons (dLc (iSeq (pVar 1)) (gN 4) tYesD (q2 mulD (q2 getD' (pVar 4) (qC (.int 6))) (q2 fdivD (q2 subD (q2 addD (pVar 3) (q2 getD' (pVar 4) (qC (.int 3)))) (qC (.int 1))) (q2 getD' (pVar 4) (qC (.int 3))))) [4]) aNil))) (qCall (fun ds => if ds.length = 2 then F__law_least ds else none) (aCons (qVar 2) (aCons (qVar 3) aNil))))) (dRet (qVar 3)) dNil)
noncomputable def f__law_time : DS := (dSeq (dFor (iRng2 (aCons (qC (.int 1)) (aCons (q2 addD (q2 getD' (pVar 0) (qC (.int 4))) (qC (.int 1))) aNil))) (gN 3) L__law_time_1) (dRet (qC .none)))
noncomputable def F__law_time : List PD → Option PD := fnD 5 f__law_time
theorem sc__law_time : FnScope N__law_time P__law_time (defScope s__law_time) := ⟨rfl, rfl, rfl, by decide +kernel, rfl, by decide +kernel, by decide +kernel⟩
theorem b__law_time {X : Cx} (B : Bd X N__law_time (defScope s__law_time) 1) (fn : ∀ x, X.fn x = true) (M : Mb X.mg) (c__law_least : CalX X 1 "_law_least" (spP X.K 2 F__law_least)) : SSs X (defBody s__law_time) f__law_time :=
  (sss_cons (ss_for B.po B.calm (qi_rng2 (B.gl (by kernel_rfl)) M.range (qap_cons (pq_of qe_int) (qap_cons (pq_of (qe_op op_addA ok_add (pq_of (qe_ix B.hu (pv_ B 0 (by kernel_rfl)) (pq_of qe_int) (fun _ _ => rfl))) (pq_of qe_int))) qap_nil))) (gd_ B fn 3 (by kernel_rfl)) (sss_one (ss_if (tq_cmp op_le ok_cmpI (pq_of (qe_op op_addA ok_add (pq_of (qe_ix B.hu (pv_ B 0 (by kernel_rfl)) (pq_of qe_int) (fun _ _ => rfl))) (pq_of (qe_callB (cr_sumT B.calm) ok_sum (B.gl (by kernel_rfl)) M.sum PyProof.Rows.Boot.sum (qap_cons (pq_of (qe_of (fe_lcB (own := [("own", 4)]) B (qi_seq (pv_ B 1 (by kernel_rfl))) (by kernel_rfl) (fun s1 H1 C1 l1 p1 B1 => (gb_ B s1 H1 C1 l1 p1 _ 4 (by kernel_rfl))) (fun s1 H1 C1 l1 p1 B1 => tsq_nil) (fun s1 H1 C1 l1 p1 B1 => (qe_op op_mul ok_mul (pq_of (qe_ix B1.hu (pv_ B1 4 (by kernel_rfl)) (pq_of qe_int) (fun _ _ => rfl))) (pq_of (qe_op op_fdiv ok_fdiv (pq_of (qe_op op_sub ok_sub (pq_of (qe_op op_addA ok_add (pv_ B1 3 (by kernel_rfl)) (pq_of (qe_ix B1.hu (pv_ B1 4 (by kernel_rfl)) (pq_of qe_int) (fun _ _ => rfl))))) (pq_of qe_int))) (pq_of (qe_ix B1.hu (pv_ B1 4 (by kernel_rfl)) (pq_of qe_int) (fun _ _ => rfl))))))) (by decide)))) qap_nil))))) (pq_of (qe_call c__law_least B.room (by decide) (B.gl (by kernel_rfl)) (qa_cons (qv_ B 2 (by kernel_rfl)) (qa_cons (qv_ B 3 (by kernel_rfl)) qa_nil)))) (by rfl)) (sss_one (ss_ret (qv_ B 3 (by kernel_rfl)))) sss_nil))) (sss_one (ss_ret qe_non)))
theorem cal__law_time {P : Program} {w : World} {K : PySem.W.Frag} {mg : Str → Option Value} {base : Heap} (d : DefM K mg "_law_time" s__law_time) (M : Mb mg) (c__law_least : Cal P w K mg base 1 "_law_least" (spP K 2 F__law_least)) : Cal P w K mg base 2 "_law_time" (spP K 3 F__law_time) := by
  obtain ⟨f, fd, F, hm⟩ := d
  exact ⟨f, fd, P__law_time, ok_fnP F sc__law_time (g := F__law_time) (fun ds d _ h => h) (fun cdv A outer s H E hr => b__law_time ⟨rfl, rfl, rfl, hr, PassesOwn.never, sc__law_time.nd⟩ (fun _ => rfl) M c__law_least), hm, F.kp, F.bindsN (ps := P__law_time) fun _ _ _ _ _ _ us hl => match us, hl with | [_, _, _], _ => rfl⟩
/-! ### _law_start -/
def N__law_start : List Str := ["task", "ahead", "behind", "start", "own"]
def P__law_start : List Str := ["task", "ahead", "behind"]
noncomputable def L__law_start_1 : DS := (dIf (asB (q2 leD (q2 addD (qCall maxD (aCons (q2 addD (dLc (iSeq (pVar 2)) (gN 4) tYesD (q2 getD' (pVar 4) (qC (.int 6))) [4]) (qLst (aCons (q2 getD' (pVar 0) (qC (.int 6))) aNil))) aNil)) (qCall sumD (aCons (dLc (iSeq (pVar 1)) (gN 4) tYesD (q2 mulD (q2 getD' (pVar 4) (qC (.int 6))) (q2 addD (q2 fdivD (pVar 3) (q2 getD' (pVar 4) (qC (.int 3)))) (qC (.int 1)))) [4]) aNil))) (pVar 3))) (dRet (qVar 3)) dNil)
noncomputable def f__law_start : DS := (dSeq (dFor (iRng1 (aCons (q2 addD (q2 subD (q2 getD' (pVar 0) (qC (.int 4))) (q2 getD' (pVar 0) (qC (.int 6)))) (qC (.int 1))) aNil)) (gN 3) L__law_start_1) (dRet (qC .none)))
noncomputable def F__law_start : List PD → Option PD := fnD 5 f__law_start
theorem sc__law_start : FnScope N__law_start P__law_start (defScope s__law_start) := ⟨rfl, rfl, rfl, by decide +kernel, rfl, by decide +kernel, by decide +kernel⟩
theorem b__law_start {X : Cx} (B : Bd X N__law_start (defScope s__law_start) 0) (fn : ∀ x, X.fn x = true) (M : Mb X.mg) : SSs X (defBody s__law_start) f__law_start :=
  (sss_cons (ss_for B.po B.calm (qi_rng1 (B.gl (by kernel_rfl)) M.range (qap_cons (pq_of (qe_op op_addA ok_add (pq_of (qe_op op_sub ok_sub (pq_of (qe_ix B.hu (pv_ B 0 (by kernel_rfl)) (pq_of qe_int) (fun _ _ => rfl))) (pq_of (qe_ix B.hu (pv_ B 0 (by kernel_rfl)) (pq_of qe_int) (fun _ _ => rfl))))) (pq_of qe_int))) qap_nil)) (gd_ B fn 3 (by kernel_rfl)) (sss_one (ss_if (tq_cmp op_le ok_cmpI (pq_of (qe_op op_addA ok_add (pq_of (qe_callB (cr_maxA B.calm) ok_max (B.gl (by kernel_rfl)) M.max PyProof.Rows.Boot.max (qap_cons (pq_of (qe_op op_addA ok_add (pq_of (qe_of (fe_lcB (own := [("own", 4)]) B (qi_seq (pv_ B 2 (by kernel_rfl))) (by kernel_rfl) (fun s1 H1 C1 l1 p1 B1 => (gb_ B s1 H1 C1 l1 p1 _ 4 (by kernel_rfl))) (fun s1 H1 C1 l1 p1 B1 => tsq_nil) (fun s1 H1 C1 l1 p1 B1 => (qe_ix B1.hu (pv_ B1 4 (by kernel_rfl)) (pq_of qe_int) (fun _ _ => rfl))) (by decide)))) (pq_of (qe_of (fe_lst (qa_cons (qe_ix B.hu (pv_ B 0 (by kernel_rfl)) (pq_of qe_int) (fun _ _ => rfl)) qa_nil)))))) qap_nil))) (pq_of (qe_callB (cr_sumT B.calm) ok_sum (B.gl (by kernel_rfl)) M.sum PyProof.Rows.Boot.sum (qap_cons (pq_of (qe_of (fe_lcB (own := [("own", 4)]) B (qi_seq (pv_ B 1 (by kernel_rfl))) (by kernel_rfl) (fun s1 H1 C1 l1 p1 B1 => (gb_ B s1 H1 C1 l1 p1 _ 4 (by kernel_rfl))) (fun s1 H1 C1 l1 p1 B1 => tsq_nil) (fun s1 H1 C1 l1 p1 B1 => (qe_op op_mul ok_mul (pq_of (qe_ix B1.hu (pv_ B1 4 (by kernel_rfl)) (pq_of qe_int) (fun _ _ => rfl))) (pq_of (qe_op op_addA ok_add (pq_of (qe_op op_fdiv ok_fdiv (pv_ B1 3 (by kernel_rfl)) (pq_of (qe_ix B1.hu (pv_ B1 4 (by kernel_rfl)) (pq_of qe_int) (fun _ _ => rfl))))) (pq_of qe_int))))) (by decide)))) qap_nil))))) (pv_ B 3 (by kernel_rfl)) (by rfl)) (sss_one (ss_ret (qv_ B 3 (by kernel_rfl)))) sss_nil))) (sss_one (ss_ret qe_non)))
theorem cal__law_start {P : Program} {w : World} {K : PySem.W.Frag} {mg : Str → Option Value} {base : Heap} (d : DefM K mg "_law_start" s__law_start) (M : Mb mg) : Cal P w K mg base 1 "_law_start" (spP K 3 F__law_start) := by
  obtain ⟨f, fd, F, hm⟩ := d
  exact ⟨f, fd, P__law_start, ok_fnP F sc__law_start (g := F__law_start) (fun ds d _ h => h) (fun cdv A outer s H E hr => b__law_start ⟨rfl, rfl, rfl, hr, PassesOwn.never, sc__law_start.nd⟩ (fun _ => rfl) M), hm, F.kp, F.bindsN (ps := P__law_start) fun _ _ _ _ _ _ us hl => match us, hl with | [_, _, _], _ => rfl⟩
/-! ### _law_orders -/
def N__law_orders : List Str := ["names", "found", "turn", "longer", "row", "name"]
def P__law_orders : List Str := ["names"]
noncomputable def L__law_orders_1 : DS := (dSet 3 (q2 addD (pVar 3) (dLc (iSeq (pVar 0)) (gN 5) (asB (q2 niD (pVar 5) (pVar 4))) (q2 addD (pVar 4) (qTup (aCons (qVar 5) aNil))) [5])))
noncomputable def L__law_orders_2 : DS := (dSeq (dSet 3 (qLst aNil)) (dSeq (dFor (iSeq (qVar 1)) (gN 4) L__law_orders_1) (dSet 1 (qVar 3))))
noncomputable def f__law_orders : DS := (dSeq (dSet 1 (qLst (aCons (qTup aNil) aNil))) (dSeq (dFor (iRng1 (aCons (qCall lenD (aCons (pVar 0) aNil)) aNil)) (gN 2) L__law_orders_2) (dRet (qVar 1))))
noncomputable def F__law_orders : List PD → Option PD := fnD 6 f__law_orders
theorem sc__law_orders : FnScope N__law_orders P__law_orders (defScope s__law_orders) := ⟨rfl, rfl, rfl, by decide +kernel, rfl, by decide +kernel, by decide +kernel⟩
theorem b__law_orders {X : Cx} (B : Bd X N__law_orders (defScope s__law_orders) 0) (fn : ∀ x, X.fn x = true) (M : Mb X.mg) : SSs X (defBody s__law_orders) f__law_orders :=
  (sss_cons (ss_set 1 B.nodup (B.at (by kernel_rfl)) (B.lc (by kernel_rfl)) (qe_of (fe_lst (qa_cons (qe_tup qa_nil) qa_nil))) (.inl (fn _))) (sss_cons (ss_for B.po B.calm (qi_rng1 (B.gl (by kernel_rfl)) M.range (qap_cons (pq_of (qe_callB cr_len ok_len (B.gl (by kernel_rfl)) M.len PyProof.Rows.Boot.len (qap_cons (pv_ B 0 (by kernel_rfl)) qap_nil))) qap_nil)) (gd_ B fn 2 (by kernel_rfl)) (sss_cons (ss_set 3 B.nodup (B.at (by kernel_rfl)) (B.lc (by kernel_rfl)) (qe_of (fe_lst qa_nil)) (.inl (fn _))) (sss_cons (ss_for B.po B.calm (qi_seq (qv_ B 1 (by kernel_rfl))) (gd_ B fn 4 (by kernel_rfl)) (sss_one (ss_set 3 B.nodup (B.at (by kernel_rfl)) (B.lc (by kernel_rfl)) (qe_op op_addA ok_add (pv_ B 3 (by kernel_rfl)) (pq_of (qe_of (fe_lcB (own := [("name", 5)]) B (qi_seq (pv_ B 0 (by kernel_rfl))) (by kernel_rfl) (fun s1 H1 C1 l1 p1 B1 => (gb_ B s1 H1 C1 l1 p1 _ 5 (by kernel_rfl))) (fun s1 H1 C1 l1 p1 B1 => (tsq_one (tq_cmp (op_niA B1.hu) ok_ni (pv_ B1 5 (by kernel_rfl)) (pv_ B1 4 (by kernel_rfl)) (by rfl)))) (fun s1 H1 C1 l1 p1 B1 => (qe_op op_addA ok_add (pv_ B1 4 (by kernel_rfl)) (pq_of (qe_tup (qa_cons (qv_ B1 5 (by kernel_rfl)) qa_nil))))) (by decide))))) (.inl (fn _))))) (sss_one (ss_set 1 B.nodup (B.at (by kernel_rfl)) (B.lc (by kernel_rfl)) (qv_ B 3 (by kernel_rfl)) (.inl (fn _))))))) (sss_one (ss_ret (qv_ B 1 (by kernel_rfl))))))
theorem cal__law_orders {P : Program} {w : World} {K : PySem.W.Frag} {mg : Str → Option Value} {base : Heap} (d : DefM K mg "_law_orders" s__law_orders) (M : Mb mg) : Cal P w K mg base 1 "_law_orders" (spP K 1 F__law_orders) := by
  obtain ⟨f, fd, F, hm⟩ := d
  exact ⟨f, fd, P__law_orders, ok_fnP F sc__law_orders (g := F__law_orders) (fun ds d _ h => h) (fun cdv A outer s H E hr => b__law_orders ⟨rfl, rfl, rfl, hr, PassesOwn.never, sc__law_orders.nd⟩ (fun _ => rfl) M), hm, F.kp, F.bindsN (ps := P__law_orders) fun _ _ _ _ _ _ us hl => match us, hl with | [_], _ => rfl⟩
/-! ### _law_fits -/
def N__law_fits : List Str := ["tasks", "at"]
def P__law_fits : List Str := ["tasks"]
noncomputable def f__law_fits : DS := (dRet (q2 eqD (dLc (iRng1 (aCons (qCall lenD (aCons (pVar 0) aNil)) aNil)) (gN 1) (asB (q2 isD (qCall (fun ds => if ds.length = 3 then F__law_time ds else none) (aCons (q2 getD' (pVar 0) (pVar 1)) (aCons (qSl (pVar 0) none (some (pVar 1))) (aCons (qTup (aCons (qC (.int 1)) aNil)) aNil)))) (qC .none))) (qC (.int 1)) [1]) (qLst aNil)))
noncomputable def F__law_fits : List PD → Option PD := fnD 2 f__law_fits
theorem sc__law_fits : FnScope N__law_fits P__law_fits (defScope s__law_fits) := ⟨rfl, rfl, rfl, by decide +kernel, rfl, by decide +kernel, by decide +kernel⟩
theorem b__law_fits {X : Cx} (B : Bd X N__law_fits (defScope s__law_fits) 2) (fn : ∀ x, X.fn x = true) (M : Mb X.mg) (c__law_time : CalX X 2 "_law_time" (spP X.K 3 F__law_time)) : SSs X (defBody s__law_fits) f__law_fits :=
  (sss_one (ss_ret (qe_cmp (op_eqP B.hu) ok_eq (pq_of (qe_of (fe_lcB (own := [("at", 1)]) B (qi_rng1 (B.gl (by kernel_rfl)) M.range (qap_cons (pq_of (qe_callB cr_len ok_len (B.gl (by kernel_rfl)) M.len PyProof.Rows.Boot.len (qap_cons (pv_ B 0 (by kernel_rfl)) qap_nil))) qap_nil)) (by kernel_rfl) (fun s1 H1 C1 l1 p1 B1 => (gb_ B s1 H1 C1 l1 p1 _ 1 (by kernel_rfl))) (fun s1 H1 C1 l1 p1 B1 => (tsq_one (tq_cmp op_isA ok_is (pq_of (qe_call c__law_time B1.room (by decide) (B1.gl (by kernel_rfl)) (qa_cons (qe_ix B1.hu (pv_ B1 0 (by kernel_rfl)) (pv_ B1 1 (by kernel_rfl)) (fun _ _ => rfl)) (qa_cons (qe_slice (pv_ B1 0 (by kernel_rfl)) qo_none (qo_some (pv_ B1 1 (by kernel_rfl)))) (qa_cons (qe_tup (qa_cons qe_int qa_nil)) qa_nil))))) (pq_of qe_non) (by rfl)))) (fun s1 H1 C1 l1 p1 B1 => qe_int) (by decide)))) (pq_of (qe_of (fe_lst qa_nil))) (by rfl))))
theorem cal__law_fits {P : Program} {w : World} {K : PySem.W.Frag} {mg : Str → Option Value} {base : Heap} (d : DefM K mg "_law_fits" s__law_fits) (M : Mb mg) (c__law_time : Cal P w K mg base 2 "_law_time" (spP K 3 F__law_time)) : Cal P w K mg base 3 "_law_fits" (spP K 1 F__law_fits) := by
  obtain ⟨f, fd, F, hm⟩ := d
  exact ⟨f, fd, P__law_fits, ok_fnP F sc__law_fits (g := F__law_fits) (fun ds d _ h => h) (fun cdv A outer s H E hr => b__law_fits ⟨rfl, rfl, rfl, hr, PassesOwn.never, sc__law_fits.nd⟩ (fun _ => rfl) M c__law_time), hm, F.kp, F.bindsN (ps := P__law_fits) fun _ _ _ _ _ _ us hl => match us, hl with | [_], _ => rfl⟩
/-! ### law -/
def N_law : List Str := ["script", "box", "tasks", "supply", "names", "system", "times", "told", "at", "less_v", "plain", "whole", "starts", "orders", "table", "good", "order", "name", "places", "rest", "task", "own", "place", "time", "row", "one"]
def P_law : List Str := ["script"]
noncomputable def L_law_1 : DS := (dSeq (dSet 19 (dLc (iSeq (pVar 2)) (gN 21) (asB (q2 neD (q2 getD' (pVar 21) (qC (.int 0))) (pVar 17))) (qVar 21) [21])) (dApp 18 (qTup (aCons (qVar 17) (aCons (qCall tupleD (aCons (dLc (iRng1 (aCons (qCall lenD (aCons (pVar 4) aNil)) aNil)) (gN 22) (asB (q2 isnD (qCall (fun ds => if ds.length = 3 then F__law_time ds else none) (aCons (q2 getD' (pVar 14) (pVar 17)) (aCons (qSl (pVar 19) none (some (pVar 22))) (aCons (qTup (aCons (qC (.int 1)) aNil)) aNil)))) (qC .none))) (qVar 22) [22]) aNil)) aNil)))))
noncomputable def L_law_2 : DS := (dIf (tAndB (asB (q2 niD (pVar 16) (pVar 15))) (asB (q2 isnD (qCall (fun ds => if ds.length = 2 then F_check_order ds else none) (aCons (qVar 10) (aCons (qTup (aCons (qC (.str "order")) (aCons (qVar 16) (aCons (q2 getD' (pVar 7) (qC (.int 2))) aNil)))) aNil))) (qC (.bool false))))) (dRet (qC (.bool false))) dNil)
noncomputable def L_law_3 : DS := (dIf (asB (q2 isnD (qCall (fun ds => if ds.length = 3 then F__law_time ds else none) (aCons (q2 getD' (pVar 14) (pVar 17)) (aCons (dLc (iSeq (q2 getD' (pVar 7) (qC (.int 1)))) (gN 25) (asB (q2 neD (pVar 25) (pVar 17))) (q2 getD' (pVar 14) (pVar 25)) [25]) (aCons (qTup (aCons (qC (.int 1)) aNil)) aNil)))) (qC .none))) (dRet (qC (.bool false))) dNil)
noncomputable def L_law_4 : DS := (dSeq (dSet 9 (qCall tupleD (aCons (dLc (iEz (aCons (pVar 4) (aCons (pVar 6) aNil))) (gT 2 (gsCons (gN 22) (gsCons (gT 2 (gsCons (gN 17) (gsCons (gN 23) gsNil))) gsNil))) tYesD (qTup (aCons (qVar 17) (aCons (qIf (asB (q2 eqD (pVar 22) (pVar 8))) (q2 subD (pVar 23) (qC (.int 1))) (qVar 23)) aNil))) [22, 17, 23]) aNil))) (dIf (tOrB (asB (q2 isnD (qCall (fun ds => if ds.length = 2 then F_check ds else none) (aCons (qVar 5) (aCons (qTup (aCons (qC (.str "meets")) (aCons (qTup (aCons (qC (.str "times")) (aCons (qVar 9) aNil))) aNil))) aNil))) (qC (.bool false)))) (asB (q2 isnD (qCall (fun ds => if ds.length = 2 then F_check ds else none) (aCons (qVar 5) (aCons (qTup (aCons (qC (.str "meets")) (aCons (qTup (aCons (qC (.str "times")) (aCons (q2 revD (qZipT (aCons (pVar 4) (aCons (pVar 6) aNil))) (q1 negD (qC (.int 1)))) aNil))) aNil))) aNil))) (qC (.bool false))))) (dRet (qC (.bool false))) dNil))
noncomputable def f_law : DS := (dSeq (dSetF 1 (qLst (aCons (qCall (fun ds => if ds.length = 3 then F__law_digits ds else none) (aCons (qVar 0) (aCons (qC (.int 0)) (aCons (qC (.int 6)) aNil)))) (aCons (qC (.int 0)) aNil)))) (dSeq (dGetE (gT 2 (gsCons (gN 2) (gsCons (gN 3) gsNil))) (eFn (fun ds => if ds.length ≤ LIM then some (.tuple ds) else none) (eaCons (eIO 1 1 F__law_tasks aNil) (eaCons (e2 getD' (eQ (qLst (aCons (qTup (aCons (qC (.int 1)) aNil)) (aCons (qTup (aCons (qC (.int 1)) aNil)) (aCons (qTup (aCons (qC (.int 1)) (aCons (qC (.int 1)) (aCons (qC (.int 0)) aNil)))) (aCons (qTup (aCons (qC (.int 1)) (aCons (qC (.int 0)) aNil))) aNil)))))) (eIO 1 2 F__law_draw (aCons (qC (.int 4)) aNil))) eaNil)))) (dSeq (dSet 4 (dLc (iSeq (pVar 2)) (gN 20) tYesD (q2 getD' (pVar 20) (qC (.int 0))) [20])) (dSeq (dPar [5, 6] (mCons false (qTup (aCons (qC (.str "system")) (aCons (qC (.int 1)) (aCons (qC (.str "fixed")) (aCons (qC (.bool true)) (aCons (qVar 3) (aCons (qVar 2) (aCons (qTup aNil) aNil)))))))) (mCons false (dLc (iRng1 (aCons (qCall lenD (aCons (pVar 2) aNil)) aNil)) (gN 8) tYesD (qCall (fun ds => if ds.length = 3 then F__law_time ds else none) (aCons (q2 getD' (pVar 2) (pVar 8)) (aCons (qSl (pVar 2) none (some (pVar 8))) (aCons (qVar 3) aNil)))) [8]) mNil))) (dSeq (dSet 7 (qCall (fun ds => if ds.length = 1 then F_timed ds else none) (aCons (qVar 5) aNil))) (dSeq (dIf (asB (q2 inD (qC .none) (pVar 6))) (dIf (tNotB (tru (qCall (fun ds => if ds.length = 2 then F__law_like ds else none) (aCons (qVar 7) (aCons (qTup (aCons (qC (.str "over")) (aCons (q2 getD' (pVar 4) (q2 idxD (pVar 6) (qC .none))) aNil))) aNil))))) (dRet (qC (.bool false))) dNil) (dIf (tOrB (tNotB (tru (qCall (fun ds => if ds.length = 2 then F__law_like ds else none) (aCons (qVar 7) (aCons (qTup (aCons (qC (.str "meets")) (aCons (qTup (aCons (qC (.str "times")) (aCons (qZipT (aCons (pVar 4) (aCons (pVar 6) aNil))) aNil))) aNil))) aNil))))) (asB (q2 isnD (qCall (fun ds => if ds.length = 2 then F_check ds else none) (aCons (qVar 5) (aCons (qVar 7) aNil))) (qC (.bool true))))) (dRet (qC (.bool false))) dNil)) (dSeq (dFor (iRng1 (aCons (qIf (asB (q2 niD (qC .none) (pVar 6))) (qCall lenD (aCons (pVar 2) aNil)) (qC (.int 0))) aNil)) (gN 8) L_law_4) (dSeq (dPar [10, 11] (mCons false (q2 addD (q2 addD (qSl (pVar 5) none (some (qC (.int 4)))) (qTup (aCons (qTup (aCons (qC (.int 1)) aNil)) aNil))) (qSl (pVar 5) (some (qC (.int 5))) none)) (mCons false (q2 addD (q2 addD (qSl (pVar 5) none (some (qC (.int 3)))) (qTup (aCons (qC (.bool false)) (aCons (qTup (aCons (qC (.int 1)) aNil)) aNil)))) (qSl (pVar 5) (some (qC (.int 5))) none)) mNil))) (dSeq (dSet 12 (dLc (iRng1 (aCons (qCall lenD (aCons (pVar 2) aNil)) aNil)) (gN 8) tYesD (qCall (fun ds => if ds.length = 3 then F__law_start ds else none) (aCons (q2 getD' (pVar 2) (pVar 8)) (aCons (qSl (pVar 2) none (some (pVar 8))) (aCons (qSl (pVar 2) (some (q2 addD (pVar 8) (qC (.int 1)))) none) aNil)))) [8])) (dSeq (dSet 7 (qCall (fun ds => if ds.length = 1 then F_started ds else none) (aCons (qVar 11) aNil))) (dSeq (dIf (asB (q2 inD (qC .none) (pVar 12))) (dIf (tOrB (asB (q2 neD (q2 getD' (pVar 7) (qC (.int 0))) (qC (.str "over")))) (tNotB (tru (qCall (fun ds => if ds.length = 2 then F__law_like ds else none) (aCons (q2 getD' (pVar 7) (qC (.int 1))) (aCons (q2 getD' (pVar 4) (q2 idxD (pVar 12) (qC .none))) aNil)))))) (dRet (qC (.bool false))) dNil) (dIf (tOrB (tNotB (tru (qCall (fun ds => if ds.length = 2 then F__law_like ds else none) (aCons (qVar 7) (aCons (qTup (aCons (qC (.str "meets")) (aCons (qTup (aCons (qC (.str "starts")) (aCons (qZipT (aCons (pVar 4) (aCons (pVar 12) aNil))) aNil))) aNil))) aNil))))) (asB (q2 isnD (qCall (fun ds => if ds.length = 2 then F_check ds else none) (aCons (qVar 11) (aCons (qVar 7) aNil))) (qC (.bool true))))) (dRet (qC (.bool false))) dNil)) (dSeq (dPar [13, 14] (mCons false (qCall (fun ds => if ds.length = 1 then F__law_orders ds else none) (aCons (qVar 4) aNil)) (mCons false (qZipD (aCons (pVar 4) (aCons (pVar 2) aNil))) mNil))) (dSeq (dSet 15 (dLc (iSeq (pVar 13)) (gN 16) (tru (qCall (fun ds => if ds.length = 1 then F__law_fits ds else none) (aCons (dLc (iSeq (pVar 16)) (gN 17) tYesD (q2 getD' (pVar 14) (pVar 17)) [17]) aNil))) (qVar 16) [16])) (dSeq (dSet 7 (qCall (fun ds => if ds.length = 1 then F_order_for ds else none) (aCons (qVar 10) aNil))) (dSeq (dIf (tOrB (asB (q2 isnD (qCall (fun ds => if ds.length = 2 then F_check_order ds else none) (aCons (qVar 10) (aCons (qVar 7) aNil))) (qC (.bool true)))) (asB (q2 neD (q2 getD' (pVar 7) (qC (.int 0))) (qIf (asB (q2 neD (pVar 15) (qLst aNil))) (qC (.str "order")) (qC (.str "none")))))) (dRet (qC (.bool false))) dNil) (dSeq (dIf (asB (q2 eqD (q2 getD' (pVar 7) (qC (.int 0))) (qC (.str "order")))) (dSeq (dIf (tOrB (asB (q2 niD (q2 getD' (pVar 7) (qC (.int 1))) (pVar 15))) (asB (q2 isnD (qCall (fun ds => if ds.length = 2 then F_check ds else none) (aCons (qCall (fun ds => if ds.length = 2 then F_with_order ds else none) (aCons (qVar 10) (aCons (q2 getD' (pVar 7) (qC (.int 1))) aNil))) (aCons (qTup (aCons (qC (.str "meets")) (aCons (q2 getD' (pVar 7) (qC (.int 2))) aNil))) aNil))) (qC (.bool true))))) (dRet (qC (.bool false))) dNil) (dSeq (dIf (tOrB (asB (q2 isnD (qCall (fun ds => if ds.length = 2 then F_check_order ds else none) (aCons (qVar 10) (aCons (qTup (aCons (qC (.str "order")) (aCons (q2 getD' (pVar 7) (qC (.int 1))) (aCons (qTup (aCons (qC (.str "times")) (aCons (qTup aNil) aNil))) aNil)))) aNil))) (qC (.bool false)))) (asB (q2 isnD (qCall (fun ds => if ds.length = 2 then F_check_order ds else none) (aCons (qVar 10) (aCons (qTup (aCons (qC (.str "order")) (aCons (qSl (q2 getD' (pVar 7) (qC (.int 1))) (some (qC (.int 1))) none) (aCons (q2 getD' (pVar 7) (qC (.int 2))) aNil)))) aNil))) (qC (.bool false))))) (dRet (qC (.bool false))) dNil) (dFor (iSeq (qSl (pVar 13) none (some (qC (.int 12))))) (gN 16) L_law_2))) (dSeq (dFor (iSeq (q2 getD' (pVar 7) (qC (.int 1)))) (gN 17) L_law_3) (dIf (tOrB (asB (q2 isnD (qCall (fun ds => if ds.length = 2 then F_check_order ds else none) (aCons (qVar 10) (aCons (qTup (aCons (qC (.str "none")) (aCons (q2 addD (q2 revD (q2 getD' (pVar 7) (qC (.int 1))) (q1 negD (qC (.int 1)))) (qSl (q2 getD' (pVar 7) (qC (.int 1))) none (some (qC (.int 1))))) aNil))) aNil))) (qC (.bool false)))) (asB (q2 isnD (qCall (fun ds => if ds.length = 2 then F_check_order ds else none) (aCons (qVar 10) (aCons (qTup (aCons (qC (.str "none")) (aCons (qTup aNil) aNil))) aNil))) (qC (.bool false))))) (dRet (qC (.bool false))) dNil))) (dSeq (dSetF 18 (qLst aNil)) (dSeq (dFor (iSeq (qVar 4)) (gN 17) L_law_1) (dRet (qCall (fun ds => if ds.length = 2 then F__law_like ds else none) (aCons (qCall tupleD (aCons (dLc (iSeq (qCall (fun ds => if ds.length = 1 then F_places_told ds else none) (aCons (qVar 10) aNil))) (gN 24) tYesD (qTup (aCons (q2 getD' (pVar 24) (qC (.int 0))) (aCons (qCall tupleD (aCons (q2 getD' (pVar 24) (qC (.int 1))) aNil)) aNil))) [24]) aNil)) (aCons (qCall tupleD (aCons (pVar 18) aNil)) aNil))))))))))))))))))))))
noncomputable def F_law : List PD → Option PD := fnD 26 f_law
theorem sc_law : FnScope N_law P_law (defScope s_law) := ⟨rfl, rfl, rfl, by decide +kernel, rfl, by decide +kernel, by decide +kernel⟩
theorem b_law {X : Cx} (B : Bd X N_law (defScope s_law) 12) (fn : ∀ x, X.fn x = true) (M : Mb X.mg) (c_places_told : CalX X 5 "places_told" (spP X.K 1 F_places_told)) (c__law_like : CalX X 12 "_law_like" (spP X.K 2 F__law_like)) (c__law_time : CalX X 2 "_law_time" (spP X.K 3 F__law_time)) (c_check_order : CalX X 8 "check_order" (spP X.K 2 F_check_order)) (c_with_order : CalX X 3 "with_order" (spP X.K 2 F_with_order)) (c_check : CalX X 7 "check" (spP X.K 2 F_check)) (c_order_for : CalX X 7 "order_for" (spP X.K 1 F_order_for)) (c__law_fits : CalX X 3 "_law_fits" (spP X.K 1 F__law_fits)) (c__law_orders : CalX X 1 "_law_orders" (spP X.K 1 F__law_orders)) (c_started : CalX X 3 "started" (spP X.K 1 F_started)) (c__law_start : CalX X 1 "_law_start" (spP X.K 3 F__law_start)) (c_timed : CalX X 6 "timed" (spP X.K 1 F_timed)) (c__law_draw : CalX X 1 "_law_draw" (spIO X.K 2 0 F__law_draw)) (c__law_tasks : CalX X 2 "_law_tasks" (spIO X.K 1 0 F__law_tasks)) (c__law_digits : CalX X 2 "_law_digits" (spP X.K 3 F__law_digits)) : SSs X (defBody s_law) f_law :=
  (sss_cons (ss_setF 1 B.nodup (B.at (by kernel_rfl)) (B.lc (by kernel_rfl)) (fe_lst (qa_cons (qe_call c__law_digits B.room (by decide) (B.gl (by kernel_rfl)) (qa_cons (qv_ B 0 (by kernel_rfl)) (qa_cons qe_int (qa_cons qe_int qa_nil)))) (qa_cons qe_int qa_nil))) (.inl (fn _))) (sss_cons (ss_asgE (ee_tup (ea_cons (ee_callIO c__law_tasks B.room (by decide) (B.gl (by kernel_rfl)) (ov_ B 1 (by kernel_rfl)) qa_nil) (ea_cons (ee_ix B.hu (ee_q (qe_of (fe_lst (qa_cons (qe_tup (qa_cons qe_int qa_nil)) (qa_cons (qe_tup (qa_cons qe_int qa_nil)) (qa_cons (qe_tup (qa_cons qe_int (qa_cons qe_int (qa_cons qe_int qa_nil)))) (qa_cons (qe_tup (qa_cons qe_int (qa_cons qe_int qa_nil))) qa_nil))))))) (ee_callIO c__law_draw B.room (by decide) (B.gl (by kernel_rfl)) (ov_ B 1 (by kernel_rfl)) (qa_cons qe_int qa_nil)) (fun _ _ => rfl)) ea_nil))) (gt_tup B.calm (gts_cons (gd_ B fn 2 (by kernel_rfl)) (gts_cons (gd_ B fn 3 (by kernel_rfl)) gts_nil))) (by rfl) (SW B sc_law.kind (by kernel_rfl)) (by rfl)) (sss_cons (ss_setLcB 4 (own := [("task", 20)]) B sc_law.kind (by kernel_rfl) (by kernel_rfl) (by kernel_rfl) (by kernel_rfl) (qi_seq (pv_ B 2 (by kernel_rfl))) (by kernel_rfl) (fun s1 H1 C1 l1 p1 B1 => (gb_ B s1 H1 C1 l1 p1 _ 20 (by kernel_rfl))) (fun s1 H1 C1 l1 p1 B1 => tsq_nil) (fun s1 H1 C1 l1 p1 B1 => (qe_ix B1.hu (pv_ B1 20 (by kernel_rfl)) (pq_of qe_int) (fun _ _ => rfl))) (by decide)) (sss_cons (ss_par2 5 6 B.calm B.nodup (B.at (by kernel_rfl)) (B.at (by kernel_rfl)) (by decide) (B.il (by kernel_rfl)) (B.il (by kernel_rfl)) (ma_sh (qe_tup (qa_cons qe_str (qa_cons qe_int (qa_cons qe_str (qa_cons qe_bl (qa_cons (qv_ B 3 (by kernel_rfl)) (qa_cons (qv_ B 2 (by kernel_rfl)) (qa_cons (qe_tup qa_nil) qa_nil)))))))) (ma_sh (qe_of (fe_lcB (own := [("at", 8)]) B (qi_rng1 (B.gl (by kernel_rfl)) M.range (qap_cons (pq_of (qe_callB cr_len ok_len (B.gl (by kernel_rfl)) M.len PyProof.Rows.Boot.len (qap_cons (pv_ B 2 (by kernel_rfl)) qap_nil))) qap_nil)) (by kernel_rfl) (fun s1 H1 C1 l1 p1 B1 => (gb_ B s1 H1 C1 l1 p1 _ 8 (by kernel_rfl))) (fun s1 H1 C1 l1 p1 B1 => tsq_nil) (fun s1 H1 C1 l1 p1 B1 => (qe_call c__law_time B1.room (by decide) (B1.gl (by kernel_rfl)) (qa_cons (qe_ix B1.hu (pv_ B1 2 (by kernel_rfl)) (pv_ B1 8 (by kernel_rfl)) (fun _ _ => rfl)) (qa_cons (qe_slice (pv_ B1 2 (by kernel_rfl)) qo_none (qo_some (pv_ B1 8 (by kernel_rfl)))) (qa_cons (qv_ B1 3 (by kernel_rfl)) qa_nil))))) (by decide))) ma_nil)) (SW B sc_law.kind (by kernel_rfl))) (sss_cons (ss_set 7 B.nodup (B.at (by kernel_rfl)) (B.lc (by kernel_rfl)) (qe_call c_timed B.room (by decide) (B.gl (by kernel_rfl)) (qa_cons (qv_ B 5 (by kernel_rfl)) qa_nil)) (.inl (fn _))) (sss_cons (ss_if (tq_cmp (op_inA B.hu) ok_in (pq_of qe_non) (pv_ B 6 (by kernel_rfl)) (by rfl)) (sss_one (ss_if (tq_not (tq_tru (pq_of (qe_call c__law_like B.room (by decide) (B.gl (by kernel_rfl)) (qa_cons (qv_ B 7 (by kernel_rfl)) (qa_cons (qe_tup (qa_cons qe_str (qa_cons (qe_ix B.hu (pv_ B 4 (by kernel_rfl)) (pq_of (qe_index (by have := B.room.un; omega) (pv_ B 6 (by kernel_rfl)) (pq_of qe_non))) (fun _ _ => rfl)) qa_nil))) qa_nil)))))) (sss_one (ss_ret qe_bl)) sss_nil)) (sss_one (ss_if (tq_w (wq_or (tq_not (tq_tru (pq_of (qe_call c__law_like B.room (by decide) (B.gl (by kernel_rfl)) (qa_cons (qv_ B 7 (by kernel_rfl)) (qa_cons (qe_tup (qa_cons qe_str (qa_cons (qe_tup (qa_cons qe_str (qa_cons (qe_tupZip B.calm (B.gl (by kernel_rfl)) M.tuple (B.gl (by kernel_rfl)) M.zip (qap_cons (pv_ B 4 (by kernel_rfl)) (qap_cons (pv_ B 6 (by kernel_rfl)) qap_nil))) qa_nil))) qa_nil))) qa_nil)))))) (wq_or1 (tq_cmp op_isnA ok_isn (pq_of (qe_call c_check B.room (by decide) (B.gl (by kernel_rfl)) (qa_cons (qv_ B 5 (by kernel_rfl)) (qa_cons (qv_ B 7 (by kernel_rfl)) qa_nil)))) (pq_of qe_bl) (by rfl))))) (sss_one (ss_ret qe_bl)) sss_nil))) (sss_cons (ss_for B.po B.calm (qi_rng1 (B.gl (by kernel_rfl)) M.range (qap_cons (pq_of (qe_if (tq_cmp (op_niA B.hu) ok_ni (pq_of qe_non) (pv_ B 6 (by kernel_rfl)) (by rfl)) (qe_callB cr_len ok_len (B.gl (by kernel_rfl)) M.len PyProof.Rows.Boot.len (qap_cons (pv_ B 2 (by kernel_rfl)) qap_nil)) qe_int)) qap_nil)) (gd_ B fn 8 (by kernel_rfl)) (sss_cons (ss_set 9 B.nodup (B.at (by kernel_rfl)) (B.lc (by kernel_rfl)) (qe_callTy call_tuple_of ok_tuple (B.gl (by kernel_rfl)) M.tuple PyProof.Rows.Boot.tuple (qap_cons (pq_of (qe_of (fe_lcB (own := [("place", 22), ("name", 17), ("time", 23)]) B (qi_enz (B.gl (by kernel_rfl)) M.enumerate (B.gl (by kernel_rfl)) M.zip (qap_cons (pv_ B 4 (by kernel_rfl)) (qap_cons (pv_ B 6 (by kernel_rfl)) qap_nil))) (by kernel_rfl) (fun s1 H1 C1 l1 p1 B1 => (gt_tup B1.calm (gts_cons (gb_ B s1 H1 C1 l1 p1 _ 22 (by kernel_rfl)) (gts_cons (gt_tup B1.calm (gts_cons (gb_ B s1 H1 C1 l1 p1 _ 17 (by kernel_rfl)) (gts_cons (gb_ B s1 H1 C1 l1 p1 _ 23 (by kernel_rfl)) gts_nil))) gts_nil)))) (fun s1 H1 C1 l1 p1 B1 => tsq_nil) (fun s1 H1 C1 l1 p1 B1 => (qe_tup (qa_cons (qv_ B1 17 (by kernel_rfl)) (qa_cons (qe_if (tq_cmp (op_eqP B1.hu) ok_eq (pv_ B1 22 (by kernel_rfl)) (pv_ B1 8 (by kernel_rfl)) (by rfl)) (qe_op op_sub ok_sub (pv_ B1 23 (by kernel_rfl)) (pq_of qe_int)) (qv_ B1 23 (by kernel_rfl))) qa_nil)))) (by decide)))) qap_nil)) (.inl (fn _))) (sss_one (ss_if (tq_w (wq_or (tq_cmp op_isnA ok_isn (pq_of (qe_call c_check B.room (by decide) (B.gl (by kernel_rfl)) (qa_cons (qv_ B 5 (by kernel_rfl)) (qa_cons (qe_tup (qa_cons qe_str (qa_cons (qe_tup (qa_cons qe_str (qa_cons (qv_ B 9 (by kernel_rfl)) qa_nil))) qa_nil))) qa_nil)))) (pq_of qe_bl) (by rfl)) (wq_or1 (tq_cmp op_isnA ok_isn (pq_of (qe_call c_check B.room (by decide) (B.gl (by kernel_rfl)) (qa_cons (qv_ B 5 (by kernel_rfl)) (qa_cons (qe_tup (qa_cons qe_str (qa_cons (qe_tup (qa_cons qe_str (qa_cons (qe_rev3 (pq_of (qe_tupZip B.calm (B.gl (by kernel_rfl)) M.tuple (B.gl (by kernel_rfl)) M.zip (qap_cons (pv_ B 4 (by kernel_rfl)) (qap_cons (pv_ B 6 (by kernel_rfl)) qap_nil)))) (pq_of (qe_neg (pq_of qe_int)))) qa_nil))) qa_nil))) qa_nil)))) (pq_of qe_bl) (by rfl))))) (sss_one (ss_ret qe_bl)) sss_nil)))) (sss_cons (ss_par2 10 11 B.calm B.nodup (B.at (by kernel_rfl)) (B.at (by kernel_rfl)) (by decide) (B.il (by kernel_rfl)) (B.il (by kernel_rfl)) (ma_sh (qe_op op_addA ok_add (pq_of (qe_op op_addA ok_add (pq_of (qe_slice (pv_ B 5 (by kernel_rfl)) qo_none (qo_some (pq_of qe_int)))) (pq_of (qe_tup (qa_cons (qe_tup (qa_cons qe_int qa_nil)) qa_nil))))) (pq_of (qe_slice (pv_ B 5 (by kernel_rfl)) (qo_some (pq_of qe_int)) qo_none))) (ma_sh (qe_op op_addA ok_add (pq_of (qe_op op_addA ok_add (pq_of (qe_slice (pv_ B 5 (by kernel_rfl)) qo_none (qo_some (pq_of qe_int)))) (pq_of (qe_tup (qa_cons qe_bl (qa_cons (qe_tup (qa_cons qe_int qa_nil)) qa_nil)))))) (pq_of (qe_slice (pv_ B 5 (by kernel_rfl)) (qo_some (pq_of qe_int)) qo_none))) ma_nil)) (SW B sc_law.kind (by kernel_rfl))) (sss_cons (ss_setLcB 12 (own := [("at", 8)]) B sc_law.kind (by kernel_rfl) (by kernel_rfl) (by kernel_rfl) (by kernel_rfl) (qi_rng1 (B.gl (by kernel_rfl)) M.range (qap_cons (pq_of (qe_callB cr_len ok_len (B.gl (by kernel_rfl)) M.len PyProof.Rows.Boot.len (qap_cons (pv_ B 2 (by kernel_rfl)) qap_nil))) qap_nil)) (by kernel_rfl) (fun s1 H1 C1 l1 p1 B1 => (gb_ B s1 H1 C1 l1 p1 _ 8 (by kernel_rfl))) (fun s1 H1 C1 l1 p1 B1 => tsq_nil) (fun s1 H1 C1 l1 p1 B1 => (qe_call c__law_start B1.room (by decide) (B1.gl (by kernel_rfl)) (qa_cons (qe_ix B1.hu (pv_ B1 2 (by kernel_rfl)) (pv_ B1 8 (by kernel_rfl)) (fun _ _ => rfl)) (qa_cons (qe_slice (pv_ B1 2 (by kernel_rfl)) qo_none (qo_some (pv_ B1 8 (by kernel_rfl)))) (qa_cons (qe_slice (pv_ B1 2 (by kernel_rfl)) (qo_some (pq_of (qe_op op_addA ok_add (pv_ B1 8 (by kernel_rfl)) (pq_of qe_int)))) qo_none) qa_nil))))) (by decide)) (sss_cons (ss_set 7 B.nodup (B.at (by kernel_rfl)) (B.lc (by kernel_rfl)) (qe_call c_started B.room (by decide) (B.gl (by kernel_rfl)) (qa_cons (qv_ B 11 (by kernel_rfl)) qa_nil)) (.inl (fn _))) (sss_cons (ss_if (tq_cmp (op_inA B.hu) ok_in (pq_of qe_non) (pv_ B 12 (by kernel_rfl)) (by rfl)) (sss_one (ss_if (tq_w (wq_or (tq_cmp (op_neP B.hu) ok_ne (pq_of (qe_ix B.hu (pv_ B 7 (by kernel_rfl)) (pq_of qe_int) (fun _ _ => rfl))) (pq_of qe_str) (by rfl)) (wq_or1 (tq_not (tq_tru (pq_of (qe_call c__law_like B.room (by decide) (B.gl (by kernel_rfl)) (qa_cons (qe_ix B.hu (pv_ B 7 (by kernel_rfl)) (pq_of qe_int) (fun _ _ => rfl)) (qa_cons (qe_ix B.hu (pv_ B 4 (by kernel_rfl)) (pq_of (qe_index (by have := B.room.un; omega) (pv_ B 12 (by kernel_rfl)) (pq_of qe_non))) (fun _ _ => rfl)) qa_nil))))))))) (sss_one (ss_ret qe_bl)) sss_nil)) (sss_one (ss_if (tq_w (wq_or (tq_not (tq_tru (pq_of (qe_call c__law_like B.room (by decide) (B.gl (by kernel_rfl)) (qa_cons (qv_ B 7 (by kernel_rfl)) (qa_cons (qe_tup (qa_cons qe_str (qa_cons (qe_tup (qa_cons qe_str (qa_cons (qe_tupZip B.calm (B.gl (by kernel_rfl)) M.tuple (B.gl (by kernel_rfl)) M.zip (qap_cons (pv_ B 4 (by kernel_rfl)) (qap_cons (pv_ B 12 (by kernel_rfl)) qap_nil))) qa_nil))) qa_nil))) qa_nil)))))) (wq_or1 (tq_cmp op_isnA ok_isn (pq_of (qe_call c_check B.room (by decide) (B.gl (by kernel_rfl)) (qa_cons (qv_ B 11 (by kernel_rfl)) (qa_cons (qv_ B 7 (by kernel_rfl)) qa_nil)))) (pq_of qe_bl) (by rfl))))) (sss_one (ss_ret qe_bl)) sss_nil))) (sss_cons (ss_parO [13, 14] B.calm (ma_sh (qe_call c__law_orders B.room (by decide) (B.gl (by kernel_rfl)) (qa_cons (qv_ B 4 (by kernel_rfl)) qa_nil)) (ma_sh (qe_of (fe_dictZip B.calm (B.gl (by kernel_rfl)) M.dict (B.gl (by kernel_rfl)) M.zip (qap_cons (pv_ B 4 (by kernel_rfl)) (qap_cons (pv_ B 2 (by kernel_rfl)) qap_nil)))) ma_nil)) (pgs_cons (pg_name (i := 13) B.nodup (B.at (by kernel_rfl)) (B.lc (by kernel_rfl)) (.inl (fn _))) (pgs_cons (pg_name (i := 14) B.nodup (B.at (by kernel_rfl)) (B.lc (by kernel_rfl)) (.inl (fn _))) pgs_nil)) (by rfl) (by rfl) (by decide) (by rfl) (SW B sc_law.kind (by kernel_rfl)) (by rfl)) (sss_cons (ss_setLcB 15 (own := [("order", 16)]) B sc_law.kind (by kernel_rfl) (by kernel_rfl) (by kernel_rfl) (by kernel_rfl) (qi_seq (pv_ B 13 (by kernel_rfl))) (by kernel_rfl) (fun s1 H1 C1 l1 p1 B1 => (gb_ B s1 H1 C1 l1 p1 _ 16 (by kernel_rfl))) (fun s1 H1 C1 l1 p1 B1 => (tsq_one (tq_tru (pq_of (qe_call c__law_fits B1.room (by decide) (B1.gl (by kernel_rfl)) (qa_cons (qe_of (fe_lcB (own := [("name", 17)]) B1 (qi_seq (pv_ B1 16 (by kernel_rfl))) (by kernel_rfl) (fun s2 H2 C2 l2 p2 B2 => (gb_ B1 s2 H2 C2 l2 p2 _ 17 (by kernel_rfl))) (fun s2 H2 C2 l2 p2 B2 => tsq_nil) (fun s2 H2 C2 l2 p2 B2 => (qe_ix B2.hu (pv_ B2 14 (by kernel_rfl)) (pv_ B2 17 (by kernel_rfl)) (fun _ _ => rfl))) (by decide))) qa_nil)))))) (fun s1 H1 C1 l1 p1 B1 => (qv_ B1 16 (by kernel_rfl))) (by decide)) (sss_cons (ss_set 7 B.nodup (B.at (by kernel_rfl)) (B.lc (by kernel_rfl)) (qe_call c_order_for B.room (by decide) (B.gl (by kernel_rfl)) (qa_cons (qv_ B 10 (by kernel_rfl)) qa_nil)) (.inl (fn _))) (sss_cons (ss_if (tq_w (wq_or (tq_cmp op_isnA ok_isn (pq_of (qe_call c_check_order B.room (by decide) (B.gl (by kernel_rfl)) (qa_cons (qv_ B 10 (by kernel_rfl)) (qa_cons (qv_ B 7 (by kernel_rfl)) qa_nil)))) (pq_of qe_bl) (by rfl)) (wq_or1 (tq_cmp (op_neP B.hu) ok_ne (pq_of (qe_ix B.hu (pv_ B 7 (by kernel_rfl)) (pq_of qe_int) (fun _ _ => rfl))) (pq_of (qe_if (tq_cmp (op_neP B.hu) ok_ne (pv_ B 15 (by kernel_rfl)) (pq_of (qe_of (fe_lst qa_nil))) (by rfl)) qe_str qe_str)) (by rfl))))) (sss_one (ss_ret qe_bl)) sss_nil) (sss_cons (ss_if (tq_cmp (op_eqP B.hu) ok_eq (pq_of (qe_ix B.hu (pv_ B 7 (by kernel_rfl)) (pq_of qe_int) (fun _ _ => rfl))) (pq_of qe_str) (by rfl)) (sss_cons (ss_if (tq_w (wq_or (tq_cmp (op_niA B.hu) ok_ni (pq_of (qe_ix B.hu (pv_ B 7 (by kernel_rfl)) (pq_of qe_int) (fun _ _ => rfl))) (pv_ B 15 (by kernel_rfl)) (by rfl)) (wq_or1 (tq_cmp op_isnA ok_isn (pq_of (qe_call c_check B.room (by decide) (B.gl (by kernel_rfl)) (qa_cons (qe_call c_with_order B.room (by decide) (B.gl (by kernel_rfl)) (qa_cons (qv_ B 10 (by kernel_rfl)) (qa_cons (qe_ix B.hu (pv_ B 7 (by kernel_rfl)) (pq_of qe_int) (fun _ _ => rfl)) qa_nil))) (qa_cons (qe_tup (qa_cons qe_str (qa_cons (qe_ix B.hu (pv_ B 7 (by kernel_rfl)) (pq_of qe_int) (fun _ _ => rfl)) qa_nil))) qa_nil)))) (pq_of qe_bl) (by rfl))))) (sss_one (ss_ret qe_bl)) sss_nil) (sss_cons (ss_if (tq_w (wq_or (tq_cmp op_isnA ok_isn (pq_of (qe_call c_check_order B.room (by decide) (B.gl (by kernel_rfl)) (qa_cons (qv_ B 10 (by kernel_rfl)) (qa_cons (qe_tup (qa_cons qe_str (qa_cons (qe_ix B.hu (pv_ B 7 (by kernel_rfl)) (pq_of qe_int) (fun _ _ => rfl)) (qa_cons (qe_tup (qa_cons qe_str (qa_cons (qe_tup qa_nil) qa_nil))) qa_nil)))) qa_nil)))) (pq_of qe_bl) (by rfl)) (wq_or1 (tq_cmp op_isnA ok_isn (pq_of (qe_call c_check_order B.room (by decide) (B.gl (by kernel_rfl)) (qa_cons (qv_ B 10 (by kernel_rfl)) (qa_cons (qe_tup (qa_cons qe_str (qa_cons (qe_slice (pq_of (qe_ix B.hu (pv_ B 7 (by kernel_rfl)) (pq_of qe_int) (fun _ _ => rfl))) (qo_some (pq_of qe_int)) qo_none) (qa_cons (qe_ix B.hu (pv_ B 7 (by kernel_rfl)) (pq_of qe_int) (fun _ _ => rfl)) qa_nil)))) qa_nil)))) (pq_of qe_bl) (by rfl))))) (sss_one (ss_ret qe_bl)) sss_nil) (sss_one (ss_for B.po B.calm (qi_seq (qe_slice (pv_ B 13 (by kernel_rfl)) qo_none (qo_some (pq_of qe_int)))) (gd_ B fn 16 (by kernel_rfl)) (sss_one (ss_if (tq_w (wq_and (tq_cmp (op_niA B.hu) ok_ni (pv_ B 16 (by kernel_rfl)) (pv_ B 15 (by kernel_rfl)) (by rfl)) (wq_and1 (tq_cmp op_isnA ok_isn (pq_of (qe_call c_check_order B.room (by decide) (B.gl (by kernel_rfl)) (qa_cons (qv_ B 10 (by kernel_rfl)) (qa_cons (qe_tup (qa_cons qe_str (qa_cons (qv_ B 16 (by kernel_rfl)) (qa_cons (qe_ix B.hu (pv_ B 7 (by kernel_rfl)) (pq_of qe_int) (fun _ _ => rfl)) qa_nil)))) qa_nil)))) (pq_of qe_bl) (by rfl))))) (sss_one (ss_ret qe_bl)) sss_nil)))))) (sss_cons (ss_for B.po B.calm (qi_seq (qe_ix B.hu (pv_ B 7 (by kernel_rfl)) (pq_of qe_int) (fun _ _ => rfl))) (gd_ B fn 17 (by kernel_rfl)) (sss_one (ss_if (tq_cmp op_isnA ok_isn (pq_of (qe_call c__law_time B.room (by decide) (B.gl (by kernel_rfl)) (qa_cons (qe_ix B.hu (pv_ B 14 (by kernel_rfl)) (pv_ B 17 (by kernel_rfl)) (fun _ _ => rfl)) (qa_cons (qe_of (fe_lcB (own := [("one", 25)]) B (qi_seq (pq_of (qe_ix B.hu (pv_ B 7 (by kernel_rfl)) (pq_of qe_int) (fun _ _ => rfl)))) (by kernel_rfl) (fun s1 H1 C1 l1 p1 B1 => (gb_ B s1 H1 C1 l1 p1 _ 25 (by kernel_rfl))) (fun s1 H1 C1 l1 p1 B1 => (tsq_one (tq_cmp (op_neP B1.hu) ok_ne (pv_ B1 25 (by kernel_rfl)) (pv_ B1 17 (by kernel_rfl)) (by rfl)))) (fun s1 H1 C1 l1 p1 B1 => (qe_ix B1.hu (pv_ B1 14 (by kernel_rfl)) (pv_ B1 25 (by kernel_rfl)) (fun _ _ => rfl))) (by decide))) (qa_cons (qe_tup (qa_cons qe_int qa_nil)) qa_nil))))) (pq_of qe_non) (by rfl)) (sss_one (ss_ret qe_bl)) sss_nil))) (sss_one (ss_if (tq_w (wq_or (tq_cmp op_isnA ok_isn (pq_of (qe_call c_check_order B.room (by decide) (B.gl (by kernel_rfl)) (qa_cons (qv_ B 10 (by kernel_rfl)) (qa_cons (qe_tup (qa_cons qe_str (qa_cons (qe_op op_addA ok_add (pq_of (qe_rev3 (pq_of (qe_ix B.hu (pv_ B 7 (by kernel_rfl)) (pq_of qe_int) (fun _ _ => rfl))) (pq_of (qe_neg (pq_of qe_int))))) (pq_of (qe_slice (pq_of (qe_ix B.hu (pv_ B 7 (by kernel_rfl)) (pq_of qe_int) (fun _ _ => rfl))) qo_none (qo_some (pq_of qe_int))))) qa_nil))) qa_nil)))) (pq_of qe_bl) (by rfl)) (wq_or1 (tq_cmp op_isnA ok_isn (pq_of (qe_call c_check_order B.room (by decide) (B.gl (by kernel_rfl)) (qa_cons (qv_ B 10 (by kernel_rfl)) (qa_cons (qe_tup (qa_cons qe_str (qa_cons (qe_tup qa_nil) qa_nil))) qa_nil)))) (pq_of qe_bl) (by rfl))))) (sss_one (ss_ret qe_bl)) sss_nil)))) (sss_cons (ss_setF 18 B.nodup (B.at (by kernel_rfl)) (B.lc (by kernel_rfl)) (fe_lst qa_nil) (.inl (fn _))) (sss_cons (ss_for B.po B.calm (qi_seq (qv_ B 4 (by kernel_rfl))) (gd_ B fn 17 (by kernel_rfl)) (sss_cons (ss_set 19 B.nodup (B.at (by kernel_rfl)) (B.lc (by kernel_rfl)) (qe_of (fe_lcB (own := [("own", 21)]) B (qi_seq (pv_ B 2 (by kernel_rfl))) (by kernel_rfl) (fun s1 H1 C1 l1 p1 B1 => (gb_ B s1 H1 C1 l1 p1 _ 21 (by kernel_rfl))) (fun s1 H1 C1 l1 p1 B1 => (tsq_one (tq_cmp (op_neP B1.hu) ok_ne (pq_of (qe_ix B1.hu (pv_ B1 21 (by kernel_rfl)) (pq_of qe_int) (fun _ _ => rfl))) (pv_ B1 17 (by kernel_rfl)) (by rfl)))) (fun s1 H1 C1 l1 p1 B1 => (qv_ B1 21 (by kernel_rfl))) (by decide))) (.inl (fn _)) (SWC B (.inl ⟨_, _, _, rfl⟩) (by kernel_rfl))) (sss_one (ss_app 18 (ov_ B 18 (by kernel_rfl)) (qe_tup (qa_cons (qv_ B 17 (by kernel_rfl)) (qa_cons (qe_callTy call_tuple_of ok_tuple (B.gl (by kernel_rfl)) M.tuple PyProof.Rows.Boot.tuple (qap_cons (pq_of (qe_of (fe_lcB (own := [("place", 22)]) B (qi_rng1 (B.gl (by kernel_rfl)) M.range (qap_cons (pq_of (qe_callB cr_len ok_len (B.gl (by kernel_rfl)) M.len PyProof.Rows.Boot.len (qap_cons (pv_ B 4 (by kernel_rfl)) qap_nil))) qap_nil)) (by kernel_rfl) (fun s1 H1 C1 l1 p1 B1 => (gb_ B s1 H1 C1 l1 p1 _ 22 (by kernel_rfl))) (fun s1 H1 C1 l1 p1 B1 => (tsq_one (tq_cmp op_isnA ok_isn (pq_of (qe_call c__law_time B1.room (by decide) (B1.gl (by kernel_rfl)) (qa_cons (qe_ix B1.hu (pv_ B1 14 (by kernel_rfl)) (pv_ B1 17 (by kernel_rfl)) (fun _ _ => rfl)) (qa_cons (qe_slice (pv_ B1 19 (by kernel_rfl)) qo_none (qo_some (pv_ B1 22 (by kernel_rfl)))) (qa_cons (qe_tup (qa_cons qe_int qa_nil)) qa_nil))))) (pq_of qe_non) (by rfl)))) (fun s1 H1 C1 l1 p1 B1 => (qv_ B1 22 (by kernel_rfl))) (by decide)))) qap_nil)) qa_nil))))))) (sss_one (ss_ret (qe_call c__law_like B.room (by decide) (B.gl (by kernel_rfl)) (qa_cons (qe_callTy call_tuple_of ok_tuple (B.gl (by kernel_rfl)) M.tuple PyProof.Rows.Boot.tuple (qap_cons (pq_of (qe_of (fe_lcB (own := [("row", 24)]) B (qi_seq (pq_of (qe_call c_places_told B.room (by decide) (B.gl (by kernel_rfl)) (qa_cons (qv_ B 10 (by kernel_rfl)) qa_nil)))) (by kernel_rfl) (fun s1 H1 C1 l1 p1 B1 => (gb_ B s1 H1 C1 l1 p1 _ 24 (by kernel_rfl))) (fun s1 H1 C1 l1 p1 B1 => tsq_nil) (fun s1 H1 C1 l1 p1 B1 => (qe_tup (qa_cons (qe_ix B1.hu (pv_ B1 24 (by kernel_rfl)) (pq_of qe_int) (fun _ _ => rfl)) (qa_cons (qe_callTy call_tuple_of ok_tuple (B1.gl (by kernel_rfl)) M.tuple PyProof.Rows.Boot.tuple (qap_cons (pq_of (qe_ix B1.hu (pv_ B1 24 (by kernel_rfl)) (pq_of qe_int) (fun _ _ => rfl))) qap_nil)) qa_nil)))) (by decide)))) qap_nil)) (qa_cons (qe_callTy call_tuple_of ok_tuple (B.gl (by kernel_rfl)) M.tuple PyProof.Rows.Boot.tuple (qap_cons (pv_ B 18 (by kernel_rfl)) qap_nil)) qa_nil)))))))))))))))))))))))
theorem cal_law {P : Program} {w : World} {K : PySem.W.Frag} {mg : Str → Option Value} {base : Heap} (d : DefM K mg "law" s_law) (M : Mb mg) (c_places_told : Cal P w K mg base 5 "places_told" (spP K 1 F_places_told)) (c__law_like : Cal P w K mg base 12 "_law_like" (spP K 2 F__law_like)) (c__law_time : Cal P w K mg base 2 "_law_time" (spP K 3 F__law_time)) (c_check_order : Cal P w K mg base 8 "check_order" (spP K 2 F_check_order)) (c_with_order : Cal P w K mg base 3 "with_order" (spP K 2 F_with_order)) (c_check : Cal P w K mg base 7 "check" (spP K 2 F_check)) (c_order_for : Cal P w K mg base 7 "order_for" (spP K 1 F_order_for)) (c__law_fits : Cal P w K mg base 3 "_law_fits" (spP K 1 F__law_fits)) (c__law_orders : Cal P w K mg base 1 "_law_orders" (spP K 1 F__law_orders)) (c_started : Cal P w K mg base 3 "started" (spP K 1 F_started)) (c__law_start : Cal P w K mg base 1 "_law_start" (spP K 3 F__law_start)) (c_timed : Cal P w K mg base 6 "timed" (spP K 1 F_timed)) (c__law_draw : Cal P w K mg base 1 "_law_draw" (spIO K 2 0 F__law_draw)) (c__law_tasks : Cal P w K mg base 2 "_law_tasks" (spIO K 1 0 F__law_tasks)) (c__law_digits : Cal P w K mg base 2 "_law_digits" (spP K 3 F__law_digits)) : Cal P w K mg base 13 "law" (spP K 1 F_law) := by
  obtain ⟨f, fd, F, hm⟩ := d
  exact ⟨f, fd, P_law, ok_fnP F sc_law (g := F_law) (fun ds d _ h => h) (fun cdv A outer s H E hr => b_law ⟨rfl, rfl, rfl, hr, PassesOwn.never, sc_law.nd⟩ (fun _ => rfl) M c_places_told c__law_like c__law_time c_check_order c_with_order c_check c_order_for c__law_fits c__law_orders c_started c__law_start c_timed c__law_draw c__law_tasks c__law_digits), hm, F.kp, F.bindsN (ps := P_law) fun _ _ _ _ _ _ us hl => match us, hl with | [_], _ => rfl⟩
end K12
end
section
set_option Elab.async false
set_option linter.all false
/-! Plain laws of the combinators: what a step of the denotation gives. -/
namespace D
open PySem PySem.Spec PyProof.Rows L2

theorem fn_rt {m : Nat} {f : DS} {ds : List PD} {d : PD} {e : SE} (h : f (startE m ds) = some (.rt d e)) : fnD m f ds = some d := by
  unfold fnD; rw [h]; rfl
theorem seq_nx {f g : DS} {env e : SE} {o : Option Out} (h : f env = some (.nx e)) (h2 : g e = o) : dSeq f g env = o := by
  unfold dSeq; rw [h]; exact h2
theorem seq_rt {f g : DS} {env e : SE} {d : PD} (h : f env = some (.rt d e)) : dSeq f g env = some (.rt d e) := by
  unfold dSeq; rw [h]
theorem ret_of {q : Qd} {env : SE} {d : PD} (h : q env = some d) : dRet q env = some (.rt d env) := by
  unfold dRet; rw [h]; rfl
theorem if_t {t : SE → Option Bool} {f g : DS} {env : SE} {o : Option Out} (h : t env = some true) (h2 : f env = o) : dIf t f g env = o := by
  unfold dIf; rw [h]; exact h2
theorem if_f {t : SE → Option Bool} {f g : DS} {env : SE} {o : Option Out} (h : t env = some false) (h2 : g env = o) : dIf t f g env = o := by
  unfold dIf; rw [h]; exact h2
theorem set_of {i : Nat} {q : Qd} {env : SE} {d : PD} (h : q env = some d) (hf : free i env = true) : dSet i q env = some (.nx (env.set i (some (.sh d)))) := by
  unfold dSet; rw [if_pos hf, h]; rfl
theorem setF_of {i : Nat} {q : Qd} {env : SE} {d : PD} (h : q env = some d) (hf : free i env = true) : dSetF i q env = some (.nx (env.set i (some (.ow d)))) := by
  unfold dSetF; rw [if_pos hf, h]; rfl
theorem cons_of {q : Qd} {r : SE → Option (List PD)} {env : SE} {d : PD} {ds : List PD} (h : q env = some d) (h2 : r env = some ds) : aCons q r env = some (d :: ds) := by
  unfold aCons; rw [h, h2]; rfl
theorem call_of {f : List PD → Option PD} {r : SE → Option (List PD)} {env : SE} {ds : List PD} {o : Option PD} (h : r env = some ds) (h2 : f ds = o) : qCall f r env = o := by
  unfold qCall; rw [h]; exact h2
theorem n_of {n : Nat} {F : List PD → Option PD} {ds : List PD} {o : Option PD} (hl : ds.length = n) (h : F ds = o) : (fun ds => if ds.length = n then F ds else none) ds = o := by
  show (if ds.length = n then F ds else none) = o
  rw [if_pos hl]; exact h
theorem calln {n : Nat} {F : List PD → Option PD} {r : SE → Option (List PD)} {env : SE} {ds : List PD} {o : Option PD} (h : r env = some ds) (hl : ds.length = n) (h2 : F ds = o) : qCall (fun ds => if ds.length = n then F ds else none) r env = o :=
  call_of h (n_of hl h2)
theorem q2_of {f : PD → PD → Option PD} {p q : Qd} {env : SE} {d e : PD} {o : Option PD} (h : p env = some d) (h2 : q env = some e) (h3 : f d e = o) : q2 f p q env = o := by
  unfold q2; rw [h, h2]; exact h3
theorem tup_of {r : SE → Option (List PD)} {env : SE} {ds : List PD} (h : r env = some ds) (hl : ds.length ≤ LIM) : qTup r env = some (.tuple ds) := by
  unfold qTup; rw [h]; show (if _ then _ else _) = _; rw [if_pos hl]; rfl
theorem lst_of {r : SE → Option (List PD)} {env : SE} {ds : List PD} (h : r env = some ds) (hl : ds.length ≤ LIM) : qLst r env = some (.list ds) := by
  unfold qLst; rw [h]; show (if _ then _ else _) = _; rw [if_pos hl]; rfl
theorem asB_of {q : Qd} {env : SE} {b : Bool} (h : q env = some (.bool b)) : asB q env = some b := by
  unfold asB; rw [h]
theorem tru_of {q : Qd} {env : SE} {d : PD} {o : Option Bool} (h : q env = some d) (h2 : truD d = o) : tru q env = o := by
  unfold tru; rw [h]; exact h2
theorem notB_of {t : SE → Option Bool} {env : SE} {b : Bool} (h : t env = some b) : tNotB t env = some (!b) := by
  unfold tNotB; rw [h]; rfl
theorem or_t {t u : SE → Option Bool} {env : SE} (h : t env = some true) : tOrB t u env = some true := by
  unfold tOrB; rw [h]
theorem or_f {t u : SE → Option Bool} {env : SE} {o : Option Bool} (h : t env = some false) (h2 : u env = o) : tOrB t u env = o := by
  unfold tOrB; rw [h]; exact h2
theorem and_t {t u : SE → Option Bool} {env : SE} {o : Option Bool} (h : t env = some true) (h2 : u env = o) : tAndB t u env = o := by
  unfold tAndB; rw [h]; exact h2
theorem and_f {t u : SE → Option Bool} {env : SE} (h : t env = some false) : tAndB t u env = some false := by
  unfold tAndB; rw [h]
theorem qand_t {p q : Qd} {env : SE} {d : PD} {o : Option PD} (h : p env = some d) (ht : truD d = some true) (h2 : q env = o) : qAnd p q env = o := by
  unfold qAnd; rw [h]; show (match truD d with | some true => _ | some false => _ | none => _) = _; rw [ht]; exact h2
theorem qand_f {p q : Qd} {env : SE} {d : PD} (h : p env = some d) (ht : truD d = some false) : qAnd p q env = some d := by
  unfold qAnd; rw [h]; show (match truD d with | some true => _ | some false => _ | none => _) = _; rw [ht]
theorem qnot_of {p : Qd} {env : SE} {d : PD} {b : Bool} (h : p env = some d) (ht : truD d = some b) : qNot p env = some (.bool (!b)) := by
  unfold qNot; rw [h]; show (do let b ← truD d; pure (PyData.bool (!b))) = _; rw [ht]; rfl
theorem qif_t {t : SE → Option Bool} {p q : Qd} {env : SE} {o : Option PD} (h : t env = some true) (h2 : p env = o) : qIf t p q env = o := by
  unfold qIf; rw [h]; exact h2
theorem qif_f {t : SE → Option Bool} {p q : Qd} {env : SE} {o : Option PD} (h : t env = some false) (h2 : q env = o) : qIf t p q env = o := by
  unfold qIf; rw [h]; exact h2
theorem sl_of {p : Qd} {lo hi : Option Qd} {env : SE} {d : PD} {l h : Option Int} {o : Option PD} (e : p env = some d) (e1 : partD lo env = some l) (e2 : partD hi env = some h) (e3 : sliceD d l h = o) : qSl p lo hi env = o := by
  unfold qSl; rw [e, e1, e2]; exact e3
theorem seq_of {q : Qd} {env : SE} {d : PD} {o : Option (List PD)} (h : q env = some d) (h2 : seqOf d = o) : iSeq q env = o := by
  unfold iSeq; rw [h]; exact h2
theorem app_of {i : Nat} {q : Qd} {env : SE} {ds : List PD} {d : PD} (h : mineD i env = some (.list ds)) (h2 : q env = some d) (hl : ds.length < LIM) : dApp i q env = some (.nx (putM i (.list (ds ++ [d])) env)) := by
  unfold dApp; rw [h]; simp only [h2]; rw [if_pos hl]
theorem aug_of {i : Nat} {f : PD → PD → Option PD} {q : Qd} {env : SE} {d e z : PD} (hf : free i env = true) (h : pVar i env = some d) (h2 : q env = some e) (h3 : f d e = some z) : dAug i f q env = some (.nx (env.set i (some (.sh z)))) := by
  unfold dAug; rw [if_pos hf, h, h2]; show (do let z ← f d e; pure _) = _; rw [h3]; rfl
theorem for_of {it : SE → Option (List PD)} {g : PD → SE → Option SE} {b : DS} {env : SE} {ds : List PD} {o : Option Out} (h : it env = some ds) (h2 : dForL g b ds env = o) : dFor it g b env = o := by
  unfold dFor; rw [h]; exact h2

/-! ### comprehensions over a mapped list -/
theorem lcL_map {α : Type} (f : α → PD) (p : α → Bool) (r : α → PD) {g : PD → SE → Option SE} {t : SE → Option Bool} {e : Qd} {env : SE} :
    ∀ (xs : List α), (∀ x ∈ xs, ∃ e1, g (f x) env = some e1 ∧ t e1 = some (p x) ∧ (p x = true → e e1 = some (r x))) → lcL g t e env (xs.map f) = some ((xs.filter p).map r)
  | [], _ => rfl
  | x :: xs, h => by
    obtain ⟨e1, h1, h2, h3⟩ := h x (List.mem_cons_self ..)
    have ih := lcL_map f p r (g := g) (t := t) (e := e) (env := env) xs fun y hy => h y (List.mem_cons_of_mem _ hy)
    rw [List.map_cons]
    unfold lcL
    rw [h1]
    simp only [h2]
    cases hp : p x with
    | false => rw [List.filter_cons_of_neg (by rw [hp]; exact Bool.false_ne_true)]; exact ih
    | true => rw [List.filter_cons_of_pos hp, h3 hp, ih]; rfl
theorem lc_of {α : Type} (f : α → PD) (xs : List α) (p : α → Bool) (r : α → PD) {it : SE → Option (List PD)} {g : PD → SE → Option SE} {t : SE → Option Bool} {e : Qd} {vs : List Nat} {env : SE}
    (hi : it env = some (xs.map f)) (hl : xs.length ≤ LIM) (h : ∀ x ∈ xs, ∃ e1, g (f x) (wipeE env vs) = some e1 ∧ t e1 = some (p x) ∧ (p x = true → e e1 = some (r x))) :
    dLc it g t e vs env = some (.list ((xs.filter p).map r)) := by
  unfold dLc; rw [hi]
  show (if (xs.map f).length ≤ LIM then _ else _) = _
  rw [if_pos (by rw [List.length_map]; exact hl), lcL_map f p r xs h]; rfl
theorem lc_all {α : Type} (f : α → PD) (xs : List α) (r : α → PD) {it : SE → Option (List PD)} {g : PD → SE → Option SE} {e : Qd} {vs : List Nat} {env : SE}
    (hi : it env = some (xs.map f)) (hl : xs.length ≤ LIM) (h : ∀ x ∈ xs, ∃ e1, g (f x) (wipeE env vs) = some e1 ∧ e e1 = some (r x)) :
    dLc it g tYesD e vs env = some (.list (xs.map r)) := by
  have := lc_of f xs (fun _ => true) r (t := tYesD) (e := e) (vs := vs) (g := g) hi hl (fun x hx => by obtain ⟨e1, a, b⟩ := h x hx; exact ⟨e1, a, rfl, fun _ => b⟩)
  rw [this, List.filter_eq_self.mpr fun _ _ => rfl]
theorem dcL_some {α : Type} (f : α → PD) (k : α → Key) (r : α → PD) {g : PD → SE → Option SE} {ke e : Qd} {env : SE} :
    ∀ (xs : List α) (acc : List (PD × PD)), (∀ x ∈ xs, ∃ e1, g (f x) env = some e1 ∧ ke e1 = some (kD (k x)) ∧ e e1 = some (r x)) → ∃ z, dcL g tYesD ke e env acc (xs.map f) = some z
  | [], acc, _ => ⟨acc, rfl⟩
  | x :: xs, acc, h => by
    obtain ⟨e1, h1, h2, h3⟩ := h x (List.mem_cons_self ..)
    have hk : keyOf (kD (k x)) = some (k x) := by cases k x <;> rfl
    obtain ⟨z, hz⟩ := dcL_some f k r (g := g) (ke := ke) (e := e) (env := env) xs (putD acc (k x) (r x)) fun y hy => h y (List.mem_cons_of_mem _ hy)
    refine ⟨z, ?_⟩
    rw [List.map_cons]
    unfold dcL
    rw [h1]
    simp only [tYesD, h2, hk, h3]
    exact hz
theorem dc_some {α : Type} (f : α → PD) (xs : List α) (k : α → Key) (r : α → PD) {it : SE → Option (List PD)} {g : PD → SE → Option SE} {ke e : Qd} {vs : List Nat} {env : SE}
    (hi : it env = some (xs.map f)) (hl : xs.length ≤ LIM) (h : ∀ x ∈ xs, ∃ e1, g (f x) (wipeE env vs) = some e1 ∧ ke e1 = some (kD (k x)) ∧ e e1 = some (r x)) :
    ∃ z, dDc it g tYesD ke e vs env = some (.dict z) := by
  obtain ⟨z, hz⟩ := dcL_some f k r xs [] h
  refine ⟨z, ?_⟩
  unfold dDc; rw [hi]
  show (if (xs.map f).length ≤ LIM then _ else _) = _
  rw [if_pos (by rw [List.length_map]; exact hl), hz]; rfl

/-! ### loops -/
theorem forL_idx (f : Nat → PD) (p : Nat → Bool) (r : Nat → PD) (E : Nat → SE → Prop) {g : PD → SE → Option SE} {b : DS} (n : Nat)
    (hb : ∀ i, i < n → (∀ j, j < i → p j = false) → ∀ env, E i env → ∃ e1, g (f i) env = some e1 ∧ (p i = true → ∃ e2, b e1 = some (.rt (r i) e2)) ∧ (p i = false → ∃ e2, b e1 = some (.nx e2) ∧ E (i + 1) e2)) :
    ∀ (k m : Nat), m + k = n → (∀ j, j < m → p j = false) → ∀ env, E m env →
      (∃ i, i < n ∧ p i = true ∧ (∀ j, j < i → p j = false) ∧ ∃ e, dForL g b ((List.range' m k).map f) env = some (.rt (r i) e)) ∨
      ((∀ i, i < n → p i = false) ∧ ∃ e, dForL g b ((List.range' m k).map f) env = some (.nx e) ∧ E n e)
  | 0, m, hm, hp, env, he => .inr ⟨fun i hi => hp i (by omega), env, rfl, by rw [← hm]; exact he⟩
  | k + 1, m, hm, hp, env, he => by
    obtain ⟨e1, h1, h2, h3⟩ := hb m (by omega) hp env he
    rw [List.range'_succ, List.map_cons]
    unfold dForL
    rw [h1]
    cases hpm : p m with
    | true =>
      obtain ⟨e2, h4⟩ := h2 hpm
      exact .inl ⟨m, by omega, hpm, hp, e2, by simp only [h4]⟩
    | false =>
      obtain ⟨e2, h4, h5⟩ := h3 hpm
      simp only [h4]
      exact forL_idx f p r E n hb k (m + 1) (by omega) (fun j hj => by
        rcases Nat.lt_succ_iff_lt_or_eq.mp hj with h | h
        · exact hp j h
        · rw [h]; exact hpm) e2 h5
theorem forL_range {f : Nat → PD} (p : Nat → Bool) (r : Nat → PD) (E : Nat → SE → Prop) {g : PD → SE → Option SE} {b : DS} {n : Nat} {ds : List PD} {env : SE} (hd : ds = (List.range n).map f) (h0 : E 0 env)
    (hb : ∀ i, i < n → (∀ j, j < i → p j = false) → ∀ env, E i env → ∃ e1, g (f i) env = some e1 ∧ (p i = true → ∃ e2, b e1 = some (.rt (r i) e2)) ∧ (p i = false → ∃ e2, b e1 = some (.nx e2) ∧ E (i + 1) e2)) :
      (∃ i, i < n ∧ p i = true ∧ (∀ j, j < i → p j = false) ∧ ∃ e, dForL g b ds env = some (.rt (r i) e)) ∨
      ((∀ i, i < n → p i = false) ∧ ∃ e, dForL g b ds env = some (.nx e) ∧ E n e) := by
  have := forL_idx f p r E (g := g) (b := b) n hb n 0 (by omega) (fun j hj => absurd hj (Nat.not_lt_zero j)) env h0
  rw [hd, List.range_eq_range']
  exact this
/-- a loop that never returns -/
theorem forL_all {f : Nat → PD} (E : Nat → SE → Prop) {g : PD → SE → Option SE} {b : DS} {n : Nat} {ds : List PD} {env : SE} (hd : ds = (List.range n).map f) (h0 : E 0 env)
    (hb : ∀ i, i < n → ∀ env, E i env → ∃ e1, g (f i) env = some e1 ∧ ∃ e2, b e1 = some (.nx e2) ∧ E (i + 1) e2) :
      ∃ e, dForL g b ds env = some (.nx e) ∧ E n e := by
  rcases forL_range (fun _ => false) (fun _ => .none) E (g := g) (b := b) hd h0 (fun i hi _ env he => by
    obtain ⟨e1, a, e2, c, d⟩ := hb i hi env he
    exact ⟨e1, a, fun h => absurd h Bool.false_ne_true, fun _ => ⟨e2, c, d⟩⟩) with ⟨i, _, h, _⟩ | ⟨_, h⟩
  · cases h
  · exact h

/-! ### lists of data -/
theorem map_range {α β : Type} (d : α) (f : α → β) (xs : List α) : xs.map f = (List.range xs.length).map fun i => f (xs.getD i d) := by
  apply List.ext_getElem
  · rw [List.length_map, List.length_map, List.length_range]
  · intro i h1 h2
    rw [List.getElem_map, List.getElem_map, List.getElem_range]
    rw [List.length_map] at h1
    rw [List.getD_eq_getElem?_getD, List.getElem?_eq_getElem h1]; rfl
theorem en_range {α : Type} (d : α) (f : α → PD) (xs : List α) : enL (xs.map f) = (List.range xs.length).map fun i => .tuple [.int (i : Nat), f (xs.getD i d)] := by
  unfold enL
  apply List.ext_getElem
  · simp
  · intro i h1 h2
    simp at h1
    simp [List.getD_eq_getElem?_getD, List.getElem?_eq_getElem h1]
theorem eqD_datum {α : Type} [DecidableEq α] [PySem.W.Datum α] (a b : α) (h : PySem.W.Datum.depth α ≤ 60) : eqD (PySem.W.Datum.toD a) (PySem.W.Datum.toD b) = some (.bool (decide (a = b))) := by
  have hf : fitsD (PySem.W.Datum.toD a) (PySem.W.Datum.toD b) = true := by
    unfold fitsD
    rw [PySem.W.Datum.plain, PySem.W.Datum.plain]
    simp only [Bool.true_and, decide_eq_true_eq]
    have := PySem.W.Datum.depth_le a
    omega
  unfold eqD
  rw [if_pos hf, PySem.W.Datum.eqv]
theorem neD_datum {α : Type} [DecidableEq α] [PySem.W.Datum α] (a b : α) (h : PySem.W.Datum.depth α ≤ 60) : neD (PySem.W.Datum.toD a) (PySem.W.Datum.toD b) = some (.bool (!decide (a = b))) := by
  have hf : fitsD (PySem.W.Datum.toD a) (PySem.W.Datum.toD b) = true := by
    unfold fitsD
    rw [PySem.W.Datum.plain, PySem.W.Datum.plain]
    simp only [Bool.true_and, decide_eq_true_eq]
    have := PySem.W.Datum.depth_le a
    omega
  unfold neD
  rw [if_pos hf, PySem.W.Datum.eqv]
theorem eqS (a b : Str) : eqD (.str a) (.str b) = some (.bool (decide (a = b))) := eqD_datum (α := Str) a b (by decide)
theorem neS (a b : Str) : neD (.str a) (.str b) = some (.bool (!decide (a = b))) := neD_datum (α := Str) a b (by decide)
theorem eqI (a b : Int) : eqD (.int a) (.int b) = some (.bool (decide (a = b))) := eqD_datum (α := Int) a b (by decide)
theorem neI (a b : Int) : neD (.int a) (.int b) = some (.bool (!decide (a = b))) := neD_datum (α := Int) a b (by decide)
theorem eqLS (a b : List Str) : eqD (.list (a.map .str)) (.list (b.map .str)) = some (.bool (decide (a = b))) := eqD_datum (α := List Str) a b (by decide)
theorem neLS (a b : List Str) : neD (.list (a.map .str)) (.list (b.map .str)) = some (.bool (!decide (a = b))) := neD_datum (α := List Str) a b (by decide)
/-- x in a list or tuple of texts -/
theorem isIn_datum {α : Type} [DecidableEq α] [PySem.W.Datum α] (a : α) (xs : List α) (h : PySem.W.Datum.depth α ≤ 60) {z : PD} (hz : z = .list (xs.map PySem.W.Datum.toD) ∨ z = .tuple (xs.map PySem.W.Datum.toD)) :
    isIn (PySem.W.Datum.toD a) z = some (decide (a ∈ xs)) := by
  have hok : inOk (PySem.W.Datum.toD a) (xs.map PySem.W.Datum.toD) = true := by
    unfold inOk
    rw [PySem.W.Datum.plain, PySem.W.plainAll_map]
    simp only [Bool.true_and, decide_eq_true_eq]
    have := PySem.W.Datum.depth_le a
    omega
  have he : ((xs.map PySem.W.Datum.toD).any fun z => PyData.eqv z (PySem.W.Datum.toD a)) = decide (a ∈ xs) := by
    rw [Bool.eq_iff_iff, List.any_map, List.any_eq_true, decide_eq_true_eq]
    constructor
    · rintro ⟨x, hx, h2⟩
      simp only [Function.comp_apply, PySem.W.Datum.eqv, decide_eq_true_eq] at h2
      rw [← h2]; exact hx
    · intro hx
      exact ⟨a, hx, by simp only [Function.comp_apply, PySem.W.Datum.eqv, decide_true]⟩
  rcases hz with rfl | rfl
  · show (if _ then _ else _) = _
    rw [if_pos hok, he]
  · show (if _ then _ else _) = _
    rw [if_pos hok, he]
end D
end
section
set_option Elab.async false
set_option linter.all false
/-! Law k12, plain: systems, names, orders, needs, times. -/
namespace K12
open PySem D

structure T where
  name : Str
  gap : Int
  due : Int
  least : Int
  most : Int
instance : Inhabited T := ⟨⟨⟨#[]⟩, 1, 1, 1, 1⟩⟩
def tkD (t : T) : PD := .tuple [.str t.name, .str "any", .int 0, .int t.gap, .int t.due, .int t.least, .int t.most]
def nm (t : T) : PD := .str t.name
def supD (s : List Int) : PD := .tuple (s.map .int)
def sysD (pre : Bool) (s : List Int) (ts : List T) : PD := .tuple [.str "system", .int 1, .str "fixed", .bool pre, supD s, .tuple (ts.map tkD), .tuple []]
def nam (i : Fin 5) : Str := match i with
  | 0 => "b" | 1 => "a" | 2 => "c" | 3 => "e" | 4 => "d"
structure T.Ok (t : T) : Prop where
  five : ∃ i : Fin 5, t.name = nam i
  m1 : 1 ≤ t.most
  m3 : t.most ≤ 3
  md : t.most ≤ t.due
  d9 : t.due ≤ 9
  dg : t.due ≤ t.gap
  g20 : t.gap ≤ 20
  sn : PyData.canLay0 (.str t.name) = true
structure Good (ts : List T) : Prop where
  ok : ∀ t ∈ ts, t.Ok
  nd : (ts.map T.name).Nodup
  len : ts.length ≤ 5
abbrev nth (ts : List T) (i : Nat) : T := ts.getD i default

theorem Good.lim {ts : List T} (h : Good ts) : ts.length ≤ LIM := Nat.le_trans h.len (by decide)
theorem nth_mem {ts : List T} {i : Nat} (h : i < ts.length) : nth ts i ∈ ts := by
  unfold nth
  rw [List.getD_eq_getElem?_getD, List.getElem?_eq_getElem h]; exact List.getElem_mem h
theorem nth_eq {ts : List T} {i : Nat} (h : i < ts.length) : nth ts i = ts[i] := by
  unfold nth
  rw [List.getD_eq_getElem?_getD, List.getElem?_eq_getElem h]; rfl
theorem name_inj {ts : List T} (nd : (ts.map T.name).Nodup) {x y : T} (hx : x ∈ ts) (hy : y ∈ ts) (h : x.name = y.name) : x = y := by
  obtain ⟨i, hi, rfl⟩ := List.getElem_of_mem hx
  obtain ⟨j, hj, rfl⟩ := List.getElem_of_mem hy
  have : i = j := (List.getElem?_inj (h₀ := by simpa using hi) (h₁ := nd)).mp (by simp [hi, hj, h])
  subst this; rfl
theorem nth_inj {ts : List T} (nd : (ts.map T.name).Nodup) {i j : Nat} (hi : i < ts.length) (hj : j < ts.length) (h : (nth ts i).name = (nth ts j).name) : i = j := by
  rw [nth_eq hi, nth_eq hj] at h
  exact (List.getElem?_inj (h₀ := by simpa using hi) (h₁ := nd)).mp (by simp [hi, hj, h])
theorem filter_one {ts : List T} (nd : (ts.map T.name).Nodup) {t : T} (h : t ∈ ts) : ts.filter (fun u => decide (u.name = t.name)) = [t] := by
  induction ts with
  | nil => cases h
  | cons x xs ih =>
    rw [List.map_cons, List.nodup_cons] at nd
    rcases List.mem_cons.mp h with rfl | h'
    · rw [List.filter_cons_of_pos (by simp)]
      rw [List.filter_eq_nil_iff.mpr]
      intro y hy
      simp only [decide_eq_true_eq]
      intro e
      exact nd.1 (e ▸ List.mem_map_of_mem hy)
    · rw [List.filter_cons_of_neg (by
        simp only [decide_eq_true_eq]
        intro e
        exact nd.1 (e ▸ List.mem_map_of_mem h'))]
      exact ih nd.2 h'

/-! ### systems -/
theorem names_of_ok {pre : Bool} {s : List Int} {ts : List T} (hl : ts.length ≤ LIM) : F_names_of [sysD pre s ts] = some (.list (ts.map nm)) :=
  fn_rt (ret_of (lc_all tkD ts nm rfl hl fun x _ => ⟨_, rfl, rfl⟩))
theorem tasks_of_ok {pre : Bool} {s : List Int} {ts : List T} : F_tasks_of [sysD pre s ts] = some (.tuple (ts.map tkD)) := rfl
theorem task_of_ok {pre : Bool} {s : List Int} {ts : List T} (hl : ts.length ≤ LIM) (nd : (ts.map T.name).Nodup) {t : T} (h : t ∈ ts) : F_task_of [sysD pre s ts, .str t.name] = some (tkD t) := by
  have hc := lc_of (it := iSeq (qCall (fun ds => if ds.length = 1 then F_tasks_of ds else none) (aCons (qVar 0) aNil))) (g := gN 3) (t := asB (q2 eqD (q2 getD' (pVar 3) (qC (.int 0))) (pVar 1))) (e := qVar 3) (vs := [3])
    (env := [some (.sh (sysD pre s ts)), some (.sh (.str t.name)), none, none]) tkD ts (fun u => decide (u.name = t.name)) tkD rfl hl
    (fun x _ => ⟨_, rfl, asB_of (q2_of rfl rfl (eqS _ _)), fun _ => rfl⟩)
  rw [filter_one nd h] at hc
  refine fn_rt (seq_nx (set_of hc rfl) (ret_of (qif_t rfl rfl)))
theorem with_tasks_ok {pre : Bool} {s : List Int} {ts us : List T} (hl : us.length ≤ LIM) : F_with_tasks [sysD pre s ts, .list (us.map tkD)] = some (sysD pre s us) := by
  obtain ⟨z, hz⟩ := dc_some (it := iSeq (pVar 1)) (g := gN 4) (ke := q2 getD' (pVar 4) (qC (.int 0))) (e := q2 getD' (pVar 4) (qC (.int 6))) (vs := [4])
    (env := startE 6 [sysD pre s ts, .list (us.map tkD)]) tkD us (fun t => .inr t.name) (fun t => .int t.most) rfl hl (fun x _ => ⟨_, rfl, rfl, rfl⟩)
  refine fn_rt (seq_nx (set_of hz rfl) (seq_nx (set_of (d := .tuple []) rfl rfl) (ret_of rfl)))
theorem only_ok {pre : Bool} {s : List Int} {ts : List T} {ns : List Str} {z : PD} (hl : ts.length ≤ LIM) (hz : z = .list (ns.map .str) ∨ z = .tuple (ns.map .str)) :
    F_only [sysD pre s ts, z] = some (sysD pre s (ts.filter fun t => decide (t.name ∈ ns))) := by
  have hc := lc_of (it := iSeq (qCall (fun ds => if ds.length = 1 then F_tasks_of ds else none) (aCons (qVar 0) aNil))) (g := gN 2) (t := asB (q2 inD (q2 getD' (pVar 2) (qC (.int 0))) (pVar 1))) (e := qVar 2) (vs := [2])
    (env := [some (.sh (sysD pre s ts)), some (.sh z), none]) tkD ts (fun u => decide (u.name ∈ ns)) tkD rfl hl
    (fun x _ => ⟨_, rfl, asB_of (q2_of rfl rfl (congrArg (Option.map PyData.bool) (isIn_datum (α := Str) x.name ns (by decide) hz))), fun _ => rfl⟩)
  exact fn_rt (ret_of (calln (cons_of rfl (cons_of hc rfl)) rfl (with_tasks_ok (Nat.le_trans (List.length_filter_le _ _) hl))))
theorem with_order_ok {pre : Bool} {s : List Int} {ts us : List T} {z : PD} (hl : ts.length ≤ LIM) (nd : (ts.map T.name).Nodup) (hu : ∀ u ∈ us, u ∈ ts) (hul : us.length ≤ LIM) (hz : seqOf z = some (us.map nm)) :
    F_with_order [sysD pre s ts, z] = some (sysD pre s us) := by
  have hc := lc_all (it := iSeq (pVar 1)) (g := gN 2) (e := qCall (fun ds => if ds.length = 2 then F_task_of ds else none) (aCons (qVar 0) (aCons (qVar 2) aNil))) (vs := [2])
    (env := [some (.sh (sysD pre s ts)), some (.sh z), none]) nm us tkD (seq_of (d := z) rfl hz) hul
    (fun x hx => ⟨_, rfl, calln rfl rfl (task_of_ok hl nd (hu x hx))⟩)
  exact fn_rt (ret_of (calln (cons_of rfl (cons_of hc rfl)) rfl (with_tasks_ok hul)))
theorem idx_ok {ts : List T} (G : Good ts) {t : T} (h : t ∈ ts) : ∃ j : Nat, idxD (.list (ts.map nm)) (.str t.name) = some (.int j) := by
  have hp : PyData.plainAll (ts.map nm) = true := by
    have := PySem.W.plainAll_map (α := Str) (ts.map T.name)
    rw [List.map_map] at this; exact this
  have hs : ∀ us : List T, (∀ u ∈ us, u ∈ ts) → PyData.canLayAll0 (us.map nm) = true := by
    intro us
    induction us with
    | nil => intro _; rfl
    | cons x xs ih => intro hu; rw [List.map_cons]; unfold PyData.canLayAll0; rw [ih fun u h => hu u (List.mem_cons_of_mem _ h)]; unfold nm; rw [(G.ok x (hu x (List.mem_cons_self ..))).sn]; rfl
  have hd : PyData.depthAll (ts.map nm) ≤ 0 := by
    have := PySem.W.depthAll_map (α := Str) (ts.map T.name)
    rw [List.map_map] at this; exact this
  have hok : ((PyData.list (ts.map nm)).plain && (PyData.str t.name).plain && SeqAt.shaped (.list (ts.map nm)) && SeqAt.shaped (.str t.name)) = true := by
    have a : (PyData.list (ts.map nm)).plain = true := by simp only [PyData.plain]; exact hp
    have b : SeqAt.shaped (.list (ts.map nm)) = true := by
      unfold SeqAt.shaped; simp only [PyData.canLay0, PyData.depth, hs ts fun _ h => h, Bool.true_and, decide_eq_true_eq]; exact decide_eq_true (Nat.succ_le_succ (Nat.le_trans hd (Nat.zero_le _)))
    have c : SeqAt.shaped (.str t.name) = true := by
      unfold SeqAt.shaped; rw [(G.ok t h).sn]; rfl
    rw [a, b, c]; rfl
  have hf : ∃ j, (ts.map nm).findIdx? (fun z => PyData.eqv z (.str t.name)) = some j := by
    cases e : (ts.map nm).findIdx? (fun z => PyData.eqv z (.str t.name)) with
    | some j => exact ⟨j, rfl⟩
    | none =>
      have := List.findIdx?_eq_none_iff.mp e (nm t) (List.mem_map_of_mem h)
      have e2 : PyData.eqv (nm t) (.str t.name) = true := by
        have := PySem.W.Datum.eqv (α := Str) t.name t.name
        rw [decide_eq_true rfl] at this; exact this
      rw [e2] at this; cases this
  obtain ⟨j, hj⟩ := hf
  refine ⟨j, ?_⟩
  show (if _ then _ else _) = _
  rw [if_pos hok, hj]; rfl
theorem hold_of_ok {pre : Bool} {s : List Int} {ts : List T} (G : Good ts) {t : T} (h : t ∈ ts) : F_hold_of [sysD pre s ts, .str t.name] = some (.int 0) := by
  have hl := G.lim
  obtain ⟨j, hj⟩ := idx_ok G h
  have hq : ∀ env : SE, pVar 2 env = some (.list (ts.map nm)) → pVar 1 env = some (.str t.name) → q2 addD (q2 idxD (pVar 2) (pVar 1)) (qC (.int 1)) env = some (.int (j + 1)) := fun env a b => q2_of (q2_of a b hj) rfl rfl
  have hs : ∀ env : SE, pVar 2 env = some (.list (ts.map nm)) → pVar 1 env = some (.str t.name) → qSl (pVar 2) none (some (q2 addD (q2 idxD (pVar 2) (pVar 1)) (qC (.int 1)))) env = some (.list (cutD (ts.map nm) none (some (j + 1)))) := fun env a b =>
    sl_of a rfl (h := some (j + 1)) (by unfold partD; simp only [hq env a b]) rfl
  have hs2 : ∀ env : SE, pVar 2 env = some (.list (ts.map nm)) → pVar 1 env = some (.str t.name) → qSl (pVar 2) (some (q2 addD (q2 idxD (pVar 2) (pVar 1)) (qC (.int 1)))) none env = some (.list (cutD (ts.map nm) (some (j + 1)) none)) := fun env a b =>
    sl_of a (l := some (j + 1)) (by unfold partD; simp only [hq env a b]) rfl rfl
  refine fn_rt (seq_nx (set_of (calln rfl rfl (names_of_ok hl)) rfl) (seq_nx (e := [some (.sh (sysD pre s ts)), some (.sh (.str t.name)), some (.sh (.list (ts.map nm))), some (.sh (.list (cutD (ts.map nm) none (some (j + 1))))), some (.sh (.list (cutD (ts.map nm) (some (j + 1)) none))), none, none]) ?_ (seq_nx (set_of (d := .list []) rfl rfl) (ret_of rfl))))
  simp only [dPar, mCons]
  rw [hs _ rfl rfl, hs2 _ rfl rfl]
  rfl

/-! ### needs -/
def upI (n g : Int) : Int := 0 - (0 - n) / g
def sumN (A : List T) (n : Int) : Int := (A.map fun u => u.most * upI n u.gap).sum
theorem up_ok {n g : Int} (h : 0 < g) (h2 : g < 1073741824) : F_up [.int n, .int g] = some (.int (upI n g)) :=
  fn_rt (ret_of (q2_of rfl (q2_of (e := .int g) rfl rfl (show (if 0 < g ∧ g < 1073741824 then _ else _) = _ from if_pos ⟨h, h2⟩)) rfl))
theorem mul_ok {i j : Int} (h : 0 ≤ i) (h2 : i ≤ 1000) : mulD (.int i) (.int j) = some (.int (i * j)) := by
  show (if mulI i j = true then _ else _) = _
  rw [if_pos]
  unfold mulI
  rw [Bool.or_eq_true, Bool.and_eq_true, decide_eq_true_eq, decide_eq_true_eq]
  left; omega
theorem mul_ok' {i j : Int} (h : 0 ≤ j) (h2 : j ≤ 1000) : mulD (.int i) (.int j) = some (.int (i * j)) := by
  show (if mulI i j = true then _ else _) = _
  rw [if_pos]
  unfold mulI
  rw [Bool.or_eq_true, Bool.and_eq_true, Bool.and_eq_true, decide_eq_true_eq, decide_eq_true_eq, decide_eq_true_eq, decide_eq_true_eq]
  right; omega
theorem sumN_snoc (A : List T) (u : T) (n : Int) : sumN (A ++ [u]) n = sumN A n + u.most * upI n u.gap := by
  unfold sumN; rw [List.map_append, List.sum_append]; simp
theorem take_succ_nth {ts : List T} {i : Nat} (h : i < ts.length) : ts.take (i + 1) = ts.take i ++ [nth ts i] := by
  rw [List.take_succ_eq_append_getElem h, nth_eq h]
theorem need_of_ok {pre : Bool} {s : List Int} {ts : List T} (G : Good ts) {k : Nat} (hk : k < ts.length) (n : Int) :
    F_need_of [sysD pre s ts, .str (nth ts k).name, .int n] = some (.int ((nth ts k).most + sumN (ts.take k) n)) := by
  have hm := nth_mem hk
  have h0 : q2 addD (q2 getD' (qCall (fun ds => if ds.length = 2 then F_task_of ds else none) (aCons (qVar 0) (aCons (qVar 1) aNil))) (qC (.int 6))) (qCall (fun ds => if ds.length = 2 then F_hold_of ds else none) (aCons (qVar 0) (aCons (qVar 1) aNil))) (startE 5 [sysD pre s ts, .str (nth ts k).name, .int n]) = some (.int ((nth ts k).most + 0)) :=
    q2_of (q2_of (calln rfl rfl (task_of_ok G.lim G.nd hm)) rfl rfl) (calln rfl rfl (hold_of_ok G hm)) rfl
  have hL := forL_range (f := fun i => tkD (nth ts i)) (n := ts.length) (ds := ts.map tkD) (g := gN 4) (b := L_need_of_1) (env := [some (.sh (sysD pre s ts)), some (.sh (.str (nth ts k).name)), some (.sh (.int n)), some (.sh (.int ((nth ts k).most + 0))), none])
    (fun i => decide ((nth ts i).name = (nth ts k).name)) (fun i => .int ((nth ts k).most + sumN (ts.take i) n))
    (fun i env => ∃ z : Option PD, env = [some (.sh (sysD pre s ts)), some (.sh (.str (nth ts k).name)), some (.sh (.int n)), some (.sh (.int ((nth ts k).most + sumN (ts.take i) n))), z.map .sh])
    (map_range default tkD ts) ⟨none, rfl⟩ (by
      rintro i hi _ env ⟨z, rfl⟩
      refine ⟨[some (.sh (sysD pre s ts)), some (.sh (.str (nth ts k).name)), some (.sh (.int n)), some (.sh (.int ((nth ts k).most + sumN (ts.take i) n))), some (.sh (tkD (nth ts i)))], by cases z <;> rfl, fun hp => ?_, fun hp => ?_⟩
      · exact ⟨_, seq_rt (if_t (asB_of (q2_of rfl rfl ((eqS _ _).trans (by rw [hp])))) (ret_of rfl))⟩
      · have ho := G.ok _ (nth_mem hi)
        have hg : 0 < (nth ts i).gap := by have := ho.m1; have := ho.md; have := ho.dg; omega
        refine ⟨_, seq_nx (if_f (asB_of (q2_of rfl rfl ((eqS _ _).trans (by rw [hp])))) rfl) (aug_of rfl rfl (q2_of rfl (calln rfl rfl (up_ok hg (by have := ho.g20; omega))) (mul_ok (by have := ho.m1; omega) (by have := ho.m3; omega))) rfl), some (tkD (nth ts i)), ?_⟩
        rw [take_succ_nth hi, sumN_snoc, ← Int.add_assoc]; rfl)
  rcases hL with ⟨i, hi, hp, _, e, he⟩ | ⟨hn, _⟩
  · have := nth_inj G.nd hi hk (of_decide_eq_true hp)
    subst this
    exact fn_rt (seq_nx (set_of h0 rfl) (seq_rt (for_of rfl he)))
  · have := hn k hk
    rw [decide_eq_true rfl] at this; cases this
end K12
end
section
set_option Elab.async false
set_option linter.all false
/-! Law k12, plain: supply, fits, times. -/
namespace K12
open PySem D

def IsSup (s : List Int) : Prop := s = [1] ∨ s = [1, 1, 0] ∨ s = [1, 0]
noncomputable def LS (s : List Int) (n : Int) : Int := match F__law_least [supD s, .int n] with
  | some (.int i) => i
  | _ => 0
theorem ls_ok {s : List Int} (hs : IsSup s) {n : Int} (h1 : 1 ≤ n) (h9 : n ≤ 9) : F_least_supply [supD s, .int n] = some (.int (LS s n)) ∧ F__law_least [supD s, .int n] = some (.int (LS s n)) := by
  have hn : n = 1 ∨ n = 2 ∨ n = 3 ∨ n = 4 ∨ n = 5 ∨ n = 6 ∨ n = 7 ∨ n = 8 ∨ n = 9 := by omega
  rcases hs with rfl | rfl | rfl <;> rcases hn with rfl | rfl | rfl | rfl | rfl | rfl | rfl | rfl | rfl <;> exact ⟨by kernel_rfl, by kernel_rfl⟩

def fit (s : List Int) (t : T) (A : List T) (n : Int) : Prop := t.most + sumN A n ≤ LS s n
noncomputable instance {s : List Int} {t : T} {A : List T} {n : Int} : Decidable (fit s t A n) := Int.decLe _ _
theorem enough_ok {pre : Bool} {s : List Int} {ts : List T} (hs : IsSup s) (G : Good ts) {k : Nat} (hk : k < ts.length) {n : Int} (h1 : 1 ≤ n) (h9 : n ≤ 9) :
    F_is_enough_time [sysD pre s ts, .str (nth ts k).name, .int n] = some (.bool (decide (fit s (nth ts k) (ts.take k) n))) :=
  fn_rt (ret_of (q2_of (calln rfl rfl (need_of_ok G hk n)) (calln rfl rfl (ls_ok hs h1 h9).1) rfl))

/-- the first n in 1 .. due that fits -/
noncomputable def first (s : List Int) (t : T) (A : List T) : Option Int := ((List.range t.due.toNat).find? fun i => decide (fit s t A (1 + (i : Nat)))).map fun i => 1 + ((i : Nat) : Int)
def optD : Option Int → PD
  | none => .none
  | some i => .int i
theorem rng2_of {q : SE → Option (List PD)} {env : SE} {i j : Int} (h : q env = some [.int i, .int j]) (h1 : 0 ≤ i) (h2 : i ≤ 1000) (h3 : 0 ≤ j) (h4 : j ≤ 1000) : iRng2 q env = some (rngL i (j - i).toNat) := by
  unfold iRng2; rw [h]
  show (if _ then _ else _) = _
  rw [if_pos]; exact ⟨by omega, by omega, by omega, by omega⟩
theorem rng1_of {q : SE → Option (List PD)} {env : SE} {j : Int} (h : q env = some [.int j]) (h3 : -1000 ≤ j) (h4 : j ≤ 1000) : iRng1 q env = some (rngL 0 j.toNat) := by
  unfold iRng1; rw [h]
  show (if _ then _ else _) = _
  rw [if_pos]; exact ⟨by omega, by omega⟩
theorem first_some {s : List Int} {t : T} {A : List T} {i : Nat} (hi : i < t.due.toNat) (h : fit s t A (1 + (i : Nat))) (hn : ∀ j : Nat, j < i → ¬ fit s t A (1 + (j : Nat))) : first s t A = some (1 + (i : Nat)) := by
  unfold first
  have : (List.range t.due.toNat).find? (fun i => decide (fit s t A (1 + (i : Nat)))) = some i := by
    rw [List.find?_eq_some_iff_getElem]
    exact ⟨decide_eq_true h, i, by simpa using hi, by simp, fun j hj => by simp [hn j hj]⟩
  rw [this]; rfl
theorem first_none {s : List Int} {t : T} {A : List T} (h : ∀ i : Nat, i < t.due.toNat → ¬ fit s t A (1 + (i : Nat))) : first s t A = none := by
  unfold first
  rw [List.find?_eq_none.mpr fun i hi => by simp [h i (List.mem_range.mp hi)]]; rfl
theorem first_spec {s : List Int} {t : T} {A : List T} {m : Int} (h : first s t A = some m) : 1 ≤ m ∧ m ≤ t.due ∧ fit s t A m ∧ ∀ j : Int, 1 ≤ j → j < m → ¬ fit s t A j := by
  unfold first at h
  cases e : (List.range t.due.toNat).find? (fun i => decide (fit s t A (1 + (i : Nat)))) with
  | none => rw [e] at h; cases h
  | some i =>
    rw [e] at h
    have hm : 1 + (i : Int) = m := Option.some.inj h
    obtain ⟨h1, k, hk, h2, h3⟩ := List.find?_eq_some_iff_getElem.mp e
    simp at h2 hk
    subst h2
    refine ⟨by omega, by omega, hm ▸ of_decide_eq_true h1, fun j hj hjm hf => ?_⟩
    have := h3 (j - 1).toNat (by omega)
    simp at this
    apply this
    have e2 : 1 + ((j.toNat - 1 : Nat) : Int) = j := by omega
    rw [e2]; exact hf
theorem first_none_iff {s : List Int} {t : T} {A : List T} (h : first s t A = none) {j : Int} (h1 : 1 ≤ j) (h2 : j ≤ t.due) : ¬ fit s t A j := by
  unfold first at h
  have := List.find?_eq_none.mp (Option.map_eq_none_iff.mp h) (j - 1).toNat (by rw [List.mem_range]; omega)
  simp at this
  have e2 : 1 + ((j.toNat - 1 : Nat) : Int) = j := by omega
  rw [e2] at this; exact this

theorem least_time_ok {pre : Bool} {s : List Int} {ts : List T} (hs : IsSup s) (G : Good ts) {k : Nat} (hk : k < ts.length) :
    F__least_time [sysD pre s ts, tkD (nth ts k)] = some (optD (first s (nth ts k) (ts.take k))) := by
  have ho := G.ok _ (nth_mem hk)
  have h1 := ho.m1; have h2 := ho.md; have h3 := ho.d9
  have hr : iRng2 (aCons (qC (.int 1)) (aCons (q2 addD (q2 getD' (pVar 1) (qC (.int 4))) (qC (.int 1))) aNil)) (startE 3 [sysD pre s ts, tkD (nth ts k)]) = some (rngL 1 ((nth ts k).due + 1 - 1).toNat) :=
    rng2_of rfl (by decide) (by decide) (by omega) (by omega)
  have hL := forL_range (f := fun i => .int (1 + (i : Nat))) (n := (nth ts k).due.toNat) (ds := rngL 1 ((nth ts k).due + 1 - 1).toNat) (g := gN 2) (b := L__least_time_1) (env := startE 3 [sysD pre s ts, tkD (nth ts k)])
    (fun i => decide (fit s (nth ts k) (ts.take k) (1 + (i : Nat)))) (fun i => .int (1 + (i : Nat)))
    (fun i env => ∃ z : Option PD, env = [some (.sh (sysD pre s ts)), some (.sh (tkD (nth ts k))), z.map .sh])
    (by rw [Int.add_sub_cancel]; rfl) ⟨none, rfl⟩ (by
      rintro i hi _ env ⟨z, rfl⟩
      have hb := enough_ok (pre := pre) hs G hk (n := 1 + (i : Nat)) (by omega) (by omega)
      refine ⟨[some (.sh (sysD pre s ts)), some (.sh (tkD (nth ts k))), some (.sh (.int (1 + (i : Nat))))], by cases z <;> rfl, fun hp => ⟨_, if_t (tru_of (calln rfl rfl hb) (by rw [hp]; rfl)) (ret_of rfl)⟩, fun hp => ⟨_, if_f (tru_of (calln rfl rfl hb) (by rw [hp]; rfl)) rfl, some (.int (1 + (i : Nat))), rfl⟩⟩)
  rcases hL with ⟨i, hi, hp, hn, e, he⟩ | ⟨hn, e, he, z, rfl⟩
  · rw [first_some hi (of_decide_eq_true hp) fun j hj => of_decide_eq_false (hn j hj)]
    exact fn_rt (seq_rt (for_of hr he))
  · rw [first_none fun i hi => of_decide_eq_false (hn i hi)]
    exact fn_rt (seq_nx (for_of hr he) (ret_of rfl))

theorem up_eq {n g : Int} (h : 0 < g) (h2 : g ≤ 20) : (n + g - 1) / g = upI n g := by
  unfold upI
  have hg : g = 1 ∨ g = 2 ∨ g = 3 ∨ g = 4 ∨ g = 5 ∨ g = 6 ∨ g = 7 ∨ g = 8 ∨ g = 9 ∨ g = 10 ∨ g = 11 ∨ g = 12 ∨ g = 13 ∨ g = 14 ∨ g = 15 ∨ g = 16 ∨ g = 17 ∨ g = 18 ∨ g = 19 ∨ g = 20 := by omega
  rcases hg with rfl | rfl | rfl | rfl | rfl | rfl | rfl | rfl | rfl | rfl | rfl | rfl | rfl | rfl | rfl | rfl | rfl | rfl | rfl | rfl <;> omega
theorem sumD_map {α : Type} (xs : List α) (h : α → Int) : sumD [.list (xs.map fun x => .int (h x))] = some (.int (xs.map h).sum) := by
  have := intsOf_map (xs.map h)
  rw [List.map_map] at this
  show (intsOf _).map _ = _
  rw [show (xs.map fun x => PyData.int (h x)) = xs.map (PyData.int ∘ h) from rfl, this]; rfl
theorem fdiv_ok {i j : Int} (h : 0 < j) (h2 : j ≤ 1000) : fdivD (.int i) (.int j) = some (.int (i / j)) := if_pos ⟨h, by omega⟩

theorem law_time_ok {s : List Int} (hs : IsSup s) {t : T} (ho : t.Ok) {A : List T} (hA : ∀ u ∈ A, u.Ok) (hl : A.length ≤ LIM) {z : PD} (hz : seqOf z = some (A.map tkD)) :
    F__law_time [tkD t, z, supD s] = some (optD (first s t A)) := by
  have h1 := ho.m1; have h2 := ho.md; have h3 := ho.d9
  have hr : iRng2 (aCons (qC (.int 1)) (aCons (q2 addD (q2 getD' (pVar 0) (qC (.int 4))) (qC (.int 1))) aNil)) (startE 5 [tkD t, z, supD s]) = some (rngL 1 (t.due + 1 - 1).toNat) :=
    rng2_of rfl (by decide) (by decide) (by omega) (by omega)
  have hL := forL_range (f := fun i => .int (1 + (i : Nat))) (n := t.due.toNat) (ds := rngL 1 (t.due + 1 - 1).toNat) (g := gN 3) (b := L__law_time_1) (env := startE 5 [tkD t, z, supD s])
    (fun i => decide (fit s t A (1 + (i : Nat)))) (fun i => .int (1 + (i : Nat)))
    (fun i env => ∃ y : Option PD, env = [some (.sh (tkD t)), some (.sh z), some (.sh (supD s)), y.map .sh, none])
    (by rw [Int.add_sub_cancel]; rfl) ⟨none, rfl⟩ (by
      rintro i hi _ env ⟨y, rfl⟩
      have hc := lc_all (it := iSeq (pVar 1)) (g := gN 4) (e := q2 mulD (q2 getD' (pVar 4) (qC (.int 6))) (q2 fdivD (q2 subD (q2 addD (pVar 3) (q2 getD' (pVar 4) (qC (.int 3)))) (qC (.int 1))) (q2 getD' (pVar 4) (qC (.int 3))))) (vs := [4])
        (env := [some (.sh (tkD t)), some (.sh z), some (.sh (supD s)), some (.sh (.int (1 + (i : Nat)))), none]) tkD A (fun u => .int (u.most * upI (1 + (i : Nat)) u.gap)) (seq_of (d := z) rfl hz) hl (fun u hu => by
          have hu := hA u hu
          have a := hu.m1; have b := hu.md; have c := hu.dg; have d := hu.g20; have d2 := hu.m3
          refine ⟨_, rfl, q2_of rfl (q2_of (d := .int (1 + (i : Nat) + u.gap - 1)) rfl rfl (fdiv_ok (by omega) (by omega))) ?_⟩
          rw [mul_ok (by omega) (by omega), up_eq (by omega) (by omega)])
      have hb : asB (q2 leD (q2 addD (q2 getD' (pVar 0) (qC (.int 6))) (qCall sumD (aCons (dLc (iSeq (pVar 1)) (gN 4) tYesD (q2 mulD (q2 getD' (pVar 4) (qC (.int 6))) (q2 fdivD (q2 subD (q2 addD (pVar 3) (q2 getD' (pVar 4) (qC (.int 3)))) (qC (.int 1))) (q2 getD' (pVar 4) (qC (.int 3))))) [4]) aNil))) (qCall (fun ds => if ds.length = 2 then F__law_least ds else none) (aCons (qVar 2) (aCons (qVar 3) aNil))))
          [some (.sh (tkD t)), some (.sh z), some (.sh (supD s)), some (.sh (.int (1 + (i : Nat)))), none] = some (decide (fit s t A (1 + (i : Nat)))) :=
        asB_of (q2_of (q2_of rfl (call_of (cons_of hc rfl) (sumD_map A fun u => u.most * upI (1 + (i : Nat)) u.gap)) rfl) (calln rfl rfl (ls_ok hs (by omega) (by omega)).2) rfl)
      refine ⟨[some (.sh (tkD t)), some (.sh z), some (.sh (supD s)), some (.sh (.int (1 + (i : Nat)))), none], by cases y <;> rfl, fun hp => ⟨_, if_t (hb.trans (congrArg some hp)) (ret_of rfl)⟩, fun hp => ⟨_, if_f (hb.trans (congrArg some hp)) rfl, some (.int (1 + (i : Nat))), rfl⟩⟩)
  rcases hL with ⟨i, hi, hp, hn, e, he⟩ | ⟨hn, e, he, y, rfl⟩
  · rw [first_some hi (of_decide_eq_true hp) fun j hj => of_decide_eq_false (hn j hj)]
    exact fn_rt (seq_rt (for_of hr he))
  · rw [first_none fun i hi => of_decide_eq_false (hn i hi)]
    exact fn_rt (seq_nx (for_of hr he) (ret_of rfl))

theorem anyD_map {α : Type} (xs : List α) (h : α → Bool) : anyD [.list (xs.map fun x => .bool (h x))] = some (.bool (xs.any h)) := by
  have := blsOf_map (xs.map h)
  rw [List.map_map] at this
  show (blsOf _).map _ = _
  rw [show (xs.map fun x => PyData.bool (h x)) = xs.map (PyData.bool ∘ h) from rfl, this, Option.map_some, List.any_map]; rfl
theorem allD_map {α : Type} (xs : List α) (h : α → Bool) : allD [.list (xs.map fun x => .bool (h x))] = some (.bool (xs.all h)) := by
  have := blsOf_map (xs.map h)
  rw [List.map_map] at this
  show (blsOf _).map _ = _
  rw [show (xs.map fun x => PyData.bool (h x)) = xs.map (PyData.bool ∘ h) from rfl, this, Option.map_some, List.all_map]; rfl
/-- any([is_enough_time(system, name, n) for n in range(1, due + 1)]) -/
theorem any_ok {pre : Bool} {s : List Int} {ts : List T} (hs : IsSup s) (G : Good ts) {k : Nat} (hk : k < ts.length) {qs qn qd : Qd} {v : Nat} {env : SE}
    (hd : qd env = some (.int (nth ts k).due)) (hf : free v (wipeE env [v]) = true)
    (hv : ∀ i : Int, qs ((wipeE env [v]).set v (some (.sh (.int i)))) = some (sysD pre s ts) ∧ qn ((wipeE env [v]).set v (some (.sh (.int i)))) = some (.str (nth ts k).name) ∧ qVar v ((wipeE env [v]).set v (some (.sh (.int i)))) = some (.int i)) :
    qCall anyD (aCons (dLc (iRng2 (aCons (qC (.int 1)) (aCons (q2 addD qd (qC (.int 1))) aNil))) (gN v) tYesD (qCall (fun ds => if ds.length = 3 then F_is_enough_time ds else none) (aCons qs (aCons qn (aCons (qVar v) aNil)))) [v]) aNil) env
      = some (.bool (first s (nth ts k) (ts.take k)).isSome) := by
  have ho := G.ok _ (nth_mem hk)
  have h1 := ho.m1; have h2 := ho.md; have h3 := ho.d9
  have hr : iRng2 (aCons (qC (.int 1)) (aCons (q2 addD qd (qC (.int 1))) aNil)) env = some ((List.range (nth ts k).due.toNat).map fun i => PyData.int (1 + (i : Nat))) := by
    rw [rng2_of (i := 1) (j := (nth ts k).due + 1) (cons_of rfl (cons_of (q2_of hd rfl rfl) rfl)) (by decide) (by decide) (by omega) (by omega), Int.add_sub_cancel]; rfl
  have hc := lc_all (g := gN v) (e := qCall (fun ds => if ds.length = 3 then F_is_enough_time ds else none) (aCons qs (aCons qn (aCons (qVar v) aNil)))) (vs := [v]) (fun i : Nat => PyData.int (1 + (i : Nat))) (List.range (nth ts k).due.toNat)
    (fun i => .bool (decide (fit s (nth ts k) (ts.take k) (1 + (i : Nat))))) hr (by rw [List.length_range]; exact Nat.le_trans (show (nth ts k).due.toNat ≤ 9 by omega) (by decide)) (fun i hi => by
      have hi := List.mem_range.mp hi
      obtain ⟨a, b, c⟩ := hv (1 + (i : Nat))
      exact ⟨_, if_pos hf, calln (cons_of a (cons_of b (cons_of c rfl))) rfl (enough_ok hs G hk (by omega) (by omega))⟩)
  exact (call_of (cons_of hc rfl) rfl).trans (anyD_map _ _ |>.trans (by unfold first; rw [Option.isSome_map, List.isSome_find?]))
end K12
end
section
set_option Elab.async false
set_option linter.all false
/-! Law k12, plain: timed, started, papers. -/
namespace K12
open PySem D

theorem cut_take {ds : List PD} {k : Nat} (h : k ≤ ds.length) : cutD ds none (some (k : Int)) = ds.take k := by
  unfold cutD; rw [HT.sIx_none, HT.sIx_nat, Nat.sub_zero, List.drop_zero, Nat.min_eq_left h]
theorem cut_drop {ds : List PD} {k : Nat} (h : k ≤ ds.length) : cutD ds (some (k : Int)) none = ds.drop k := by
  unfold cutD; rw [HT.sIx_none, HT.sIx_nat, Nat.min_eq_left h, List.take_of_length_le]
  rw [List.length_drop]; exact Nat.le_refl _
theorem slT {p q : Qd} {env : SE} {xs : List T} {k : Nat} {z : PD} (hz : p env = some z) (hs : z = .tuple (xs.map tkD) ∨ z = .list (xs.map tkD)) (h2 : q env = some (.int k)) (hk : k ≤ xs.length) : ∃ y, qSl p none (some q) env = some y ∧ seqOf y = some ((xs.take k).map tkD) := by
  have e : cutD (xs.map tkD) none (some (k : Int)) = (xs.take k).map tkD := by rw [cut_take (by simpa using hk), List.map_take]
  rcases hs with rfl | rfl
  · exact ⟨_, sl_of hz rfl (h := some (k : Int)) (by unfold partD; simp only [h2]) rfl, congrArg some e⟩
  · exact ⟨_, sl_of hz rfl (h := some (k : Int)) (by unfold partD; simp only [h2]) rfl, congrArg some e⟩
theorem slD {p q : Qd} {env : SE} {xs : List T} {k : Nat} {z : PD} (hz : p env = some z) (hs : z = .tuple (xs.map tkD) ∨ z = .list (xs.map tkD)) (h2 : q env = some (.int k)) (hk : k ≤ xs.length) : ∃ y, qSl p (some q) none env = some y ∧ seqOf y = some ((xs.drop k).map tkD) := by
  have e : cutD (xs.map tkD) (some (k : Int)) none = (xs.drop k).map tkD := by rw [cut_drop (by simpa using hk), List.map_drop]
  rcases hs with rfl | rfl
  · exact ⟨_, sl_of hz (l := some (k : Int)) (by unfold partD; simp only [h2]) rfl rfl, congrArg some e⟩
  · exact ⟨_, sl_of hz (l := some (k : Int)) (by unfold partD; simp only [h2]) rfl rfl, congrArg some e⟩

theorem atI_nat {α : Type} {xs : List α} (i : Nat) : L2.atI xs (i : Int) = xs[i]? := by
  unfold L2.atI L2.ixN
  rw [if_pos (Int.natCast_nonneg i)]
  by_cases h : i < xs.length
  · rw [if_pos (by omega), Int.toNat_natCast]; rfl
  · rw [if_neg (by omega), List.getElem?_eq_none (by omega)]; rfl

noncomputable def tms (s : List Int) (ts : List T) (i : Nat) : Option Int := first s (nth ts i) (ts.take i)
def rowsD (ts : List T) (m : Nat → Option Int) (k : Nat) : List PD := (List.range k).map fun i => .tuple [.str (nth ts i).name, optD (m i)]
def paperD (w : Str) (ts : List T) (m : Nat → Option Int) : PD := .tuple [.str "meets", .tuple [.str w, .tuple (rowsD ts m ts.length)]]
def overD (t : T) : PD := .tuple [.str "over", .str t.name]
theorem rowsD_succ (ts : List T) (m : Nat → Option Int) (k : Nat) : rowsD ts m k ++ [.tuple [.str (nth ts k).name, optD (m k)]] = rowsD ts m (k + 1) := by
  unfold rowsD; rw [List.range_succ, List.map_append]; rfl
theorem rowsD_len (ts : List T) (m : Nat → Option Int) (k : Nat) : (rowsD ts m k).length = k := by
  unfold rowsD; rw [List.length_map, List.length_range]
theorem isD_opt (o : Option Int) : isD (optD o) .none = some (.bool o.isNone) := by cases o <;> rfl
theorem isnD_opt (o : Option Int) : isnD (optD o) .none = some (.bool o.isSome) := by cases o <;> rfl

/-- what a filler of rows gives -/
def Told (w : Str) (ts : List T) (m : Nat → Option Int) (o : Option PD) : Prop :=
  (∃ i, i < ts.length ∧ m i = none ∧ (∀ j, j < i → m j ≠ none) ∧ o = some (overD (nth ts i))) ∨ ((∀ i, i < ts.length → m i ≠ none) ∧ o = some (paperD w ts m))
theorem timed_ok {pre : Bool} {s : List Int} {ts : List T} (hs : IsSup s) (G : Good ts) : Told "times" ts (tms s ts) (F_timed [sysD pre s ts]) := by
  have hL := forL_range (f := fun i => tkD (nth ts i)) (n := ts.length) (ds := ts.map tkD) (g := gN 2) (b := L_timed_1) (env := [some (.sh (sysD pre s ts)), some (.ow (.list [])), none, none])
    (fun i => (tms s ts i).isNone) (fun i => overD (nth ts i))
    (fun i env => ∃ y z : Option PD, env = [some (.sh (sysD pre s ts)), some (.ow (.list (rowsD ts (tms s ts) i))), y.map .sh, z.map .sh])
    (map_range default tkD ts) ⟨none, none, rfl⟩ (by
      rintro i hi _ env ⟨y, z, rfl⟩
      have hc : ∀ z : Option PD, qCall (fun ds => if ds.length = 2 then F__least_time ds else none) (aCons (qVar 0) (aCons (qVar 2) aNil)) [some (.sh (sysD pre s ts)), some (.ow (.list (rowsD ts (tms s ts) i))), some (.sh (tkD (nth ts i))), z.map .sh] = some (optD (tms s ts i)) :=
        fun z => calln rfl rfl (least_time_ok hs G hi)
      refine ⟨[some (.sh (sysD pre s ts)), some (.ow (.list (rowsD ts (tms s ts) i))), some (.sh (tkD (nth ts i))), z.map .sh], by cases y <;> rfl, fun hp => ?_, fun hp => ?_⟩
      · exact ⟨_, seq_nx (set_of (hc z) (by cases z <;> rfl)) (seq_rt (if_t (asB_of (q2_of rfl rfl ((isD_opt _).trans (by rw [hp])))) (ret_of rfl)))⟩
      · refine ⟨_, seq_nx (set_of (hc z) (by cases z <;> rfl)) (seq_nx (if_f (asB_of (q2_of rfl rfl ((isD_opt _).trans (by rw [hp])))) rfl) (app_of rfl rfl (by rw [rowsD_len]; exact Nat.lt_of_lt_of_le (Nat.lt_of_lt_of_le hi G.len) (by decide)))), some (tkD (nth ts i)), some (optD (tms s ts i)), ?_⟩
        rw [rowsD_succ]; rfl)
  rcases hL with ⟨i, hi, hp, hn, e, he⟩ | ⟨hn, e, he, y, z, rfl⟩
  · refine .inl ⟨i, hi, Option.isNone_iff_eq_none.mp hp, fun j hj h => ?_, fn_rt (seq_nx (setF_of rfl rfl) (seq_rt (for_of rfl he)))⟩
    have := hn j hj
    rw [h] at this; cases this
  · refine .inr ⟨fun i hi h => ?_, fn_rt (seq_nx (setF_of rfl rfl) (seq_nx (for_of rfl he) (ret_of rfl)))⟩
    have := hn i hi
    rw [h] at this; cases this

/-! ### starts -/
def mxI : List Int → Int
  | [] => 0
  | n :: ns => ns.foldl max n
theorem foldl_max_comm (a : Int) : ∀ (x : Int) (ms : List Int), ms.foldl max (max a x) = max (ms.foldl max x) a
  | x, [] => Int.max_comm a x
  | x, y :: ms => by
    rw [List.foldl_cons, List.foldl_cons, Int.max_assoc]
    exact foldl_max_comm a (max x y) ms
theorem mxI_snoc (a : Int) (ms : List Int) : mxI (ms ++ [a]) = mxI (a :: ms) := by
  cases ms with
  | nil => rfl
  | cons x ms =>
    show (ms ++ [a]).foldl max x = (x :: ms).foldl max a
    rw [List.foldl_append, show (x :: ms).foldl max a = ms.foldl max (max a x) from rfl, foldl_max_comm]; rfl
theorem maxD_ne {ns : List Int} (h : ns ≠ []) : maxD [.list (ns.map .int)] = some (.int (mxI ns)) := by
  cases ns with
  | nil => exact absurd rfl h
  | cons n ns =>
    show (do let ms ← intsOf ((n :: ns).map .int); let m ← maxI ms; pure (PyData.int m)) = _
    rw [intsOf_map]; rfl
def sumS (A : List T) (n : Int) : Int := (A.map fun u => u.most * (n / u.gap + 1)).sum
def sfit (t : T) (A B : List T) (n : Int) : Prop := mxI (t.most :: B.map T.most) + sumS A n ≤ n
instance {t : T} {A B : List T} {n : Int} : Decidable (sfit t A B n) := Int.decLe _ _
def sfirst (t : T) (A B : List T) : Option Int := ((List.range (t.due - t.most + 1).toNat).find? fun i => decide (sfit t A B (i : Nat))).map fun i => ((i : Nat) : Int)
def sts (ts : List T) (i : Nat) : Option Int := sfirst (nth ts i) (ts.take i) (ts.drop (i + 1))
theorem drop_nth {ts : List T} {i : Nat} (h : i < ts.length) : ts.drop i = nth ts i :: ts.drop (i + 1) := by
  rw [List.drop_eq_getElem_cons h, nth_eq h]
theorem enough_start_ok {pre : Bool} {s : List Int} {ts : List T} (G : Good ts) {k : Nat} (hk : k < ts.length) (n : Int) :
    F_is_enough_start [sysD pre s ts, .int k, .int n] = some (.bool (decide (sfit (nth ts k) (ts.take k) (ts.drop (k + 1)) n))) := by
  obtain ⟨y, hy, hy2⟩ := slD (p := pVar 3) (q := pVar 1) (env := [some (.sh (sysD pre s ts)), some (.sh (.int k)), some (.sh (.int n)), some (.sh (.tuple (ts.map tkD))), none, none]) (xs := ts) (k := k) rfl (.inl rfl) rfl (Nat.le_of_lt hk)
  obtain ⟨x, hx, hx2⟩ := slT (p := pVar 3) (q := pVar 1) (env := [some (.sh (sysD pre s ts)), some (.sh (.int k)), some (.sh (.int n)), some (.sh (.tuple (ts.map tkD))), some (.sh (.int (mxI ((nth ts k).most :: (ts.drop (k + 1)).map T.most)))), none]) (xs := ts) (k := k) rfl (.inl rfl) rfl (Nat.le_of_lt hk)
  have hc := lc_all (g := gN 5) (e := q2 getD' (pVar 5) (qC (.int 6))) (vs := [5]) tkD (ts.drop k) (fun u => .int u.most) (seq_of hy hy2) (Nat.le_trans (by rw [List.length_drop]; exact Nat.sub_le ..) G.lim) (fun u _ => ⟨_, rfl, rfl⟩)
  have hc2 := lc_all (g := gN 5) (e := q2 mulD (q2 addD (q2 fdivD (pVar 2) (q2 getD' (pVar 5) (qC (.int 3)))) (qC (.int 1))) (q2 getD' (pVar 5) (qC (.int 6)))) (vs := [5]) tkD (ts.take k) (fun u => .int (u.most * (n / u.gap + 1))) (seq_of hx hx2) (Nat.le_trans (by rw [List.length_take]; exact Nat.min_le_right ..) G.lim) (fun u hu => by
    have hu := G.ok u (List.mem_of_mem_take hu)
    have a := hu.m1; have b := hu.md; have c := hu.dg; have d := hu.g20; have d2 := hu.m3
    refine ⟨_, rfl, q2_of (q2_of (q2_of rfl rfl (fdiv_ok (i := n) (j := u.gap) (by omega) (by omega))) rfl rfl) rfl ?_⟩
    rw [mul_ok' (by omega) (by omega), Int.mul_comm])
  have hm : maxD [.list ((ts.drop k).map fun u => .int u.most)] = some (.int (mxI ((nth ts k).most :: (ts.drop (k + 1)).map T.most))) := by
    have := maxD_ne (ns := (nth ts k).most :: (ts.drop (k + 1)).map T.most) (List.cons_ne_nil _ _)
    rw [← List.map_cons (f := T.most), ← drop_nth hk, List.map_map] at this
    rw [drop_nth hk] at this ⊢
    exact this
  exact fn_rt (seq_nx (set_of rfl rfl) (seq_nx (set_of (call_of (cons_of hc rfl) hm) rfl) (seq_nx (aug_of rfl rfl (call_of (cons_of hc2 rfl) (sumD_map _ fun u : T => u.most * (n / u.gap + 1))) rfl) (ret_of (q2_of rfl rfl rfl)))))
theorem law_start_ok {ts : List T} (G : Good ts) {k : Nat} (hk : k < ts.length) {y z : PD} (hy : seqOf y = some ((ts.take k).map tkD)) (hz : seqOf z = some ((ts.drop (k + 1)).map tkD)) :
    F__law_start [tkD (nth ts k), y, z] = some (optD (sts ts k)) := by
  have ho := G.ok _ (nth_mem hk)
  have h1 := ho.m1; have h2 := ho.md; have h3 := ho.d9
  have hr : iRng1 (aCons (q2 addD (q2 subD (q2 getD' (pVar 0) (qC (.int 4))) (q2 getD' (pVar 0) (qC (.int 6)))) (qC (.int 1))) aNil) (startE 5 [tkD (nth ts k), y, z]) = some (rngL 0 ((nth ts k).due - (nth ts k).most + 1).toNat) :=
    rng1_of rfl (by omega) (by omega)
  have hL := forL_range (f := fun i => .int (0 + (i : Nat))) (n := ((nth ts k).due - (nth ts k).most + 1).toNat) (ds := rngL 0 ((nth ts k).due - (nth ts k).most + 1).toNat) (g := gN 3) (b := L__law_start_1) (env := startE 5 [tkD (nth ts k), y, z])
    (fun i => decide (sfit (nth ts k) (ts.take k) (ts.drop (k + 1)) (i : Nat))) (fun i => .int (i : Nat))
    (fun i env => ∃ x : Option PD, env = [some (.sh (tkD (nth ts k))), some (.sh y), some (.sh z), x.map .sh, none])
    rfl ⟨none, rfl⟩ (by
      rintro i hi _ env ⟨x, rfl⟩
      have hc := lc_all (it := iSeq (pVar 2)) (g := gN 4) (e := q2 getD' (pVar 4) (qC (.int 6))) (vs := [4]) (env := [some (.sh (tkD (nth ts k))), some (.sh y), some (.sh z), some (.sh (.int (i : Nat))), none]) tkD (ts.drop (k + 1)) (fun u => .int u.most) (seq_of (d := z) rfl hz) (Nat.le_trans (by rw [List.length_drop]; exact Nat.sub_le ..) G.lim) (fun u _ => ⟨_, rfl, rfl⟩)
      have hc2 := lc_all (it := iSeq (pVar 1)) (g := gN 4) (e := q2 mulD (q2 getD' (pVar 4) (qC (.int 6))) (q2 addD (q2 fdivD (pVar 3) (q2 getD' (pVar 4) (qC (.int 3)))) (qC (.int 1)))) (vs := [4]) (env := [some (.sh (tkD (nth ts k))), some (.sh y), some (.sh z), some (.sh (.int (i : Nat))), none]) tkD (ts.take k) (fun u => .int (u.most * ((i : Nat) / u.gap + 1))) (seq_of (d := y) rfl hy) (Nat.le_trans (by rw [List.length_take]; exact Nat.min_le_right ..) G.lim) (fun u hu => by
        have hu := G.ok u (List.mem_of_mem_take hu)
        have a := hu.m1; have b := hu.md; have c := hu.dg; have d := hu.g20; have d2 := hu.m3
        exact ⟨_, rfl, q2_of rfl (q2_of (q2_of rfl rfl (fdiv_ok (i := (i : Nat)) (j := u.gap) (by omega) (by omega))) rfl rfl) (mul_ok (by omega) (by omega))⟩)
      have hm : maxD [.list (((ts.drop (k + 1)).map fun u => .int u.most) ++ [.int (nth ts k).most])] = some (.int (mxI ((nth ts k).most :: (ts.drop (k + 1)).map T.most))) := by
        have := maxD_ne (ns := (ts.drop (k + 1)).map T.most ++ [(nth ts k).most]) (by simp)
        rw [mxI_snoc, List.map_append, List.map_map] at this
        exact this
      have hq : q2 addD (dLc (iSeq (pVar 2)) (gN 4) tYesD (q2 getD' (pVar 4) (qC (.int 6))) [4]) (qLst (aCons (q2 getD' (pVar 0) (qC (.int 6))) aNil)) [some (.sh (tkD (nth ts k))), some (.sh y), some (.sh z), some (.sh (.int (i : Nat))), none] = some (.list (((ts.drop (k + 1)).map fun u => .int u.most) ++ [.int (nth ts k).most])) := by
        refine q2_of hc (lst_of rfl (show 1 ≤ 16777216 by decide)) ?_
        show (if _ then _ else _) = _
        rw [if_pos]
        rw [List.length_map, List.length_drop]
        have := G.len
        show _ + 1 ≤ 16777216
        omega
      have hb := asB_of (q2_of (f := leD) (q2_of (f := addD) (call_of (cons_of (r := aNil) hq rfl) hm) (call_of (cons_of (r := aNil) hc2 rfl) (sumD_map _ fun u : T => u.most * ((i : Nat) / u.gap + 1))) rfl) (q := pVar 3) rfl rfl)
      refine ⟨[some (.sh (tkD (nth ts k))), some (.sh y), some (.sh z), some (.sh (.int (i : Nat))), none], ?_, fun hp => ⟨_, if_t (hb.trans (congrArg some hp)) (ret_of rfl)⟩, fun hp => ⟨_, if_f (hb.trans (congrArg some hp)) rfl, some (.int (i : Nat)), rfl⟩⟩
      rw [Int.zero_add]; cases x <;> rfl)
  rcases hL with ⟨i, hi, hp, hn, e, he⟩ | ⟨hn, e, he, y, rfl⟩
  · have : sts ts k = some ((i : Nat) : Int) := by
      unfold sts sfirst
      have : (List.range ((nth ts k).due - (nth ts k).most + 1).toNat).find? (fun i => decide (sfit (nth ts k) (ts.take k) (ts.drop (k + 1)) (i : Nat))) = some i := by
        rw [List.find?_eq_some_iff_getElem]
        refine ⟨hp, i, by simpa using hi, by simp, fun j hj => ?_⟩
        have := hn j hj
        simp only [List.getElem_range, this]; rfl
      rw [this]; rfl
    rw [this]
    exact fn_rt (seq_rt (for_of hr he))
  · have : sts ts k = none := by
      unfold sts sfirst
      rw [List.find?_eq_none.mpr fun i hi => by rw [hn i (List.mem_range.mp hi)]; exact Bool.false_ne_true]; rfl
    rw [this]
    exact fn_rt (seq_nx (for_of hr he) (ret_of rfl))
theorem started_ok {pre : Bool} {s : List Int} {ts : List T} (G : Good ts) : Told "starts" ts (sts ts) (F_started [sysD pre s ts]) := by
  have hL := forL_range (f := fun i => .tuple [.int (i : Nat), tkD (nth ts i)]) (n := ts.length) (ds := enL (ts.map tkD)) (g := gT 2 (gsCons (gN 2) (gsCons (gN 3) gsNil))) (b := L_started_1) (env := [some (.sh (sysD pre s ts)), some (.ow (.list [])), none, none, none, none])
    (fun i => (sts ts i).isNone) (fun i => overD (nth ts i))
    (fun i env => ∃ y z w : Option PD, env = [some (.sh (sysD pre s ts)), some (.ow (.list (rowsD ts (sts ts) i))), y.map .sh, z.map .sh, w.map .sh, none])
    (en_range default tkD ts) ⟨none, none, none, rfl⟩ (by
      rintro i hi _ env ⟨y, z, w, rfl⟩
      have ho := G.ok _ (nth_mem hi)
      have h1 := ho.m1; have h2 := ho.md; have h3 := ho.d9
      have hc := lc_of (it := iRng1 (aCons (q2 addD (q2 subD (q2 getD' (pVar 3) (qC (.int 4))) (q2 getD' (pVar 3) (qC (.int 6)))) (qC (.int 1))) aNil)) (g := gN 5) (t := tru (qCall (fun ds => if ds.length = 3 then F_is_enough_start ds else none) (aCons (qVar 0) (aCons (qVar 2) (aCons (qVar 5) aNil))))) (e := qVar 5) (vs := [5])
        (env := [some (.sh (sysD pre s ts)), some (.ow (.list (rowsD ts (sts ts) i))), some (.sh (.int (i : Nat))), some (.sh (tkD (nth ts i))), w.map .sh, none])
        (fun j : Nat => .int (0 + (j : Nat))) (List.range ((nth ts i).due - (nth ts i).most + 1).toNat) (fun j => decide (sfit (nth ts i) (ts.take i) (ts.drop (i + 1)) (0 + (j : Nat)))) (fun j => .int (0 + (j : Nat)))
        (rng1_of (j := (nth ts i).due - (nth ts i).most + 1) rfl (by omega) (by omega)) (by rw [List.length_range]; exact Nat.le_trans (show _ ≤ 10 by omega) (by decide))
        (fun j _ => ⟨_, rfl, tru_of (calln rfl rfl (enough_start_ok G hi _)) rfl, fun _ => rfl⟩)
      simp only [Int.zero_add] at hc
      have hf : sts ts i = ((List.range ((nth ts i).due - (nth ts i).most + 1).toNat).filter fun j => decide (sfit (nth ts i) (ts.take i) (ts.drop (i + 1)) (j : Nat))).head?.map fun j => ((j : Nat) : Int) := by
        unfold sts sfirst; rw [List.head?_filter]
      refine ⟨[some (.sh (sysD pre s ts)), some (.ow (.list (rowsD ts (sts ts) i))), some (.sh (.int (i : Nat))), some (.sh (tkD (nth ts i))), w.map .sh, none], by cases y <;> cases z <;> rfl, fun hp => ?_, fun hp => ?_⟩
      · cases e : (List.range ((nth ts i).due - (nth ts i).most + 1).toNat).filter fun j => decide (sfit (nth ts i) (ts.take i) (ts.drop (i + 1)) (j : Nat)) with
        | nil =>
          rw [e] at hc
          exact ⟨_, seq_nx (set_of hc (by cases w <;> rfl)) (seq_rt (if_t (notB_of (b := false) (tru_of rfl rfl)) (ret_of rfl)))⟩
        | cons a as => rw [hf, e] at hp; cases hp
      · cases e : (List.range ((nth ts i).due - (nth ts i).most + 1).toNat).filter fun j => decide (sfit (nth ts i) (ts.take i) (ts.drop (i + 1)) (j : Nat)) with
        | nil => rw [hf, e] at hp; cases hp
        | cons a as =>
          rw [e] at hc
          have hs : sts ts i = some ((a : Nat) : Int) := by rw [hf, e]; rfl
          refine ⟨_, seq_nx (set_of hc (by cases w <;> rfl)) (seq_nx (if_f (notB_of (b := true) (tru_of rfl rfl)) rfl) (app_of (d := .tuple [.str (nth ts i).name, optD (sts ts i)]) rfl (by rw [hs]; exact tup_of (cons_of rfl (cons_of (q2_of rfl rfl (atI_nat 0)) rfl)) (show 2 ≤ 16777216 by decide)) (by rw [rowsD_len]; exact Nat.lt_of_lt_of_le (Nat.lt_of_lt_of_le hi G.len) (by decide)))), some (.int (i : Nat)), some (tkD (nth ts i)), some (.list ((a :: as).map fun j => .int (j : Nat))), ?_⟩
          rw [rowsD_succ]; rfl)
  rcases hL with ⟨i, hi, hp, hn, e, he⟩ | ⟨hn, e, he, y, z, w, rfl⟩
  · refine .inl ⟨i, hi, Option.isNone_iff_eq_none.mp hp, fun j hj h => ?_, fn_rt (seq_nx (setF_of rfl rfl) (seq_rt (for_of rfl he)))⟩
    have := hn j hj
    rw [h] at this; cases this
  · refine .inr ⟨fun i hi h => ?_, fn_rt (seq_nx (setF_of rfl rfl) (seq_nx (for_of rfl he) (ret_of rfl)))⟩
    have := hn i hi
    rw [h] at this; cases this
end K12
end
section
set_option Elab.async false
set_option linter.all false
/-! Law k12, plain: checking papers. -/
namespace K12
open PySem D

theorem is_between_ok (m a b : Int) : F_is_between [.int m, .int a, .int b] = some (.bool (decide (a ≤ m ∧ m ≤ b))) := by
  refine fn_rt (ret_of (qand_t (d := .bool true) rfl rfl ?_))
  show (match leD (.int a) (.int m) with | some (.bool true) => _ | some (.bool false) => _ | _ => _) = _
  by_cases h : a ≤ m
  · have e : leD (.int a) (.int m) = some (.bool true) := congrArg (fun b => some (PyData.bool b)) (decide_eq_true h)
    rw [e]
    show some (PyData.bool (decide (m ≤ b))) = _
    exact congrArg (fun b => some (PyData.bool b)) (decide_eq_decide.mpr ⟨fun g => ⟨h, g⟩, fun g => g.2⟩)
  · have e : leD (.int a) (.int m) = some (.bool false) := congrArg (fun b => some (PyData.bool b)) (decide_eq_false h)
    rw [e]
    exact congrArg (fun b => some (PyData.bool b)) (decide_eq_false fun g => h g.1).symm

def rowP (r : Str × PD) : PD := .tuple [.str r.1, r.2]
theorem are_rows_ok {pre : Bool} {s : List Int} {ts : List T} (hl : ts.length ≤ LIM) (rows : List (Str × PD)) (hr : rows.length ≤ LIM) :
    F__are_rows [sysD pre s ts, .tuple (rows.map rowP)] = some (.bool (decide (rows.map Prod.fst = ts.map T.name))) := by
  have hc := lc_all (it := iSeq (pVar 1)) (g := gN 2) (e := qCall (fun ds => if ds.length = 1 then F_is_pair ds else none) (aCons (qVar 2) aNil)) (vs := [2]) (env := startE 3 [sysD pre s ts, .tuple (rows.map rowP)])
    rowP rows (fun _ => .bool true) rfl hr (fun r _ => ⟨_, rfl, calln rfl rfl (by kernel_rfl)⟩)
  have hc2 := lc_all (it := iSeq (pVar 1)) (g := gN 2) (e := q2 getD' (pVar 2) (qC (.int 0))) (vs := [2]) (env := startE 3 [sysD pre s ts, .tuple (rows.map rowP)])
    rowP rows (fun r => .str r.1) rfl hr (fun r _ => ⟨_, rfl, rfl⟩)
  have ha : allD [.list (rows.map fun _ => .bool true)] = some (.bool true) := by
    rw [allD_map rows fun _ => true]; simp
  have he : eqD (.list (rows.map fun r => .str r.1)) (.list (ts.map nm)) = some (.bool (decide (rows.map Prod.fst = ts.map T.name))) := by
    have := eqLS (rows.map Prod.fst) (ts.map T.name)
    rw [List.map_map, List.map_map] at this; exact this
  exact fn_rt (seq_nx (if_f (or_f (notB_of (b := true) rfl) (notB_of (b := true) (tru_of (call_of (cons_of hc rfl) ha) rfl))) rfl) (ret_of (q2_of hc2 (calln rfl rfl (names_of_ok hl)) he)))

theorem zip_range (f g : Nat → PD) (n : Nat) : zpL ((List.range n).map f) ((List.range n).map g) = (List.range n).map fun i => .tuple [f i, g i] := by
  unfold zpL
  rw [List.zipWith_map_left, List.zipWith_map_right, List.zipWith_self]
theorem zp_of {q : SE → Option (List PD)} {env : SE} {d e : PD} {ds es : List PD} {o : Option (List PD)} (h : q env = some [d, e]) (h1 : seqOf d = some ds) (h2 : seqOf e = some es) (h3 : some (zpL ds es) = o) : iZp q env = o := by
  unfold iZp; rw [h]
  show (do let ds ← seqOf d; let es ← seqOf e; pure (zpL ds es)) = _
  rw [h1, h2]; exact h3
theorem en_of {q : Qd} {env : SE} {d : PD} {ds : List PD} {o : Option (List PD)} (h : q env = some d) (h1 : seqOf d = some ds) (h3 : some (enL ds) = o) : iEn q env = o := by
  unfold iEn; rw [h]
  show (do let ds ← seqOf d; pure (enL ds)) = _
  rw [h1]; exact h3

/-- the rows that name the tasks in order -/
def rowsM (ts : List T) (m : Nat → Int) : List PD := (List.range ts.length).map fun i => .tuple [.str (nth ts i).name, .int (m i)]
theorem rowsM_rowP (ts : List T) (m : Nat → Int) : rowsM ts m = ((List.range ts.length).map fun i => ((nth ts i).name, PyData.int (m i))).map rowP := by
  unfold rowsM; rw [List.map_map]; rfl
theorem names_range (ts : List T) : (List.range ts.length).map (fun i => (nth ts i).name) = ts.map T.name := (map_range default T.name ts).symm
theorem rows_named {pre : Bool} {s : List Int} {ts : List T} (hl : ts.length ≤ LIM) (m : Nat → Int) : F__are_rows [sysD pre s ts, .tuple (rowsM ts m)] = some (.bool true) := by
  rw [rowsM_rowP, are_rows_ok hl _ (by rw [List.length_map, List.length_range]; exact hl), List.map_map]
  refine congrArg (fun b => some (PyData.bool b)) (decide_eq_true ?_)
  exact names_range ts

theorem times_named {s : List Int} {ts : List T} (hs : IsSup s) (G : Good ts) (rows : List (Str × PD)) (hr : rows.length ≤ LIM) (hn : rows.map Prod.fst ≠ ts.map T.name) :
    F__are_times [sysD true s ts, .tuple (rows.map rowP)] = some (.bool false) :=
  fn_rt (seq_rt (if_t (or_f (notB_of (b := true) (tru_of (d := .bool true) (by kernel_rfl) rfl)) (notB_of (b := false) (tru_of (calln rfl rfl (are_rows_ok G.lim rows hr)) (congrArg some (decide_eq_false hn))))) (ret_of rfl)))
theorem betw_ok {pre : Bool} {s : List Int} {ts : List T} (hl : ts.length ≤ LIM) (m : Nat → Int) {qa qb : Qd} {v w : Nat} {env : SE} {a b : Nat → Int} {it : SE → Option (List PD)}
    (hit : it env = some (zpL (rowsM ts m) (ts.map tkD)))
    (hv : ∀ i, i < ts.length → ∃ e1, gT 2 (gsCons (gN v) (gsCons (gN w) gsNil)) (.tuple [.tuple [.str (nth ts i).name, .int (m i)], tkD (nth ts i)]) (wipeE env [v, w]) = some e1 ∧
      q2 getD' (pVar v) (qC (.int 1)) e1 = some (.int (m i)) ∧ qa e1 = some (.int (a i)) ∧ qb e1 = some (.int (b i))) :
    qCall allD (aCons (dLc it (gT 2 (gsCons (gN v) (gsCons (gN w) gsNil))) tYesD (qCall (fun ds => if ds.length = 3 then F_is_between ds else none) (aCons (q2 getD' (pVar v) (qC (.int 1))) (aCons qa (aCons qb aNil)))) [v, w]) aNil) env
      = some (.bool ((List.range ts.length).all fun i => decide (a i ≤ m i ∧ m i ≤ b i))) := by
  have hz : it env = some ((List.range ts.length).map fun i => .tuple [.tuple [.str (nth ts i).name, .int (m i)], tkD (nth ts i)]) := by
    rw [hit]; unfold rowsM; rw [map_range default tkD ts, zip_range]
  have hc := lc_all (g := gT 2 (gsCons (gN v) (gsCons (gN w) gsNil))) (e := qCall (fun ds => if ds.length = 3 then F_is_between ds else none) (aCons (q2 getD' (pVar v) (qC (.int 1))) (aCons qa (aCons qb aNil)))) (vs := [v, w])
    (fun i => .tuple [.tuple [.str (nth ts i).name, .int (m i)], tkD (nth ts i)]) (List.range ts.length) (fun i => .bool (decide (a i ≤ m i ∧ m i ≤ b i))) hz (by rw [List.length_range]; exact hl) (fun i hi => by
      obtain ⟨e1, h1, h2, h3, h4⟩ := hv i (List.mem_range.mp hi)
      exact ⟨e1, h1, calln (cons_of h2 (cons_of h3 (cons_of h4 rfl))) rfl (is_between_ok _ _ _)⟩)
  exact call_of (cons_of hc rfl) (allD_map _ _)
theorem times_out {s : List Int} {ts : List T} (hs : IsSup s) (G : Good ts) (m : Nat → Int) (h : ∃ i, i < ts.length ∧ ¬ (1 ≤ m i ∧ m i ≤ (nth ts i).due)) :
    F__are_times [sysD true s ts, .tuple (rowsM ts m)] = some (.bool false) := by
  have hb := betw_ok (pre := true) (s := s) G.lim m (qa := qC (.int 1)) (qb := q2 getD' (pVar 5) (qC (.int 4))) (v := 4) (w := 5) (env := startE 6 [sysD true s ts, .tuple (rowsM ts m)]) (a := fun _ => 1) (b := fun i => (nth ts i).due)
    (it := iZp (aCons (pVar 1) (aCons (qCall (fun ds => if ds.length = 1 then F_tasks_of ds else none) (aCons (qVar 0) aNil)) aNil))) (zp_of rfl rfl rfl rfl) (fun i hi => ⟨_, rfl, rfl, rfl, rfl⟩)
  have hf : ((List.range ts.length).all fun i => decide (1 ≤ m i ∧ m i ≤ (nth ts i).due)) = false := by
    obtain ⟨i, hi, hn⟩ := h
    rw [Bool.eq_false_iff]
    intro h
    exact hn (of_decide_eq_true (List.all_eq_true.mp h i (List.mem_range.mpr hi)))
  rw [hf] at hb
  exact fn_rt (seq_nx (if_f (or_f (notB_of (b := true) (tru_of (d := .bool true) (by kernel_rfl) rfl)) (notB_of (b := true) (tru_of (calln rfl rfl (rows_named G.lim m)) rfl))) rfl) (seq_rt (if_t (notB_of (b := false) (tru_of hb rfl)) (ret_of rfl))))
theorem times_in {s : List Int} {ts : List T} (hs : IsSup s) (G : Good ts) (m : Nat → Int) (h : ∀ i, i < ts.length → 1 ≤ m i ∧ m i ≤ (nth ts i).due) :
    F__are_times [sysD true s ts, .tuple (rowsM ts m)] = some (.bool ((List.range ts.length).all fun i => decide (fit s (nth ts i) (ts.take i) (m i)))) := by
  have hb := betw_ok (pre := true) (s := s) G.lim m (qa := qC (.int 1)) (qb := q2 getD' (pVar 5) (qC (.int 4))) (v := 4) (w := 5) (env := startE 6 [sysD true s ts, .tuple (rowsM ts m)]) (a := fun _ => 1) (b := fun i => (nth ts i).due)
    (it := iZp (aCons (pVar 1) (aCons (qCall (fun ds => if ds.length = 1 then F_tasks_of ds else none) (aCons (qVar 0) aNil)) aNil))) (zp_of rfl rfl rfl rfl) (fun i hi => ⟨_, rfl, rfl, rfl, rfl⟩)
  have hf : ((List.range ts.length).all fun i => decide (1 ≤ m i ∧ m i ≤ (nth ts i).due)) = true := by
    rw [List.all_eq_true]
    exact fun i hi => decide_eq_true (h i (List.mem_range.mp hi))
  rw [hf] at hb
  have hc := lc_all (it := iSeq (pVar 1)) (g := gT 2 (gsCons (gN 2) (gsCons (gN 3) gsNil))) (e := qCall (fun ds => if ds.length = 3 then F_is_enough_time ds else none) (aCons (qVar 0) (aCons (qVar 2) (aCons (qVar 3) aNil)))) (vs := [2, 3]) (env := startE 6 [sysD true s ts, .tuple (rowsM ts m)])
    (fun i => .tuple [.str (nth ts i).name, .int (m i)]) (List.range ts.length) (fun i => .bool (decide (fit s (nth ts i) (ts.take i) (m i)))) rfl (by rw [List.length_range]; exact G.lim) (fun i hi => by
      have hi := List.mem_range.mp hi
      have a := h i hi
      have b := (G.ok _ (nth_mem hi)).d9
      exact ⟨_, rfl, calln rfl rfl (enough_ok hs G hi a.1 (by omega))⟩)
  exact fn_rt (seq_nx (if_f (or_f (notB_of (b := true) (tru_of (d := .bool true) (by kernel_rfl) rfl)) (notB_of (b := true) (tru_of (calln rfl rfl (rows_named G.lim m)) rfl))) rfl) (seq_nx (if_f (notB_of (b := true) (tru_of hb rfl)) rfl) (ret_of (call_of (cons_of hc rfl) (allD_map _ _)))))
theorem starts_in {ts : List T} (G : Good ts) (m : Nat → Int) (h : ∀ i, i < ts.length → (0 ≤ m i ∧ m i ≤ (nth ts i).due - (nth ts i).most) ∧ sfit (nth ts i) (ts.take i) (ts.drop (i + 1)) (m i)) :
    F__are_starts [sysD false [1] ts, .tuple (rowsM ts m)] = some (.bool true) := by
  have hb := betw_ok (pre := false) (s := [1]) G.lim m (qa := qC (.int 0)) (qb := q2 subD (q2 getD' (pVar 4) (qC (.int 4))) (q2 getD' (pVar 4) (qC (.int 6)))) (v := 3) (w := 4) (env := startE 5 [sysD false [1] ts, .tuple (rowsM ts m)]) (a := fun _ => 0) (b := fun i => (nth ts i).due - (nth ts i).most)
    (it := iZp (aCons (pVar 1) (aCons (qCall (fun ds => if ds.length = 1 then F_tasks_of ds else none) (aCons (qVar 0) aNil)) aNil))) (zp_of rfl rfl rfl rfl) (fun i hi => ⟨_, rfl, rfl, rfl, rfl⟩)
  have hf : ((List.range ts.length).all fun i => decide (0 ≤ m i ∧ m i ≤ (nth ts i).due - (nth ts i).most)) = true := by
    rw [List.all_eq_true]
    exact fun i hi => decide_eq_true (h i (List.mem_range.mp hi)).1
  rw [hf] at hb
  have he : enL (rowsM ts m) = (List.range ts.length).map fun i => .tuple [.int (i : Nat), .tuple [.str (nth ts i).name, .int (m i)]] := by
    unfold rowsM
    rw [en_range 0]
    rw [List.length_range]
    refine List.map_congr_left fun i hi => ?_
    have hi := List.mem_range.mp hi
    rw [List.getD_eq_getElem?_getD, List.getElem?_range hi]; rfl
  have hc := lc_all (it := iEn (pVar 1)) (g := gT 2 (gsCons (gN 2) (gsCons (gN 3) gsNil))) (e := qCall (fun ds => if ds.length = 3 then F_is_enough_start ds else none) (aCons (qVar 0) (aCons (qVar 2) (aCons (q2 getD' (pVar 3) (qC (.int 1))) aNil)))) (vs := [2, 3]) (env := startE 5 [sysD false [1] ts, .tuple (rowsM ts m)])
    (fun i => .tuple [.int (i : Nat), .tuple [.str (nth ts i).name, .int (m i)]]) (List.range ts.length) (fun i => .bool true) (en_of rfl rfl (congrArg some he)) (by rw [List.length_range]; exact G.lim) (fun i hi => by
      have hi := List.mem_range.mp hi
      exact ⟨_, rfl, calln rfl rfl ((enough_start_ok G hi (m i)).trans (by rw [decide_eq_true (h i hi).2]))⟩)
  have ha : allD [.list ((List.range ts.length).map fun _ => .bool true)] = some (.bool true) := by
    rw [allD_map _ fun _ => true]; simp
  exact fn_rt (seq_nx (if_f (or_f (notB_of (b := true) (tru_of (d := .bool true) (by kernel_rfl) rfl)) (notB_of (b := true) (tru_of (calln rfl rfl (rows_named G.lim m)) rfl))) rfl) (seq_nx (if_f (notB_of (b := true) (tru_of hb rfl)) rfl) (ret_of (call_of (cons_of hc rfl) ha))))

theorem paper_times {pre : Bool} {s : List Int} {ts : List T} {rows : PD} {b : Bool} (h : F__are_times [sysD pre s ts, rows] = some (.bool b)) : F_check [sysD pre s ts, .tuple [.str "meets", .tuple [.str "times", rows]]] = some (.bool b) :=
  fn_rt (seq_nx (if_f (by kernel_rfl) rfl) (seq_nx (if_f (by kernel_rfl) rfl) (ret_of (qand_t (d := .bool true) (by kernel_rfl) rfl (calln rfl rfl
    (fn_rt (seq_nx (if_f (by kernel_rfl) rfl) (seq_nx (if_f (by kernel_rfl) rfl) (seq_nx (if_f (by kernel_rfl) rfl) (seq_rt (if_t (by kernel_rfl) (ret_of (calln rfl rfl h)))))))))))))
theorem paper_starts {pre : Bool} {s : List Int} {ts : List T} {rows : PD} {b : Bool} (h : F__are_starts [sysD pre s ts, rows] = some (.bool b)) : F_check [sysD pre s ts, .tuple [.str "meets", .tuple [.str "starts", rows]]] = some (.bool b) :=
  fn_rt (seq_nx (if_f (by kernel_rfl) rfl) (seq_nx (if_f (by kernel_rfl) rfl) (ret_of (qand_t (d := .bool true) (by kernel_rfl) rfl (calln rfl rfl
    (fn_rt (seq_nx (if_f (by kernel_rfl) rfl) (seq_nx (if_f (by kernel_rfl) rfl) (seq_nx (if_f (by kernel_rfl) rfl) (seq_nx (if_f (by kernel_rfl) rfl) (seq_rt (if_t (by kernel_rfl) (ret_of (calln rfl rfl h))))))))))))))

/-! ### what the law asks of papers -/
theorem rowsD_M {ts : List T} {m : Nat → Option Int} (h : ∀ i, i < ts.length → m i ≠ none) : rowsD ts m ts.length = rowsM ts fun i => (m i).getD 0 := by
  unfold rowsD rowsM
  refine List.map_congr_left fun i hi => ?_
  have := h i (List.mem_range.mp hi)
  cases e : m i with
  | none => exact absurd e this
  | some j => simp only [e]; rfl
theorem check_told {s : List Int} {ts : List T} (hs : IsSup s) (G : Good ts) (h : ∀ i, i < ts.length → tms s ts i ≠ none) : F_check [sysD true s ts, paperD "times" ts (tms s ts)] = some (.bool true) := by
  unfold paperD
  rw [rowsD_M h]
  have hx : ∀ i, i < ts.length → ∃ m, tms s ts i = some m := fun i hi => Option.ne_none_iff_exists'.mp (h i hi)
  refine paper_times ((times_in hs G _ fun i hi => ?_).trans ?_)
  · obtain ⟨m, hm⟩ := hx i hi
    have := first_spec hm
    rw [hm]; exact ⟨this.1, this.2.1⟩
  · refine congrArg (fun b => some (PyData.bool b)) (List.all_eq_true.mpr fun i hi => ?_)
    obtain ⟨m, hm⟩ := hx i (List.mem_range.mp hi)
    have := first_spec hm
    rw [hm]; exact decide_eq_true this.2.2.1
theorem check_less {s : List Int} {ts : List T} (hs : IsSup s) (G : Good ts) (h : ∀ i, i < ts.length → tms s ts i ≠ none) {k : Nat} (hk : k < ts.length) :
    F_check [sysD true s ts, .tuple [.str "meets", .tuple [.str "times", .tuple (rowsM ts fun i => if i = k then (tms s ts i).getD 0 - 1 else (tms s ts i).getD 0)]]] = some (.bool false) := by
  have hx : ∀ i, i < ts.length → ∃ m, tms s ts i = some m := fun i hi => Option.ne_none_iff_exists'.mp (h i hi)
  refine paper_times ?_
  obtain ⟨mk, hmk⟩ := hx k hk
  have hf := first_spec hmk
  by_cases h1 : 1 ≤ mk - 1
  · refine (times_in hs G _ fun i hi => ?_).trans ?_
    · obtain ⟨m, hm⟩ := hx i hi
      have := first_spec hm
      by_cases e : i = k
      · subst e
        rw [if_pos rfl, hmk]
        show 1 ≤ mk - 1 ∧ mk - 1 ≤ _
        have := hf.2.1; omega
      · rw [if_neg e, hm]; exact ⟨this.1, this.2.1⟩
    · refine congrArg (fun b => some (PyData.bool b)) (Bool.eq_false_iff.mpr fun ha => ?_)
      have := of_decide_eq_true (List.all_eq_true.mp ha k (List.mem_range.mpr hk))
      rw [if_pos rfl, hmk] at this
      exact hf.2.2.2 (mk - 1) h1 (by omega) this
  · refine times_out hs G _ ⟨k, hk, ?_⟩
    rw [if_pos rfl, hmk]
    show ¬ (1 ≤ mk - 1 ∧ _)
    omega
theorem check_starts {ts : List T} (G : Good ts) (h : ∀ i, i < ts.length → sts ts i ≠ none) : F_check [sysD false [1] ts, paperD "starts" ts (sts ts)] = some (.bool true) := by
  unfold paperD
  rw [rowsD_M h]
  refine paper_starts (starts_in G _ fun i hi => ?_)
  obtain ⟨m, hm⟩ := Option.ne_none_iff_exists'.mp (h i hi)
  rw [hm]
  unfold sts sfirst at hm
  cases e : (List.range ((nth ts i).due - (nth ts i).most + 1).toNat).find? (fun j => decide (sfit (nth ts i) (ts.take i) (ts.drop (i + 1)) (j : Nat))) with
  | none => rw [e] at hm; cases hm
  | some j =>
    rw [e] at hm
    have hj : ((j : Nat) : Int) = m := Option.some.inj hm
    have h1 := List.find?_some e
    have h2 := List.mem_of_find?_eq_some e
    rw [List.mem_range] at h2
    subst hj
    exact ⟨⟨by show (0 : Int) ≤ (j : Nat); omega, by show ((j : Nat) : Int) ≤ _; omega⟩, of_decide_eq_true h1⟩
end K12
end
section
set_option Elab.async false
set_option linter.all false
/-! Law k12, plain: orders. -/
namespace K12
open PySem D

theorem Good.perm {ts us : List T} (G : Good ts) (h : us.Perm ts) : Good us :=
  ⟨fun t ht => G.ok t (h.mem_iff.mp ht), (h.map T.name).nodup_iff.mpr G.nd, h.length_eq ▸ G.len⟩
theorem Good.sub {ts us : List T} (G : Good ts) (h : us.Sublist ts) : Good us :=
  ⟨fun t ht => G.ok t (h.subset ht), G.nd.sublist (h.map T.name), Nat.le_trans h.length_le G.len⟩
theorem Good.nodup {ts : List T} (G : Good ts) : ts.Nodup := by
  have := G.nd
  rw [List.nodup_iff_pairwise_ne, List.pairwise_map] at this
  exact this.imp fun h e => h (congrArg T.name e)

def oth (L : List T) (t : T) : List T := L.filter fun u => !decide (u.name = t.name)
theorem oth_perm {L : List T} (nd : (L.map T.name).Nodup) {t : T} (h : t ∈ L) : (oth L t ++ [t]).Perm L := by
  have := List.filter_append_perm (fun u : T => !decide (u.name = t.name)) L
  have e : L.filter (fun u => !(!decide (u.name = t.name))) = [t] := by
    rw [← filter_one nd h]; exact congrArg (fun p => List.filter p L) (funext fun u => Bool.not_not _)
  rw [e] at this; exact this
theorem oth_sub (L : List T) (t : T) : (oth L t).Sublist L := List.filter_sublist
theorem filter_sub {L ts : List T} (h : L.Sublist ts) : (ts.map T.name).Nodup → ts.filter (fun t => decide (t.name ∈ L.map T.name)) = L := by
  induction h with
  | slnil => intro _; rfl
  | cons a h ih =>
    intro nd
    rw [List.map_cons, List.nodup_cons] at nd
    rw [List.filter_cons_of_neg]
    · exact ih nd.2
    · rw [decide_eq_true_eq]
      exact fun hm => nd.1 ((h.map T.name).subset hm)
  | cons_cons a h ih =>
    rename_i l1 l2
    intro nd
    rw [List.map_cons, List.nodup_cons] at nd
    rw [List.filter_cons_of_pos (by simp)]
    congr 1
    rw [← ih nd.2]
    refine List.filter_congr fun u hu => ?_
    rw [ih nd.2]
    refine decide_eq_decide.mpr ⟨fun hm => ?_, fun hm => List.mem_cons_of_mem _ hm⟩
    rcases List.mem_cons.mp hm with e | e
    · exact absurd (e ▸ List.mem_map_of_mem hu) nd.1
    · exact e

/-! ### fits, by the tasks ahead alone -/
theorem sumN_perm {A B : List T} (h : A.Perm B) (n : Int) : sumN A n = sumN B n := by
  unfold sumN
  induction h with
  | nil => rfl
  | cons x _ ih => rw [List.map_cons, List.map_cons, List.sum_cons, List.sum_cons, ih]
  | swap x y l => simp only [List.map_cons, List.sum_cons]; omega
  | trans _ _ ih1 ih2 => exact ih1.trans ih2
theorem first_perm {s : List Int} {t : T} {A B : List T} (h : A.Perm B) : first s t A = first s t B := by
  have e : (fun i : Nat => decide (fit s t A (1 + (i : Nat)))) = fun i : Nat => decide (fit s t B (1 + (i : Nat))) := funext fun i => decide_eq_decide.mpr (by unfold fit; rw [sumN_perm h])
  unfold first
  rw [e]
theorem up_nonneg {n g : Int} (hn : 1 ≤ n) (hg : 0 < g) : 0 ≤ upI n g := by
  unfold upI
  have : (0 - n) / g ≤ 0 := Int.ediv_le_of_le_mul hg (by omega)
  omega
theorem sumN_filter {A : List T} (hA : ∀ u ∈ A, u.Ok) {n : Int} (hn : 1 ≤ n) (p : T → Bool) : sumN (A.filter p) n ≤ sumN A n := by
  induction A with
  | nil => exact Int.le_refl _
  | cons x A ih =>
    have ih := ih fun u h => hA u (List.mem_cons_of_mem _ h)
    have hx := hA x (List.mem_cons_self ..)
    have a := hx.m1; have b := hx.md; have c := hx.dg
    have h0 : 0 ≤ x.most * upI n x.gap := Int.mul_nonneg (by omega) (up_nonneg hn (by omega))
    have e : sumN (x :: A) n = x.most * upI n x.gap + sumN A n := by unfold sumN; rw [List.map_cons, List.sum_cons]
    cases hp : p x with
    | true =>
      rw [List.filter_cons_of_pos hp]
      have e2 : sumN (x :: A.filter p) n = x.most * upI n x.gap + sumN (A.filter p) n := by unfold sumN; rw [List.map_cons, List.sum_cons]
      omega
    | false =>
      rw [List.filter_cons_of_neg (by rw [hp]; exact Bool.false_ne_true)]
      omega
theorem first_mono {s : List Int} {t : T} {A B : List T} (hA : ∀ u ∈ A, u.Ok) (p : T → Bool) (h : B.Perm (A.filter p)) (hf : first s t A ≠ none) : first s t B ≠ none := by
  obtain ⟨m, hm⟩ := Option.ne_none_iff_exists'.mp hf
  have h1 := first_spec hm
  intro hn
  refine first_none_iff hn h1.1 h1.2.1 ?_
  have h2 := sumN_filter hA h1.1 p
  have h3 := sumN_perm h m
  have h4 : t.most + sumN A m ≤ LS s m := h1.2.2.1
  show t.most + sumN B m ≤ LS s m
  omega

/-- the tasks of O fit behind those of A, in order -/
def FitAll (s : List Int) : List T → List T → Prop
  | _, [] => True
  | A, t :: O => first s t A ≠ none ∧ FitAll s (A ++ [t]) O
theorem FitAll_perm {s : List Int} : ∀ (O : List T) {A B : List T}, A.Perm B → FitAll s A O → FitAll s B O
  | [], _, _, _, _ => trivial
  | t :: O, A, B, h, hf => ⟨by rw [← first_perm h]; exact hf.1, FitAll_perm O (h.append_right [t]) hf.2⟩
theorem FitAll_at {s : List Int} : ∀ (O A : List T), FitAll s A O → ∀ i, i < O.length → first s (nth O i) (A ++ O.take i) ≠ none
  | [], _, _, i, hi => absurd hi (Nat.not_lt_zero i)
  | t :: O, A, h, 0, _ => by rw [List.take_zero, List.append_nil]; exact h.1
  | t :: O, A, h, i + 1, hi => by
    have := FitAll_at O (A ++ [t]) h.2 i (Nat.lt_of_succ_lt_succ hi)
    rw [List.append_assoc] at this
    exact this
theorem FitAll_of {s : List Int} : ∀ (O A : List T), (∀ i, i < O.length → first s (nth O i) (A ++ O.take i) ≠ none) → FitAll s A O
  | [], _, _ => trivial
  | t :: O, A, h => ⟨by
      have := h 0 (Nat.succ_pos _)
      rw [List.take_zero, List.append_nil] at this; exact this, FitAll_of O (A ++ [t]) fun i hi => by
      have := h (i + 1) (Nat.succ_lt_succ hi)
      rw [List.append_assoc]; exact this⟩
/-- if no task of L fits last in L, then no order fits -/
theorem no_order {s : List Int} {ts L O : List T} (G : Good ts) (hL : L.Sublist ts) (h0 : L ≠ []) (hn : ∀ t ∈ L, first s t (oth L t) = none) (hO : O.Perm ts) : ¬ FitAll s [] O := by
  intro hf
  have GO := G.perm hO
  have GL := G.sub hL
  -- the last of L in O
  have hx : ∃ P x Q, O = P ++ x :: Q ∧ x ∈ L ∧ ∀ u ∈ Q, u ∉ L := by
    have hex : ∃ u ∈ O, u ∈ L := by
      cases L with
      | nil => exact absurd rfl h0
      | cons a l => exact ⟨a, hO.mem_iff.mpr (hL.subset (List.mem_cons_self ..)), List.mem_cons_self ..⟩
    clear hf GO hO
    induction O with
    | nil => obtain ⟨u, hu, _⟩ := hex; cases hu
    | cons a O ih =>
      by_cases h : ∃ u ∈ O, u ∈ L
      · obtain ⟨P, x, Q, e, hx, hQ⟩ := ih h
        exact ⟨a :: P, x, Q, by rw [e]; rfl, hx, hQ⟩
      · obtain ⟨u, hu, hul⟩ := hex
        rcases List.mem_cons.mp hu with rfl | hu'
        · exact ⟨[], u, O, rfl, hul, fun v hv hvl => h ⟨v, hv, hvl⟩⟩
        · exact absurd ⟨u, hu', hul⟩ h
  obtain ⟨P, x, Q, rfl, hxL, hQ⟩ := hx
  have hlt : P.length < (P ++ x :: Q).length := by simp
  have h1 := FitAll_at _ _ hf P.length hlt
  rw [List.nil_append, List.take_left' rfl] at h1
  have e : nth (P ++ x :: Q) P.length = x := by rw [nth_eq hlt]; simp
  rw [e] at h1
  have hP : ∀ u ∈ P, u.Ok := fun u hu => GO.ok u (List.mem_append_left _ hu)
  refine first_mono hP (fun u => decide (u.name ∈ (oth L x).map T.name)) (B := oth L x) ?_ h1 (hn x hxL)
  have ndO := GO.nodup
  refine (List.perm_ext_iff_of_nodup (GL.sub (oth_sub L x)).nodup (ndO.sublist (List.filter_sublist.trans (List.sublist_append_left ..)))).mpr fun u => ?_
  rw [List.mem_filter, decide_eq_true_eq]
  constructor
  · intro hu
    refine ⟨?_, List.mem_map_of_mem hu⟩
    have huL := (oth_sub L x).subset hu
    have huO := hO.mem_iff.mpr (hL.subset huL)
    rcases List.mem_append.mp huO with h | h
    · exact h
    · rcases List.mem_cons.mp h with rfl | h
      · have := (List.mem_filter.mp hu).2
        simp at this
      · exact absurd huL (hQ u h)
  · rintro ⟨hu, hm⟩
    obtain ⟨v, hv, hvn⟩ := List.mem_map.mp hm
    have hvL := (oth_sub L x).subset hv
    have : v = u := name_inj GO.nd (hO.mem_iff.mpr (hL.subset hvL)) (List.mem_append_left _ hu) hvn
    rw [← this]; exact hv

/-! ### _last_of, order_for -/
theorem oth_names {ts : List T} (t : T) {it : SE → Option (List PD)} {v : Nat} {q : Qd} {env : SE} (hl : ts.length ≤ LIM) (hi : it env = some (ts.map nm)) (hf : free v (wipeE env [v]) = true)
    (hv : ∀ x : PD, pVar v ((wipeE env [v]).set v (some (.sh x))) = some x ∧ qVar v ((wipeE env [v]).set v (some (.sh x))) = some x ∧ q ((wipeE env [v]).set v (some (.sh x))) = some (.str t.name)) :
    dLc it (gN v) (asB (q2 neD (pVar v) q)) (qVar v) [v] env = some (.list ((oth ts t).map nm)) :=
  lc_of nm ts (fun u => !decide (u.name = t.name)) nm hi hl (fun u _ => ⟨_, if_pos hf, asB_of (q2_of (hv _).1 (hv _).2.2 (neS _ _)), fun _ => (hv _).2.1⟩)
theorem cat_ok {xs ys : List PD} (h : xs.length + ys.length ≤ 1000) : addD (.list xs) (.list ys) = some (.list (xs ++ ys)) := if_pos (Nat.le_trans h (by decide))
theorem nth_last (A : List T) (t : T) : nth (A ++ [t]) A.length = t := by
  rw [nth_eq (by simp)]; simp
theorem last_of_ok {pre : Bool} {s : List Int} {ts L : List T} (hs : IsSup s) (G : Good ts) (hL : L.Sublist ts) :
    (∃ t, t ∈ L ∧ first s t (oth L t) ≠ none ∧ F__last_of [sysD pre s ts, .list (L.map nm)] = some (.str t.name)) ∨ ((∀ t ∈ L, first s t (oth L t) = none) ∧ F__last_of [sysD pre s ts, .list (L.map nm)] = some .none) := by
  have GL := G.sub hL
  have hm : ∀ i, i < L.reverse.length → nth L.reverse i ∈ L := fun i hi => List.mem_reverse.mp (nth_mem hi)
  have hi0 : iRev (qVar 1) (startE 7 [sysD pre s ts, .list (L.map nm)]) = some ((L.reverse).map nm) := by
    rw [List.map_reverse]; rfl
  have hLn := forL_range (f := fun i => nm (nth L.reverse i)) (n := L.reverse.length) (ds := (L.reverse).map nm) (g := gN 2) (b := L__last_of_1) (env := startE 7 [sysD pre s ts, .list (L.map nm)])
    (fun i => (first s (nth L.reverse i) (oth L (nth L.reverse i))).isSome) (fun i => nm (nth L.reverse i))
    (fun i env => ∃ x y z : Option PD, env = [some (.sh (sysD pre s ts)), some (.sh (.list (L.map nm))), x.map .sh, y.map .sh, z.map .sh, none, none])
    (map_range default nm L.reverse) ⟨none, none, none, rfl⟩ (by
      rintro i hi _ env ⟨x, y, z, rfl⟩
      have ht := hm i hi
      generalize nth L.reverse i = t at ht
      have hp := oth_perm GL.nd ht
      have GU := GL.perm hp
      have h1 : ∀ y z : Option PD, q2 addD (dLc (iSeq (pVar 1)) (gN 5) (asB (q2 neD (pVar 5) (pVar 2))) (qVar 5) [5]) (qLst (aCons (qVar 2) aNil)) [some (.sh (sysD pre s ts)), some (.sh (.list (L.map nm))), some (.sh (.str t.name)), y.map .sh, z.map .sh, none, none] = some (.list ((oth L t ++ [t]).map nm)) := fun y z => by
        refine q2_of (oth_names t GL.lim rfl rfl fun x => ⟨rfl, rfl, rfl⟩) (lst_of rfl (show 1 ≤ 16777216 by decide)) ?_
        rw [cat_ok (by
          have := (oth_sub L t).length_le
          have := GL.len
          rw [List.length_map]; show _ + 1 ≤ 1000; omega), List.map_append]; rfl
      have h2 : ∀ z : Option PD, qCall (fun ds => if ds.length = 2 then F_with_order ds else none) (aCons (qCall (fun ds => if ds.length = 2 then F_only ds else none) (aCons (qVar 0) (aCons (qVar 1) aNil))) (aCons (qVar 3) aNil)) [some (.sh (sysD pre s ts)), some (.sh (.list (L.map nm))), some (.sh (.str t.name)), some (.sh (.list ((oth L t ++ [t]).map nm))), z.map .sh, none, none] = some (sysD pre s (oth L t ++ [t])) := fun z => by
        have ho := only_ok (pre := pre) (s := s) (ts := ts) (ns := L.map T.name) (z := .list (L.map nm)) G.lim (.inl (by rw [List.map_map]; rfl))
        rw [filter_sub hL G.nd] at ho
        exact calln (cons_of (calln rfl rfl ho) (cons_of rfl rfl)) rfl (with_order_ok GL.lim GL.nd (fun u hu => hp.mem_iff.mp hu) GU.lim rfl)
      have h3 := any_ok (pre := pre) hs GU (k := (oth L t).length) (by simp) (qs := qVar 4) (qn := qVar 2) (qd := q2 getD' (qCall (fun ds => if ds.length = 2 then F_task_of ds else none) (aCons (qVar 0) (aCons (qVar 2) aNil))) (qC (.int 4))) (v := 6)
        (env := [some (.sh (sysD pre s ts)), some (.sh (.list (L.map nm))), some (.sh (.str t.name)), some (.sh (.list ((oth L t ++ [t]).map nm))), some (.sh (sysD pre s (oth L t ++ [t]))), none, none])
        (by rw [nth_last]; exact q2_of (calln rfl rfl (task_of_ok G.lim G.nd (hL.subset ht))) rfl rfl) rfl (fun i => by rw [nth_last]; exact ⟨rfl, rfl, rfl⟩)
      rw [nth_last, List.take_left' rfl] at h3
      have h4 : ∀ b : Bool, (first s t (oth L t)).isSome = b → tru (qCall anyD (aCons (dLc (iRng2 (aCons (qC (.int 1)) (aCons (q2 addD (q2 getD' (qCall (fun ds => if ds.length = 2 then F_task_of ds else none) (aCons (qVar 0) (aCons (qVar 2) aNil))) (qC (.int 4))) (qC (.int 1))) aNil))) (gN 6) tYesD (qCall (fun ds => if ds.length = 3 then F_is_enough_time ds else none) (aCons (qVar 4) (aCons (qVar 2) (aCons (qVar 6) aNil)))) [6]) aNil))
        [some (.sh (sysD pre s ts)), some (.sh (.list (L.map nm))), some (.sh (.str t.name)), some (.sh (.list ((oth L t ++ [t]).map nm))), some (.sh (sysD pre s (oth L t ++ [t]))), none, none] = some b := fun b hb => tru_of (h3.trans (congrArg (fun b => some (PyData.bool b)) hb)) rfl
      refine ⟨[some (.sh (sysD pre s ts)), some (.sh (.list (L.map nm))), some (.sh (.str t.name)), y.map .sh, z.map .sh, none, none], by cases x <;> rfl, fun hp => ?_, fun hp => ?_⟩
      · exact ⟨_, seq_nx (set_of (h1 y z) (by cases y <;> rfl)) (seq_nx (set_of (h2 z) (by cases z <;> rfl)) (if_t (h4 true hp) (ret_of rfl)))⟩
      · exact ⟨_, seq_nx (set_of (h1 y z) (by cases y <;> rfl)) (seq_nx (set_of (h2 z) (by cases z <;> rfl)) (if_f (h4 false hp) rfl)), some (.str t.name), some (.list ((oth L t ++ [t]).map nm)), some (sysD pre s (oth L t ++ [t])), rfl⟩)
  rcases hLn with ⟨i, hi, hp, hn, e, he⟩ | ⟨hn, e, he, x, y, z, rfl⟩
  · refine .inl ⟨nth L.reverse i, hm i hi, fun h => ?_, fn_rt (seq_rt (for_of hi0 he))⟩
    rw [h] at hp; cases hp
  · refine .inr ⟨fun t ht => ?_, fn_rt (seq_nx (for_of hi0 he) (ret_of rfl))⟩
    obtain ⟨i, hi, rfl⟩ := List.getElem_of_mem (List.mem_reverse.mpr ht)
    have := hn i hi
    rw [nth_eq hi] at this
    cases e : first s L.reverse[i] (oth L L.reverse[i]) with
    | none => rfl
    | some m => rw [e] at this; cases this

theorem order_loop {pre : Bool} {s : List Int} {ts : List T} (hs : IsSup s) (G : Good ts) : ∀ (k : Nat) (L O : List T) (x y : Option PD), L.length ≤ k → L.Sublist ts → (L ++ O).Perm ts → FitAll s L O →
    (∃ L' env, L'.Sublist ts ∧ L' ≠ [] ∧ (∀ t ∈ L', first s t (oth L' t) = none) ∧ dWhN (tru (pVar 1)) L_order_for_1 (k + 1) [some (.sh (sysD pre s ts)), some (.sh (.list (L.map nm))), some (.sh (.list (O.map nm))), x.map .sh, y.map .sh] = some (.rt (.tuple [.str "none", .tuple (L'.map nm)]) env)) ∨
    (∃ O' x' y', O'.Perm ts ∧ FitAll s [] O' ∧ dWhN (tru (pVar 1)) L_order_for_1 (k + 1) [some (.sh (sysD pre s ts)), some (.sh (.list (L.map nm))), some (.sh (.list (O.map nm))), x.map .sh, y.map .sh] = some (.nx [some (.sh (sysD pre s ts)), some (.sh (.list [])), some (.sh (.list (O'.map nm))), x', y']))
  | k, [], O, x, y, _, _, hp, hf => .inr ⟨O, x.map .sh, y.map .sh, hp, hf, rfl⟩
  | 0, a :: l, O, x, y, hk, _, _, _ => absurd hk (by simp)
  | k + 1, a :: l, O, x, y, hk, hL, hp, hf => by
    have ht : tru (pVar 1) [some (.sh (sysD pre s ts)), some (.sh (.list ((a :: l).map nm))), some (.sh (.list (O.map nm))), x.map .sh, y.map .sh] = some true := rfl
    have GL := G.sub hL
    unfold dWhN
    rw [ht]
    rcases last_of_ok (pre := pre) hs G hL with ⟨t, htL, hf1, hF⟩ | ⟨hn, hF⟩
    · have hpt := oth_perm GL.nd htL
      have hlen : (oth (a :: l) t).length ≤ k := by
        have := hpt.length_eq
        rw [List.length_append] at this
        simp only [List.length_cons, List.length_nil] at this hk
        omega
      have hOl : O.length ≤ 5 := by
        have := hp.length_eq
        rw [List.length_append] at this
        have := G.len; omega
      have hb : L_order_for_1 [some (.sh (sysD pre s ts)), some (.sh (.list ((a :: l).map nm))), some (.sh (.list (O.map nm))), x.map .sh, y.map .sh] = some (.nx [some (.sh (sysD pre s ts)), some (.sh (.list ((oth (a :: l) t).map nm))), some (.sh (.list ((t :: O).map nm))), some (.sh (.str t.name)), y.map .sh]) := by
        refine seq_nx (set_of (calln rfl rfl hF) (by cases x <;> rfl)) (seq_nx (if_f (asB_of (q2_of rfl rfl rfl)) rfl) (seq_nx (set_of (q2_of (lst_of rfl (show 1 ≤ 16777216 by decide)) rfl (cat_ok (by rw [List.length_map]; show 1 + _ ≤ 1000; omega))) rfl) ?_))
        refine (set_of (oth_names t GL.lim rfl (by cases y <;> rfl) fun z => ⟨by cases y <;> rfl, by cases y <;> rfl, by cases y <;> rfl⟩) rfl).trans rfl
      simp only [hb]
      have hp2 : (oth (a :: l) t ++ t :: O).Perm ts := by
        have := hpt.append_right O
        rw [List.append_assoc] at this
        exact this.trans hp
      exact order_loop hs G k (oth (a :: l) t) (t :: O) (some (.str t.name)) y hlen ((oth_sub _ _).trans hL) hp2 ⟨hf1, FitAll_perm O hpt.symm hf⟩
    · refine .inl ⟨a :: l, [some (.sh (sysD pre s ts)), some (.sh (.list ((a :: l).map nm))), some (.sh (.list (O.map nm))), some (.sh .none), y.map .sh], hL, List.cons_ne_nil _ _, hn, ?_⟩
      have hb : L_order_for_1 [some (.sh (sysD pre s ts)), some (.sh (.list ((a :: l).map nm))), some (.sh (.list (O.map nm))), x.map .sh, y.map .sh] = some (.rt (.tuple [.str "none", .tuple ((a :: l).map nm)]) [some (.sh (sysD pre s ts)), some (.sh (.list ((a :: l).map nm))), some (.sh (.list (O.map nm))), some (.sh .none), y.map .sh]) := 
        seq_nx (set_of (calln rfl rfl hF) (by cases x <;> rfl)) (seq_rt (if_t (asB_of (q2_of rfl rfl rfl)) (ret_of rfl)))
      simp only [hb]
theorem order_for_ok {pre : Bool} {s : List Int} {ts : List T} (hs : IsSup s) (G : Good ts) :
    (∃ L, L.Sublist ts ∧ L ≠ [] ∧ (∀ t ∈ L, first s t (oth L t) = none) ∧ F_order_for [sysD pre s ts] = some (.tuple [.str "none", .tuple (L.map nm)])) ∨
    (∃ O, O.Perm ts ∧ FitAll s [] O ∧ F_order_for [sysD pre s ts] = some (.tuple [.str "order", .tuple (O.map nm), .tuple [.str "times", .tuple (rowsD O (tms s O) O.length)]])) := by
  have h0 : dPar [1, 2] (mCons false (qCall (fun ds => if ds.length = 1 then F_names_of ds else none) (aCons (qVar 0) aNil)) (mCons false (qLst aNil) mNil)) (startE 5 [sysD pre s ts]) = some (.nx [some (.sh (sysD pre s ts)), some (.sh (.list (ts.map nm))), some (.sh (.list (([] : List T).map nm))), none, none]) := by
    have h1 : qCall (fun ds => if ds.length = 1 then F_names_of ds else none) (aCons (qVar 0) aNil) (startE 5 [sysD pre s ts]) = some (.list (ts.map nm)) := calln rfl rfl (names_of_ok G.lim)
    simp only [dPar, mCons]
    rw [h1]; rfl
  rcases order_loop (pre := pre) hs G ts.length ts [] none none (Nat.le_refl _) (List.Sublist.refl _) (by rw [List.append_nil]) trivial with ⟨L, e, h1, h2, h3, h4⟩ | ⟨O, x, y, h1, h2, h3⟩
  · exact .inl ⟨L, h1, h2, h3, fn_rt (seq_nx h0 (seq_rt (dWh_of h4)))⟩
  · refine .inr ⟨O, h1, h2, ?_⟩
    have GO := G.perm h1
    have ht : F_timed [sysD pre s O] = some (paperD "times" O (tms s O)) := by
      rcases timed_ok (pre := pre) hs GO with ⟨i, hi, hn, _⟩ | ⟨_, h⟩
      · have := FitAll_at _ _ h2 i hi
        rw [List.nil_append] at this
        exact absurd hn this
      · exact h
    exact fn_rt (seq_nx h0 (seq_nx (dWh_of h3) (ret_of (tup_of (cons_of rfl (cons_of rfl (cons_of (q2_of (calln (cons_of (calln rfl rfl (with_order_ok G.lim G.nd (fun u hu => h1.mem_iff.mp hu) GO.lim rfl)) rfl) rfl ht) rfl rfl) rfl))) (show 3 ≤ 16777216 by decide)))))
end K12
end
section
set_option Elab.async false
set_option linter.all false
/-! Law k12, plain: checking orders; places. -/
namespace K12
open PySem D

/-! ### sorted names -/
def namD (i : Fin 5) : PD := .str (nam i)
abbrev dle (a b : PD) : Bool := PySem.W.dataLe false (fun d => d) a b
theorem dle_facts : (∀ i j : Fin 5, (dle (namD i) (namD j) || dle (namD j) (namD i)) = true) ∧ (∀ i j k : Fin 5, dle (namD i) (namD j) = true → dle (namD j) (namD k) = true → dle (namD i) (namD k) = true) ∧ (∀ i j : Fin 5, dle (namD i) (namD j) = true → dle (namD j) (namD i) = true → i = j) := by
  decide +kernel
theorem alike_str (a b : Str) : PySem.W.alike (.str a) (.str b) = true := by first | rfl | simp [PySem.W.alike]
theorem sortOk_strs (xs : List Str) : sortOk (xs.map .str) = true := by
  unfold sortOk
  have h1 : PyData.plainAll (xs.map .str) = true := PySem.W.plainAll_map (α := Str) xs
  rw [h1, Bool.true_and]
  simp only [Bool.and_eq_true, List.all_eq_true, List.mem_map, Bool.or_eq_true, forall_exists_index, and_imp]
  refine ⟨⟨?_, .inr ?_⟩, ?_⟩
  · rintro _ x _ rfl _ y _ rfl
    exact alike_str x y
  · rintro _ x _ rfl
    rfl
  · rintro _ x _ rfl
    rfl
theorem five_list {xs : List Str} (h : ∀ x ∈ xs, ∃ i, x = nam i) : ∃ is : List (Fin 5), xs = is.map nam := by
  induction xs with
  | nil => exact ⟨[], rfl⟩
  | cons x xs ih =>
    obtain ⟨i, hi⟩ := h x (List.mem_cons_self ..)
    obtain ⟨is, his⟩ := ih fun y hy => h y (List.mem_cons_of_mem _ hy)
    exact ⟨i :: is, by rw [hi, his]; rfl⟩
def srt (xs : List Str) : List Str := xs.mergeSort fun a b => dle (.str a) (.str b)
theorem srt_map (xs : List Str) : (xs.map .str).mergeSort dle = (srt xs).map .str := (List.map_mergeSort (r := fun a b : Str => dle (.str a) (.str b)) (s := dle) (f := PyData.str) fun _ _ _ _ => rfl).symm
theorem srt_five (is : List (Fin 5)) : ((srt (is.map nam)).Pairwise fun a b => dle (.str a) (.str b) = true) := by
  have e : srt (is.map nam) = (is.mergeSort fun i j => dle (namD i) (namD j)).map nam := (List.map_mergeSort (r := fun i j => dle (namD i) (namD j)) (s := fun a b : Str => dle (.str a) (.str b)) (f := nam) fun _ _ _ _ => rfl).symm
  rw [e, List.pairwise_map]
  exact List.pairwise_mergeSort (fun a b c h1 h2 => dle_facts.2.1 a b c h1 h2) (fun a b => dle_facts.1 a b) is
theorem srt_perm {xs ys : List Str} (h : xs.Perm ys) (h5 : ∀ x ∈ xs, ∃ i, x = nam i) : srt xs = srt ys := by
  obtain ⟨is, rfl⟩ := five_list h5
  obtain ⟨js, rfl⟩ := five_list fun y hy => h5 y (h.mem_iff.mpr hy)
  refine List.Perm.eq_of_pairwise (le := fun a b => dle (.str a) (.str b) = true) ?_ (srt_five is) (srt_five js) ((List.mergeSort_perm _ _).trans (h.trans (List.mergeSort_perm _ _).symm))
  intro a b ha hb h1 h2
  obtain ⟨i, _, rfl⟩ := List.mem_map.mp (List.mem_mergeSort.mp ha)
  obtain ⟨j, _, rfl⟩ := List.mem_map.mp (List.mem_mergeSort.mp hb)
  rw [dle_facts.2.2 i j h1 h2]
theorem srt_len (xs : List Str) : (srt xs).length = xs.length := List.length_mergeSort xs
theorem nm_map (us : List T) : us.map nm = (us.map T.name).map .str := by rw [List.map_map]; rfl
theorem sorted_t (us : List T) : sortedA [.tuple (us.map nm)] = some (.list ((srt (us.map T.name)).map .str)) := by
  rw [nm_map, ← srt_map]; exact if_pos (sortOk_strs _)
theorem sorted_l (us : List T) : sortedA [.list (us.map nm)] = some (.list ((srt (us.map T.name)).map .str)) := by
  rw [nm_map, ← srt_map]; exact if_pos (sortOk_strs _)

theorem are_texts_ok (us : List T) (hl : us.length ≤ LIM) : F_are_texts [.tuple (us.map nm)] = some (.bool true) := by
  have hc := lc_all (it := iSeq (pVar 0)) (g := gN 1) (e := qIsi .str (pVar 1)) (vs := [1]) (env := startE 2 [.tuple (us.map nm)]) nm us (fun _ => .bool true) rfl hl (fun u _ => ⟨_, rfl, rfl⟩)
  have ha : allD [.list (us.map fun _ => .bool true)] = some (.bool true) := by
    rw [allD_map _ fun _ => true]; simp
  exact fn_rt (ret_of (qand_t (d := .bool true) rfl rfl (call_of (cons_of hc rfl) ha)))

/-! ### check_order -/
theorem check_order_len {pre : Bool} {s : List Int} {ts us : List T} {w : PD} (G : Good ts) (hl : us.length ≤ LIM) (h : us.length ≠ ts.length) :
    F_check_order [sysD pre s ts, .tuple [.str "order", .tuple (us.map nm), w]] = some (.bool false) := by
  have hn : srt (us.map T.name) ≠ srt (ts.map T.name) := fun e => h (by have := congrArg List.length e; rw [srt_len, srt_len, List.length_map, List.length_map] at this; exact this)
  exact fn_rt (seq_nx (if_f (or_f (notB_of (b := true) rfl) (or_f (notB_of (b := true) rfl) (notB_of (b := true) (tru_of (calln rfl rfl (are_texts_ok us hl)) rfl)))) rfl) (seq_nx (set_of rfl rfl) (seq_rt (if_t (asB_of (q2_of rfl rfl (by kernel_rfl))) (seq_rt (if_t (or_f (asB_of (q2_of rfl rfl (by kernel_rfl)))
    (asB_of (q2_of (call_of (cons_of rfl rfl) (sorted_t us)) (call_of (cons_of (calln rfl rfl (names_of_ok G.lim)) rfl) (sorted_l ts)) ((neLS _ _).trans (by rw [decide_eq_false hn]; rfl))))) (ret_of rfl)))))))
theorem check_order_perm {pre : Bool} {s : List Int} {ts O : List T} {w : PD} {b : Bool} (G : Good ts) (hO : O.Perm ts) (h : F_check [sysD pre s O, .tuple [.str "meets", w]] = some (.bool b)) :
    F_check_order [sysD pre s ts, .tuple [.str "order", .tuple (O.map nm), w]] = some (.bool b) := by
  have GO := G.perm hO
  have hn : srt (O.map T.name) = srt (ts.map T.name) := srt_perm (hO.map T.name) fun x hx => by
    obtain ⟨t, ht, rfl⟩ := List.mem_map.mp hx
    exact (GO.ok t ht).five
  exact fn_rt (seq_nx (if_f (or_f (notB_of (b := true) rfl) (or_f (notB_of (b := true) rfl) (notB_of (b := true) (tru_of (calln rfl rfl (are_texts_ok O GO.lim)) rfl)))) rfl) (seq_nx (set_of rfl rfl) (seq_rt (if_t (asB_of (q2_of rfl rfl (by kernel_rfl))) (seq_nx (if_f (or_f (asB_of (q2_of rfl rfl (by kernel_rfl)))
    (asB_of (q2_of (call_of (cons_of rfl rfl) (sorted_t O)) (call_of (cons_of (calln rfl rfl (names_of_ok G.lim)) rfl) (sorted_l ts)) ((neLS _ _).trans (by rw [hn, decide_eq_true rfl]; rfl))))) rfl)
    (ret_of (calln (cons_of (calln rfl rfl (with_order_ok G.lim G.nd (fun u hu => hO.mem_iff.mp hu) GO.lim rfl)) (cons_of rfl rfl)) rfl h)))))))
theorem never_ok {pre : Bool} {s : List Int} {ts L : List T} (hs : IsSup s) (G : Good ts) (hL : L.Sublist ts) {t : T} (ht : t ∈ L) :
    F_is_never_last [sysD pre s ts, .tuple (L.map nm), .str t.name] = some (.bool (!(first s t (oth L t)).isSome)) := by
  have GL := G.sub hL
  have hp := oth_perm GL.nd ht
  have GU := GL.perm hp
  have ho := only_ok (pre := pre) (s := s) (ts := ts) (ns := L.map T.name) (z := .tuple (L.map nm)) G.lim (.inr (by rw [List.map_map]; rfl))
  rw [filter_sub hL G.nd] at ho
  have hm : F_moved_last [sysD pre s L, .str t.name] = some (sysD pre s (oth L t ++ [t])) := by
    have h1 := oth_names t (it := iSeq (qCall (fun ds => if ds.length = 1 then F_names_of ds else none) (aCons (qVar 0) aNil))) (v := 3) (q := pVar 1) (env := startE 4 [sysD pre s L, .str t.name]) GL.lim (seq_of (calln rfl rfl (names_of_ok GL.lim)) rfl) rfl fun x => ⟨rfl, rfl, rfl⟩
    refine fn_rt (seq_nx (set_of h1 rfl) (ret_of (calln (cons_of rfl (cons_of (q2_of rfl (lst_of rfl (show 1 ≤ 16777216 by decide)) (cat_ok ?_)) rfl)) rfl (with_order_ok GL.lim GL.nd (fun u hu => hp.mem_iff.mp hu) GU.lim ?_))))
    · have := (oth_sub L t).length_le
      have := GL.len
      rw [List.length_map]; show _ + 1 ≤ 1000; omega
    · rw [List.map_append]; rfl
  have h3 := any_ok (pre := pre) hs GU (k := (oth L t).length) (by simp) (qs := qVar 3) (qn := qVar 2) (qd := q2 getD' (qCall (fun ds => if ds.length = 2 then F_task_of ds else none) (aCons (qVar 0) (aCons (qVar 2) aNil))) (qC (.int 4))) (v := 4)
    (env := [some (.sh (sysD pre s ts)), some (.sh (.tuple (L.map nm))), some (.sh (.str t.name)), some (.sh (sysD pre s (oth L t ++ [t]))), none])
    (by rw [nth_last]; exact q2_of (calln rfl rfl (task_of_ok G.lim G.nd (hL.subset ht))) rfl rfl) rfl (fun i => by rw [nth_last]; exact ⟨rfl, rfl, rfl⟩)
  rw [nth_last, List.take_left' rfl] at h3
  exact fn_rt (seq_nx (set_of (calln (cons_of (calln rfl rfl ho) (cons_of rfl rfl)) rfl hm) rfl) (ret_of (qnot_of h3 rfl)))
/-- the names of the system that stand among the given ones -/
theorem among {pre : Bool} {s : List Int} {ts L : List T} (G : Good ts) (hL : L.Sublist ts) {z : PD} {ns : List Str} (hz : z = .list (ns.map .str) ∨ z = .tuple (ns.map .str)) (hns : ∀ x, x ∈ ns ↔ x ∈ L.map T.name) {env : SE}
    (h0 : pVar 0 env = some (sysD pre s ts)) (hq : qCall (fun ds => if ds.length = 1 then F_names_of ds else none) (aCons (qVar 0) aNil) env = some (.list (ts.map nm))) (hf : free 3 (wipeE env [3]) = true)
    (hv : ∀ x : PD, pVar 3 ((wipeE env [3]).set 3 (some (.sh x))) = some x ∧ qVar 3 ((wipeE env [3]).set 3 (some (.sh x))) = some x ∧ pVar 2 ((wipeE env [3]).set 3 (some (.sh x))) = some z) :
    dLc (iSeq (qCall (fun ds => if ds.length = 1 then F_names_of ds else none) (aCons (qVar 0) aNil))) (gN 3) (asB (q2 inD (pVar 3) (pVar 2))) (qVar 3) [3] env = some (.list (L.map nm)) := by
  have hc := lc_of (it := iSeq (qCall (fun ds => if ds.length = 1 then F_names_of ds else none) (aCons (qVar 0) aNil))) (g := gN 3) (t := asB (q2 inD (pVar 3) (pVar 2))) (e := qVar 3) (vs := [3]) (env := env)
    nm ts (fun t => decide (t.name ∈ L.map T.name)) nm (seq_of hq rfl) G.lim (fun u _ => ⟨_, if_pos hf, asB_of (q2_of (hv _).1 (hv _).2.2 ((congrArg (Option.map PyData.bool) (isIn_datum (α := Str) u.name ns (by decide) hz)).trans (congrArg (fun b => some (PyData.bool b)) (decide_eq_decide.mpr (hns u.name))))), fun _ => (hv _).2.1⟩)
  rw [filter_sub hL G.nd] at hc
  exact hc
theorem check_none {pre : Bool} {s : List Int} {ts L : List T} (hs : IsSup s) (G : Good ts) (hL : L.Sublist ts) (h0 : L ≠ []) (hn : ∀ t ∈ L, first s t (oth L t) = none) :
    F_check_order [sysD pre s ts, .tuple [.str "none", .tuple (L.map nm)]] = some (.bool true) := by
  have GL := G.sub hL
  have ht : truD (.tuple (L.map nm)) = some true := by
    cases L with
    | nil => exact absurd rfl h0
    | cons a l => rfl
  have ha := among (pre := pre) (s := s) G hL (z := .tuple (L.map nm)) (ns := L.map T.name) (.inr (by rw [List.map_map]; rfl)) (fun x => Iff.rfl) (env := [some (.sh (sysD pre s ts)), some (.sh (.tuple [.str "none", .tuple (L.map nm)])), some (.sh (.tuple (L.map nm))), none]) rfl (calln rfl rfl (names_of_ok G.lim)) rfl (fun x => ⟨rfl, rfl, rfl⟩)
  have he : neD (.list (L.map nm)) (.list (L.map nm)) = some (.bool false) := by
    have := neLS (L.map T.name) (L.map T.name)
    rw [List.map_map, decide_eq_true rfl] at this; exact this
  have hc := lc_all (it := iSeq (pVar 2)) (g := gN 3) (e := qCall (fun ds => if ds.length = 3 then F_is_never_last ds else none) (aCons (qVar 0) (aCons (qVar 2) (aCons (qVar 3) aNil)))) (vs := [3]) (env := [some (.sh (sysD pre s ts)), some (.sh (.tuple [.str "none", .tuple (L.map nm)])), some (.sh (.tuple (L.map nm))), none])
    nm L (fun _ => .bool true) rfl GL.lim (fun t ht => ⟨_, rfl, calln rfl rfl ((never_ok hs G hL ht).trans (by rw [hn t ht]; rfl))⟩)
  have hall : allD [.list (L.map fun _ => .bool true)] = some (.bool true) := by
    rw [allD_map _ fun _ => true]; simp
  exact fn_rt (seq_nx (if_f (or_f (notB_of (b := true) rfl) (or_f (notB_of (b := true) rfl) (notB_of (b := true) (tru_of (calln rfl rfl (are_texts_ok L GL.lim)) rfl)))) rfl) (seq_nx (set_of rfl rfl) (seq_nx (if_f (asB_of (q2_of rfl rfl (by kernel_rfl))) rfl)
    (seq_nx (if_f (or_f (asB_of (q2_of rfl rfl (by kernel_rfl))) (or_f (notB_of (b := true) (tru_of rfl ht)) (asB_of (q2_of rfl ha he)))) rfl) (ret_of (call_of (cons_of hc rfl) hall))))))
theorem check_none_nil {pre : Bool} {s : List Int} {ts : List T} : F_check_order [sysD pre s ts, .tuple [.str "none", .tuple []]] = some (.bool false) :=
  fn_rt (seq_nx (if_f (by kernel_rfl) rfl) (seq_nx (set_of rfl rfl) (seq_nx (if_f (by kernel_rfl) rfl) (seq_rt (if_t (by kernel_rfl) (ret_of rfl))))))
theorem check_none_more {pre : Bool} {s : List Int} {ts L M : List T} (G : Good ts) (hL : L.Sublist ts) (h0 : M ≠ []) (hm : ∀ x, x ∈ M ↔ x ∈ L) (hM : M.length ≠ L.length) (hMl : M.length ≤ LIM) :
    F_check_order [sysD pre s ts, .tuple [.str "none", .tuple (M.map nm)]] = some (.bool false) := by
  have ht : truD (.tuple (M.map nm)) = some true := by
    cases M with
    | nil => exact absurd rfl h0
    | cons a l => rfl
  have ha := among (pre := pre) (s := s) G hL (z := .tuple (M.map nm)) (ns := M.map T.name) (.inr (by rw [List.map_map]; rfl)) (fun x => by
    rw [List.mem_map, List.mem_map]
    exact ⟨fun ⟨t, h, e⟩ => ⟨t, (hm t).mp h, e⟩, fun ⟨t, h, e⟩ => ⟨t, (hm t).mpr h, e⟩⟩) (env := [some (.sh (sysD pre s ts)), some (.sh (.tuple [.str "none", .tuple (M.map nm)])), some (.sh (.tuple (M.map nm))), none]) rfl (calln rfl rfl (names_of_ok G.lim)) rfl (fun x => ⟨rfl, rfl, rfl⟩)
  have he : neD (.list (M.map nm)) (.list (L.map nm)) = some (.bool true) := by
    have := neLS (M.map T.name) (L.map T.name)
    rw [List.map_map, List.map_map, decide_eq_false fun e => hM (by have := congrArg List.length e; rw [List.length_map, List.length_map] at this; exact this)] at this; exact this
  exact fn_rt (seq_nx (if_f (or_f (notB_of (b := true) rfl) (or_f (notB_of (b := true) rfl) (notB_of (b := true) (tru_of (calln rfl rfl (are_texts_ok M hMl)) rfl)))) rfl) (seq_nx (set_of rfl rfl) (seq_nx (if_f (asB_of (q2_of rfl rfl (by kernel_rfl))) rfl)
    (seq_rt (if_t (or_f (asB_of (q2_of rfl rfl (by kernel_rfl))) (or_f (notB_of (b := true) (tru_of rfl ht)) (asB_of (q2_of rfl ha he)))) (ret_of rfl))))))

/-! ### places_told -/
noncomputable def placeL (s : List Int) (ts : List T) (t : T) : List PD := ((List.range ts.length).filter fun p => (first s t ((oth ts t).take p)).isSome).map fun (p : Nat) => .int p
noncomputable def placesD (s : List Int) (ts : List T) : List PD := ts.map fun t => .tuple [.str t.name, .tuple (placeL s ts t)]
theorem oth_len {L : List T} (nd : (L.map T.name).Nodup) {t : T} (h : t ∈ L) : (oth L t).length + 1 = L.length := by
  have := (oth_perm nd h).length_eq
  rw [List.length_append] at this; exact this
theorem nth_mid (A B : List T) (t : T) : nth (A ++ t :: B) A.length = t := by
  rw [nth_eq (by simp)]; simp
theorem places_told_ok {pre : Bool} {s : List Int} {ts : List T} (hs : IsSup s) (G : Good ts) : F_places_told [sysD pre s ts] = some (.tuple (placesD s ts)) := by
  have hn : qCall (fun ds => if ds.length = 1 then F_names_of ds else none) (aCons (qVar 0) aNil) (startE 10 [sysD pre s ts]) = some (.list (ts.map nm)) := calln rfl rfl (names_of_ok G.lim)
  have h0 : dPar [1, 2] (mCons false (qCall (fun ds => if ds.length = 1 then F_names_of ds else none) (aCons (qVar 0) aNil)) (mCons true (qLst aNil) mNil)) (startE 10 [sysD pre s ts]) = some (.nx [some (.sh (sysD pre s ts)), some (.sh (.list (ts.map nm))), some (.ow (.list [])), none, none, none, none, none, none, none]) := by
    simp only [dPar, mCons]; rw [hn]; rfl
  let pf : T → PD := fun t => .tuple [.str t.name, .tuple (placeL s ts t)]
  let X : Type := Option PD
  obtain ⟨e, he, x3, x4, x5, x6, x7, rfl⟩ := forL_all (f := fun i => nm (nth ts i)) (n := ts.length) (ds := ts.map nm) (g := gN 3) (b := L_places_told_2) (env := [some (.sh (sysD pre s ts)), some (.sh (.list (ts.map nm))), some (.ow (.list [])), none, none, none, none, none, none, none])
    (fun i env => ∃ x3 x4 : Option PD, ∃ x5 : Option PD, ∃ x6 x7 : Option PD, env = [some (.sh (sysD pre s ts)), some (.sh (.list (ts.map nm))), some (.ow (.list ((ts.take i).map pf))), x3.map .sh, x4.map .sh, x5.map .ow, x6.map .sh, x7.map .sh, none, none])
    (map_range default nm ts) ⟨none, none, none, none, none, rfl⟩ (by
      rintro i hi env ⟨x3, x4, x5, x6, x7, rfl⟩
      have ht := nth_mem hi
      refine ⟨[some (.sh (sysD pre s ts)), some (.sh (.list (ts.map nm))), some (.ow (.list ((ts.take i).map pf))), some (.sh (nm (nth ts i))), x4.map .sh, x5.map .ow, x6.map .sh, x7.map .sh, none, none], by cases x3 <;> rfl, ?_⟩
      have hsn := take_succ_nth hi
      generalize nth ts i = t at ht hsn
      have hol := oth_len G.nd ht
      have h1 : dPar [4, 5] (mCons false (dLc (iSeq (pVar 1)) (gN 8) (asB (q2 neD (pVar 8) (pVar 3))) (qVar 8) [8]) (mCons true (qLst aNil) mNil)) [some (.sh (sysD pre s ts)), some (.sh (.list (ts.map nm))), some (.ow (.list ((ts.take i).map pf))), some (.sh (nm t)), x4.map .sh, x5.map .ow, x6.map .sh, x7.map .sh, none, none]
          = some (.nx [some (.sh (sysD pre s ts)), some (.sh (.list (ts.map nm))), some (.ow (.list ((ts.take i).map pf))), some (.sh (nm t)), some (.sh (.list ((oth ts t).map nm))), some (.ow (.list [])), x6.map .sh, x7.map .sh, none, none]) := by
        simp only [dPar, mCons]
        rw [oth_names t (it := iSeq (pVar 1)) (v := 8) (q := pVar 3) G.lim rfl rfl fun x => ⟨rfl, rfl, rfl⟩]
        cases x4 <;> cases x5 <;> rfl
      obtain ⟨e2, he2, y6, y7, rfl⟩ := forL_all (f := fun p => .int (0 + (p : Nat))) (n := ts.length) (ds := rngL 0 ((ts.length : Nat) : Int).toNat) (g := gN 6) (b := L_places_told_1) (env := [some (.sh (sysD pre s ts)), some (.sh (.list (ts.map nm))), some (.ow (.list ((ts.take i).map pf))), some (.sh (nm t)), some (.sh (.list ((oth ts t).map nm))), some (.ow (.list [])), x6.map .sh, x7.map .sh, none, none])
        (fun p env => ∃ y6 y7 : Option PD, env = [some (.sh (sysD pre s ts)), some (.sh (.list (ts.map nm))), some (.ow (.list ((ts.take i).map pf))), some (.sh (nm t)), some (.sh (.list ((oth ts t).map nm))), some (.ow (.list (((List.range p).filter fun p => (first s t ((oth ts t).take p)).isSome).map fun (p : Nat) => .int p))), y6.map .sh, y7.map .sh, none, none])
        rfl ⟨x6, x7, rfl⟩ (by
          rintro p hp env ⟨y6, y7, rfl⟩
          have hpl : p ≤ (oth ts t).length := by omega
          have hpm : (((oth ts t).take p) ++ t :: ((oth ts t).drop p)).Perm ts := by
            refine List.Perm.trans ?_ (oth_perm G.nd ht)
            refine List.perm_middle.trans (List.Perm.trans ?_ List.perm_append_comm)
            rw [List.take_append_drop]; exact List.Perm.refl _
          have GU := G.perm hpm
          have hlen : ((oth ts t).take p).length = p := by rw [List.length_take]; omega
          have hol5 : (oth ts t).length ≤ 5 := Nat.le_trans (oth_sub ts t).length_le G.len
          have h2 : ∀ y7 : Option PD, qCall (fun ds => if ds.length = 2 then F_with_order ds else none) (aCons (qVar 0) (aCons (q2 addD (q2 addD (qSl (pVar 4) none (some (pVar 6))) (qLst (aCons (qVar 3) aNil))) (qSl (pVar 4) (some (pVar 6)) none)) aNil))
              [some (.sh (sysD pre s ts)), some (.sh (.list (ts.map nm))), some (.ow (.list ((ts.take i).map pf))), some (.sh (nm t)), some (.sh (.list ((oth ts t).map nm))), some (.ow (.list (((List.range p).filter fun p => (first s t ((oth ts t).take p)).isSome).map fun (p : Nat) => .int p))), some (.sh (.int p)), y7.map .sh, none, none]
              = some (sysD pre s (((oth ts t).take p) ++ t :: ((oth ts t).drop p))) := fun y7 => by
            have ea : cutD ((oth ts t).map nm) none (some (p : Int)) = ((oth ts t).take p).map nm := by rw [cut_take (by simpa using hpl), List.map_take]
            have eb : cutD ((oth ts t).map nm) (some (p : Int)) none = ((oth ts t).drop p).map nm := by rw [cut_drop (by simpa using hpl), List.map_drop]
            have l1 : (((oth ts t).take p).map nm).length ≤ 5 := by rw [List.length_map, hlen]; omega
            have l2 : (((oth ts t).drop p).map nm).length ≤ 5 := by rw [List.length_map, List.length_drop]; omega
            refine calln (cons_of rfl (cons_of (q2_of (q2_of (sl_of rfl rfl (h := some (p : Int)) rfl (congrArg (fun d => some (PyData.list d)) ea)) (lst_of rfl (show 1 ≤ 16777216 by decide)) (cat_ok (by show _ + 1 ≤ 1000; omega))) (sl_of rfl (l := some (p : Int)) rfl rfl (congrArg (fun d => some (PyData.list d)) eb)) (cat_ok (by rw [List.length_append]; show _ + 1 + _ ≤ 1000; omega))) rfl)) rfl (with_order_ok G.lim G.nd (fun u hu => hpm.mem_iff.mp hu) GU.lim ?_)
            rw [List.map_append, List.map_cons, List.append_assoc]; rfl
          have h3 := any_ok (pre := pre) hs GU (k := ((oth ts t).take p).length) (by simp) (qs := qVar 7) (qn := qVar 3) (qd := q2 getD' (qCall (fun ds => if ds.length = 2 then F_task_of ds else none) (aCons (qVar 0) (aCons (qVar 3) aNil))) (qC (.int 4))) (v := 9)
            (env := [some (.sh (sysD pre s ts)), some (.sh (.list (ts.map nm))), some (.ow (.list ((ts.take i).map pf))), some (.sh (nm t)), some (.sh (.list ((oth ts t).map nm))), some (.ow (.list (((List.range p).filter fun p => (first s t ((oth ts t).take p)).isSome).map fun (p : Nat) => .int p))), some (.sh (.int p)), some (.sh (sysD pre s (((oth ts t).take p) ++ t :: ((oth ts t).drop p)))), none, none])
            (by rw [nth_mid]; exact q2_of (calln rfl rfl (task_of_ok G.lim G.nd ht)) rfl rfl) rfl (fun i => by rw [nth_mid]; exact ⟨rfl, rfl, rfl⟩)
          rw [nth_mid, List.take_left' rfl] at h3
          refine ⟨[some (.sh (sysD pre s ts)), some (.sh (.list (ts.map nm))), some (.ow (.list ((ts.take i).map pf))), some (.sh (nm t)), some (.sh (.list ((oth ts t).map nm))), some (.ow (.list (((List.range p).filter fun p => (first s t ((oth ts t).take p)).isSome).map fun (p : Nat) => .int p))), some (.sh (.int p)), y7.map .sh, none, none], by rw [Int.zero_add]; cases y6 <;> rfl, ?_⟩
          cases hb : (first s t ((oth ts t).take p)).isSome with
          | true =>
            refine ⟨_, seq_nx (set_of (h2 y7) (by cases y7 <;> rfl)) (if_t (tru_of (h3.trans (congrArg (fun b => some (PyData.bool b)) hb)) rfl) (app_of rfl rfl (by
              rw [List.length_map]
              refine Nat.lt_of_le_of_lt (List.length_filter_le _ _) ?_
              rw [List.length_range]
              exact Nat.lt_of_lt_of_le (Nat.lt_of_lt_of_le hp G.len) (by decide)))), some (.int p), some (sysD pre s (((oth ts t).take p) ++ t :: ((oth ts t).drop p))), ?_⟩
            rw [List.range_succ, List.filter_append, List.filter_cons_of_pos (p := fun p => (first s t ((oth ts t).take p)).isSome) hb, List.map_append]; rfl
          | false =>
            refine ⟨_, seq_nx (set_of (h2 y7) (by cases y7 <;> rfl)) (if_f (tru_of (h3.trans (congrArg (fun b => some (PyData.bool b)) hb)) rfl) rfl), some (.int p), some (sysD pre s (((oth ts t).take p) ++ t :: ((oth ts t).drop p))), ?_⟩
            rw [List.range_succ, List.filter_append, List.filter_cons_of_neg (p := fun p => (first s t ((oth ts t).take p)).isSome) (by simp only [hb]; exact Bool.false_ne_true), List.filter_nil, List.append_nil]; rfl)
      have hr : iRng1 (aCons (qCall lenD (aCons (pVar 1) aNil)) aNil) [some (.sh (sysD pre s ts)), some (.sh (.list (ts.map nm))), some (.ow (.list ((ts.take i).map pf))), some (.sh (nm t)), some (.sh (.list ((oth ts t).map nm))), some (.ow (.list [])), x6.map .sh, x7.map .sh, none, none] = some (rngL 0 ((ts.length : Nat) : Int).toNat) := by
        have := G.len
        exact rng1_of (cons_of (call_of (cons_of rfl rfl) (by rw [← List.length_map (as := ts) nm]; rfl)) rfl) (by omega) (by omega)
      refine ⟨_, seq_nx h1 (seq_nx (for_of hr he2) (app_of (d := pf t) rfl rfl (by
        rw [List.length_map, List.length_take]
        exact Nat.lt_of_le_of_lt (Nat.min_le_right ..) (Nat.lt_of_le_of_lt G.len (by decide))))), some (nm t), some (.list ((oth ts t).map nm)), some (.list (placeL s ts t)), y6, y7, ?_⟩
      rw [hsn, List.map_append]; rfl)
  rw [List.take_length] at he
  exact fn_rt (seq_nx h0 (seq_nx (for_of rfl he) (ret_of rfl)))
end K12
end
section
set_option Elab.async false
set_option linter.all false
/-! Law k12, plain: orders, tables, likeness. -/
namespace K12
open PySem D

theorem sup1 : IsSup [1] := .inl rfl
theorem rng_len (n : Nat) : rngL 0 ((n : Nat) : Int).toNat = (List.range n).map fun (i : Nat) => PyData.int i := by
  unfold rngL
  rw [Int.toNat_natCast]
  exact List.map_congr_left fun i _ => by rw [Int.zero_add]
theorem get_nth {ts : List T} {i : Nat} (h : i < ts.length) {z : PD} (hz : z = .list (ts.map tkD) ∨ z = .tuple (ts.map tkD)) : getD' z (.int i) = some (tkD (nth ts i)) := by
  have e : L2.atI (ts.map tkD) (i : Int) = some (tkD (nth ts i)) := by
    rw [atI_nat, List.getElem?_map, List.getElem?_eq_getElem h, nth_eq h]; rfl
  rcases hz with rfl | rfl <;> exact e

noncomputable def fitsB (O : List T) : Bool := (List.range O.length).all fun i => (first [1] (nth O i) (O.take i)).isSome
theorem fitsB_iff (O : List T) : fitsB O = true ↔ FitAll [1] [] O := by
  unfold fitsB
  rw [List.all_eq_true]
  constructor
  · intro h
    refine FitAll_of O [] fun i hi => ?_
    have := h i (List.mem_range.mpr hi)
    rw [List.nil_append]
    intro e; rw [e] at this; cases this
  · intro h i hi
    have := FitAll_at O [] h i (List.mem_range.mp hi)
    rw [List.nil_append] at this
    cases e : first [1] (nth O i) (O.take i) with
    | none => exact absurd e this
    | some m => rfl
theorem law_fits_ok {O : List T} (G : Good O) : F__law_fits [.list (O.map tkD)] = some (.bool (fitsB O)) := by
  have hr : iRng1 (aCons (qCall lenD (aCons (pVar 0) aNil)) aNil) (startE 2 [.list (O.map tkD)]) = some ((List.range O.length).map fun (i : Nat) => PyData.int i) := by
    have := G.len
    rw [rng1_of (j := ((O.length : Nat) : Int)) (cons_of (call_of (cons_of rfl rfl) (by rw [← List.length_map (as := O) tkD]; rfl)) rfl) (by omega) (by omega), rng_len]
  have hc := lc_of (g := gN 1) (t := asB (q2 isD (qCall (fun ds => if ds.length = 3 then F__law_time ds else none) (aCons (q2 getD' (pVar 0) (pVar 1)) (aCons (qSl (pVar 0) none (some (pVar 1))) (aCons (qTup (aCons (qC (.int 1)) aNil)) aNil)))) (qC .none))) (e := qC (.int 1)) (vs := [1])
    (fun (i : Nat) => PyData.int i) (List.range O.length) (fun i => (first [1] (nth O i) (O.take i)).isNone) (fun _ => .int 1) hr (by rw [List.length_range]; exact G.lim) (fun i hi => by
      have hi := List.mem_range.mp hi
      obtain ⟨y, hy, hy2⟩ := slT (p := pVar 0) (q := pVar 1) (env := [some (.sh (.list (O.map tkD))), some (.sh (.int i))]) (xs := O) (k := i) rfl (.inr rfl) rfl (Nat.le_of_lt hi)
      exact ⟨_, rfl, asB_of (q2_of (calln (cons_of (q2_of rfl rfl (get_nth hi (.inl rfl))) (cons_of hy (cons_of (tup_of rfl (show 1 ≤ 16777216 by decide)) rfl))) rfl (law_time_ok sup1 (G.ok _ (nth_mem hi)) (fun u hu => G.ok u (List.mem_of_mem_take hu)) (Nat.le_trans (by rw [List.length_take]; exact Nat.min_le_right ..) G.lim) hy2)) rfl (isD_opt _)), fun _ => rfl⟩)
  have he : eqD (.list (((List.range O.length).filter fun i => (first [1] (nth O i) (O.take i)).isNone).map fun _ => .int 1)) (.list []) = some (.bool (fitsB O)) := by
    have := eqD_datum (α := List Int) (((List.range O.length).filter fun i => (first [1] (nth O i) (O.take i)).isNone).map fun _ => 1) [] (by decide)
    have e : PySem.W.Datum.toD (((List.range O.length).filter fun i => (first [1] (nth O i) (O.take i)).isNone).map fun _ => (1 : Int)) = PyData.list (((List.range O.length).filter fun i => (first [1] (nth O i) (O.take i)).isNone).map fun _ => .int 1) := by
      show PyData.list (List.map _ _) = _
      rw [List.map_map]; rfl
    rw [e] at this
    refine this.trans (congrArg (fun b => some (PyData.bool b)) ?_)
    rw [Bool.eq_iff_iff, decide_eq_true_eq, List.map_eq_nil_iff, List.filter_eq_nil_iff]
    unfold fitsB
    rw [List.all_eq_true]
    refine ⟨fun h i hi => ?_, fun h i hi => ?_⟩
    · have := h i hi
      cases e : first [1] (nth O i) (O.take i) with
      | none => rw [e] at this; exact absurd rfl this
      | some m => rfl
    · have := h i hi
      cases e : first [1] (nth O i) (O.take i) with
      | none => rw [e] at this; cases this
      | some m => exact Bool.false_ne_true
  exact fn_rt (ret_of (q2_of hc (lst_of rfl (show 0 ≤ 16777216 by decide)) he))

/-! ### all orders -/
def rowD (row : List Str) : PD := .tuple (row.map .str)
def longer (names : List Str) (row : List Str) : List (List Str) := (names.filter fun x => !decide (x ∈ row)).map fun x => row ++ [x]
def ordN (names : List Str) : Nat → List (List Str)
  | 0 => [[]]
  | k + 1 => (ordN names k).flatMap (longer names)
theorem longer_len (names row : List Str) : (longer names row).length ≤ names.length := by
  unfold longer; rw [List.length_map]; exact List.length_filter_le _ _
theorem flat_len (names : List Str) (rows : List (List Str)) : (rows.flatMap (longer names)).length ≤ rows.length * names.length := by
  induction rows with
  | nil => simp
  | cons r rows ih =>
    rw [List.flatMap_cons, List.length_append, List.length_cons, Nat.succ_mul]
    have := longer_len names r
    omega
theorem ordN_len (names : List Str) : ∀ k, (ordN names k).length ≤ names.length ^ k
  | 0 => Nat.le_refl _
  | k + 1 => by
    refine Nat.le_trans (flat_len names (ordN names k)) ?_
    rw [Nat.pow_succ]
    exact Nat.mul_le_mul_right _ (ordN_len names k)
theorem ordN_mem (names : List Str) : ∀ (k : Nat) (row : List Str), row ∈ ordN names k ↔ row.length = k ∧ row.Nodup ∧ ∀ x ∈ row, x ∈ names
  | 0, row => by
    show row ∈ [[]] ↔ _
    rw [List.mem_singleton]
    constructor
    · rintro rfl; exact ⟨rfl, List.nodup_nil, fun x h => by cases h⟩
    · rintro ⟨h, _⟩; exact List.length_eq_zero_iff.mp h
  | k + 1, row => by
    show row ∈ (ordN names k).flatMap (longer names) ↔ _
    rw [List.mem_flatMap]
    unfold longer
    constructor
    · rintro ⟨r, hr, hm⟩
      obtain ⟨x, hx, rfl⟩ := List.mem_map.mp hm
      obtain ⟨hxn, hxr⟩ := List.mem_filter.mp hx
      obtain ⟨h1, h2, h3⟩ := (ordN_mem names k r).mp hr
      have hxr : x ∉ r := by simpa using hxr
      refine ⟨by rw [List.length_append, h1]; rfl, List.nodup_append.mpr ⟨h2, by simp, fun a ha b hb e => hxr (by rw [List.mem_singleton] at hb; rw [← hb, ← e]; exact ha)⟩, fun y hy => ?_⟩
      rcases List.mem_append.mp hy with h | h
      · exact h3 y h
      · rw [List.mem_singleton] at h; rw [h]; exact hxn
    · rintro ⟨h1, h2, h3⟩
      rcases List.eq_nil_or_concat row with rfl | ⟨r, x, rfl⟩
      · cases h1
      · rw [List.concat_eq_append] at h1 h2 h3 ⊢
        rw [List.length_append] at h1
        obtain ⟨n1, n2, n3⟩ := List.nodup_append.mp h2
        refine ⟨r, (ordN_mem names k r).mpr ⟨Nat.succ.inj h1, n1, fun y hy => h3 y (List.mem_append_left _ hy)⟩, List.mem_map.mpr ⟨x, List.mem_filter.mpr ⟨h3 x (by simp), ?_⟩, rfl⟩⟩
        rw [Bool.not_eq_true', decide_eq_false_iff_not]
        exact fun hx => n3 x hx x (List.mem_singleton_self x) rfl
theorem perm_of_sub : ∀ (row names : List Str), row.Nodup → (∀ x ∈ row, x ∈ names) → names.Nodup → row.length = names.length → row.Perm names
  | [], names, _, _, _, hl => by
    rw [List.length_eq_zero_iff.mp hl.symm]
  | a :: r, names, h1, h2, h3, hl => by
    rw [List.nodup_cons] at h1
    have ha := h2 a (List.mem_cons_self ..)
    have hp := List.perm_cons_erase ha
    have hl2 : (names.erase a).length + 1 = names.length := by
      have := hp.length_eq; rw [List.length_cons] at this; exact this.symm
    refine List.Perm.trans ((perm_of_sub r (names.erase a) h1.2 (fun x hx => ?_) (h3.sublist (List.erase_sublist ..)) (by rw [List.length_cons] at hl; omega)).cons a) hp.symm
    exact (List.mem_erase_of_ne (fun e : x = a => h1.1 (by rw [← e]; exact hx))).mpr (h2 x (List.mem_cons_of_mem _ hx))
theorem perm_lift : ∀ (row : List Str) (ts : List T), row.Perm (ts.map T.name) → ∃ O : List T, O.Perm ts ∧ O.map T.name = row
  | [], ts, h => by
    have := h.length_eq
    rw [List.length_map] at this
    exact ⟨[], by rw [List.length_eq_zero_iff.mp this.symm], rfl⟩
  | a :: r, ts, h => by
    obtain ⟨t, ht, rfl⟩ := List.mem_map.mp (h.mem_iff.mp (List.mem_cons_self ..))
    obtain ⟨P, Q, rfl⟩ := List.append_of_mem ht
    have hm : ((P ++ t :: Q).map T.name).Perm (t.name :: (P ++ Q).map T.name) := by
      have := (List.perm_middle (a := t) (l₁ := P) (l₂ := Q)).map T.name
      exact this
    obtain ⟨O, h1, h2⟩ := perm_lift r (P ++ Q) (List.perm_cons _ |>.mp (h.trans hm))
    exact ⟨t :: O, (h1.cons t).trans List.perm_middle.symm, by rw [List.map_cons, h2]⟩
theorem ord_perm {ts : List T} (G : Good ts) {row : List Str} : row ∈ ordN (ts.map T.name) ts.length ↔ ∃ O : List T, O.Perm ts ∧ O.map T.name = row := by
  rw [ordN_mem]
  constructor
  · rintro ⟨h1, h2, h3⟩
    exact perm_lift row ts (perm_of_sub row _ h2 h3 G.nd (by rw [List.length_map]; exact h1))
  · rintro ⟨O, h1, rfl⟩
    have hp := h1.map T.name
    exact ⟨by rw [List.length_map]; exact h1.length_eq, hp.nodup_iff.mpr G.nd, fun x hx => hp.mem_iff.mp hx⟩

theorem law_orders_ok {ts : List T} (G : Good ts) : F__law_orders [.list (ts.map nm)] = some (.list ((ordN (ts.map T.name) ts.length).map rowD)) := by
  have h5 := G.len
  have hpow : ∀ k, k ≤ ts.length → (ordN (ts.map T.name) k).length ≤ 3125 := fun k hk => by
    have := ordN_len (ts.map T.name) k
    rw [List.length_map] at this
    have h2 : ts.length ^ k ≤ 5 ^ 5 := Nat.le_trans (Nat.pow_le_pow_left h5 k) (Nat.pow_le_pow_right (by decide) (Nat.le_trans hk h5))
    exact Nat.le_trans this (Nat.le_trans h2 (by decide))
  have hr : iRng1 (aCons (qCall lenD (aCons (pVar 0) aNil)) aNil) [some (.sh (.list (ts.map nm))), some (.sh (.list [.tuple []])), none, none, none, none] = some ((List.range ts.length).map fun (i : Nat) => PyData.int i) := by
    rw [rng1_of (j := ((ts.length : Nat) : Int)) (cons_of (call_of (cons_of rfl rfl) (by rw [← List.length_map (as := ts) nm]; rfl)) rfl) (by omega) (by omega), rng_len]
  obtain ⟨e, he, x2, x3, x4, rfl⟩ := forL_all (f := fun (i : Nat) => PyData.int i) (n := ts.length) (ds := (List.range ts.length).map fun (i : Nat) => PyData.int i) (g := gN 2) (b := L__law_orders_2) (env := [some (.sh (.list (ts.map nm))), some (.sh (.list [.tuple []])), none, none, none, none])
    (fun k env => ∃ x2 x3 x4 : Option PD, env = [some (.sh (.list (ts.map nm))), some (.sh (.list ((ordN (ts.map T.name) k).map rowD))), x2.map .sh, x3.map .sh, x4.map .sh, none]) rfl ⟨none, none, none, rfl⟩ (by
      rintro k hk env ⟨x2, x3, x4, rfl⟩
      have hpk := hpow k (Nat.le_of_lt hk)
      have hord : ∀ row ∈ ordN (ts.map T.name) k, row.length = k := fun row h => ((ordN_mem _ _ _).mp h).1
      have hsu : ordN (ts.map T.name) (k + 1) = (ordN (ts.map T.name) k).flatMap (longer (ts.map T.name)) := rfl
      rw [hsu]
      generalize ordN (ts.map T.name) k = rows at hpk hord
      refine ⟨[some (.sh (.list (ts.map nm))), some (.sh (.list (rows.map rowD))), some (.sh (.int k)), x3.map .sh, x4.map .sh, none], by cases x2 <;> rfl, ?_⟩
      obtain ⟨e2, he2, y4, rfl⟩ := forL_all (f := fun i => rowD (rows.getD i [])) (n := rows.length) (ds := rows.map rowD) (g := gN 4) (b := L__law_orders_1) (env := [some (.sh (.list (ts.map nm))), some (.sh (.list (rows.map rowD))), some (.sh (.int k)), some (.sh (.list [])), x4.map .sh, none])
        (fun i env => ∃ y4 : Option PD, env = [some (.sh (.list (ts.map nm))), some (.sh (.list (rows.map rowD))), some (.sh (.int k)), some (.sh (.list (((rows.take i).flatMap (longer (ts.map T.name))).map rowD))), y4.map .sh, none])
        (map_range [] rowD rows) ⟨x4, rfl⟩ (by
          rintro i hi env ⟨y4, rfl⟩
          have hg : rows.getD i [] = rows[i] := by rw [List.getD_eq_getElem?_getD, List.getElem?_eq_getElem hi]; rfl
          have htk : rows.take (i + 1) = rows.take i ++ [rows.getD i []] := by rw [List.take_succ_eq_append_getElem hi, hg]
          have hrl : (rows.getD i []).length = k := hord _ (by rw [hg]; exact List.getElem_mem hi)
          generalize rows.getD i [] = row at htk hrl
          refine ⟨[some (.sh (.list (ts.map nm))), some (.sh (.list (rows.map rowD))), some (.sh (.int k)), some (.sh (.list (((rows.take i).flatMap (longer (ts.map T.name))).map rowD))), some (.sh (rowD row)), none], by cases y4 <;> rfl, ?_⟩
          have hc := lc_of (it := iSeq (pVar 0)) (g := gN 5) (t := asB (q2 niD (pVar 5) (pVar 4))) (e := q2 addD (pVar 4) (qTup (aCons (qVar 5) aNil))) (vs := [5]) (env := [some (.sh (.list (ts.map nm))), some (.sh (.list (rows.map rowD))), some (.sh (.int k)), some (.sh (.list (((rows.take i).flatMap (longer (ts.map T.name))).map rowD))), some (.sh (rowD row)), none])
            PyData.str (ts.map T.name) (fun x => !decide (x ∈ row)) (fun x => rowD (row ++ [x])) (seq_of rfl (congrArg some (nm_map ts))) (by rw [List.length_map]; exact G.lim) (fun x _ => ⟨_, rfl, asB_of (q2_of rfl rfl (congrArg (Option.map fun b => PyData.bool (!b)) (isIn_datum (α := Str) x row (by decide) (.inr rfl)))), fun _ => q2_of rfl (tup_of rfl (show 1 ≤ 16777216 by decide)) (by
              show (if _ then _ else _) = _
              rw [if_pos (by rw [List.length_map, hrl]; show k + 1 ≤ 16777216; omega)]
              unfold rowD; rw [List.map_append]; rfl)⟩)
          have hcat : addD (.list (((rows.take i).flatMap (longer (ts.map T.name))).map rowD)) (.list (((ts.map T.name).filter fun x => !decide (x ∈ row)).map fun x => rowD (row ++ [x]))) = some (.list (((rows.take (i + 1)).flatMap (longer (ts.map T.name))).map rowD)) := by
            have l1 := flat_len (ts.map T.name) (rows.take i)
            have l2 : (((ts.map T.name).filter fun x => !decide (x ∈ row)).map fun x => rowD (row ++ [x])).length ≤ 5 := by
              rw [List.length_map]
              refine Nat.le_trans (List.length_filter_le _ _) ?_
              rw [List.length_map]; exact h5
            rw [List.length_map] at l1
            have l3 : (rows.take i).length * ts.length ≤ 3125 * 5 := Nat.mul_le_mul (Nat.le_trans (by rw [List.length_take]; exact Nat.min_le_right ..) hpk) h5
            show (if _ then _ else _) = _
            rw [if_pos (by rw [List.length_map]; show _ + _ ≤ 16777216; omega), htk, List.flatMap_append, List.map_append]
            refine congrArg (fun z => some (PyData.list (List.map rowD ((rows.take i).flatMap (longer (ts.map T.name))) ++ z))) ?_
            rw [List.flatMap_singleton]
            unfold longer
            rw [List.map_map]; rfl
          exact ⟨_, set_of (q2_of rfl hc hcat) rfl, some (rowD row), rfl⟩)
      rw [List.take_length] at he2
      exact ⟨_, seq_nx (set_of (lst_of rfl (show 0 ≤ 16777216 by decide)) (by cases x3 <;> rfl)) (seq_nx (for_of rfl he2) (set_of rfl rfl)), some (.int k), some (.list ((rows.flatMap (longer (ts.map T.name))).map rowD)), y4, rfl⟩)
  exact fn_rt (seq_nx (set_of (lst_of (cons_of (tup_of rfl (show 0 ≤ 16777216 by decide)) rfl) (show 1 ≤ 16777216 by decide)) rfl) (seq_nx (for_of hr he) (ret_of rfl)))

/-! ### the table -/
def tabD (ts : List T) : List (PD × PD) := ts.map fun t => (.str t.name, tkD t)
theorem keysL_ok (ts : List T) : keysL (ts.map nm) = some (ts.map fun t => .inr t.name) := by
  induction ts with
  | nil => rfl
  | cons t ts ih => rw [List.map_cons]; unfold keysL; rw [ih]; rfl
theorem eqvS (a b : Str) : PyData.eqv (.str a) (.str b) = decide (a = b) := PySem.W.Datum.eqv (α := Str) a b
theorem mkD_ok : ∀ (ts us : List T), ((us ++ ts).map T.name).Nodup → mkD (tabD us) ((ts.map fun t => Sum.inr t.name).zip (ts.map tkD)) = tabD (us ++ ts)
  | [], us, _ => by rw [List.append_nil]; rfl
  | t :: ts, us, nd => by
    have hn : (us.any fun u => PyData.eqv (.str u.name) (.str t.name)) = false := by
      rw [List.any_eq_false]
      intro u hu
      rw [eqvS, decide_eq_true_eq]
      rw [List.map_append, List.nodup_append] at nd
      exact nd.2.2 u.name (List.mem_map_of_mem hu) t.name (by simp)
    have hp : putD (tabD us) (.inr t.name) (tkD t) = tabD (us ++ [t]) := by
      unfold putD tabD
      rw [if_neg]
      · rw [List.map_append]; rfl
      · rw [List.any_map]
        exact fun h => Bool.false_ne_true (hn.symm.trans h)
    show mkD (putD (tabD us) (.inr t.name) (tkD t)) ((ts.map fun t => Sum.inr t.name).zip (ts.map tkD)) = _
    rw [hp, mkD_ok ts (us ++ [t]) (by rw [List.append_assoc]; exact nd), List.append_assoc]; rfl
theorem findD_ok {ts : List T} (nd : (ts.map T.name).Nodup) {t : T} (h : t ∈ ts) : findD (.str t.name) (tabD ts) = some (tkD t) := by
  induction ts with
  | nil => cases h
  | cons a ts ih =>
    rw [List.map_cons, List.nodup_cons] at nd
    show (if PyData.eqv (.str a.name) (.str t.name) = true then some (tkD a) else findD (.str t.name) (tabD ts)) = _
    rw [eqvS]
    rcases List.mem_cons.mp h with rfl | h'
    · rw [if_pos (decide_eq_true rfl)]
    · rw [if_neg (fun e => nd.1 (by rw [of_decide_eq_true e]; exact List.mem_map_of_mem h'))]
      exact ih nd.2 h'
theorem tab_of {q : SE → Option (List PD)} {env : SE} {ts : List T} (G : Good ts) (h : q env = some [.list (ts.map nm), .tuple (ts.map tkD)]) : qZipD q env = some (.dict (tabD ts)) := by
  unfold qZipD
  rw [h]
  show (do let ks ← keysL (ts.map nm); pure (PyData.dict (mkD [] (ks.zip (ts.map tkD))))) = _
  rw [keysL_ok]
  show some (PyData.dict (mkD (tabD []) _)) = _
  rw [mkD_ok ts [] (by rw [List.nil_append]; exact G.nd)]; rfl

/-! ### likeness -/
inductive Lk : Nat → PD → Prop
  | int (k : Nat) (i : Int) : Lk k (.int i)
  | str (k : Nat) (x : Str) (h : joinD (.str "") (.list [.str x]) = some (.str x)) : Lk k (.str x)
  | tup (k : Nat) (ds : List PD) (hl : ds.length ≤ 1000) (h : ∀ d ∈ ds, Lk k d) : Lk (k + 1) (.tuple ds)
theorem like_ok : ∀ (k : Nat) (d : PD), Lk k d → R__law_like (k + 1) [d, d] = some (.bool true) := by
  intro k d h
  induction h with
  | int k i =>
    have hq : q2 eqD (pVar 0) (pVar 1) (startE 3 [.int i, .int i]) = some (.bool true) := q2_of rfl rfl ((eqI i i).trans (by rw [decide_eq_true rfl]))
    exact fn_rt (seq_nx (if_f rfl rfl) (seq_nx (if_f rfl rfl) (seq_nx (if_f rfl rfl) (seq_nx (if_f rfl rfl) (seq_nx (if_f rfl rfl) (ret_of (qand_t (d := .bool true) rfl rfl (qand_t (d := .bool true) rfl rfl hq))))))))
  | str k x h =>
    have hq : q2 eqD (q2 joinD (qC (.str "")) (qLst (aCons (qVar 0) aNil))) (pVar 1) (startE 3 [.str x, .str x]) = some (.bool true) := q2_of (q2_of rfl (lst_of rfl (show 1 ≤ 16777216 by decide)) h) rfl ((eqS x x).trans (by rw [decide_eq_true rfl]))
    exact fn_rt (seq_nx (if_f rfl rfl) (seq_nx (if_f rfl rfl) (seq_nx (if_f rfl rfl) (seq_nx (if_f rfl rfl) (seq_rt (if_t rfl (ret_of (qand_t (d := .bool true) rfl rfl hq))))))))
  | tup k ds hl h ih =>
    have hr : iRng1 (aCons (qCall lenD (aCons (pVar 1) aNil)) aNil) (startE 3 [.tuple ds, .tuple ds]) = some ((List.range ds.length).map fun (i : Nat) => PyData.int i) := by
      rw [rng1_of (j := ((ds.length : Nat) : Int)) rfl (by omega) (by omega), rng_len]
    have hc := lc_of (g := gN 2) (t := tNotB (tru (qCall (fun ds => if ds.length = 2 then R__law_like (k + 1) ds else none) (aCons (q2 getD' (pVar 0) (pVar 2)) (aCons (q2 getD' (pVar 1) (pVar 2)) aNil))))) (e := qC (.int 1)) (vs := [2])
      (fun (i : Nat) => PyData.int i) (List.range ds.length) (fun _ => false) (fun _ => .int 1) hr (by rw [List.length_range]; exact Nat.le_trans hl (by decide)) (fun i hi => by
        have hi := List.mem_range.mp hi
        have hg : getD' (.tuple ds) (.int i) = some ds[i] := (atI_nat i).trans (List.getElem?_eq_getElem hi)
        exact ⟨_, rfl, notB_of (b := true) (tru_of (calln (cons_of (q2_of rfl rfl hg) (cons_of (q2_of rfl rfl hg) rfl)) rfl (ih _ (List.getElem_mem hi))) rfl), fun h => absurd h Bool.false_ne_true⟩)
    rw [List.filter_eq_nil_iff.mpr fun _ _ => Bool.false_ne_true] at hc
    refine fn_rt (seq_rt (if_t rfl (seq_nx (if_f (or_f rfl (asB_of (q2_of rfl rfl ((neI _ _).trans (by rw [decide_eq_true rfl]; rfl))))) rfl) (ret_of (q2_of hc (lst_of rfl (show 0 ≤ 16777216 by decide)) rfl)))))
end K12
end
section
set_option Elab.async false
set_option linter.all false
/-! Law k12, plain: digits, draws, tasks. -/
namespace K12
open PySem D

theorem ltI (a b : Int) : ltD (.int a) (.int b) = some (.bool (decide (a < b))) := by
  have hok : ltOk (.int a) (.int b) = true := by
    unfold ltOk
    rw [show PySem.W.alike (.int a) (.int b) = true by simp only [PySem.W.alike]]
    rfl
  unfold ltD
  rw [if_pos hok, PySem.W.dataLt_int]
theorem gtI (a b : Int) : gtD (.int a) (.int b) = some (.bool (decide (b < a))) := rfl
theorem geI (a b : Int) : geD (.int a) (.int b) = some (.bool (decide (b ≤ a))) := rfl
theorem frz_of {i : Nat} {f : DS} {env e1 : SE} {o : Option Out} (h : frz i env = e1) (h2 : f e1 = o) : dFrz i f env = o := by
  unfold dFrz; rw [h]; exact h2
theorem mul_l {i j : Int} (h : 0 ≤ i) (h2 : i < 1000000000) : mulD (.int i) (.int j) = some (.int (i * j)) := by
  show (if mulI i j = true then _ else _) = _
  rw [if_pos]
  unfold mulI
  rw [Bool.or_eq_true, Bool.and_eq_true, decide_eq_true_eq, decide_eq_true_eq]
  left; omega
theorem mul_r {i j : Int} (h : 0 ≤ j) (h2 : j < 1000000000) : mulD (.int i) (.int j) = some (.int (i * j)) := by
  show (if mulI i j = true then _ else _) = _
  rw [if_pos]
  unfold mulI
  rw [Bool.or_eq_true, Bool.and_eq_true, Bool.and_eq_true, decide_eq_true_eq, decide_eq_true_eq, decide_eq_true_eq, decide_eq_true_eq]
  right; omega
theorem mod_ok {i j : Int} (h : 0 < j) : modD (.int i) (.int j) = some (.int (i % j)) := if_pos h
theorem get_int (xs : List Int) {i : Nat} (h : i < xs.length) : getD' (.list (xs.map .int)) (.int i) = some (.int xs[i]) := by
  show L2.atI _ _ = _
  rw [atI_nat, List.getElem?_map, List.getElem?_eq_getElem h]; rfl

/-! ### draws -/
def boxD (ds : List Int) (k : Nat) : PD := .list [.list (ds.map .int), .int k]
theorem draw_ok (ds : List Int) (k : Nat) {many : Int} (hm : 0 < many) : ∃ r : Int, 0 ≤ r ∧ r < many ∧ F__law_draw [boxD ds k, .int many] = some (.int r, boxD ds (k + 1)) := by
  have hs : dSetIx 0 (qC (.int 1)) (q2 addD (pVar 2) (qC (.int 1))) [some (.io (boxD ds k)), some (.sh (.int many)), some (.sh (.int k))] = some (.nx [some (.io (boxD ds (k + 1))), some (.sh (.int many)), some (.sh (.int k))]) := rfl
  have hb := asB_of (q2_of (f := ltD) (p := pVar 2) (q := qCall lenD (aCons (q2 getD' (pVar 0) (qC (.int 0))) aNil)) (env := [some (.io (boxD ds (k + 1))), some (.sh (.int many)), some (.sh (.int k))]) rfl rfl (ltI k (ds.map PyData.int).length))
  rw [List.length_map] at hb
  by_cases h : k < ds.length
  · rw [decide_eq_true (by omega)] at hb
    refine ⟨ds[k] % many, Int.emod_nonneg _ (by omega), Int.emod_lt_of_pos _ hm, ?_⟩
    show outIO 0 (f__law_draw [some (.io (boxD ds k)), some (.sh (.int many)), none]) = _
    have hf : f__law_draw [some (.io (boxD ds k)), some (.sh (.int many)), none] = some (.rt (.int (ds[k] % many)) [some (.io (boxD ds (k + 1))), some (.sh (.int many)), some (.sh (.int k))]) :=
      seq_nx (set_of rfl rfl) (seq_nx hs (seq_rt (if_t hb (ret_of (q2_of (call_of (cons_of (q2_of rfl rfl (get_int ds h)) rfl) rfl) rfl (mod_ok hm))))))
    rw [hf]; rfl
  · rw [decide_eq_false (by omega)] at hb
    refine ⟨(k : Int) * 7 % many, Int.emod_nonneg _ (by omega), Int.emod_lt_of_pos _ hm, ?_⟩
    show outIO 0 (f__law_draw [some (.io (boxD ds k)), some (.sh (.int many)), none]) = _
    have hf : f__law_draw [some (.io (boxD ds k)), some (.sh (.int many)), none] = some (.rt (.int ((k : Int) * 7 % many)) [some (.io (boxD ds (k + 1))), some (.sh (.int many)), some (.sh (.int k))]) :=
      seq_nx (set_of rfl rfl) (seq_nx hs (seq_nx (if_f hb rfl) (ret_of (q2_of (call_of (cons_of (q2_of rfl rfl (mul_r (by decide) (by decide))) rfl) rfl) rfl (mod_ok hm)))))
    rw [hf]; rfl
theorem eIO_of {i n : Nat} {g : List PD → Option (PD × PD)} {q : SE → Option (List PD)} {env : SE} {d0 d d' : PD} {ds : List PD} (h : mineD i env = some d0) (h2 : q env = some ds) (hn : ds.length + 1 = n) (h3 : g (d0 :: ds) = some (d, d')) :
    eIO i n g q env = some (d, putM i d' env) := by
  unfold eIO
  simp only [h, h2, if_pos hn, h3]
theorem e2_of {f : PD → PD → Option PD} {p q : Ed} {env e1 e3 : SE} {d e z : PD} (h : p env = some (d, e1)) (h2 : q e1 = some (e, e3)) (h3 : f d e = some z) : e2 f p q env = some (z, e3) := by
  unfold e2
  simp only [h, h2, h3]; rfl
theorem eaCons_of {f : Ed} {r : Eds} {env e1 e2 : SE} {d : PD} {ds : List PD} (h : f env = some (d, e1)) (h2 : r e1 = some (ds, e2)) : eaCons f r env = some (d :: ds, e2) := by
  unfold eaCons
  simp only [h, h2]
theorem eFn_of {f : List PD → Option PD} {r : Eds} {env e1 : SE} {ds : List PD} {z : PD} (h : r env = some (ds, e1)) (h2 : f ds = some z) : eFn f r env = some (z, e1) := by
  unfold eFn
  simp only [h, h2]; rfl
theorem eQ_of {q : Qd} {env : SE} {d : PD} (h : q env = some d) : eQ q env = some (d, env) := by
  unfold eQ; rw [h]; rfl
theorem setE_of {i : Nat} {f : Ed} {env e : SE} {d : PD} (h : f env = some (d, e)) (hf : free i e = true) : dSetE i f env = some (.nx (e.set i (some (.sh d)))) := by
  unfold dSetE; simp only [h]; rw [if_pos hf]
theorem appE_of {i : Nat} {f : Ed} {env e1 : SE} {d : PD} {ds ds0 : List PD} (h : f env = some (d, e1)) (h2 : mineD i e1 = some (.list ds)) (h3 : mineD i env = some (.list ds0)) (hl : ds.length < LIM) : dAppE i f env = some (.nx (putM i (.list (ds ++ [d])) e1)) := by
  unfold dAppE; simp only [h, h2, h3]; rw [if_pos hl]

def nam' (i : Nat) : Str := match i with
  | 0 => "b" | 1 => "a" | 2 => "c" | 3 => "e" | _ => "d"
theorem nam'_five (i : Nat) : ∃ j : Fin 5, nam' i = nam j := by
  match i with
  | 0 => exact ⟨0, rfl⟩
  | 1 => exact ⟨1, rfl⟩
  | 2 => exact ⟨2, rfl⟩
  | 3 => exact ⟨3, rfl⟩
  | (n + 4) => exact ⟨4, rfl⟩
theorem nam_facts (j : Fin 5) : PyData.canLay0 (.str (nam j)) = true ∧ joinD (.str "") (.list [.str (nam j)]) = some (.str (nam j)) := by
  match j with
  | 0 => exact ⟨by kernel_rfl, by kernel_rfl⟩
  | 1 => exact ⟨by kernel_rfl, by kernel_rfl⟩
  | 2 => exact ⟨by kernel_rfl, by kernel_rfl⟩
  | 3 => exact ⟨by kernel_rfl, by kernel_rfl⟩
  | 4 => exact ⟨by kernel_rfl, by kernel_rfl⟩
theorem tasks_ok (ds : List Int) (k : Nat) : ∃ (ts : List T) (k' : Nat), Good ts ∧ 2 ≤ ts.length ∧ F__law_tasks [boxD ds k] = some (.tuple (ts.map tkD), boxD ds k') := by
  obtain ⟨r, hr0, hr4, hr⟩ := draw_ok ds k (many := 4) (by decide)
  obtain ⟨n, hn, hn2, hn5⟩ : ∃ n : Nat, (2 + r : Int) = n ∧ 2 ≤ n ∧ n ≤ 5 := ⟨(2 + r).toNat, by omega, by omega, by omega⟩
  have hcut : sliceD (.list [.str "b", .str "a", .str "c", .str "e", .str "d"]) none (some (2 + r)) = some (.list ((List.range n).map fun i => .str (nam' i))) := by
    rw [hn]
    have : n = 2 ∨ n = 3 ∨ n = 4 ∨ n = 5 := by omega
    rcases this with rfl | rfl | rfl | rfl <;> kernel_rfl
  have hnd : ((List.range n).map nam').Nodup := by
    have : n = 2 ∨ n = 3 ∨ n = 4 ∨ n = 5 := by omega
    rcases this with rfl | rfl | rfl | rfl <;> decide +kernel
  have hit : eSl (qLst (aCons (qC (.str "b")) (aCons (qC (.str "a")) (aCons (qC (.str "c")) (aCons (qC (.str "e")) (aCons (qC (.str "d")) aNil)))))) (e2 addD (eQ (qC (.int 2))) (eIO 0 2 F__law_draw (aCons (qC (.int 4)) aNil))) [some (.io (boxD ds k)), some (.ow (.list [])), none, none, none]
      = some (.list ((List.range n).map fun i => .str (nam' i)), [some (.io (boxD ds (k + 1))), some (.ow (.list [])), none, none, none]) := by
    have h1 : e2 addD (eQ (qC (.int 2))) (eIO 0 2 F__law_draw (aCons (qC (.int 4)) aNil)) [some (.io (boxD ds k)), some (.ow (.list [])), none, none, none] = some (.int (2 + r), [some (.io (boxD ds (k + 1))), some (.ow (.list [])), none, none, none]) :=
      e2_of rfl (eIO_of rfl rfl rfl hr) rfl
    have h2 : qLst (aCons (qC (.str "b")) (aCons (qC (.str "a")) (aCons (qC (.str "c")) (aCons (qC (.str "e")) (aCons (qC (.str "d")) aNil))))) [some (.io (boxD ds k)), some (.ow (.list [])), none, none, none] = some (.list [.str "b", .str "a", .str "c", .str "e", .str "d"]) := lst_of rfl (show 5 ≤ 16777216 by decide)
    unfold eSl
    simp only [h2, h1, hcut]; rfl
  obtain ⟨e, he, ts, k', x2, x3, x4, hl, hnames, hok, rfl⟩ := forL_all (f := fun i => .str (nam' i)) (n := n) (ds := (List.range n).map fun i => .str (nam' i)) (g := gN 2) (b := L__law_tasks_1) (env := [some (.io (boxD ds (k + 1))), some (.ow (.list [])), none, none, none])
    (fun i env => ∃ (ts : List T) (k' : Nat) (x2 x3 x4 : Option PD), ts.length = i ∧ ts.map T.name = (List.range i).map nam' ∧ (∀ t ∈ ts, t.Ok) ∧ env = [some (.io (boxD ds k')), some (.ow (.list (ts.map tkD))), x2.map .sh, x3.map .sh, x4.map .sh])
    rfl ⟨[], k + 1, none, none, none, rfl, rfl, (fun t h => by cases h), rfl⟩ (by
      rintro i hi env ⟨ts, k', x2, x3, x4, hl, hnames, hok, rfl⟩
      obtain ⟨a, a0, a3, ha⟩ := draw_ok ds k' (many := 3) (by decide)
      obtain ⟨b, b0, b7, hb⟩ := draw_ok ds (k' + 1) (many := 7) (by decide)
      obtain ⟨c, c0, c5, hc⟩ := draw_ok ds (k' + 2) (many := 5) (by decide)
      obtain ⟨d, d0, d1, hd⟩ := draw_ok ds (k' + 3) (many := 1 + a) (by omega)
      let t : T := ⟨nam' i, min 20 (1 + a + b + c), 1 + a + b, 1 + d, 1 + a⟩
      obtain ⟨j, hj⟩ := nam'_five i
      have ht : t.Ok := ⟨⟨j, hj⟩, by show 1 ≤ 1 + a; omega, by show 1 + a ≤ 3; omega, by show 1 + a ≤ 1 + a + b; omega, by show 1 + a + b ≤ 9; omega, by show 1 + a + b ≤ min 20 (1 + a + b + c); omega, by show min 20 (1 + a + b + c) ≤ 20; omega, by show PyData.canLay0 (.str (nam' i)) = true; rw [hj]; exact (nam_facts j).1⟩
      refine ⟨[some (.io (boxD ds k')), some (.ow (.list (ts.map tkD))), some (.sh (.str (nam' i))), x3.map .sh, x4.map .sh], by cases x2 <;> rfl, [some (.io (boxD ds (k' + 4))), some (.ow (.list ((ts ++ [t]).map tkD))), some (.sh (.str (nam' i))), some (.sh (.int (1 + a))), some (.sh (.int (1 + a + b)))], ?_, ts ++ [t], k' + 4, some (.str (nam' i)), some (.int (1 + a)), some (.int (1 + a + b)), by rw [List.length_append, hl]; rfl, by rw [List.map_append, hnames, List.range_succ, List.map_append]; rfl, fun u hu => ?_, rfl⟩
      · have s1 : dSetE 3 (e2 addD (eQ (qC (.int 1))) (eIO 0 2 F__law_draw (aCons (qC (.int 3)) aNil))) [some (.io (boxD ds k')), some (.ow (.list (ts.map tkD))), some (.sh (.str (nam' i))), x3.map .sh, x4.map .sh] = some (.nx [some (.io (boxD ds (k' + 1))), some (.ow (.list (ts.map tkD))), some (.sh (.str (nam' i))), some (.sh (.int (1 + a))), x4.map .sh]) :=
          setE_of (e := [some (.io (boxD ds (k' + 1))), some (.ow (.list (ts.map tkD))), some (.sh (.str (nam' i))), x3.map .sh, x4.map .sh]) (e2_of rfl (eIO_of rfl rfl rfl ha) rfl) (by cases x3 <;> rfl)
        have s2 : dSetE 4 (e2 addD (eQ (qVar 3)) (eIO 0 2 F__law_draw (aCons (qC (.int 7)) aNil))) [some (.io (boxD ds (k' + 1))), some (.ow (.list (ts.map tkD))), some (.sh (.str (nam' i))), some (.sh (.int (1 + a))), x4.map .sh] = some (.nx [some (.io (boxD ds (k' + 2))), some (.ow (.list (ts.map tkD))), some (.sh (.str (nam' i))), some (.sh (.int (1 + a))), some (.sh (.int (1 + a + b)))]) :=
          setE_of (e := [some (.io (boxD ds (k' + 2))), some (.ow (.list (ts.map tkD))), some (.sh (.str (nam' i))), some (.sh (.int (1 + a))), x4.map .sh]) (e2_of rfl (eIO_of rfl rfl rfl hb) rfl) (by cases x4 <;> rfl)
        have s3 := appE_of (i := 1) (d := tkD t) (ds := ts.map tkD) (ds0 := ts.map tkD) (e1 := [some (.io (boxD ds (k' + 4))), some (.ow (.list (ts.map tkD))), some (.sh (.str (nam' i))), some (.sh (.int (1 + a))), some (.sh (.int (1 + a + b)))]) (env := [some (.io (boxD ds (k' + 2))), some (.ow (.list (ts.map tkD))), some (.sh (.str (nam' i))), some (.sh (.int (1 + a))), some (.sh (.int (1 + a + b)))])
          (f := eFn (fun ds => if ds.length ≤ LIM then some (.tuple ds) else none) (eaCons (eQ (qVar 2)) (eaCons (eQ (qC (.str "any"))) (eaCons (eQ (qC (.int 0))) (eaCons (eFn minD (eaCons (eQ (qC (.int 20))) (eaCons (e2 addD (eQ (qVar 4)) (eIO 0 2 F__law_draw (aCons (qC (.int 5)) aNil))) eaNil))) (eaCons (eQ (qVar 4)) (eaCons (e2 addD (eQ (qC (.int 1))) (eIO 0 2 F__law_draw (aCons (qVar 3) aNil))) (eaCons (eQ (qVar 3)) eaNil))))))))
          (eFn_of (ds := [.str (nam' i), .str "any", .int 0, .int (min 20 (1 + a + b + c)), .int (1 + a + b), .int (1 + d), .int (1 + a)]) (eaCons_of rfl (eaCons_of rfl (eaCons_of rfl (eaCons_of (e1 := [some (.io (boxD ds (k' + 3))), some (.ow (.list (ts.map tkD))), some (.sh (.str (nam' i))), some (.sh (.int (1 + a))), some (.sh (.int (1 + a + b)))]) (eFn_of (eaCons_of rfl (eaCons_of (e2_of rfl (eIO_of rfl rfl rfl hc) rfl) rfl)) rfl) (eaCons_of rfl (eaCons_of (e2_of rfl (eIO_of rfl rfl rfl hd) rfl) rfl)))))) (if_pos (show 7 ≤ 16777216 by decide))) rfl rfl (by rw [List.length_map, hl]; exact Nat.lt_of_lt_of_le (Nat.lt_of_lt_of_le hi hn5) (by decide))
        refine seq_nx s1 (seq_nx s2 (s3.trans ?_))
        rw [List.map_append]; rfl
      · rcases List.mem_append.mp hu with h | h
        · exact hok u h
        · rw [List.mem_singleton] at h; rw [h]; exact ht)
  refine ⟨ts, k', ⟨hok, by rw [hnames]; exact hnd, by rw [hl]; exact hn5⟩, by rw [hl]; exact hn2, ?_⟩
  have hfor : dForE (eSl (qLst (aCons (qC (.str "b")) (aCons (qC (.str "a")) (aCons (qC (.str "c")) (aCons (qC (.str "e")) (aCons (qC (.str "d")) aNil)))))) (e2 addD (eQ (qC (.int 2))) (eIO 0 2 F__law_draw (aCons (qC (.int 4)) aNil)))) (gN 2) L__law_tasks_1 [some (.io (boxD ds k)), some (.ow (.list [])), none, none, none] = some (.nx [some (.io (boxD ds k')), some (.ow (.list (ts.map tkD))), x2.map .sh, x3.map .sh, x4.map .sh]) := by
    unfold dForE
    simp only [hit]
    exact he
  show outIO 0 (f__law_tasks [some (.io (boxD ds k)), none, none, none, none]) = _
  have hf : f__law_tasks [some (.io (boxD ds k)), none, none, none, none] = some (.rt (.tuple (ts.map tkD)) [some (.io (boxD ds k')), some (.ow (.list (ts.map tkD))), x2.map .sh, x3.map .sh, x4.map .sh]) :=
    seq_nx (setF_of rfl rfl) (seq_nx hfor (ret_of rfl))
  rw [hf]; rfl

/-! ### digits -/
theorem cell_ok (ns : List Int) (k : Nat) : ∃ c : Int, F__law_cell [.list (ns.map .int), .int k] = some (.int c) := by
  have hb := asB_of (q2_of (f := ltD) (p := pVar 1) (q := qCall lenD (aCons (pVar 0) aNil)) (env := startE 2 [.list (ns.map .int), .int k]) rfl rfl (ltI k (ns.map PyData.int).length))
  rw [List.length_map] at hb
  by_cases h : k < ns.length
  · rw [decide_eq_true (by omega)] at hb
    exact ⟨ns[k], fn_rt (seq_rt (if_t hb (ret_of (q2_of rfl rfl (get_int ns h)))))⟩
  · rw [decide_eq_false (by omega)] at hb
    exact ⟨0, fn_rt (seq_nx (if_f hb rfl) (ret_of rfl))⟩
theorem digits_ok (ns : List Int) : ∃ ds : List Int, F__law_digits [.list (ns.map .int), .int 0, .int 6] = some (.list (ds.map .int)) := by
  have snoc : ∀ (ds : List Int) (x : Int), ds.map PyData.int ++ [.int x] = (ds ++ [x]).map .int := fun ds x => by rw [List.map_append]; rfl
  let V : List Int → Int → Int → Option PD → Option PD → SE := fun ds k c x6 x7 => [some (.sh (.list (ns.map .int))), some (.sh (.int 0)), some (.sh (.int 6)), some (.ow (.list (ds.map .int))), some (.sh (.int k)), some (.sh (.int c)), x6.map .sh, x7.map .sh]
  have r60 : ∀ env, iRng1 (aCons (qC (.int 60)) aNil) env = some ((List.range 60).map fun (i : Nat) => PyData.int (0 + (i : Nat))) := fun env => rng1_of (j := 60) rfl (by decide) (by decide)
  have r12 : ∀ env, iRng1 (aCons (qC (.int 12)) aNil) env = some ((List.range 12).map fun (i : Nat) => PyData.int (0 + (i : Nat))) := fun env => rng1_of (j := 12) rfl (by decide) (by decide)
  -- a big cell
  have big : ∀ (k : Int) (ds : List Int) (c : Int) (x6 x7 : Option PD), ds.length ≤ 1000 → ∃ ds' c' x6' x7', dFor (iRng1 (aCons (qC (.int 60)) aNil)) (gN 6) L__law_digits_1 (V ds k c x6 x7) = some (.nx (V ds' k c' x6' x7')) ∧ ds'.length ≤ ds.length + 60 := by
    intro k ds c x6 x7 hl
    obtain ⟨e, he, ds', c', y6, hl', rfl⟩ := forL_all (f := fun i => .int (0 + (i : Nat))) (n := 60) (ds := (List.range 60).map fun (i : Nat) => PyData.int (0 + (i : Nat))) (g := gN 6) (b := L__law_digits_1) (env := V ds k c x6 x7)
      (fun i env => ∃ ds' c' x6', ds'.length ≤ ds.length + i ∧ env = V ds' k c' x6' x7) rfl ⟨ds, c, x6, Nat.le_refl _, rfl⟩ (by
        rintro i hi env ⟨ds', c', x6', hl', rfl⟩
        refine ⟨V ds' k c' (some (.int (0 + (i : Nat)))) x7, by cases x6' <;> rfl, ?_⟩
        have hb := asB_of (q2_of (f := gtD) (p := pVar 5) (q := qC (.int 0)) (env := V ds' k c' (some (.int (0 + (i : Nat)))) x7) rfl rfl (gtI _ _))
        by_cases h : 0 < c'
        · rw [decide_eq_true h] at hb
          refine ⟨V (ds' ++ [c' % 1000]) k (c' / 1000) (some (.int (0 + (i : Nat)))) x7, if_t hb (seq_nx (app_of rfl (q2_of (call_of (cons_of rfl rfl) rfl) rfl (mod_ok (by decide))) (by rw [List.length_map]; exact Nat.lt_of_le_of_lt hl' (Nat.lt_of_le_of_lt (Nat.add_le_add hl (Nat.le_of_lt hi)) (by decide)))) ((set_of (q2_of rfl rfl (fdiv_ok (by decide) (by decide))) rfl).trans ?_)), ds' ++ [c' % 1000], c' / 1000, _, ?_, rfl⟩
          · rw [snoc]; rfl
          · rw [List.length_append]; show _ + 1 ≤ _; omega
        · rw [decide_eq_false h] at hb
          exact ⟨_, if_f hb rfl, ds', c', _, by omega, rfl⟩)
    exact ⟨ds', c', y6, x7, for_of (r60 _) he, hl'⟩
  have small : ∀ (k : Int) (ds : List Int) (c s : Int) (x6 : Option PD), ds.length ≤ 1000 → ∃ ds' x6' x7', dFor (iRng1 (aCons (qC (.int 12)) aNil)) (gN 6) L__law_digits_2 (V ds k c x6 (some (.int s))) = some (.nx (V ds' k c x6' x7')) ∧ ds'.length ≤ ds.length + 12 := by
    intro k ds c s x6 hl
    obtain ⟨e, he, ds', s', y6, hl', rfl⟩ := forL_all (f := fun i => .int (0 + (i : Nat))) (n := 12) (ds := (List.range 12).map fun (i : Nat) => PyData.int (0 + (i : Nat))) (g := gN 6) (b := L__law_digits_2) (env := V ds k c x6 (some (.int s)))
      (fun i env => ∃ ds' s' x6', ds'.length ≤ ds.length + i ∧ env = V ds' k c x6' (some (.int s'))) rfl ⟨ds, s, x6, Nat.le_refl _, rfl⟩ (by
        rintro i hi env ⟨ds', s', x6', hl', rfl⟩
        refine ⟨V ds' k c (some (.int (0 + (i : Nat)))) (some (.int s')), by cases x6' <;> rfl, ?_⟩
        refine ⟨V (ds' ++ [(s' * 16807 + 7 * (0 + (i : Nat)) + 1) % 2147483647 / 997 % 1000]) k c (some (.int (0 + (i : Nat)))) (some (.int ((s' * 16807 + 7 * (0 + (i : Nat)) + 1) % 2147483647))), seq_nx (set_of (d := .int ((s' * 16807 + 7 * (0 + (i : Nat)) + 1) % 2147483647)) (q2_of (call_of (cons_of (q2_of (q2_of (q2_of rfl rfl (mul_r (by decide) (by decide))) (q2_of rfl rfl (mul_l (by decide) (by decide))) rfl) rfl rfl) rfl) rfl) rfl (mod_ok (by decide))) rfl)
          ((app_of (ds := ds'.map .int) rfl (q2_of (call_of (cons_of (q2_of rfl rfl (fdiv_ok (i := (s' * 16807 + 7 * (0 + (i : Nat)) + 1) % 2147483647) (by decide) (by decide))) rfl) rfl) rfl (mod_ok (by decide))) (by rw [List.length_map]; exact Nat.lt_of_le_of_lt hl' (Nat.lt_of_le_of_lt (Nat.add_le_add hl (Nat.le_of_lt hi)) (by decide)))).trans ?_), _, _, _, ?_, rfl⟩
        · rw [snoc]; rfl
        · rw [List.length_append]; show _ + 1 ≤ _; omega)
    exact ⟨ds', y6, some (.int s'), for_of (r12 _) he, hl'⟩
  have hpow : ∀ env, q2 powD (qC (.int 10)) (qC (.int 18)) env = some (.int 1000000000000000000) := fun env => by kernel_rfl
  obtain ⟨e, he, ds, x4, x5, x6, x7, hl, rfl⟩ := forL_all (f := fun i => .int (0 + (i : Nat))) (n := 6) (ds := (List.range 6).map fun (i : Nat) => PyData.int (0 + (i : Nat))) (g := gN 4) (b := L__law_digits_3) (env := [some (.sh (.list (ns.map .int))), some (.sh (.int 0)), some (.sh (.int 6)), some (.ow (.list [])), none, none, none, none])
    (fun i env => ∃ (ds : List Int) (x4 x5 x6 x7 : Option PD), ds.length ≤ 60 * i ∧ env = [some (.sh (.list (ns.map .int))), some (.sh (.int 0)), some (.sh (.int 6)), some (.ow (.list (ds.map .int))), x4.map .sh, x5.map .sh, x6.map .sh, x7.map .sh]) rfl ⟨[], none, none, none, none, Nat.zero_le _, rfl⟩ (by
      rintro i hi env ⟨ds, x4, x5, x6, x7, hl, rfl⟩
      obtain ⟨c0, hc0⟩ := cell_ok ns i
      rw [show (i : Int) = 0 + (i : Int) from (Int.zero_add _).symm] at hc0
      refine ⟨[some (.sh (.list (ns.map .int))), some (.sh (.int 0)), some (.sh (.int 6)), some (.ow (.list (ds.map .int))), some (.sh (.int (0 + (i : Nat)))), x5.map .sh, x6.map .sh, x7.map .sh], by cases x4 <;> rfl, ?_⟩
      have s1 : dSet 5 (qCall (fun ds => if ds.length = 2 then F__law_cell ds else none) (aCons (qVar 0) (aCons (qVar 4) aNil))) [some (.sh (.list (ns.map .int))), some (.sh (.int 0)), some (.sh (.int 6)), some (.ow (.list (ds.map .int))), some (.sh (.int (0 + (i : Nat)))), x5.map .sh, x6.map .sh, x7.map .sh] = some (.nx (V ds (0 + (i : Nat)) c0 x6 x7)) :=
        set_of (calln rfl rfl hc0) (by cases x5 <;> rfl)
      have s2 : ∃ c, dIf (asB (q2 ltD (pVar 5) (qC (.int 0)))) (dSet 5 (q2 subD (qC (.int 1)) (q2 mulD (qC (.int 2)) (pVar 5)))) dNil (V ds (0 + (i : Nat)) c0 x6 x7) = some (.nx (V ds (0 + (i : Nat)) c x6 x7)) := by
        have hb := asB_of (q2_of (f := ltD) (p := pVar 5) (q := qC (.int 0)) (env := V ds (0 + (i : Nat)) c0 x6 x7) rfl rfl (ltI c0 0))
        by_cases h : c0 < 0
        · rw [decide_eq_true h] at hb
          exact ⟨1 - 2 * c0, if_t hb (set_of (q2_of rfl (q2_of rfl rfl (mul_l (by decide) (by decide))) rfl) rfl)⟩
        · rw [decide_eq_false h] at hb
          exact ⟨c0, if_f hb rfl⟩
      obtain ⟨c, s2⟩ := s2
      have s3 : dIf (asB (q2 gtD (qCall lenD (aCons (pVar 3) aNil)) (qC (.int 1500)))) dBk dNil (V ds (0 + (i : Nat)) c x6 x7) = some (.nx (V ds (0 + (i : Nat)) c x6 x7)) := by
        refine if_f (asB_of (q2_of rfl rfl (congrArg (fun b => some (PyData.bool b)) (decide_eq_false ?_)))) rfl
        rw [List.length_map]; omega
      have hb := asB_of (q2_of (f := geD) (p := pVar 5) (q := q2 powD (qC (.int 10)) (qC (.int 18))) (env := V ds (0 + (i : Nat)) c x6 x7) rfl (hpow _) (geI _ _))
      by_cases h : 1000000000000000000 ≤ c
      · rw [decide_eq_true h] at hb
        obtain ⟨ds', c', y6, y7, h1, h2⟩ := big (0 + (i : Nat)) ds c x6 x7 (by omega)
        exact ⟨_, seq_nx s1 (seq_nx s2 (seq_nx s3 (if_t hb h1))), ds', some (.int (0 + (i : Nat))), some (.int c'), y6, y7, by omega, rfl⟩
      · rw [decide_eq_false h] at hb
        obtain ⟨ds', y6, y7, h1, h2⟩ := small (0 + (i : Nat)) ds c ((c * 48271 + (0 + (i : Nat)) * 69621 + 11) % 2147483647) x6 (by omega)
        refine ⟨_, seq_nx s1 (seq_nx s2 (seq_nx s3 (if_f hb (seq_nx (e := V ds (0 + (i : Nat)) c x6 (some (.int ((c * 48271 + (0 + (i : Nat)) * 69621 + 11) % 2147483647)))) ?_ h1)))), ds', some (.int (0 + (i : Nat))), some (.int c), y6, y7, by omega, rfl⟩
        exact set_of (q2_of (call_of (cons_of (q2_of (q2_of (q2_of rfl rfl (mul_r (by decide) (by decide))) (q2_of rfl rfl (mul_r (by decide) (by decide))) rfl) rfl rfl) rfl) rfl) rfl (mod_ok (by decide))) (by cases x7 <;> rfl))
  exact ⟨ds, fn_rt (seq_nx (setF_of rfl rfl) (seq_nx (for_of (rng2_of rfl (by decide) (by decide) (by decide) (by decide)) he) (frz_of (e1 := [some (.sh (.list (ns.map .int))), some (.sh (.int 0)), some (.sh (.int 6)), some (.sh (.list (ds.map .int))), x4.map .sh, x5.map .sh, x6.map .sh, x7.map .sh]) rfl (ret_of rfl))))⟩
end K12
end
section
set_option Elab.async false
set_option linter.all false
/-! Law k12, plain: the law itself, stage by stage. -/
namespace K12
open PySem D

noncomputable def G1 : DS := (dSetF 1 (qLst (aCons (qCall (fun ds => if ds.length = 3 then F__law_digits ds else none) (aCons (qVar 0) (aCons (qC (.int 0)) (aCons (qC (.int 6)) aNil)))) (aCons (qC (.int 0)) aNil))))
noncomputable def G2 : DS := (dGetE (gT 2 (gsCons (gN 2) (gsCons (gN 3) gsNil))) (eFn (fun ds => if ds.length ≤ LIM then some (.tuple ds) else none) (eaCons (eIO 1 1 F__law_tasks aNil) (eaCons (e2 getD' (eQ (qLst (aCons (qTup (aCons (qC (.int 1)) aNil)) (aCons (qTup (aCons (qC (.int 1)) aNil)) (aCons (qTup (aCons (qC (.int 1)) (aCons (qC (.int 1)) (aCons (qC (.int 0)) aNil)))) (aCons (qTup (aCons (qC (.int 1)) (aCons (qC (.int 0)) aNil))) aNil)))))) (eIO 1 2 F__law_draw (aCons (qC (.int 4)) aNil))) eaNil))))
noncomputable def G3 : DS := (dSet 4 (dLc (iSeq (pVar 2)) (gN 20) tYesD (q2 getD' (pVar 20) (qC (.int 0))) [20]))
noncomputable def G4 : DS := (dPar [5, 6] (mCons false (qTup (aCons (qC (.str "system")) (aCons (qC (.int 1)) (aCons (qC (.str "fixed")) (aCons (qC (.bool true)) (aCons (qVar 3) (aCons (qVar 2) (aCons (qTup aNil) aNil)))))))) (mCons false (dLc (iRng1 (aCons (qCall lenD (aCons (pVar 2) aNil)) aNil)) (gN 8) tYesD (qCall (fun ds => if ds.length = 3 then F__law_time ds else none) (aCons (q2 getD' (pVar 2) (pVar 8)) (aCons (qSl (pVar 2) none (some (pVar 8))) (aCons (qVar 3) aNil)))) [8]) mNil)))
noncomputable def G5 : DS := (dSet 7 (qCall (fun ds => if ds.length = 1 then F_timed ds else none) (aCons (qVar 5) aNil)))
noncomputable def G6 : DS := (dIf (asB (q2 inD (qC .none) (pVar 6))) (dIf (tNotB (tru (qCall (fun ds => if ds.length = 2 then F__law_like ds else none) (aCons (qVar 7) (aCons (qTup (aCons (qC (.str "over")) (aCons (q2 getD' (pVar 4) (q2 idxD (pVar 6) (qC .none))) aNil))) aNil))))) (dRet (qC (.bool false))) dNil) (dIf (tOrB (tNotB (tru (qCall (fun ds => if ds.length = 2 then F__law_like ds else none) (aCons (qVar 7) (aCons (qTup (aCons (qC (.str "meets")) (aCons (qTup (aCons (qC (.str "times")) (aCons (qZipT (aCons (pVar 4) (aCons (pVar 6) aNil))) aNil))) aNil))) aNil))))) (asB (q2 isnD (qCall (fun ds => if ds.length = 2 then F_check ds else none) (aCons (qVar 5) (aCons (qVar 7) aNil))) (qC (.bool true))))) (dRet (qC (.bool false))) dNil))
noncomputable def G7 : DS := (dFor (iRng1 (aCons (qIf (asB (q2 niD (qC .none) (pVar 6))) (qCall lenD (aCons (pVar 2) aNil)) (qC (.int 0))) aNil)) (gN 8) L_law_4)
noncomputable def G8 : DS := (dPar [10, 11] (mCons false (q2 addD (q2 addD (qSl (pVar 5) none (some (qC (.int 4)))) (qTup (aCons (qTup (aCons (qC (.int 1)) aNil)) aNil))) (qSl (pVar 5) (some (qC (.int 5))) none)) (mCons false (q2 addD (q2 addD (qSl (pVar 5) none (some (qC (.int 3)))) (qTup (aCons (qC (.bool false)) (aCons (qTup (aCons (qC (.int 1)) aNil)) aNil)))) (qSl (pVar 5) (some (qC (.int 5))) none)) mNil)))
noncomputable def G9 : DS := (dSet 12 (dLc (iRng1 (aCons (qCall lenD (aCons (pVar 2) aNil)) aNil)) (gN 8) tYesD (qCall (fun ds => if ds.length = 3 then F__law_start ds else none) (aCons (q2 getD' (pVar 2) (pVar 8)) (aCons (qSl (pVar 2) none (some (pVar 8))) (aCons (qSl (pVar 2) (some (q2 addD (pVar 8) (qC (.int 1)))) none) aNil)))) [8]))
noncomputable def G10 : DS := (dSet 7 (qCall (fun ds => if ds.length = 1 then F_started ds else none) (aCons (qVar 11) aNil)))
noncomputable def G11 : DS := (dIf (asB (q2 inD (qC .none) (pVar 12))) (dIf (tOrB (asB (q2 neD (q2 getD' (pVar 7) (qC (.int 0))) (qC (.str "over")))) (tNotB (tru (qCall (fun ds => if ds.length = 2 then F__law_like ds else none) (aCons (q2 getD' (pVar 7) (qC (.int 1))) (aCons (q2 getD' (pVar 4) (q2 idxD (pVar 12) (qC .none))) aNil)))))) (dRet (qC (.bool false))) dNil) (dIf (tOrB (tNotB (tru (qCall (fun ds => if ds.length = 2 then F__law_like ds else none) (aCons (qVar 7) (aCons (qTup (aCons (qC (.str "meets")) (aCons (qTup (aCons (qC (.str "starts")) (aCons (qZipT (aCons (pVar 4) (aCons (pVar 12) aNil))) aNil))) aNil))) aNil))))) (asB (q2 isnD (qCall (fun ds => if ds.length = 2 then F_check ds else none) (aCons (qVar 11) (aCons (qVar 7) aNil))) (qC (.bool true))))) (dRet (qC (.bool false))) dNil))
noncomputable def G12 : DS := (dPar [13, 14] (mCons false (qCall (fun ds => if ds.length = 1 then F__law_orders ds else none) (aCons (qVar 4) aNil)) (mCons false (qZipD (aCons (pVar 4) (aCons (pVar 2) aNil))) mNil)))
noncomputable def G13 : DS := (dSet 15 (dLc (iSeq (pVar 13)) (gN 16) (tru (qCall (fun ds => if ds.length = 1 then F__law_fits ds else none) (aCons (dLc (iSeq (pVar 16)) (gN 17) tYesD (q2 getD' (pVar 14) (pVar 17)) [17]) aNil))) (qVar 16) [16]))
noncomputable def G14 : DS := (dSet 7 (qCall (fun ds => if ds.length = 1 then F_order_for ds else none) (aCons (qVar 10) aNil)))
noncomputable def G15 : DS := (dIf (tOrB (asB (q2 isnD (qCall (fun ds => if ds.length = 2 then F_check_order ds else none) (aCons (qVar 10) (aCons (qVar 7) aNil))) (qC (.bool true)))) (asB (q2 neD (q2 getD' (pVar 7) (qC (.int 0))) (qIf (asB (q2 neD (pVar 15) (qLst aNil))) (qC (.str "order")) (qC (.str "none")))))) (dRet (qC (.bool false))) dNil)
noncomputable def G16 : DS := (dIf (asB (q2 eqD (q2 getD' (pVar 7) (qC (.int 0))) (qC (.str "order")))) (dSeq (dIf (tOrB (asB (q2 niD (q2 getD' (pVar 7) (qC (.int 1))) (pVar 15))) (asB (q2 isnD (qCall (fun ds => if ds.length = 2 then F_check ds else none) (aCons (qCall (fun ds => if ds.length = 2 then F_with_order ds else none) (aCons (qVar 10) (aCons (q2 getD' (pVar 7) (qC (.int 1))) aNil))) (aCons (qTup (aCons (qC (.str "meets")) (aCons (q2 getD' (pVar 7) (qC (.int 2))) aNil))) aNil))) (qC (.bool true))))) (dRet (qC (.bool false))) dNil) (dSeq (dIf (tOrB (asB (q2 isnD (qCall (fun ds => if ds.length = 2 then F_check_order ds else none) (aCons (qVar 10) (aCons (qTup (aCons (qC (.str "order")) (aCons (q2 getD' (pVar 7) (qC (.int 1))) (aCons (qTup (aCons (qC (.str "times")) (aCons (qTup aNil) aNil))) aNil)))) aNil))) (qC (.bool false)))) (asB (q2 isnD (qCall (fun ds => if ds.length = 2 then F_check_order ds else none) (aCons (qVar 10) (aCons (qTup (aCons (qC (.str "order")) (aCons (qSl (q2 getD' (pVar 7) (qC (.int 1))) (some (qC (.int 1))) none) (aCons (q2 getD' (pVar 7) (qC (.int 2))) aNil)))) aNil))) (qC (.bool false))))) (dRet (qC (.bool false))) dNil) (dFor (iSeq (qSl (pVar 13) none (some (qC (.int 12))))) (gN 16) L_law_2))) (dSeq (dFor (iSeq (q2 getD' (pVar 7) (qC (.int 1)))) (gN 17) L_law_3) (dIf (tOrB (asB (q2 isnD (qCall (fun ds => if ds.length = 2 then F_check_order ds else none) (aCons (qVar 10) (aCons (qTup (aCons (qC (.str "none")) (aCons (q2 addD (q2 revD (q2 getD' (pVar 7) (qC (.int 1))) (q1 negD (qC (.int 1)))) (qSl (q2 getD' (pVar 7) (qC (.int 1))) none (some (qC (.int 1))))) aNil))) aNil))) (qC (.bool false)))) (asB (q2 isnD (qCall (fun ds => if ds.length = 2 then F_check_order ds else none) (aCons (qVar 10) (aCons (qTup (aCons (qC (.str "none")) (aCons (qTup aNil) aNil))) aNil))) (qC (.bool false))))) (dRet (qC (.bool false))) dNil)))
noncomputable def G17 : DS := (dSetF 18 (qLst aNil))
noncomputable def G18 : DS := (dFor (iSeq (qVar 4)) (gN 17) L_law_1)
noncomputable def G19 : DS := (dRet (qCall (fun ds => if ds.length = 2 then F__law_like ds else none) (aCons (qCall tupleD (aCons (dLc (iSeq (qCall (fun ds => if ds.length = 1 then F_places_told ds else none) (aCons (qVar 10) aNil))) (gN 24) tYesD (qTup (aCons (q2 getD' (pVar 24) (qC (.int 0))) (aCons (qCall tupleD (aCons (q2 getD' (pVar 24) (qC (.int 1))) aNil)) aNil))) [24]) aNil)) (aCons (qCall tupleD (aCons (pVar 18) aNil)) aNil))))
theorem f_law_G : f_law = dSeq G1 (dSeq G2 (dSeq G3 (dSeq G4 (dSeq G5 (dSeq G6 (dSeq G7 (dSeq G8 (dSeq G9 (dSeq G10 (dSeq G11 (dSeq G12 (dSeq G13 (dSeq G14 (dSeq G15 (dSeq G16 (dSeq G17 (dSeq G18 G19))))))))))))))))) := rfl

def timesL (m : Nat → Option Int) (n : Nat) : List PD := (List.range n).map fun i => optD (m i)
noncomputable def W (sc bx : PD) (s : List Int) (ts : List T) (x7 x8 x9 x10 x11 x12 x13 x14 x15 x16 x17 : Option PD) (x18 : Option Sl) (x19 : Option PD) : SE :=
  [some (.sh sc), some (.ow bx), some (.sh (.tuple (ts.map tkD))), some (.sh (supD s)), some (.sh (.list (ts.map nm))), some (.sh (sysD true s ts)), some (.sh (.list (timesL (tms s ts) ts.length))), x7.map .sh, x8.map .sh, x9.map .sh, x10.map .sh, x11.map .sh, x12.map .sh, x13.map .sh, x14.map .sh, x15.map .sh, x16.map .sh, x17.map .sh, x18, x19.map .sh, none, none, none, none, none, none]

/-! ### None in a list of times -/
theorem plain_opt (m : Nat → Option Int) : ∀ is : List Nat, PyData.plainAll (is.map fun i => optD (m i)) = true
  | [] => rfl
  | i :: is => by
    rw [List.map_cons]
    unfold PyData.plainAll
    rw [plain_opt m is]
    cases m i <;> rfl
theorem lay_opt (m : Nat → Option Int) : ∀ is : List Nat, PyData.canLayAll0 (is.map fun i => optD (m i)) = true
  | [] => rfl
  | i :: is => by
    rw [List.map_cons]
    unfold PyData.canLayAll0
    rw [lay_opt m is]
    cases m i <;> rfl
theorem depth_opt (m : Nat → Option Int) : ∀ is : List Nat, PyData.depthAll (is.map fun i => optD (m i)) = 0
  | [] => rfl
  | i :: is => by
    rw [List.map_cons]
    unfold PyData.depthAll
    rw [depth_opt m is]
    cases m i <;> rfl
theorem eqv_opt (o : Option Int) : PyData.eqv (optD o) .none = o.isNone := by cases o <;> simp [optD, PyData.eqv]
theorem in_none (m : Nat → Option Int) (n : Nat) : isIn .none (.list (timesL m n)) = some ((List.range n).any fun i => (m i).isNone) := by
  have hok : inOk .none (timesL m n) = true := by
    unfold inOk timesL
    rw [plain_opt]; rfl
  show (if _ then _ else _) = _
  rw [if_pos hok]
  unfold timesL
  rw [List.any_map]
  refine congrArg some (congrArg (fun f => List.any (List.range n) f) (funext fun i => eqv_opt (m i)))
theorem any_t {m : Nat → Option Int} {n i : Nat} (hi : i < n) (h : m i = none) : ((List.range n).any fun i => (m i).isNone) = true :=
  List.any_eq_true.mpr ⟨i, List.mem_range.mpr hi, by rw [h]; rfl⟩
theorem any_f {m : Nat → Option Int} {n : Nat} (h : ∀ i, i < n → m i ≠ none) : ((List.range n).any fun i => (m i).isNone) = false := by
  rw [List.any_eq_false]
  intro i hi e
  exact h i (List.mem_range.mp hi) (Option.isNone_iff_eq_none.mp e)
theorem in_t {m : Nat → Option Int} {n i : Nat} (hi : i < n) (h : m i = none) : inD .none (.list (timesL m n)) = some (.bool true) := by
  unfold inD; rw [in_none, any_t hi h]; rfl
theorem in_f {m : Nat → Option Int} {n : Nat} (h : ∀ i, i < n → m i ≠ none) : inD .none (.list (timesL m n)) = some (.bool false) := by
  unfold inD; rw [in_none, any_f h]; rfl
theorem ni_t {m : Nat → Option Int} {n i : Nat} (hi : i < n) (h : m i = none) : niD .none (.list (timesL m n)) = some (.bool false) := by
  unfold niD; rw [in_none, any_t hi h]; rfl
theorem ni_f {m : Nat → Option Int} {n : Nat} (h : ∀ i, i < n → m i ≠ none) : niD .none (.list (timesL m n)) = some (.bool true) := by
  unfold niD; rw [in_none, any_f h]; rfl
theorem idx_none {m : Nat → Option Int} {n i : Nat} (hi : i < n) (h : m i = none) (hn : ∀ j, j < i → m j ≠ none) : idxD (.list (timesL m n)) .none = some (.int (i : Nat)) := by
  have hok : ((PyData.list (timesL m n)).plain && PyData.none.plain && SeqAt.shaped (.list (timesL m n)) && SeqAt.shaped .none) = true := by
    have a : (PyData.list (timesL m n)).plain = true := by simp only [PyData.plain]; exact plain_opt m _
    have b : SeqAt.shaped (.list (timesL m n)) = true := by
      unfold SeqAt.shaped timesL; simp only [PyData.canLay0, PyData.depth, lay_opt, depth_opt]; rfl
    rw [a, b]; rfl
  have hf : (timesL m n).findIdx? (fun z => PyData.eqv z .none) = some i := by
    rw [List.findIdx?_eq_some_iff_getElem]
    have hl : (timesL m n).length = n := by unfold timesL; rw [List.length_map, List.length_range]
    refine ⟨by rw [hl]; exact hi, ?_, fun j hj => ?_⟩
    · unfold timesL
      rw [List.getElem_map, List.getElem_range, eqv_opt, h]; rfl
    · unfold timesL
      rw [List.getElem_map, List.getElem_range, eqv_opt]
      intro e
      exact hn j hj (Option.isNone_iff_eq_none.mp e)
  show (if _ then _ else _) = _
  rw [if_pos hok, hf]; rfl
theorem name_at {ts : List T} {i : Nat} (h : i < ts.length) : getD' (.list (ts.map nm)) (.int i) = some (nm (nth ts i)) := by
  show L2.atI _ _ = _
  rw [atI_nat, List.getElem?_map, List.getElem?_eq_getElem h, nth_eq h]; rfl

/-! ### likeness of what is told -/
theorem lk_nm {ts : List T} (G : Good ts) {t : T} (h : t ∈ ts) (k : Nat) : Lk k (.str t.name) := by
  obtain ⟨j, hj⟩ := (G.ok t h).five
  refine .str k _ ?_
  rw [hj]; exact (nam_facts j).2
theorem lk_over {ts : List T} (G : Good ts) {t : T} (h : t ∈ ts) (k : Nat) : Lk (k + 1) (overD t) :=
  .tup k _ (show 2 ≤ 1000 by decide) fun d hd => by
    rcases List.mem_cons.mp hd with rfl | hd
    · exact .str k _ (by kernel_rfl)
    · rw [List.mem_singleton] at hd; rw [hd]; exact lk_nm G h k
theorem lk_paper {ts : List T} (G : Good ts) {w : Str} (hw : joinD (.str "") (.list [.str w]) = some (.str w)) {m : Nat → Option Int} (h : ∀ i, i < ts.length → m i ≠ none) (k : Nat) : Lk (k + 4) (paperD w ts m) := by
  refine .tup (k + 3) _ (show 2 ≤ 1000 by decide) fun d hd => ?_
  rcases List.mem_cons.mp hd with rfl | hd
  · exact .str _ _ (by kernel_rfl)
  rw [List.mem_singleton] at hd; subst hd
  refine .tup (k + 2) _ (show 2 ≤ 1000 by decide) fun d hd => ?_
  rcases List.mem_cons.mp hd with rfl | hd
  · exact .str _ _ hw
  rw [List.mem_singleton] at hd; subst hd
  refine .tup (k + 1) _ (by rw [rowsD_len]; have := G.len; omega) fun d hd => ?_
  unfold rowsD at hd
  obtain ⟨i, hi, rfl⟩ := List.mem_map.mp hd
  have hi := List.mem_range.mp hi
  refine .tup k _ (show 2 ≤ 1000 by decide) fun d hd => ?_
  rcases List.mem_cons.mp hd with rfl | hd
  · exact lk_nm G (nth_mem hi) k
  rw [List.mem_singleton] at hd; subst hd
  obtain ⟨j, hj⟩ := Option.ne_none_iff_exists'.mp (h i hi)
  rw [hj]; exact .int k j
theorem zipT_of {ts : List T} {m : Nat → Option Int} {q : SE → Option (List PD)} {env : SE} (h : q env = some [.list (ts.map nm), .list (timesL m ts.length)]) : qZipT q env = some (.tuple (rowsD ts m ts.length)) := by
  have : iZp q env = some (rowsD ts m ts.length) := zp_of h rfl rfl (by
    unfold timesL rowsD
    rw [map_range default nm ts, zip_range]; rfl)
  unfold qZipT; rw [this]; rfl

/-! ### the stages -/
section
variable {sc bx : PD} {s : List Int} {ts : List T}
theorem st6 (G : Good ts) {told : PD} (ht : Told "times" ts (tms s ts) (some told)) (hc : (∀ i, i < ts.length → tms s ts i ≠ none) → F_check [sysD true s ts, paperD "times" ts (tms s ts)] = some (.bool true)) :
    G6 (W sc bx s ts (some told) none none none none none none none none none none none none) = some (.nx (W sc bx s ts (some told) none none none none none none none none none none none none)) := by
  rcases ht with ⟨i, hi, hm, hn, e⟩ | ⟨hm, e⟩
  · cases e
    refine if_t (asB_of (q2_of rfl rfl (in_t hi hm))) (if_f (notB_of (b := true) (tru_of (calln (cons_of rfl (cons_of (tup_of (cons_of rfl (cons_of (q2_of rfl (q2_of rfl rfl (idx_none hi hm hn)) (name_at hi)) rfl)) (show 2 ≤ 16777216 by decide)) rfl)) rfl (like_ok 11 _ (lk_over G (nth_mem hi) 10))) rfl)) rfl)
  · cases e
    refine if_f (asB_of (q2_of rfl rfl (in_f hm))) (if_f (or_f (notB_of (b := true) (tru_of (calln (cons_of rfl (cons_of (tup_of (cons_of rfl (cons_of (tup_of (cons_of rfl (cons_of (zipT_of rfl) rfl)) (show 2 ≤ 16777216 by decide)) rfl)) (show 2 ≤ 16777216 by decide)) rfl)) rfl (like_ok 11 _ (lk_paper G (by kernel_rfl) hm 7))) rfl)) (asB_of (q2_of (calln rfl rfl (hc hm)) rfl rfl))) rfl)
theorem st7 (hs : IsSup s) (G : Good ts) (h2 : 2 ≤ ts.length) {told : PD} :
    ∃ x8 x9, G7 (W sc bx s ts (some told) none none none none none none none none none none none none) = some (.nx (W sc bx s ts (some told) x8 x9 none none none none none none none none none none)) := by
  have h5 := G.len
  by_cases hm : ∃ i, i < ts.length ∧ tms s ts i = none
  · obtain ⟨i, hi, hm⟩ := hm
    refine ⟨none, none, for_of (rng1_of (j := 0) (cons_of (qif_f (asB_of (q2_of rfl rfl (ni_t hi hm))) rfl) rfl) (by decide) (by decide)) rfl⟩
  · have hm : ∀ i, i < ts.length → tms s ts i ≠ none := fun i hi e => hm ⟨i, hi, e⟩
    have hr : iRng1 (aCons (qIf (asB (q2 niD (qC .none) (pVar 6))) (qCall lenD (aCons (pVar 2) aNil)) (qC (.int 0))) aNil) (W sc bx s ts (some told) none none none none none none none none none none none none) = some ((List.range ts.length).map fun (i : Nat) => PyData.int i) := by
      rw [rng1_of (j := ((ts.length : Nat) : Int)) (cons_of (qif_t (asB_of (q2_of rfl rfl (ni_f hm))) (call_of (cons_of rfl rfl) (by rw [← List.length_map (as := ts) tkD]; rfl))) rfl) (by omega) (by omega), rng_len]
    obtain ⟨e, he, x8, x9, rfl⟩ := forL_all (f := fun (i : Nat) => PyData.int i) (n := ts.length) (ds := (List.range ts.length).map fun (i : Nat) => PyData.int i) (g := gN 8) (b := L_law_4) (env := W sc bx s ts (some told) none none none none none none none none none none none none)
      (fun _ env => ∃ x8 x9, env = W sc bx s ts (some told) x8 x9 none none none none none none none none none none) rfl ⟨none, none, rfl⟩ (by
        rintro k hk env ⟨x8, x9, rfl⟩
        refine ⟨W sc bx s ts (some told) (some (.int k)) x9 none none none none none none none none none none, by cases x8 <;> rfl, ?_⟩
        have hz : iEz (aCons (pVar 4) (aCons (pVar 6) aNil)) (W sc bx s ts (some told) (some (.int k)) x9 none none none none none none none none none none) = some ((List.range ts.length).map fun i => .tuple [.int (i : Nat), .tuple [nm (nth ts i), optD (tms s ts i)]]) := by
          unfold iEz
          have : iZp (aCons (pVar 4) (aCons (pVar 6) aNil)) (W sc bx s ts (some told) (some (.int k)) x9 none none none none none none none none none none) = some ((List.range ts.length).map fun i => .tuple [nm (nth ts i), optD (tms s ts i)]) := zp_of rfl rfl rfl (by
            unfold timesL
            rw [map_range default nm ts, zip_range])
          rw [this, Option.map_some, en_range 0, List.length_range]
          refine congrArg some (List.map_congr_left fun i hi => ?_)
          have hi := List.mem_range.mp hi
          rw [List.getD_eq_getElem?_getD, List.getElem?_range hi]; rfl
        have hc := lc_all (it := iEz (aCons (pVar 4) (aCons (pVar 6) aNil))) (g := gT 2 (gsCons (gN 22) (gsCons (gT 2 (gsCons (gN 17) (gsCons (gN 23) gsNil))) gsNil))) (e := qTup (aCons (qVar 17) (aCons (qIf (asB (q2 eqD (pVar 22) (pVar 8))) (q2 subD (pVar 23) (qC (.int 1))) (qVar 23)) aNil))) (vs := [22, 17, 23])
          (fun i => .tuple [.int (i : Nat), .tuple [nm (nth ts i), optD (tms s ts i)]]) (List.range ts.length) (fun i => .tuple [nm (nth ts i), .int (if i = k then (tms s ts i).getD 0 - 1 else (tms s ts i).getD 0)]) hz (by rw [List.length_range]; exact G.lim) (fun i hi => by
            obtain ⟨j, hj⟩ := Option.ne_none_iff_exists'.mp (hm i (List.mem_range.mp hi))
            rw [hj]
            refine ⟨_, rfl, tup_of (cons_of rfl (cons_of ?_ rfl)) (show 2 ≤ 16777216 by decide)⟩
            by_cases e : i = k
            · rw [if_pos e]
              exact qif_t (asB_of (q2_of rfl rfl ((eqI _ _).trans (by rw [decide_eq_true (show ((i : Nat) : Int) = (k : Nat) by omega)])))) rfl
            · rw [if_neg e]
              exact qif_f (asB_of (q2_of rfl rfl ((eqI _ _).trans (by rw [decide_eq_false (show ¬ ((i : Nat) : Int) = (k : Nat) by omega)])))) rfl)
        have hrev : F_check [sysD true s ts, .tuple [.str "meets", .tuple [.str "times", .tuple (rowsD ts (tms s ts) ts.length).reverse]]] = some (.bool false) := by
          have e : (rowsD ts (tms s ts) ts.length).reverse = ((List.range ts.length).map fun i => ((nth ts i).name, optD (tms s ts i))).reverse.map rowP := by
            rw [← List.map_reverse, List.map_map]; unfold rowsD; rw [← List.map_reverse]; rfl
          rw [e]
          refine paper_times (times_named hs G _ (by rw [List.length_reverse, List.length_map, List.length_range]; exact G.lim) ?_)
          rw [List.map_reverse, List.map_map]
          intro h
          have h1 : (List.range ts.length).map (Prod.fst ∘ fun i => ((nth ts i).name, optD (tms s ts i))) = ts.map T.name := names_range ts
          rw [h1] at h
          have h3 : (ts.map T.name).reverse[0]? = (ts.map T.name)[0]? := congrArg (fun l : List Str => l[0]?) h
          rw [List.getElem?_reverse (by rw [List.length_map]; omega), List.length_map] at h3
          have := (List.getElem?_inj (h₀ := by rw [List.length_map]; omega) (h₁ := G.nd)).mp h3
          omega
        have hless := check_less hs G hm hk
        exact ⟨_, seq_nx (set_of (d := .tuple (rowsM ts fun i => if i = k then (tms s ts i).getD 0 - 1 else (tms s ts i).getD 0)) (call_of (cons_of hc rfl) rfl) (by cases x9 <;> rfl))
          (if_f (or_f (asB_of (q2_of (calln (cons_of rfl (cons_of (tup_of (cons_of rfl (cons_of (tup_of (cons_of rfl (cons_of rfl rfl)) (show 2 ≤ 16777216 by decide)) rfl)) (show 2 ≤ 16777216 by decide)) rfl)) rfl hless) rfl rfl))
            (asB_of (q2_of (calln (cons_of rfl (cons_of (tup_of (cons_of rfl (cons_of (tup_of (cons_of rfl (cons_of (q2_of (zipT_of rfl) rfl rfl) rfl)) (show 2 ≤ 16777216 by decide)) rfl)) (show 2 ≤ 16777216 by decide)) rfl)) rfl hrev) rfl rfl))) rfl), some (.int k), some (.tuple (rowsM ts fun i => if i = k then (tms s ts i).getD 0 - 1 else (tms s ts i).getD 0)), rfl⟩)
    exact ⟨x8, x9, for_of hr he⟩
theorem st8 {told : PD} {x8 x9 : Option PD} : G8 (W sc bx s ts (some told) x8 x9 none none none none none none none none none none) = some (.nx (W sc bx s ts (some told) x8 x9 (some (sysD true [1] ts)) (some (sysD false [1] ts)) none none none none none none none none)) := by
  kernel_rfl
theorem st9 (G : Good ts) {told : PD} {x8 x9 x10 x11 : Option PD} : G9 (W sc bx s ts (some told) x8 x9 x10 x11 none none none none none none none none) = some (.nx (W sc bx s ts (some told) x8 x9 x10 x11 (some (.list (timesL (sts ts) ts.length))) none none none none none none none)) := by
  have h5 := G.len
  have hr : iRng1 (aCons (qCall lenD (aCons (pVar 2) aNil)) aNil) (W sc bx s ts (some told) x8 x9 x10 x11 none none none none none none none none) = some ((List.range ts.length).map fun (i : Nat) => PyData.int i) := by
    rw [rng1_of (j := ((ts.length : Nat) : Int)) (cons_of (call_of (cons_of rfl rfl) (by rw [← List.length_map (as := ts) tkD]; rfl)) rfl) (by omega) (by omega), rng_len]
  have hc := lc_all (g := gN 8) (e := qCall (fun ds => if ds.length = 3 then F__law_start ds else none) (aCons (q2 getD' (pVar 2) (pVar 8)) (aCons (qSl (pVar 2) none (some (pVar 8))) (aCons (qSl (pVar 2) (some (q2 addD (pVar 8) (qC (.int 1)))) none) aNil)))) (vs := [8])
    (fun (i : Nat) => PyData.int i) (List.range ts.length) (fun i => optD (sts ts i)) hr (by rw [List.length_range]; exact G.lim) (fun i hi => by
      have hi := List.mem_range.mp hi
      refine ⟨W sc bx s ts (some told) (some (.int i)) x9 x10 x11 none none none none none none none none, rfl, ?_⟩
      obtain ⟨y, hy, hy2⟩ := slT (p := pVar 2) (q := pVar 8) (env := W sc bx s ts (some told) (some (.int i)) x9 x10 x11 none none none none none none none none) (xs := ts) (k := i) rfl (.inl rfl) rfl (Nat.le_of_lt hi)
      obtain ⟨z, hz, hz2⟩ := slD (p := pVar 2) (q := q2 addD (pVar 8) (qC (.int 1))) (env := W sc bx s ts (some told) (some (.int i)) x9 x10 x11 none none none none none none none none) (xs := ts) (k := i + 1) rfl (.inl rfl) rfl hi
      exact calln (cons_of (q2_of rfl rfl (get_nth hi (.inr rfl))) (cons_of hy (cons_of hz rfl))) rfl (law_start_ok G hi hy2 hz2))
  exact set_of hc rfl
theorem st11 (G : Good ts) {told : PD} {x8 x9 x10 : Option PD} (ht : Told "starts" ts (sts ts) (some told)) :
    G11 (W sc bx s ts (some told) x8 x9 x10 (some (sysD false [1] ts)) (some (.list (timesL (sts ts) ts.length))) none none none none none none none) = some (.nx (W sc bx s ts (some told) x8 x9 x10 (some (sysD false [1] ts)) (some (.list (timesL (sts ts) ts.length))) none none none none none none none)) := by
  rcases ht with ⟨i, hi, hm, hn, e⟩ | ⟨hm, e⟩
  · cases e
    refine if_t (asB_of (q2_of rfl rfl (in_t hi hm))) (if_f (or_f (asB_of (q2_of rfl rfl (by kernel_rfl))) (notB_of (b := true) (tru_of (calln (cons_of rfl (cons_of (q2_of rfl (q2_of rfl rfl (idx_none hi hm hn)) (name_at hi)) rfl)) rfl (like_ok 11 _ (lk_nm G (nth_mem hi) 11))) rfl))) rfl)
  · cases e
    refine if_f (asB_of (q2_of rfl rfl (in_f hm))) (if_f (or_f (notB_of (b := true) (tru_of (calln (cons_of rfl (cons_of (tup_of (cons_of rfl (cons_of (tup_of (cons_of rfl (cons_of (zipT_of rfl) rfl)) (show 2 ≤ 16777216 by decide)) rfl)) (show 2 ≤ 16777216 by decide)) rfl)) rfl (like_ok 11 _ (lk_paper G (by kernel_rfl) hm 7))) rfl)) (asB_of (q2_of (calln rfl rfl (check_starts G hm)) rfl rfl))) rfl)
end
end K12
end
section
set_option Elab.async false
set_option linter.all false
/-! Law k12, plain: the law itself, the orders. -/
namespace K12
open PySem D

def byName (ts : List T) (x : Str) : T := (ts.find? fun t => decide (t.name = x)).getD default
theorem byName_ok {ts : List T} (G : Good ts) {t : T} (h : t ∈ ts) : byName ts t.name = t := by
  unfold byName
  cases e : ts.find? fun u => decide (u.name = t.name) with
  | none => exact absurd (decide_eq_true rfl) (List.find?_eq_none.mp e t h)
  | some u => exact name_inj G.nd (List.mem_of_find?_eq_some e) h (of_decide_eq_true (List.find?_some (p := fun u : T => decide (u.name = t.name)) e))
theorem byName_map {ts O : List T} (G : Good ts) (h : ∀ u ∈ O, u ∈ ts) : (O.map T.name).map (byName ts) = O := by
  rw [List.map_map]
  exact (List.map_congr_left fun u hu => byName_ok G (h u hu)).trans (List.map_id _)
noncomputable def goodL (ts : List T) : List (List Str) := (ordN (ts.map T.name) ts.length).filter fun row => fitsB (row.map (byName ts))
theorem goodL_mem {ts O : List T} (G : Good ts) (hO : O.Perm ts) : O.map T.name ∈ goodL ts ↔ FitAll [1] [] O := by
  unfold goodL
  rw [List.mem_filter, ord_perm G, byName_map G fun u hu => hO.mem_iff.mp hu, fitsB_iff]
  exact ⟨fun h => h.2, fun h => ⟨⟨O, hO, rfl⟩, h⟩⟩
theorem rowD_nm (O : List T) : rowD (O.map T.name) = .tuple (O.map nm) := by unfold rowD; rw [List.map_map]; rfl
theorem rowD_tup (rows : List (List Str)) : rows.map rowD = (rows.map PySem.W.Tup.mk).map PySem.W.Datum.toD := by rw [List.map_map]; rfl
theorem in_rows (row : List Str) (rows : List (List Str)) : isIn (rowD row) (.list (rows.map rowD)) = some (decide (row ∈ rows)) := by
  refine (isIn_datum (α := PySem.W.Tup Str) ⟨row⟩ (rows.map PySem.W.Tup.mk) (by decide) (.inl (congrArg PyData.list (rowD_tup rows)))).trans (congrArg some (decide_eq_decide.mpr ?_))
  rw [List.mem_map]
  exact ⟨fun ⟨r, h, e⟩ => by cases e; exact h, fun h => ⟨row, h, rfl⟩⟩
theorem ne_rows (rows : List (List Str)) : neD (.list (rows.map rowD)) (.list []) = some (.bool (!decide (rows = []))) := by
  have := neD_datum (α := List (PySem.W.Tup Str)) (rows.map PySem.W.Tup.mk) [] (by decide)
  have e : PySem.W.Datum.toD (rows.map PySem.W.Tup.mk) = PyData.list (rows.map rowD) := (congrArg PyData.list (rowD_tup rows)).symm
  rw [e] at this
  refine this.trans (congrArg (fun b => some (PyData.bool (!b))) (decide_eq_decide.mpr List.map_eq_nil_iff))
theorem cut_take' (ds : List PD) (k : Nat) : cutD ds none (some (k : Int)) = ds.take k := by
  unfold cutD; rw [HT.sIx_none, HT.sIx_nat, Nat.sub_zero, List.drop_zero]
  by_cases h : k ≤ ds.length
  · rw [Nat.min_eq_left h]
  · rw [Nat.min_eq_right (by omega), List.take_length, List.take_of_length_le (by omega)]

section
variable {sc bx : PD} {s : List Int} {ts : List T}
noncomputable def W2 (sc bx : PD) (s : List Int) (ts : List T) (x7 x8 x9 x15 x16 x17 : Option PD) (x18 : Option Sl) (x19 : Option PD) : SE :=
  W sc bx s ts x7 x8 x9 (some (sysD true [1] ts)) (some (sysD false [1] ts)) (some (.list (timesL (sts ts) ts.length))) (some (.list ((ordN (ts.map T.name) ts.length).map rowD))) (some (.dict (tabD ts))) x15 x16 x17 x18 x19
theorem st12 (G : Good ts) {told : PD} {x8 x9 : Option PD} : G12 (W sc bx s ts (some told) x8 x9 (some (sysD true [1] ts)) (some (sysD false [1] ts)) (some (.list (timesL (sts ts) ts.length))) none none none none none none none) = some (.nx (W2 sc bx s ts (some told) x8 x9 none none none none none)) := by
  have h1 : qCall (fun ds => if ds.length = 1 then F__law_orders ds else none) (aCons (qVar 4) aNil) (W sc bx s ts (some told) x8 x9 (some (sysD true [1] ts)) (some (sysD false [1] ts)) (some (.list (timesL (sts ts) ts.length))) none none none none none none none) = some (.list ((ordN (ts.map T.name) ts.length).map rowD)) := calln rfl rfl (law_orders_ok G)
  have h2 : qZipD (aCons (pVar 4) (aCons (pVar 2) aNil)) (W sc bx s ts (some told) x8 x9 (some (sysD true [1] ts)) (some (sysD false [1] ts)) (some (.list (timesL (sts ts) ts.length))) none none none none none none none) = some (.dict (tabD ts)) := tab_of G rfl
  unfold G12
  simp only [dPar, mCons]
  rw [h1, h2]; rfl
theorem ord_len (G : Good ts) : (ordN (ts.map T.name) ts.length).length ≤ LIM := by
  have := ordN_len (ts.map T.name) ts.length
  rw [List.length_map] at this
  exact Nat.le_trans this (Nat.le_trans (Nat.le_trans (Nat.pow_le_pow_left G.len _) (Nat.pow_le_pow_right (by decide) G.len)) (show 5 ^ 5 ≤ 16777216 by decide))
theorem st13 (G : Good ts) {told : PD} {x8 x9 : Option PD} : G13 (W2 sc bx s ts (some told) x8 x9 none none none none none) = some (.nx (W2 sc bx s ts (some told) x8 x9 (some (.list ((goodL ts).map rowD))) none none none none)) := by
  have hc := lc_of (it := iSeq (pVar 13)) (g := gN 16) (t := tru (qCall (fun ds => if ds.length = 1 then F__law_fits ds else none) (aCons (dLc (iSeq (pVar 16)) (gN 17) tYesD (q2 getD' (pVar 14) (pVar 17)) [17]) aNil))) (e := qVar 16) (vs := [16]) (env := W2 sc bx s ts (some told) x8 x9 none none none none none)
    rowD (ordN (ts.map T.name) ts.length) (fun row => fitsB (row.map (byName ts))) rowD rfl (ord_len G) (fun row hrow => by
      obtain ⟨O, hO, rfl⟩ := (ord_perm G).mp hrow
      have GO := G.perm hO
      rw [byName_map G fun u hu => hO.mem_iff.mp hu, rowD_nm]
      have hi := lc_all (it := iSeq (pVar 16)) (g := gN 17) (e := q2 getD' (pVar 14) (pVar 17)) (vs := [17]) (env := W2 sc bx s ts (some told) x8 x9 none (some (.tuple (O.map nm))) none none none) nm O tkD rfl GO.lim (fun u hu => ⟨_, rfl, q2_of rfl rfl (findD_ok G.nd (hO.mem_iff.mp hu))⟩)
      exact ⟨W2 sc bx s ts (some told) x8 x9 none (some (.tuple (O.map nm))) none none none, rfl, tru_of (calln (cons_of hi rfl) rfl (law_fits_ok GO)) rfl, fun _ => rfl⟩)
  exact set_of hc rfl
def orderD (O : List T) (m : Nat → Option Int) : PD := .tuple [.str "order", .tuple (O.map nm), .tuple [.str "times", .tuple (rowsD O m O.length)]]
def noneD (L : List T) : PD := .tuple [.str "none", .tuple (L.map nm)]
theorem st15o (G : Good ts) {O : List T} (hO : O.Perm ts) (hF : FitAll [1] [] O) {x8 x9 : Option PD} :
    G15 (W2 sc bx s ts (some (orderD O (tms [1] O))) x8 x9 (some (.list ((goodL ts).map rowD))) none none none none) = some (.nx (W2 sc bx s ts (some (orderD O (tms [1] O))) x8 x9 (some (.list ((goodL ts).map rowD))) none none none none)) := by
  have GO := G.perm hO
  have hc := check_order_perm (pre := true) (s := [1]) G hO (check_told sup1 GO fun i hi => by have := FitAll_at _ _ hF i hi; rw [List.nil_append] at this; exact this)
  have hg : goodL ts ≠ [] := fun e => by
    have := (goodL_mem G hO).mpr hF
    rw [e] at this; cases this
  have hn : neD (.list ((goodL ts).map rowD)) (.list []) = some (.bool true) := (ne_rows _).trans (by rw [decide_eq_false hg]; rfl)
  exact if_f (or_f (asB_of (q2_of (calln rfl rfl hc) rfl rfl)) (asB_of (q2_of rfl (qif_t (asB_of (q2_of rfl (lst_of rfl (show 0 ≤ 16777216 by decide)) hn)) rfl) (by kernel_rfl)))) rfl
theorem st15n (G : Good ts) {L : List T} (hL : L.Sublist ts) (h0 : L ≠ []) (hn : ∀ t ∈ L, first [1] t (oth L t) = none) {x8 x9 : Option PD} :
    G15 (W2 sc bx s ts (some (noneD L)) x8 x9 (some (.list ((goodL ts).map rowD))) none none none none) = some (.nx (W2 sc bx s ts (some (noneD L)) x8 x9 (some (.list ((goodL ts).map rowD))) none none none none)) := by
  have hc := check_none (pre := true) sup1 G hL h0 hn
  have hg : goodL ts = [] := by
    cases e : goodL ts with
    | nil => rfl
    | cons row rows =>
      have hm : row ∈ goodL ts := by rw [e]; exact List.mem_cons_self ..
      obtain ⟨O, hO, rfl⟩ := (ord_perm G).mp (List.mem_filter.mp hm).1
      exact absurd ((goodL_mem G hO).mp hm) (no_order G hL h0 hn hO)
  have hn : neD (.list ((goodL ts).map rowD)) (.list []) = some (.bool false) := (ne_rows _).trans (by rw [decide_eq_true hg]; rfl)
  exact if_f (or_f (asB_of (q2_of (calln rfl rfl hc) rfl rfl)) (asB_of (q2_of rfl (qif_f (asB_of (q2_of rfl (lst_of rfl (show 0 ≤ 16777216 by decide)) hn)) rfl) (by kernel_rfl)))) rfl
theorem st16o (G : Good ts) (h2 : 2 ≤ ts.length) {O : List T} (hO : O.Perm ts) (hF : FitAll [1] [] O) {x8 x9 : Option PD} :
    ∃ x16, G16 (W2 sc bx s ts (some (orderD O (tms [1] O))) x8 x9 (some (.list ((goodL ts).map rowD))) none none none none) = some (.nx (W2 sc bx s ts (some (orderD O (tms [1] O))) x8 x9 (some (.list ((goodL ts).map rowD))) x16 none none none)) := by
  have GO := G.perm hO
  have hm : ∀ i, i < O.length → tms [1] O i ≠ none := fun i hi => by have := FitAll_at _ _ hF i hi; rw [List.nil_append] at this; exact this
  have hct := check_told sup1 GO hm
  have hin : niD (.tuple (O.map nm)) (.list ((goodL ts).map rowD)) = some (.bool false) := by
    rw [← rowD_nm]
    unfold niD
    rw [in_rows, decide_eq_true ((goodL_mem G hO).mpr hF)]; rfl
  have hwo := with_order_ok (pre := true) (s := [1]) (z := .tuple (O.map nm)) G.lim G.nd (fun u hu => hO.mem_iff.mp hu) GO.lim rfl
  have c1 : F_check_order [sysD true [1] ts, .tuple [.str "order", .tuple (O.map nm), .tuple [.str "times", .tuple []]]] = some (.bool false) := by
    refine check_order_perm G hO (paper_times ?_)
    refine times_named sup1 GO [] (Nat.zero_le _) fun e => ?_
    have := congrArg List.length e
    rw [List.length_map, List.length_map, hO.length_eq] at this
    rw [← this] at h2; cases h2
  have c2 : F_check_order [sysD true [1] ts, .tuple [.str "order", .tuple ((O.drop 1).map nm), .tuple [.str "times", .tuple (rowsD O (tms [1] O) O.length)]]] = some (.bool false) := by
    refine check_order_len G (Nat.le_trans (by rw [List.length_drop]; exact Nat.sub_le ..) GO.lim) ?_
    rw [List.length_drop, hO.length_eq]; omega
  have c3 : ∀ O' : List T, O'.Perm ts → O' ≠ O → F_check_order [sysD true [1] ts, .tuple [.str "order", .tuple (O'.map nm), .tuple [.str "times", .tuple (rowsD O (tms [1] O) O.length)]]] = some (.bool false) := fun O' hO' hne => by
    refine check_order_perm G hO' (paper_times ?_)
    have e : rowsD O (tms [1] O) O.length = ((List.range O.length).map fun i => ((nth O i).name, optD (tms [1] O i))).map rowP := by
      rw [List.map_map]; rfl
    rw [e]
    refine times_named sup1 (G.perm hO') _ (by rw [List.length_map, List.length_range]; exact GO.lim) fun h => hne ?_
    rw [List.map_map] at h
    have h1 : (List.range O.length).map (Prod.fst ∘ fun i => ((nth O i).name, optD (tms [1] O i))) = O.map T.name := names_range O
    rw [h1] at h
    have := congrArg (List.map (byName ts)) h
    rw [byName_map G fun u hu => hO.mem_iff.mp hu, byName_map G fun u hu => hO'.mem_iff.mp hu] at this
    exact this.symm
  have s1 : dIf (tOrB (asB (q2 niD (q2 getD' (pVar 7) (qC (.int 1))) (pVar 15))) (asB (q2 isnD (qCall (fun ds => if ds.length = 2 then F_check ds else none) (aCons (qCall (fun ds => if ds.length = 2 then F_with_order ds else none) (aCons (qVar 10) (aCons (q2 getD' (pVar 7) (qC (.int 1))) aNil))) (aCons (qTup (aCons (qC (.str "meets")) (aCons (q2 getD' (pVar 7) (qC (.int 2))) aNil))) aNil))) (qC (.bool true))))) (dRet (qC (.bool false))) dNil (W2 sc bx s ts (some (orderD O (tms [1] O))) x8 x9 (some (.list ((goodL ts).map rowD))) none none none none) = some (.nx (W2 sc bx s ts (some (orderD O (tms [1] O))) x8 x9 (some (.list ((goodL ts).map rowD))) none none none none)) :=
    if_f (or_f (asB_of (q2_of rfl rfl hin)) (asB_of (q2_of (calln (cons_of (calln rfl rfl hwo) (cons_of (tup_of rfl (show 2 ≤ 16777216 by decide)) rfl)) rfl hct) rfl rfl))) rfl
  have hsl : qSl (q2 getD' (pVar 7) (qC (.int 1))) (some (qC (.int 1))) none (W2 sc bx s ts (some (orderD O (tms [1] O))) x8 x9 (some (.list ((goodL ts).map rowD))) none none none none) = some (.tuple ((O.drop 1).map nm)) := by
    refine sl_of rfl (l := some ((1 : Nat) : Int)) rfl rfl (congrArg (fun d => some (PyData.tuple d)) ?_)
    rw [cut_drop (by rw [List.length_map, hO.length_eq]; omega), List.map_drop]
  have s2 := if_f (f := dRet (qC (.bool false))) (g := dNil) (o := some (.nx (W2 sc bx s ts (some (orderD O (tms [1] O))) x8 x9 (some (.list ((goodL ts).map rowD))) none none none none))) (or_f (asB_of (q2_of (f := isnD) (q := qC (.bool false)) (calln (F := F_check_order) (cons_of (q := qVar 10) rfl (cons_of (tup_of (cons_of (q := qC (.str "order")) rfl (cons_of (q := q2 getD' (pVar 7) (qC (.int 1))) rfl (cons_of (tup_of (cons_of (q := qC (.str "times")) rfl (cons_of (tup_of (r := aNil) rfl (show 0 ≤ 16777216 by decide)) (r := aNil) rfl)) (show 2 ≤ 16777216 by decide)) (r := aNil) rfl))) (show 3 ≤ 16777216 by decide)) (r := aNil) rfl)) rfl c1) rfl rfl))
    (asB_of (q2_of (f := isnD) (q := qC (.bool false)) (calln (F := F_check_order) (cons_of (q := qVar 10) rfl (cons_of (tup_of (cons_of (q := qC (.str "order")) rfl (cons_of hsl (cons_of (q := q2 getD' (pVar 7) (qC (.int 2))) rfl (r := aNil) rfl))) (show 3 ≤ 16777216 by decide)) (r := aNil) rfl)) rfl c2) rfl rfl))) rfl
  have hit : iSeq (qSl (pVar 13) none (some (qC (.int 12)))) (W2 sc bx s ts (some (orderD O (tms [1] O))) x8 x9 (some (.list ((goodL ts).map rowD))) none none none none) = some (((ordN (ts.map T.name) ts.length).take 12).map rowD) := by
    refine seq_of (sl_of rfl (h := some ((12 : Nat) : Int)) rfl rfl rfl) (congrArg some ?_)
    rw [cut_take', List.map_take]
  obtain ⟨e, he, x16, rfl⟩ := forL_all (f := fun i => rowD (((ordN (ts.map T.name) ts.length).take 12).getD i [])) (n := ((ordN (ts.map T.name) ts.length).take 12).length) (ds := ((ordN (ts.map T.name) ts.length).take 12).map rowD) (g := gN 16) (b := L_law_2) (env := W2 sc bx s ts (some (orderD O (tms [1] O))) x8 x9 (some (.list ((goodL ts).map rowD))) none none none none)
    (fun _ env => ∃ x16, env = W2 sc bx s ts (some (orderD O (tms [1] O))) x8 x9 (some (.list ((goodL ts).map rowD))) x16 none none none) (map_range [] rowD _) ⟨none, rfl⟩ (by
      rintro i hi env ⟨x16, rfl⟩
      have hg : ((ordN (ts.map T.name) ts.length).take 12).getD i [] = ((ordN (ts.map T.name) ts.length).take 12)[i] := by rw [List.getD_eq_getElem?_getD, List.getElem?_eq_getElem hi]; rfl
      have hm : ((ordN (ts.map T.name) ts.length).take 12).getD i [] ∈ ordN (ts.map T.name) ts.length := by rw [hg]; exact List.mem_of_mem_take (List.getElem_mem hi)
      generalize ((ordN (ts.map T.name) ts.length).take 12).getD i [] = row at hm
      obtain ⟨O', hO', rfl⟩ := (ord_perm G).mp hm
      refine ⟨W2 sc bx s ts (some (orderD O (tms [1] O))) x8 x9 (some (.list ((goodL ts).map rowD))) (some (rowD (O'.map T.name))) none none none, by cases x16 <;> rfl, W2 sc bx s ts (some (orderD O (tms [1] O))) x8 x9 (some (.list ((goodL ts).map rowD))) (some (rowD (O'.map T.name))) none none none, ?_, _, rfl⟩
      have hb := asB_of (q2_of (f := niD) (p := pVar 16) (q := pVar 15) (env := W2 sc bx s ts (some (orderD O (tms [1] O))) x8 x9 (some (.list ((goodL ts).map rowD))) (some (rowD (O'.map T.name))) none none none) rfl rfl (show niD (rowD (O'.map T.name)) (.list ((goodL ts).map rowD)) = some (.bool (!decide (O'.map T.name ∈ goodL ts))) by unfold niD; rw [in_rows]; rfl))
      by_cases h : O'.map T.name ∈ goodL ts
      · rw [decide_eq_true h] at hb
        exact if_f (and_f hb) rfl
      · rw [decide_eq_false h] at hb
        have hne : O' ≠ O := fun e => h (by rw [e]; exact (goodL_mem G hO).mpr hF)
        have := c3 O' hO' hne
        rw [← rowD_nm] at this
        exact if_f (and_t hb (asB_of (q2_of (calln (cons_of rfl (cons_of (tup_of (cons_of rfl (cons_of rfl (cons_of rfl rfl))) (show 3 ≤ 16777216 by decide)) rfl)) rfl this) rfl rfl))) rfl)
  exact ⟨x16, if_t (asB_of (q2_of rfl rfl (by kernel_rfl))) (seq_nx s1 (seq_nx s2 (for_of hit he)))⟩
theorem st16n (G : Good ts) {L : List T} (hL : L.Sublist ts) (h0 : L ≠ []) (hn : ∀ t ∈ L, first [1] t (oth L t) = none) {x8 x9 x15 : Option PD} :
    ∃ x17, G16 (W2 sc bx s ts (some (noneD L)) x8 x9 x15 none none none none) = some (.nx (W2 sc bx s ts (some (noneD L)) x8 x9 x15 none x17 none none)) := by
  have GL := G.sub hL
  have l5 := GL.len
  obtain ⟨e, he, x17, rfl⟩ := forL_all (f := fun i => nm (nth L i)) (n := L.length) (ds := L.map nm) (g := gN 17) (b := L_law_3) (env := W2 sc bx s ts (some (noneD L)) x8 x9 x15 none none none none)
    (fun _ env => ∃ x17, env = W2 sc bx s ts (some (noneD L)) x8 x9 x15 none x17 none none) (map_range default nm L) ⟨none, rfl⟩ (by
      rintro i hi env ⟨x17, rfl⟩
      have ht := nth_mem hi
      generalize nth L i = t at ht
      refine ⟨W2 sc bx s ts (some (noneD L)) x8 x9 x15 none (some (nm t)) none none, by cases x17 <;> rfl, W2 sc bx s ts (some (noneD L)) x8 x9 x15 none (some (nm t)) none none, ?_, _, rfl⟩
      have hc := lc_of (it := iSeq (q2 getD' (pVar 7) (qC (.int 1)))) (g := gN 25) (t := asB (q2 neD (pVar 25) (pVar 17))) (e := q2 getD' (pVar 14) (pVar 25)) (vs := [25]) (env := W2 sc bx s ts (some (noneD L)) x8 x9 x15 none (some (nm t)) none none)
        nm L (fun u => !decide (u.name = t.name)) tkD rfl GL.lim (fun u hu => ⟨_, rfl, asB_of (q2_of rfl rfl (neS _ _)), fun _ => q2_of rfl rfl (findD_ok G.nd (hL.subset hu))⟩)
      have hlt := law_time_ok sup1 (GL.ok t ht) (A := oth L t) (fun u hu => GL.ok u ((oth_sub L t).subset hu)) (Nat.le_trans (oth_sub L t).length_le GL.lim) (z := .list ((oth L t).map tkD)) rfl
      rw [hn t ht] at hlt
      exact if_f (asB_of (q2_of (calln (cons_of (q2_of rfl rfl (findD_ok G.nd (hL.subset ht))) (cons_of hc (cons_of (tup_of rfl (show 1 ≤ 16777216 by decide)) rfl))) rfl hlt) rfl rfl)) rfl)
  have hM : F_check_order [sysD true [1] ts, .tuple [.str "none", .tuple ((L.reverse ++ L.take 1).map nm)]] = some (.bool false) := by
    have hl : (L.reverse ++ L.take 1).length = L.length + 1 := by
      rw [List.length_append, List.length_reverse, List.length_take]
      cases L with
      | nil => exact absurd rfl h0
      | cons a l => rw [List.length_cons]; omega
    refine check_none_more G hL (fun e => by rw [e] at hl; cases hl) (fun x => ?_) (by omega) (by rw [hl]; exact Nat.le_trans (Nat.succ_le_succ l5) (by decide))
    rw [List.mem_append, List.mem_reverse]
    exact ⟨fun h => h.elim id fun h => List.mem_of_mem_take h, fun h => .inl h⟩
  have hq : q2 addD (q2 revD (q2 getD' (pVar 7) (qC (.int 1))) (q1 negD (qC (.int 1)))) (qSl (q2 getD' (pVar 7) (qC (.int 1))) none (some (qC (.int 1)))) (W2 sc bx s ts (some (noneD L)) x8 x9 x15 none x17 none none) = some (.tuple ((L.reverse ++ L.take 1).map nm)) := by
    have e1 : cutD (L.map nm) none (some ((1 : Nat) : Int)) = (L.take 1).map nm := by rw [cut_take', List.map_take]
    refine q2_of (d := .tuple (L.map nm).reverse) (e := .tuple ((L.take 1).map nm)) (q2_of rfl rfl rfl) (sl_of rfl (h := some ((1 : Nat) : Int)) rfl rfl (congrArg (fun d => some (PyData.tuple d)) e1)) ?_
    show (if _ then _ else _) = _
    rw [if_pos (by rw [List.length_reverse, List.length_map, List.length_map, List.length_take]; show _ + _ ≤ 16777216; omega), List.map_append, List.map_reverse]
  have s2 := if_f (f := dRet (qC (.bool false))) (g := dNil) (o := some (.nx (W2 sc bx s ts (some (noneD L)) x8 x9 x15 none x17 none none))) (or_f (asB_of (q2_of (f := isnD) (q := qC (.bool false)) (calln (F := F_check_order) (cons_of (q := qVar 10) rfl (cons_of (tup_of (cons_of (q := qC (.str "none")) rfl (cons_of hq (r := aNil) rfl)) (show 2 ≤ 16777216 by decide)) (r := aNil) rfl)) rfl hM) rfl rfl))
    (asB_of (q2_of (f := isnD) (q := qC (.bool false)) (calln (F := F_check_order) (cons_of (q := qVar 10) rfl (cons_of (tup_of (cons_of (q := qC (.str "none")) rfl (cons_of (tup_of (r := aNil) rfl (show 0 ≤ 16777216 by decide)) (r := aNil) rfl)) (show 2 ≤ 16777216 by decide)) (r := aNil) rfl)) rfl check_none_nil) rfl rfl))) rfl
  exact ⟨x17, if_f (asB_of (q2_of rfl rfl (by kernel_rfl))) (seq_nx (for_of rfl he) s2)⟩
noncomputable def pfD (ts : List T) (t : T) : PD := .tuple [.str t.name, .tuple (placeL [1] ts t)]
theorem st18 (G : Good ts) {told : PD} {x8 x9 x15 x16 x17 : Option PD} :
    ∃ x17' x19, G18 (W2 sc bx s ts (some told) x8 x9 x15 x16 x17 (some (.ow (.list []))) none) = some (.nx (W2 sc bx s ts (some told) x8 x9 x15 x16 x17' (some (.ow (.list (ts.map (pfD ts))))) x19)) := by
  have h5 := G.len
  obtain ⟨e, he, x17', x19, rfl⟩ := forL_all (f := fun i => nm (nth ts i)) (n := ts.length) (ds := ts.map nm) (g := gN 17) (b := L_law_1) (env := W2 sc bx s ts (some told) x8 x9 x15 x16 x17 (some (.ow (.list []))) none)
    (fun i env => ∃ x17 x19, env = W2 sc bx s ts (some told) x8 x9 x15 x16 x17 (some (.ow (.list ((ts.take i).map (pfD ts))))) x19) (map_range default nm ts) ⟨x17, none, rfl⟩ (by
      rintro i hi env ⟨x17, x19, rfl⟩
      have ht := nth_mem hi
      have hsn := take_succ_nth hi
      generalize nth ts i = t at ht hsn
      have hol := oth_len G.nd ht
      refine ⟨W2 sc bx s ts (some told) x8 x9 x15 x16 (some (nm t)) (some (.ow (.list ((ts.take i).map (pfD ts))))) x19, by cases x17 <;> rfl, W2 sc bx s ts (some told) x8 x9 x15 x16 (some (nm t)) (some (.ow (.list ((ts.take (i + 1)).map (pfD ts))))) (some (.list ((oth ts t).map tkD))), ?_, _, _, rfl⟩
      have h1 := lc_of (it := iSeq (pVar 2)) (g := gN 21) (t := asB (q2 neD (q2 getD' (pVar 21) (qC (.int 0))) (pVar 17))) (e := qVar 21) (vs := [21]) (env := W2 sc bx s ts (some told) x8 x9 x15 x16 (some (nm t)) (some (.ow (.list ((ts.take i).map (pfD ts))))) x19)
        tkD ts (fun u => !decide (u.name = t.name)) tkD rfl G.lim (fun u hu => ⟨_, rfl, asB_of (q2_of rfl rfl (neS _ _)), fun _ => rfl⟩)
      have hr : iRng1 (aCons (qCall lenD (aCons (pVar 4) aNil)) aNil) (W2 sc bx s ts (some told) x8 x9 x15 x16 (some (nm t)) (some (.ow (.list ((ts.take i).map (pfD ts))))) (some (.list ((oth ts t).map tkD)))) = some ((List.range ts.length).map fun (i : Nat) => PyData.int i) := by
        rw [rng1_of (j := ((ts.length : Nat) : Int)) (cons_of (call_of (cons_of rfl rfl) (by rw [← List.length_map (as := ts) nm]; rfl)) rfl) (by omega) (by omega), rng_len]
      have h2 := lc_of (g := gN 22) (t := asB (q2 isnD (qCall (fun ds => if ds.length = 3 then F__law_time ds else none) (aCons (q2 getD' (pVar 14) (pVar 17)) (aCons (qSl (pVar 19) none (some (pVar 22))) (aCons (qTup (aCons (qC (.int 1)) aNil)) aNil)))) (qC .none))) (e := qVar 22) (vs := [22])
        (fun (i : Nat) => PyData.int i) (List.range ts.length) (fun p => (first [1] t ((oth ts t).take p)).isSome) (fun (i : Nat) => PyData.int i) hr (by rw [List.length_range]; exact G.lim) (fun p hp => by
          have hp := List.mem_range.mp hp
          refine ⟨_, rfl, ?_, fun _ => rfl⟩
          obtain ⟨y, hy, hy2⟩ := slT (p := pVar 19) (q := pVar 22) (env := (W2 sc bx s ts (some told) x8 x9 x15 x16 (some (nm t)) (some (.ow (.list ((ts.take i).map (pfD ts))))) (some (.list ((oth ts t).map tkD)))).set 22 (some (.sh (.int p)))) (xs := oth ts t) (k := p) rfl (.inr rfl) rfl (by omega)
          exact asB_of (q2_of (calln (cons_of (q2_of rfl rfl (findD_ok G.nd ht)) (cons_of hy (cons_of (tup_of rfl (show 1 ≤ 16777216 by decide)) rfl))) rfl (law_time_ok sup1 (G.ok t ht) (fun u hu => G.ok u ((oth_sub ts t).subset (List.mem_of_mem_take hu))) (Nat.le_trans (by rw [List.length_take]; exact Nat.min_le_right ..) (Nat.le_trans (oth_sub ts t).length_le G.lim)) hy2)) rfl (isnD_opt _)))
      refine seq_nx (set_of h1 (by cases x19 <;> rfl)) ((app_of (d := pfD ts t) (ds := (ts.take i).map (pfD ts)) rfl (tup_of (cons_of rfl (cons_of (call_of (cons_of h2 rfl) rfl) rfl)) (show 2 ≤ 16777216 by decide)) ?_).trans ?_)
      · rw [List.length_map, List.length_take]
        exact Nat.lt_of_le_of_lt (Nat.min_le_right ..) (Nat.lt_of_le_of_lt h5 (by decide))
      · rw [hsn, List.map_append]; rfl)
  rw [List.take_length] at he
  exact ⟨x17', x19, for_of rfl he⟩
theorem st19 (G : Good ts) {told : PD} {x8 x9 x15 x16 x17 x19 : Option PD} :
    ∃ e, G19 (W2 sc bx s ts (some told) x8 x9 x15 x16 x17 (some (.ow (.list (ts.map (pfD ts))))) x19) = some (.rt (.bool true) e) := by
  have h5 := G.len
  have hp : F_places_told [sysD true [1] ts] = some (.tuple (ts.map (pfD ts))) := places_told_ok sup1 G
  have hc := lc_all (it := iSeq (qCall (fun ds => if ds.length = 1 then F_places_told ds else none) (aCons (qVar 10) aNil))) (g := gN 24) (e := qTup (aCons (q2 getD' (pVar 24) (qC (.int 0))) (aCons (qCall tupleD (aCons (q2 getD' (pVar 24) (qC (.int 1))) aNil)) aNil))) (vs := [24]) (env := W2 sc bx s ts (some told) x8 x9 x15 x16 x17 (some (.ow (.list (ts.map (pfD ts))))) x19)
    (pfD ts) ts (pfD ts) (seq_of (calln rfl rfl hp) rfl) G.lim (fun t _ => ⟨_, rfl, tup_of rfl (show 2 ≤ 16777216 by decide)⟩)
  have hl : Lk 11 (.tuple (ts.map (pfD ts))) := by
    refine .tup 10 _ (by rw [List.length_map]; omega) fun d hd => ?_
    obtain ⟨t, ht, rfl⟩ := List.mem_map.mp hd
    refine .tup 9 _ (show 2 ≤ 1000 by decide) fun d hd => ?_
    rcases List.mem_cons.mp hd with rfl | hd
    · exact lk_nm G ht 9
    rw [List.mem_singleton] at hd; subst hd
    refine .tup 8 _ ?_ fun d hd => ?_
    · unfold placeL
      rw [List.length_map]
      refine Nat.le_trans (List.length_filter_le _ _) ?_
      rw [List.length_range]; omega
    · obtain ⟨p, _, rfl⟩ := List.mem_map.mp hd
      exact .int 8 _
  exact ⟨_, ret_of (calln (cons_of (call_of (cons_of hc rfl) rfl) (cons_of rfl rfl)) rfl (like_ok 11 _ hl))⟩
end
theorem told_some {w : Str} {ts : List T} {m : Nat → Option Int} {o : Option PD} (h : Told w ts m o) : ∃ d, o = some d := by
  rcases h with ⟨i, _, _, _, e⟩ | ⟨_, e⟩ <;> exact ⟨_, e⟩
theorem law_val (ns : List Int) (hl : ns.length ≤ 63) : F_law [.list (ns.map .int)] = some (.bool true) := by
  obtain ⟨ds, hds⟩ := digits_ok ns
  obtain ⟨ts, k, G, h2, hts⟩ := tasks_ok ds 0
  obtain ⟨r, r0, r4, hr⟩ := draw_ok ds k (many := 4) (by decide)
  have h5 := G.len
  obtain ⟨s, hs, hsup⟩ : ∃ s : List Int, IsSup s ∧ getD' (.list [.tuple [.int 1], .tuple [.int 1], .tuple [.int 1, .int 1, .int 0], .tuple [.int 1, .int 0]]) (.int r) = some (supD s) := by
    have : r = 0 ∨ r = 1 ∨ r = 2 ∨ r = 3 := by omega
    rcases this with rfl | rfl | rfl | rfl
    · exact ⟨_, .inl rfl, rfl⟩
    · exact ⟨_, .inl rfl, rfl⟩
    · exact ⟨_, .inr (.inl rfl), rfl⟩
    · exact ⟨_, .inr (.inr rfl), rfl⟩
  have g1 : G1 (startE 26 [.list (ns.map .int)]) = some (.nx ((startE 26 [.list (ns.map .int)]).set 1 (some (.ow (boxD ds 0))))) :=
    setF_of (lst_of (cons_of (calln rfl rfl hds) rfl) (show 2 ≤ 16777216 by decide)) rfl
  have g2 : G2 ((startE 26 [.list (ns.map .int)]).set 1 (some (.ow (boxD ds 0)))) = some (.nx ((((startE 26 [.list (ns.map .int)]).set 1 (some (.ow (boxD ds (k + 1))))).set 2 (some (.sh (.tuple (ts.map tkD))))).set 3 (some (.sh (supD s))))) := by
    have he : eFn (fun ds => if ds.length ≤ LIM then some (.tuple ds) else none) (eaCons (eIO 1 1 F__law_tasks aNil) (eaCons (e2 getD' (eQ (qLst (aCons (qTup (aCons (qC (.int 1)) aNil)) (aCons (qTup (aCons (qC (.int 1)) aNil)) (aCons (qTup (aCons (qC (.int 1)) (aCons (qC (.int 1)) (aCons (qC (.int 0)) aNil)))) (aCons (qTup (aCons (qC (.int 1)) (aCons (qC (.int 0)) aNil))) aNil)))))) (eIO 1 2 F__law_draw (aCons (qC (.int 4)) aNil))) eaNil)) ((startE 26 [.list (ns.map .int)]).set 1 (some (.ow (boxD ds 0)))) = some (.tuple [.tuple (ts.map tkD), supD s], (startE 26 [.list (ns.map .int)]).set 1 (some (.ow (boxD ds (k + 1))))) :=
      eFn_of (eaCons_of (e1 := (startE 26 [.list (ns.map .int)]).set 1 (some (.ow (boxD ds k)))) (eIO_of rfl rfl rfl hts) (eaCons_of (e2_of (eQ_of (lst_of (cons_of (tup_of rfl (show 1 ≤ 16777216 by decide)) (cons_of (tup_of rfl (show 1 ≤ 16777216 by decide)) (cons_of (tup_of rfl (show 3 ≤ 16777216 by decide)) (cons_of (tup_of rfl (show 2 ≤ 16777216 by decide)) rfl)))) (show 4 ≤ 16777216 by decide))) (eIO_of rfl rfl rfl hr) hsup) rfl)) (if_pos (show 2 ≤ 16777216 by decide))
    unfold G2 dGetE
    rw [he]; rfl
  have g3 : G3 ((((startE 26 [.list (ns.map .int)]).set 1 (some (.ow (boxD ds (k + 1))))).set 2 (some (.sh (.tuple (ts.map tkD))))).set 3 (some (.sh (supD s)))) = some (.nx (((((startE 26 [.list (ns.map .int)]).set 1 (some (.ow (boxD ds (k + 1))))).set 2 (some (.sh (.tuple (ts.map tkD))))).set 3 (some (.sh (supD s)))).set 4 (some (.sh (.list (ts.map nm)))))) :=
    set_of (lc_all tkD ts nm rfl G.lim fun t _ => ⟨_, rfl, rfl⟩) rfl
  have g4 : G4 (((((startE 26 [.list (ns.map .int)]).set 1 (some (.ow (boxD ds (k + 1))))).set 2 (some (.sh (.tuple (ts.map tkD))))).set 3 (some (.sh (supD s)))).set 4 (some (.sh (.list (ts.map nm))))) = some (.nx (W (.list (ns.map .int)) (boxD ds (k + 1)) s ts none none none none none none none none none none none none none)) := by
    have hrn : iRng1 (aCons (qCall lenD (aCons (pVar 2) aNil)) aNil) (((((startE 26 [.list (ns.map .int)]).set 1 (some (.ow (boxD ds (k + 1))))).set 2 (some (.sh (.tuple (ts.map tkD))))).set 3 (some (.sh (supD s)))).set 4 (some (.sh (.list (ts.map nm))))) = some ((List.range ts.length).map fun (i : Nat) => PyData.int i) := by
      rw [rng1_of (j := ((ts.length : Nat) : Int)) (cons_of (call_of (cons_of rfl rfl) (by rw [← List.length_map (as := ts) tkD]; rfl)) rfl) (by omega) (by omega), rng_len]
    have hc := lc_all (g := gN 8) (e := qCall (fun ds => if ds.length = 3 then F__law_time ds else none) (aCons (q2 getD' (pVar 2) (pVar 8)) (aCons (qSl (pVar 2) none (some (pVar 8))) (aCons (qVar 3) aNil)))) (vs := [8])
      (fun (i : Nat) => PyData.int i) (List.range ts.length) (fun i => optD (tms s ts i)) hrn (by rw [List.length_range]; exact G.lim) (fun i hi => by
        have hi := List.mem_range.mp hi
        refine ⟨_, rfl, ?_⟩
        obtain ⟨y, hy, hy2⟩ := slT (p := pVar 2) (q := pVar 8) (env := (((((startE 26 [.list (ns.map .int)]).set 1 (some (.ow (boxD ds (k + 1))))).set 2 (some (.sh (.tuple (ts.map tkD))))).set 3 (some (.sh (supD s)))).set 4 (some (.sh (.list (ts.map nm))))).set 8 (some (.sh (.int i)))) (xs := ts) (k := i) rfl (.inl rfl) rfl (Nat.le_of_lt hi)
        exact calln (cons_of (q2_of rfl rfl (get_nth hi (.inr rfl))) (cons_of hy (cons_of rfl rfl))) rfl (law_time_ok hs (G.ok _ (nth_mem hi)) (fun u hu => G.ok u (List.mem_of_mem_take hu)) (Nat.le_trans (by rw [List.length_take]; exact Nat.min_le_right ..) G.lim) hy2))
    have hq : qTup (aCons (qC (.str "system")) (aCons (qC (.int 1)) (aCons (qC (.str "fixed")) (aCons (qC (.bool true)) (aCons (qVar 3) (aCons (qVar 2) (aCons (qTup aNil) aNil))))))) (((((startE 26 [.list (ns.map .int)]).set 1 (some (.ow (boxD ds (k + 1))))).set 2 (some (.sh (.tuple (ts.map tkD))))).set 3 (some (.sh (supD s)))).set 4 (some (.sh (.list (ts.map nm))))) = some (sysD true s ts) :=
      tup_of (cons_of rfl (cons_of rfl (cons_of rfl (cons_of rfl (cons_of rfl (cons_of rfl (cons_of (tup_of rfl (show 0 ≤ 16777216 by decide)) rfl))))))) (show 7 ≤ 16777216 by decide)
    unfold G4
    simp only [dPar, mCons]
    rw [hq, hc]; rfl
  obtain ⟨t1, ht1⟩ := told_some (timed_ok (pre := true) hs G)
  have T1 := timed_ok (pre := true) hs G
  rw [ht1] at T1
  obtain ⟨t2, ht2⟩ := told_some (started_ok (pre := false) (s := [1]) G)
  have T2 := started_ok (pre := false) (s := [1]) G
  rw [ht2] at T2
  have g5 : G5 (W (.list (ns.map .int)) (boxD ds (k + 1)) s ts none none none none none none none none none none none none none) = some (.nx (W (.list (ns.map .int)) (boxD ds (k + 1)) s ts (some t1) none none none none none none none none none none none none)) := set_of (calln rfl rfl ht1) rfl
  have g6 := st6 (sc := .list (ns.map .int)) (bx := boxD ds (k + 1)) G T1 (check_told hs G)
  obtain ⟨x8, x9, g7⟩ := st7 (sc := .list (ns.map .int)) (bx := boxD ds (k + 1)) hs G h2 (told := t1)
  have g8 := st8 (sc := .list (ns.map .int)) (bx := boxD ds (k + 1)) (s := s) (ts := ts) (told := t1) (x8 := x8) (x9 := x9)
  have g9 := st9 (sc := .list (ns.map .int)) (bx := boxD ds (k + 1)) (s := s) G (told := t1) (x8 := x8) (x9 := x9) (x10 := some (sysD true [1] ts)) (x11 := some (sysD false [1] ts))
  have g10 : G10 (W (.list (ns.map .int)) (boxD ds (k + 1)) s ts (some t1) x8 x9 (some (sysD true [1] ts)) (some (sysD false [1] ts)) (some (.list (timesL (sts ts) ts.length))) none none none none none none none) = some (.nx (W (.list (ns.map .int)) (boxD ds (k + 1)) s ts (some t2) x8 x9 (some (sysD true [1] ts)) (some (sysD false [1] ts)) (some (.list (timesL (sts ts) ts.length))) none none none none none none none)) := set_of (calln rfl rfl ht2) rfl
  have g11 := st11 (sc := .list (ns.map .int)) (bx := boxD ds (k + 1)) (s := s) G (x8 := x8) (x9 := x9) (x10 := some (sysD true [1] ts)) T2
  have g12 := st12 (sc := .list (ns.map .int)) (bx := boxD ds (k + 1)) (s := s) G (told := t2) (x8 := x8) (x9 := x9)
  have g13 := st13 (sc := .list (ns.map .int)) (bx := boxD ds (k + 1)) (s := s) G (told := t2) (x8 := x8) (x9 := x9)
  have fin : ∀ (told : PD) (x16 x17 : Option PD), ∃ e, dSeq G17 (dSeq G18 G19) (W2 (.list (ns.map .int)) (boxD ds (k + 1)) s ts (some told) x8 x9 (some (.list ((goodL ts).map rowD))) x16 x17 none none) = some (.rt (.bool true) e) := fun told x16 x17 => by
    obtain ⟨y17, y19, g18⟩ := st18 (sc := .list (ns.map .int)) (bx := boxD ds (k + 1)) (s := s) G (told := told) (x8 := x8) (x9 := x9) (x15 := some (.list ((goodL ts).map rowD))) (x16 := x16) (x17 := x17)
    obtain ⟨e, g19⟩ := st19 (sc := .list (ns.map .int)) (bx := boxD ds (k + 1)) (s := s) G (told := told) (x8 := x8) (x9 := x9) (x15 := some (.list ((goodL ts).map rowD))) (x16 := x16) (x17 := y17) (x19 := y19)
    exact ⟨e, seq_nx (setF_of rfl rfl) (seq_nx g18 g19)⟩
  show fnD 26 f_law _ = _
  rcases order_for_ok (pre := true) sup1 G with ⟨L, hL, h0, hn, ho⟩ | ⟨O, hO, hF, ho⟩
  · have g14 : G14 (W2 (.list (ns.map .int)) (boxD ds (k + 1)) s ts (some t2) x8 x9 (some (.list ((goodL ts).map rowD))) none none none none) = some (.nx (W2 (.list (ns.map .int)) (boxD ds (k + 1)) s ts (some (noneD L)) x8 x9 (some (.list ((goodL ts).map rowD))) none none none none)) := set_of (calln rfl rfl ho) rfl
    have g15 := st15n (sc := .list (ns.map .int)) (bx := boxD ds (k + 1)) (s := s) G hL h0 hn (x8 := x8) (x9 := x9)
    obtain ⟨x17, g16⟩ := st16n (sc := .list (ns.map .int)) (bx := boxD ds (k + 1)) (s := s) G hL h0 hn (x8 := x8) (x9 := x9) (x15 := some (.list ((goodL ts).map rowD)))
    obtain ⟨e, he⟩ := fin (noneD L) none x17
    refine fn_rt (e := e) ?_
    rw [f_law_G]
    exact seq_nx g1 (seq_nx g2 (seq_nx g3 (seq_nx g4 (seq_nx g5 (seq_nx g6 (seq_nx g7 (seq_nx g8 (seq_nx g9 (seq_nx g10 (seq_nx g11 (seq_nx g12 (seq_nx g13 (seq_nx g14 (seq_nx g15 (seq_nx g16 he)))))))))))))))
  · have g14 : G14 (W2 (.list (ns.map .int)) (boxD ds (k + 1)) s ts (some t2) x8 x9 (some (.list ((goodL ts).map rowD))) none none none none) = some (.nx (W2 (.list (ns.map .int)) (boxD ds (k + 1)) s ts (some (orderD O (tms [1] O))) x8 x9 (some (.list ((goodL ts).map rowD))) none none none none)) := set_of (calln rfl rfl ho) rfl
    have g15 := st15o (sc := .list (ns.map .int)) (bx := boxD ds (k + 1)) (s := s) G hO hF (x8 := x8) (x9 := x9)
    obtain ⟨x16, g16⟩ := st16o (sc := .list (ns.map .int)) (bx := boxD ds (k + 1)) (s := s) G h2 hO hF (x8 := x8) (x9 := x9)
    obtain ⟨e, he⟩ := fin (orderD O (tms [1] O)) x16 none
    refine fn_rt (e := e) ?_
    rw [f_law_G]
    exact seq_nx g1 (seq_nx g2 (seq_nx g3 (seq_nx g4 (seq_nx g5 (seq_nx g6 (seq_nx g7 (seq_nx g8 (seq_nx g9 (seq_nx g10 (seq_nx g11 (seq_nx g12 (seq_nx g13 (seq_nx g14 (seq_nx g15 (seq_nx g16 he)))))))))))))))
end K12
end
section
set_option Elab.async false
set_option linter.all false
set_option maxRecDepth 100000
set_option maxHeartbeats 0
namespace K12
open PySem PySem.Spec PyProof.Rows L2 D
theorem facts {P : Program} {w : World} {K : PySem.W.Frag} {h : Heap} {mg : Str → Option Value} {f : Addr} (X : K.In h) (G : h.Ns mainGlobals mg) (hfa : mg ("law" : Str) = some (.ref f)) (c : He.SaysD fa fn K) :
    ∃ fd : FuncData, (∀ (s : Shared) (v : Value), BindsTo s fd ⟨[v], []⟩ [("script", v)]) ∧ ∀ base : Heap, K.In base → base.Ns mainGlobals mg → FnOk P w K mg base CX0 13 f fd P_law (spP K 1 F_law) := by
  obtain ⟨fd0, F0⟩ := c.def_ 0 (d := dd_is_whole) rfl
  have g0 := He.glo_ok X G (c.fact 0 (f := .glo "is_whole") rfl)
  obtain ⟨fd1, F1⟩ := c.def_ 1 (d := dd_is_between) rfl
  have g1 := He.glo_ok X G (c.fact 1 (f := .glo "is_between") rfl)
  obtain ⟨fd2, F2⟩ := c.def_ 2 (d := dd_is_pair) rfl
  have g2 := He.glo_ok X G (c.fact 2 (f := .glo "is_pair") rfl)
  obtain ⟨fd3, F3⟩ := c.def_ 3 (d := dd_are_texts) rfl
  have g3 := He.glo_ok X G (c.fact 3 (f := .glo "are_texts") rfl)
  obtain ⟨fd4, F4⟩ := c.def_ 4 (d := dd_names_of) rfl
  have g4 := He.glo_ok X G (c.fact 4 (f := .glo "names_of") rfl)
  obtain ⟨fd5, F5⟩ := c.def_ 5 (d := dd_tasks_of) rfl
  have g5 := He.glo_ok X G (c.fact 5 (f := .glo "tasks_of") rfl)
  obtain ⟨fd6, F6⟩ := c.def_ 6 (d := dd_task_of) rfl
  have g6 := He.glo_ok X G (c.fact 6 (f := .glo "task_of") rfl)
  obtain ⟨fd7, F7⟩ := c.def_ 7 (d := dd_with_tasks) rfl
  have g7 := He.glo_ok X G (c.fact 7 (f := .glo "with_tasks") rfl)
  obtain ⟨fd8, F8⟩ := c.def_ 8 (d := dd_only) rfl
  have g8 := He.glo_ok X G (c.fact 8 (f := .glo "only") rfl)
  obtain ⟨fd9, F9⟩ := c.def_ 9 (d := dd_with_order) rfl
  have g9 := He.glo_ok X G (c.fact 9 (f := .glo "with_order") rfl)
  obtain ⟨fd10, F10⟩ := c.def_ 10 (d := dd_is_full) rfl
  have g10 := He.glo_ok X G (c.fact 10 (f := .glo "is_full") rfl)
  obtain ⟨fd11, F11⟩ := c.def_ 11 (d := dd_least_supply) rfl
  have g11 := He.glo_ok X G (c.fact 11 (f := .glo "least_supply") rfl)
  obtain ⟨fd12, F12⟩ := c.def_ 12 (d := dd_up) rfl
  have g12 := He.glo_ok X G (c.fact 12 (f := .glo "up") rfl)
  obtain ⟨fd13, F13⟩ := c.def_ 13 (d := dd_hold_of) rfl
  have g13 := He.glo_ok X G (c.fact 13 (f := .glo "hold_of") rfl)
  obtain ⟨fd14, F14⟩ := c.def_ 14 (d := dd_need_of) rfl
  have g14 := He.glo_ok X G (c.fact 14 (f := .glo "need_of") rfl)
  obtain ⟨fd15, F15⟩ := c.def_ 15 (d := dd_is_timed) rfl
  have g15 := He.glo_ok X G (c.fact 15 (f := .glo "is_timed") rfl)
  obtain ⟨fd16, F16⟩ := c.def_ 16 (d := dd_is_enough_time) rfl
  have g16 := He.glo_ok X G (c.fact 16 (f := .glo "is_enough_time") rfl)
  obtain ⟨fd17, F17⟩ := c.def_ 17 (d := dd__least_time) rfl
  have g17 := He.glo_ok X G (c.fact 17 (f := .glo "_least_time") rfl)
  obtain ⟨fd18, F18⟩ := c.def_ 18 (d := dd_timed) rfl
  have g18 := He.glo_ok X G (c.fact 18 (f := .glo "timed") rfl)
  obtain ⟨fd19, F19⟩ := c.def_ 19 (d := dd_is_started) rfl
  have g19 := He.glo_ok X G (c.fact 19 (f := .glo "is_started") rfl)
  obtain ⟨fd20, F20⟩ := c.def_ 20 (d := dd_is_enough_start) rfl
  have g20 := He.glo_ok X G (c.fact 20 (f := .glo "is_enough_start") rfl)
  obtain ⟨fd21, F21⟩ := c.def_ 21 (d := dd_started) rfl
  have g21 := He.glo_ok X G (c.fact 21 (f := .glo "started") rfl)
  obtain ⟨fd22, F22⟩ := c.def_ 22 (d := dd__are_rows) rfl
  have g22 := He.glo_ok X G (c.fact 22 (f := .glo "_are_rows") rfl)
  obtain ⟨fd23, F23⟩ := c.def_ 23 (d := dd__are_times) rfl
  have g23 := He.glo_ok X G (c.fact 23 (f := .glo "_are_times") rfl)
  obtain ⟨fd24, F24⟩ := c.def_ 24 (d := dd__are_starts) rfl
  have g24 := He.glo_ok X G (c.fact 24 (f := .glo "_are_starts") rfl)
  obtain ⟨fd25, F25⟩ := c.def_ 25 (d := dd_is_paper) rfl
  have g25 := He.glo_ok X G (c.fact 25 (f := .glo "is_paper") rfl)
  obtain ⟨fd26, F26⟩ := c.def_ 26 (d := dd_check) rfl
  have g26 := He.glo_ok X G (c.fact 26 (f := .glo "check") rfl)
  obtain ⟨fd27, F27⟩ := c.def_ 27 (d := dd__last_of) rfl
  have g27 := He.glo_ok X G (c.fact 27 (f := .glo "_last_of") rfl)
  obtain ⟨fd28, F28⟩ := c.def_ 28 (d := dd_moved_last) rfl
  have g28 := He.glo_ok X G (c.fact 28 (f := .glo "moved_last") rfl)
  obtain ⟨fd29, F29⟩ := c.def_ 29 (d := dd_order_for) rfl
  have g29 := He.glo_ok X G (c.fact 29 (f := .glo "order_for") rfl)
  obtain ⟨fd30, F30⟩ := c.def_ 30 (d := dd_is_never_last) rfl
  have g30 := He.glo_ok X G (c.fact 30 (f := .glo "is_never_last") rfl)
  obtain ⟨fd31, F31⟩ := c.def_ 31 (d := dd_check_order) rfl
  have g31 := He.glo_ok X G (c.fact 31 (f := .glo "check_order") rfl)
  obtain ⟨fd32, F32⟩ := c.def_ 32 (d := dd_places_told) rfl
  have g32 := He.glo_ok X G (c.fact 32 (f := .glo "places_told") rfl)
  obtain ⟨fd33, F33⟩ := c.def_ 33 (d := dd__law_cell) rfl
  have g33 := He.glo_ok X G (c.fact 33 (f := .glo "_law_cell") rfl)
  obtain ⟨fd34, F34⟩ := c.def_ 34 (d := dd__law_digits) rfl
  have g34 := He.glo_ok X G (c.fact 34 (f := .glo "_law_digits") rfl)
  obtain ⟨fd35, F35⟩ := c.def_ 35 (d := dd__law_draw) rfl
  have g35 := He.glo_ok X G (c.fact 35 (f := .glo "_law_draw") rfl)
  obtain ⟨fd36, F36⟩ := c.def_ 36 (d := dd__law_like) rfl
  have g36 := He.glo_ok X G (c.fact 36 (f := .glo "_law_like") rfl)
  obtain ⟨fd37, F37⟩ := c.def_ 37 (d := dd__law_tasks) rfl
  have g37 := He.glo_ok X G (c.fact 37 (f := .glo "_law_tasks") rfl)
  obtain ⟨fd38, F38⟩ := c.def_ 38 (d := dd__law_least) rfl
  have g38 := He.glo_ok X G (c.fact 38 (f := .glo "_law_least") rfl)
  obtain ⟨fd39, F39⟩ := c.def_ 39 (d := dd__law_time) rfl
  have g39 := He.glo_ok X G (c.fact 39 (f := .glo "_law_time") rfl)
  obtain ⟨fd40, F40⟩ := c.def_ 40 (d := dd__law_start) rfl
  have g40 := He.glo_ok X G (c.fact 40 (f := .glo "_law_start") rfl)
  obtain ⟨fd41, F41⟩ := c.def_ 41 (d := dd__law_orders) rfl
  have g41 := He.glo_ok X G (c.fact 41 (f := .glo "_law_orders") rfl)
  obtain ⟨fd42, F42⟩ := c.def_ 42 (d := dd__law_fits) rfl
  have g42 := He.glo_ok X G (c.fact 42 (f := .glo "_law_fits") rfl)
  obtain ⟨fd43, F43⟩ := c.def_ 43 (d := dd_law) rfl
  have g43 := He.glo_ok X G (c.fact 43 (f := .glo "law") rfl)
  have M : Mb mg := ⟨He.free_ok X G (c.fact 44 (f := .free "isinstance") rfl), He.free_ok X G (c.fact 45 (f := .free "int") rfl), He.free_ok X G (c.fact 46 (f := .free "bool") rfl), He.free_ok X G (c.fact 47 (f := .free "str") rfl), He.free_ok X G (c.fact 48 (f := .free "tuple") rfl), He.free_ok X G (c.fact 49 (f := .free "list") rfl), He.free_ok X G (c.fact 50 (f := .free "dict") rfl), He.free_ok X G (c.fact 51 (f := .free "len") rfl), He.free_ok X G (c.fact 52 (f := .free "min") rfl), He.free_ok X G (c.fact 53 (f := .free "max") rfl), He.free_ok X G (c.fact 54 (f := .free "sum") rfl), He.free_ok X G (c.fact 55 (f := .free "all") rfl), He.free_ok X G (c.fact 56 (f := .free "any") rfl), He.free_ok X G (c.fact 57 (f := .free "sorted") rfl), He.free_ok X G (c.fact 58 (f := .free "range") rfl), He.free_ok X G (c.fact 59 (f := .free "enumerate") rfl), He.free_ok X G (c.fact 60 (f := .free "zip") rfl), He.free_ok X G (c.fact 61 (f := .free "reversed") rfl)⟩
  have e := hfa.symm.trans g43
  cases e
  have b := FunD.bindsA (ps := P_law) F43 fun _ _ _ _ _ _ us hl => match us, hl with | [_], _ => rfl
  refine ⟨fd43, fun s v => b s [v] rfl, fun base _ _ => ?_⟩
  have c_is_whole := cal_is_whole (P := P) (w := w) (base := base) ⟨_, fd0, F0, g0⟩ M
  have c_is_between := cal_is_between (P := P) (w := w) (base := base) ⟨_, fd1, F1, g1⟩ M c_is_whole
  have c_is_pair := cal_is_pair (P := P) (w := w) (base := base) ⟨_, fd2, F2, g2⟩ M
  have c_are_texts := cal_are_texts (P := P) (w := w) (base := base) ⟨_, fd3, F3, g3⟩ M
  have c_names_of := cal_names_of (P := P) (w := w) (base := base) ⟨_, fd4, F4, g4⟩ M
  have c_tasks_of := cal_tasks_of (P := P) (w := w) (base := base) ⟨_, fd5, F5, g5⟩ M
  have c_task_of := cal_task_of (P := P) (w := w) (base := base) ⟨_, fd6, F6, g6⟩ M c_tasks_of
  have c_with_tasks := cal_with_tasks (P := P) (w := w) (base := base) ⟨_, fd7, F7, g7⟩ M
  have c_only := cal_only (P := P) (w := w) (base := base) ⟨_, fd8, F8, g8⟩ M c_tasks_of c_with_tasks
  have c_with_order := cal_with_order (P := P) (w := w) (base := base) ⟨_, fd9, F9, g9⟩ M c_task_of c_with_tasks
  have c_is_full := cal_is_full (P := P) (w := w) (base := base) ⟨_, fd10, F10, g10⟩ M
  have c_least_supply := cal_least_supply (P := P) (w := w) (base := base) ⟨_, fd11, F11, g11⟩ M
  have c_up := cal_up (P := P) (w := w) (base := base) ⟨_, fd12, F12, g12⟩ M
  have c_hold_of := cal_hold_of (P := P) (w := w) (base := base) ⟨_, fd13, F13, g13⟩ M c_names_of
  have c_need_of := cal_need_of (P := P) (w := w) (base := base) ⟨_, fd14, F14, g14⟩ M c_tasks_of c_up c_task_of c_hold_of
  have c_is_timed := cal_is_timed (P := P) (w := w) (base := base) ⟨_, fd15, F15, g15⟩ M
  have c_is_enough_time := cal_is_enough_time (P := P) (w := w) (base := base) ⟨_, fd16, F16, g16⟩ M c_need_of c_least_supply
  have c__least_time := cal__least_time (P := P) (w := w) (base := base) ⟨_, fd17, F17, g17⟩ M c_is_enough_time
  have c_timed := cal_timed (P := P) (w := w) (base := base) ⟨_, fd18, F18, g18⟩ M c_tasks_of c__least_time
  have c_is_started := cal_is_started (P := P) (w := w) (base := base) ⟨_, fd19, F19, g19⟩ M c_is_full
  have c_is_enough_start := cal_is_enough_start (P := P) (w := w) (base := base) ⟨_, fd20, F20, g20⟩ M c_tasks_of
  have c_started := cal_started (P := P) (w := w) (base := base) ⟨_, fd21, F21, g21⟩ M c_tasks_of c_is_enough_start
  have c__are_rows := cal__are_rows (P := P) (w := w) (base := base) ⟨_, fd22, F22, g22⟩ M c_names_of c_is_pair
  have c__are_times := cal__are_times (P := P) (w := w) (base := base) ⟨_, fd23, F23, g23⟩ M c_is_enough_time c_tasks_of c_is_between c__are_rows c_is_timed
  have c__are_starts := cal__are_starts (P := P) (w := w) (base := base) ⟨_, fd24, F24, g24⟩ M c_is_enough_start c_tasks_of c_is_between c__are_rows c_is_started
  have c_is_paper := cal_is_paper (P := P) (w := w) (base := base) ⟨_, fd25, F25, g25⟩ M c__are_starts c__are_times c_tasks_of
  have c_check := cal_check (P := P) (w := w) (base := base) ⟨_, fd26, F26, g26⟩ M c_is_paper c_is_pair
  have c__last_of := cal__last_of (P := P) (w := w) (base := base) ⟨_, fd27, F27, g27⟩ M c_task_of c_is_enough_time c_only c_with_order
  have c_moved_last := cal_moved_last (P := P) (w := w) (base := base) ⟨_, fd28, F28, g28⟩ M c_with_order c_names_of
  have c_order_for := cal_order_for (P := P) (w := w) (base := base) ⟨_, fd29, F29, g29⟩ M c_with_order c_timed c__last_of c_names_of
  have c_is_never_last := cal_is_never_last (P := P) (w := w) (base := base) ⟨_, fd30, F30, g30⟩ M c_task_of c_is_enough_time c_only c_moved_last
  have c_check_order := cal_check_order (P := P) (w := w) (base := base) ⟨_, fd31, F31, g31⟩ M c_is_never_last c_names_of c_with_order c_check c_are_texts
  have c_places_told := cal_places_told (P := P) (w := w) (base := base) ⟨_, fd32, F32, g32⟩ M c_task_of c_is_enough_time c_with_order c_names_of
  have c__law_cell := cal__law_cell (P := P) (w := w) (base := base) ⟨_, fd33, F33, g33⟩ M
  have c__law_digits := cal__law_digits (P := P) (w := w) (base := base) ⟨_, fd34, F34, g34⟩ M c__law_cell
  have c__law_draw := cal__law_draw (P := P) (w := w) (base := base) ⟨_, fd35, F35, g35⟩ M
  have c__law_like := cal__law_like (P := P) (w := w) (base := base) ⟨_, fd36, F36, g36⟩ M 12
  have c__law_tasks := cal__law_tasks (P := P) (w := w) (base := base) ⟨_, fd37, F37, g37⟩ M c__law_draw
  have c__law_least := cal__law_least (P := P) (w := w) (base := base) ⟨_, fd38, F38, g38⟩ M
  have c__law_time := cal__law_time (P := P) (w := w) (base := base) ⟨_, fd39, F39, g39⟩ M c__law_least
  have c__law_start := cal__law_start (P := P) (w := w) (base := base) ⟨_, fd40, F40, g40⟩ M
  have c__law_orders := cal__law_orders (P := P) (w := w) (base := base) ⟨_, fd41, F41, g41⟩ M
  have c__law_fits := cal__law_fits (P := P) (w := w) (base := base) ⟨_, fd42, F42, g42⟩ M c__law_time
  exact ok_fnP F43 sc_law (g := F_law) (fun ds d _ h => h) (fun cdv A outer s H E hr => b_law ⟨rfl, rfl, rfl, hr, PassesOwn.never, sc_law.nd⟩ (fun _ => rfl) M c_places_told c__law_like c__law_time c_check_order c_with_order c_check c_order_for c__law_fits c__law_orders c_started c__law_start c_timed c__law_draw c__law_tasks c__law_digits)
theorem law_sp (K : PySem.W.Frag) (H : Hp) (a : Addr) (ns : List Int) (hl : ns.length ≤ 63) (hS : SqL K H a (ns.map V.int)) : spP K 1 F_law [.ref a] H (fun v _ => v = .bl true) fun _ _ _ => False := by
  refine ⟨fun _ => False, [.list (ns.map .int)], .bool true, rfl, law_val ns hl, fun _ z => z.elim, .cons (.lst ⟨?_, ?_⟩ (RepL.of_ints ns)) .nil, fun v H' _ r => by cases r; rfl⟩
  · rcases hS with h | h
    · exact .inl ⟨h, fun z => z⟩
    · exact .inr h
  · rw [List.length_map]
    exact Nat.le_trans hl (by decide)
end K12
open PySem PySem.W PySem.Calls PyProof.Rows
theorem PySem.Challenge.cw_timelyproof_k12_orders_and_times_holds : PySem.Challenge.rw_timelyproof_k12_orders_and_times.Holds := by
  w_on; o_law
  refine HandSHeadRun.head_imp (r := OpenLaw.row PySem.Challenge.rw_timelyproof_k12_orders_and_times) (q := view (OpenLaw.row PySem.Challenge.rw_timelyproof_k12_orders_and_times).prog [0, 103]) (H := K12.hk) (ob := K12.ob) (M := 4000) (loose := K12.loose) (d := HandSHeadRun.topDef (OpenLaw.row PySem.Challenge.rw_timelyproof_k12_orders_and_times).prog 103) (kwd := []) K12.ob_eq
    K12.run (by kernel_rfl) (by kernel_rfl) (by kernel_rfl) (by rfl) (by first | assumption | decide +kernel) (by decide +kernel) ⟨rfl, rfl, rfl, rfl, rfl, by decide +kernel⟩ ?hw ?hc
  case hw => w_witness2
  case hc =>
    refine L2.walk_ofE (l := PySem.Challenge.rw_timelyproof_k12_orders_and_times) (n := 63) (k := 13) (x := "script") (CX := L2.CX0) rfl (by decide) (by kernel_rfl) ⟨rfl, by decide, by decide⟩ ?F (fun _ _ _ _ z => z)
    intro w mg fa h Y G hmg0
    obtain ⟨K, KX, c⟩ := Y
    have hmg : mg ("law" : PySem.Str) = some (.ref fa) := by
      have e : (HandSHeadRun.topDef (OpenLaw.row PySem.Challenge.rw_timelyproof_k12_orders_and_times).prog 103).name = ("law" : PySem.Str) := by kernel_rfl
      rw [← e]
      exact hmg0
    obtain ⟨fd, hb, hF⟩ := K12.facts (P := (PySem.Challenge.rw_timelyproof_k12_orders_and_times).prog) (w := w) KX G hmg c
    exact ⟨K, fd, D.spP K 1 K12.F_law, KX, hb, fun H a ns hl _ hS => K12.law_sp K H a ns hl hS, hF⟩
end
