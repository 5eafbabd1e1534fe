import PyProof.Rows.All
import Wide.All
import OpenK.AllK
import Wide.FinOn
import KE.KStateDown
import Lean
import HandS.Base
import HandS.Call
import HandS.Ends
import HandS.More
import HandS.Words
import HandS.WordsExc
import HandS.Defaults
import HandS.Head0
import HandS.Head1
import HandS.Head2
import HandS.Head3
import HandS.HeadEnd
import HandS.HeadHook1
import HandS.HeadHook2
import HandS.List
import HandS.Comp
import HandS.Dict
import HandS.Iter
import KE.SortData
import KE.LtData
import HandS.TupAny
import HandS.Wide
import HandS.Style
import HandS.TupMul
import HandS.Star
import HandS.MakeKwOnly
import HandS.IsInst
import HandS.Gcd
import HandS.Conv
import HandS.NoneIn
import HandS.Small
import KE.DataMinMax
import KE.KTupSum
import PyProof.TupleOfSeq
import HandS.Walk
import HandS.Zip
import PyProof.Transfer
import KE.GoesZip
import HandS.ExcValue
import HandS.TupSets
import KE.OsArith
import KE.BitLaws
import PySem.Challenge.RW_packbench_k92_whole_balanced_orders
set_option Elab.async false
set_option linter.all false
set_option maxRecDepth 100000
set_option maxHeartbeats 0
namespace Hd
open PySem PySem.Spec PyProof.Rows L2
def top (i : Nat) : Stmt := PySem.Challenge.pw_packbench_k92_whole_balanced_orders.main.body.getD i (.Pass ⟨0, 0, 0, 0⟩)
abbrev s_is_integer : Stmt := top 6
def d_is_integer : He.DefD := ⟨("is_integer", none), "is_integer", "is_integer", defArgs s_is_integer, defBody s_is_integer, defScope s_is_integer, [], []⟩
abbrev s_is_between : Stmt := top 7
def d_is_between : He.DefD := ⟨("is_between", none), "is_between", "is_between", defArgs s_is_between, defBody s_is_between, defScope s_is_between, [], []⟩
abbrev s_is_tuple_of : Stmt := top 8
def d_is_tuple_of : He.DefD := ⟨("is_tuple_of", none), "is_tuple_of", "is_tuple_of", defArgs s_is_tuple_of, defBody s_is_tuple_of, defScope s_is_tuple_of, [], []⟩
abbrev s_is_row : Stmt := top 9
def d_is_row : He.DefD := ⟨("is_row", none), "is_row", "is_row", defArgs s_is_row, defBody s_is_row, defScope s_is_row, [], []⟩
abbrev s_are_numbers : Stmt := top 10
def d_are_numbers : He.DefD := ⟨("are_numbers", none), "are_numbers", "are_numbers", defArgs s_are_numbers, defBody s_are_numbers, defScope s_are_numbers, [], []⟩
abbrev s_is_rising : Stmt := top 11
def d_is_rising : He.DefD := ⟨("is_rising", none), "is_rising", "is_rising", defArgs s_is_rising, defBody s_is_rising, defScope s_is_rising, [], []⟩
abbrev s_lowest : Stmt := top 13
def d_lowest : He.DefD := ⟨("lowest", none), "lowest", "lowest", defArgs s_lowest, defBody s_lowest, defScope s_lowest, [], []⟩
abbrev s_whole : Stmt := top 14
def d_whole : He.DefD := ⟨("whole", none), "whole", "whole", defArgs s_whole, defBody s_whole, defScope s_whole, [], []⟩
abbrev s_subtract : Stmt := top 15
def d_subtract : He.DefD := ⟨("subtract", none), "subtract", "subtract", defArgs s_subtract, defBody s_subtract, defScope s_subtract, [], []⟩
abbrev s_check_number : Stmt := top 17
def d_check_number : He.DefD := ⟨("check_number", none), "check_number", "check_number", defArgs s_check_number, defBody s_check_number, defScope s_check_number, [], []⟩
abbrev s_check_positions : Stmt := top 28
def d_check_positions : He.DefD := ⟨("check_positions", none), "check_positions", "check_positions", defArgs s_check_positions, defBody s_check_positions, defScope s_check_positions, [], []⟩
abbrev s_check_loads : Stmt := top 29
def d_check_loads : He.DefD := ⟨("check_loads", none), "check_loads", "check_loads", defArgs s_check_loads, defBody s_check_loads, defScope s_check_loads, [], []⟩
abbrev s_check_weights : Stmt := top 30
def d_check_weights : He.DefD := ⟨("check_weights", none), "check_weights", "check_weights", defArgs s_check_weights, defBody s_check_weights, defScope s_check_weights, [], []⟩
abbrev s_check_slack : Stmt := top 31
def d_check_slack : He.DefD := ⟨("check_slack", none), "check_slack", "check_slack", defArgs s_check_slack, defBody s_check_slack, defScope s_check_slack, [], []⟩
abbrev s_product_sum : Stmt := top 32
def d_product_sum : He.DefD := ⟨("product_sum", none), "product_sum", "product_sum", defArgs s_product_sum, defBody s_product_sum, defScope s_product_sum, [], []⟩
abbrev s_moment : Stmt := top 33
def d_moment : He.DefD := ⟨("moment", none), "moment", "moment", defArgs s_moment, defBody s_moment, defScope s_moment, [], []⟩
abbrev s_tail_sums : Stmt := top 34
def d_tail_sums : He.DefD := ⟨("tail_sums", none), "tail_sums", "tail_sums", defArgs s_tail_sums, defBody s_tail_sums, defScope s_tail_sums, [], []⟩
abbrev s_is_next : Stmt := top 35
def d_is_next : He.DefD := ⟨("is_next", none), "is_next", "is_next", defArgs s_is_next, defBody s_is_next, defScope s_is_next, [], []⟩
abbrev s_head_rows : Stmt := top 36
def d_head_rows : He.DefD := ⟨("head_rows", none), "head_rows", "head_rows", defArgs s_head_rows, defBody s_head_rows, defScope s_head_rows, [], []⟩
abbrev s_first_row : Stmt := top 37
def d_first_row : He.DefD := ⟨("first_row", none), "first_row", "first_row", defArgs s_first_row, defBody s_first_row, defScope s_first_row, [], []⟩
abbrev s_least_sum : Stmt := top 38
def d_least_sum : He.DefD := ⟨("least_sum", none), "least_sum", "least_sum", defArgs s_least_sum, defBody s_least_sum, defScope s_least_sum, [], []⟩
abbrev s_balanced : Stmt := top 39
def d_balanced : He.DefD := ⟨("balanced", none), "balanced", "balanced", defArgs s_balanced, defBody s_balanced, defScope s_balanced, [], []⟩
abbrev s_least_moment : Stmt := top 40
def d_least_moment : He.DefD := ⟨("least_moment", none), "least_moment", "least_moment", defArgs s_least_moment, defBody s_least_moment, defScope s_least_moment, [], []⟩
abbrev s_check_axles : Stmt := top 41
def d_check_axles : He.DefD := ⟨("check_axles", none), "check_axles", "check_axles", defArgs s_check_axles, defBody s_check_axles, defScope s_check_axles, [], []⟩
abbrev s_axle_loads : Stmt := top 42
def d_axle_loads : He.DefD := ⟨("axle_loads", none), "axle_loads", "axle_loads", defArgs s_axle_loads, defBody s_axle_loads, defScope s_axle_loads, [], []⟩
abbrev s_within_axles : Stmt := top 43
def d_within_axles : He.DefD := ⟨("within_axles", none), "within_axles", "within_axles", defArgs s_within_axles, defBody s_within_axles, defScope s_within_axles, [], []⟩
abbrev s_mask_sum : Stmt := top 44
def d_mask_sum : He.DefD := ⟨("mask_sum", none), "mask_sum", "mask_sum", defArgs s_mask_sum, defBody s_mask_sum, defScope s_mask_sum, [], []⟩
abbrev s_loading_order : Stmt := top 45
def d_loading_order : He.DefD := ⟨("loading_order", none), "loading_order", "loading_order", defArgs s_loading_order, defBody s_loading_order, defScope s_loading_order, [], []⟩
abbrev s__law_cell : Stmt := top 47
def d__law_cell : He.DefD := ⟨("_law_cell", none), "_law_cell", "_law_cell", defArgs s__law_cell, defBody s__law_cell, defScope s__law_cell, [], []⟩
abbrev s__law_box : Stmt := top 48
def d__law_box : He.DefD := ⟨("_law_box", none), "_law_box", "_law_box", defArgs s__law_box, defBody s__law_box, defScope s__law_box, [], []⟩
abbrev s__law_take : Stmt := top 49
def d__law_take : He.DefD := ⟨("_law_take", none), "_law_take", "_law_take", defArgs s__law_take, defBody s__law_take, defScope s__law_take, [], []⟩
abbrev s__law_same : Stmt := top 50
def d__law_same : He.DefD := ⟨("_law_same", none), "_law_same", "_law_same", defArgs s__law_same, defBody s__law_same, defScope s__law_same, [], []⟩
abbrev s__law_mixed : Stmt := top 51
def d__law_mixed : He.DefD := ⟨("_law_mixed", none), "_law_mixed", "_law_mixed", defArgs s__law_mixed, defBody s__law_mixed, defScope s__law_mixed, [], []⟩
abbrev s__law_gcd : Stmt := top 52
def d__law_gcd : He.DefD := ⟨("_law_gcd", none), "_law_gcd", "_law_gcd", defArgs s__law_gcd, defBody s__law_gcd, defScope s__law_gcd, [], []⟩
abbrev s__law_low : Stmt := top 53
def d__law_low : He.DefD := ⟨("_law_low", none), "_law_low", "_law_low", defArgs s__law_low, defBody s__law_low, defScope s__law_low, [], []⟩
abbrev s__law_add : Stmt := top 54
def d__law_add : He.DefD := ⟨("_law_add", none), "_law_add", "_law_add", defArgs s__law_add, defBody s__law_add, defScope s__law_add, [], []⟩
abbrev s__law_mul : Stmt := top 55
def d__law_mul : He.DefD := ⟨("_law_mul", none), "_law_mul", "_law_mul", defArgs s__law_mul, defBody s__law_mul, defScope s__law_mul, [], []⟩
abbrev s__law_below : Stmt := top 56
def d__law_below : He.DefD := ⟨("_law_below", none), "_law_below", "_law_below", defArgs s__law_below, defBody s__law_below, defScope s__law_below, [], []⟩
abbrev s__law_orders : Stmt := top 57
def d__law_orders : He.DefD := ⟨("_law_orders", none), "_law_orders", "_law_orders", defArgs s__law_orders, defBody s__law_orders, defScope s__law_orders, [], []⟩
abbrev s__law_moment : Stmt := top 58
def d__law_moment : He.DefD := ⟨("_law_moment", none), "_law_moment", "_law_moment", defArgs s__law_moment, defBody s__law_moment, defScope s__law_moment, [], []⟩
abbrev s__law_axles : Stmt := top 59
def d__law_axles : He.DefD := ⟨("_law_axles", none), "_law_axles", "_law_axles", defArgs s__law_axles, defBody s__law_axles, defScope s__law_axles, [], []⟩
abbrev s__law_loading : Stmt := top 60
def d__law_loading : He.DefD := ⟨("_law_loading", none), "_law_loading", "_law_loading", defArgs s__law_loading, defBody s__law_loading, defScope s__law_loading, [], []⟩
abbrev s__law_right : Stmt := top 61
def d__law_right : He.DefD := ⟨("_law_right", none), "_law_right", "_law_right", defArgs s__law_right, defBody s__law_right, defScope s__law_right, [], []⟩
abbrev s__law_mirrored_right : Stmt := top 62
def d__law_mirrored_right : He.DefD := ⟨("_law_mirrored_right", none), "_law_mirrored_right", "_law_mirrored_right", defArgs s__law_mirrored_right, defBody s__law_mirrored_right, defScope s__law_mirrored_right, [], []⟩
abbrev s_law : Stmt := top 63
def d_law : He.DefD := ⟨("law", none), "law", "law", defArgs s_law, defBody s_law, defScope s_law, [], []⟩
def fn0 : List He.DefD := [d_is_integer, d_is_between, d_is_tuple_of, d_is_row, d_are_numbers, d_is_rising, d_lowest, d_whole, d_subtract, d_check_number, d_check_positions, d_check_loads, d_check_weights, d_check_slack, d_product_sum, d_moment, d_tail_sums, d_is_next, d_head_rows, d_first_row, d_least_sum, d_balanced, d_least_moment, d_check_axles, d_axle_loads, d_within_axles, d_mask_sum, d_loading_order, d__law_cell, d__law_box]
def fn1 : List He.DefD := [d__law_take, d__law_same, d__law_mixed, d__law_gcd, d__law_low, d__law_add, d__law_mul, d__law_below, d__law_orders, d__law_moment, d__law_axles, d__law_loading, d__law_right, d__law_mirrored_right, d_law]
def fn : List He.DefD := fn0 ++ fn1
def fa0 : List He.Fa := [.glo "is_integer", .glo "is_between", .glo "is_tuple_of", .glo "is_row", .glo "are_numbers", .glo "is_rising", .glo "lowest", .glo "whole", .glo "subtract", .glo "check_number", .glo "check_positions", .glo "check_loads", .glo "check_weights", .glo "check_slack", .glo "product_sum", .glo "moment", .glo "tail_sums", .glo "is_next", .glo "head_rows", .glo "first_row", .glo "least_sum", .glo "balanced", .glo "least_moment", .glo "check_axles", .glo "axle_loads", .glo "within_axles", .glo "mask_sum", .glo "loading_order", .glo "_law_cell", .glo "_law_box"]
def fa1 : List He.Fa := [.glo "_law_take", .glo "_law_same", .glo "_law_mixed", .glo "_law_gcd", .glo "_law_low", .glo "_law_add", .glo "_law_mul", .glo "_law_below", .glo "_law_orders", .glo "_law_moment", .glo "_law_axles", .glo "_law_loading", .glo "_law_right", .glo "_law_mirrored_right", .glo "law", .int "MOST_PLACES" 8, .int "MOST_POSITION" 20, .int "MOST_LOAD" 100, .int "MOST_LIMIT" 1000, .int "MOST_SLACK" 20000, .free "len", .free "isinstance", .free "int", .free "bool", .free "str", .free "tuple", .free "list", .free "dict", .free "set", .free "sum"]
def fa2 : List He.Fa := [.free "min", .free "max", .free "any", .free "all", .free "sorted", .free "range", .free "enumerate", .free "zip", .free "abs", .free "ValueError"]
def fa : List He.Fa := fa0 ++ fa1 ++ fa2
def loose0 : List Str := ["PackError", "InvalidNumber", "InvalidWeights", "is_integer", "is_between", "is_tuple_of", "is_row", "are_numbers", "is_rising", "lowest", "whole", "subtract", "check_number", "InvalidLimits", "InvalidLoads", "InvalidPositions", "MOST_PLACES", "MOST_POSITION", "MOST_LOAD", "MOST_LIMIT", "MOST_SLACK", "check_positions", "check_loads", "check_weights", "check_slack", "product_sum", "moment", "tail_sums", "is_next", "head_rows"]
def loose1 : List Str := ["first_row", "least_sum", "balanced", "least_moment", "check_axles", "axle_loads", "within_axles", "mask_sum", "loading_order", "_law_cell", "_law_box", "_law_take", "_law_same", "_law_mixed", "_law_gcd", "_law_low", "_law_add", "_law_mul", "_law_below", "_law_orders", "_law_moment", "_law_axles", "_law_loading", "_law_right", "_law_mirrored_right"]
def loose : List Str := loose0 ++ loose1
abbrev R : PySem.W.OpenRow := PySem.W.OpenLaw.row PySem.Challenge.rw_packbench_k92_whole_balanced_orders
/-- the module's name gcd is math.gcd -/
def gF (K : PySem.W.Frag) : Bool := He.eqO (PySem.W.nsIn K mainGlobals "gcd") (some (some (.builtin "math.gcd")))
abbrev AlG : Type := He.AlD × Bool
def obK (K : PySem.W.Frag) : AlG := (He.obsD fa fn K, gF K)
def obG (g : Addr → Option Obj) : AlG := obK (He.frG g (He.asD g 4))
def hk : PySem.W.Hook where
  α := AlG
  obs := fun s => obG s.heap.get?
  val := fun _ => (He.valD fn, true)
  says := fun _ h => ∃ K : PySem.W.Frag, K.In h ∧ He.SaysD fa fn K ∧ gF K = true
  of := fun _ _ e => ⟨_, He.frG_in, congrArg (fun z : AlG => z.1) e, congrArg (fun z : AlG => z.2) e⟩
  keeps := fun _ _ _ ⟨K, hK, c⟩ k => ⟨K, PySem.W.Frag.In.keeps hK k, c⟩
def ob (s : PySem.W.SharedT) : AlG := obG (HandSHeadRun.getT s)
theorem ob_eq (s : PySem.W.SharedT) : ob s = hk.obs s.abs := by
  have e : HandSHeadRun.getT s = s.abs.heap.get? := funext fun a => HandSHeadRun.getT_eq s a
  show obG (HandSHeadRun.getT s) = obG s.abs.heap.get?
  rw [e]
theorem run (w : World) : HandSHeadRun.RunEqI R (PySem.W.view R.prog [0, 63]) hk ob 20000 loose w := by
  unfold HandSHeadRun.RunEqI
  kernel_rfl
end Hd
set_option maxHeartbeats 4000000
/-! Pure layer 1: plain data, how the heap bears it, the state by slots. -/
namespace PL
open PySem L2

/-- plain data -/
inductive D where
  | non | bl (b : Bool) | int (i : Int) | str (x : Str) | lst (xs : List D) | tup (xs : List D) | dic (kvs : List (Key × D))
  /-- the script -/
  | scr (ns : List Int)
  deriving Inhabited

mutual
inductive Rep (K : PySem.W.Frag) (G : Hp) : V → D → Prop where
  | non : Rep K G .non .non
  | bl (b : Bool) : Rep K G (.bl b) (.bl b)
  | int (i : Int) : Rep K G (.int i) (.int i)
  | str (x : Str) : Rep K G (.str x) (.str x)
  | lst {a : Addr} {xs : List V} {ds : List D} : G a = some (.lst xs) → RepL K G xs ds → Rep K G (.ref a) (.lst ds)
  | tup {a : Addr} {xs : List V} {ds : List D} : SqT K G a xs → RepL K G xs ds → Rep K G (.ref a) (.tup ds)
  | dic {a : Addr} {ks : List (Key × V)} {ds : List (Key × D)} : Rd G a (.dK ks) → RepK K G ks ds → Rep K G (.ref a) (.dic ds)
  | scr {a : Addr} {ns : List Int} : SqL K G a (ns.map V.int) → Rep K G (.ref a) (.scr ns)
inductive RepL (K : PySem.W.Frag) (G : Hp) : List V → List D → Prop where
  | nil : RepL K G [] []
  | cons {v : V} {d : D} {vs : List V} {ds : List D} : Rep K G v d → RepL K G vs ds → RepL K G (v :: vs) (d :: ds)
inductive RepK (K : PySem.W.Frag) (G : Hp) : List (Key × V) → List (Key × D) → Prop where
  | nil : RepK K G [] []
  | cons {k : Key} {v : V} {d : D} {vs : List (Key × V)} {ds : List (Key × D)} : Rep K G v d → RepK K G vs ds → RepK K G ((k, v) :: vs) ((k, d) :: ds)
end

/-- what may be read of G may be read of G', the lists as they are -/
structure RdLe (G G' : Hp) : Prop where
  rd : ∀ a u, (∀ o z, u ≠ .frz o z) → Rd G a u → Rd G' a u
  ls : ∀ a xs, G a = some (.lst xs) → G' a = some (.lst xs)
theorem RdLe.of {G G' : Hp} (e : Same G G') : RdLe G G' := by
  refine ⟨fun a u _ h => ?_, fun a xs h => e _ _ h⟩
  rcases h with h | ⟨o, h⟩
  · exact .inl (e _ _ h)
  · exact .inr ⟨o, e _ _ h⟩
theorem RdLe.l {K : PySem.W.Frag} {G G' : Hp} (e : RdLe G G') {a : Addr} {xs : List V} (h : SqL K G a xs) : SqL K G' a xs := by
  rcases h with h | h
  · exact .inl (e.rd _ _ (fun _ _ z => nomatch z) h)
  · exact .inr h
theorem RdLe.t {K : PySem.W.Frag} {G G' : Hp} (e : RdLe G G') {a : Addr} {xs : List V} (h : SqT K G a xs) : SqT K G' a xs := by
  rcases h with h | h
  · exact .inl (e.rd _ _ (fun _ _ z => nomatch z) h)
  · exact .inr h
theorem RdLe.k {G G' : Hp} (e : RdLe G G') {a : Addr} {ks : List (Key × V)} (h : Rd G a (.dK ks)) : Rd G' a (.dK ks) := e.rd _ _ (fun _ _ z => nomatch z) h
section
variable {K : PySem.W.Frag} {G G' : Hp}
theorem Rep.le (e : RdLe G G') {v : V} {d : D} (h : Rep K G v d) : Rep K G' v d :=
  Rep.rec (motive_1 := fun v d _ => Rep K G' v d) (motive_2 := fun vs ds _ => RepL K G' vs ds) (motive_3 := fun vs ds _ => RepK K G' vs ds) .non .bl .int .str (fun h _ ih => .lst (e.ls _ _ h) ih) (fun h _ ih => .tup (e.t h) ih)
    (fun h _ ih => .dic (e.k h) ih) (fun h => .scr (e.l h)) .nil (fun _ _ a b => .cons a b) .nil (fun _ _ a b => .cons a b) h
theorem RepL.le (e : RdLe G G') : ∀ {vs : List V} {ds : List D}, RepL K G vs ds → RepL K G' vs ds
  | _, _, .nil => .nil
  | _, _, .cons h r => .cons (Rep.le e h) (RepL.le e r)
theorem RepK.le (e : RdLe G G') : ∀ {vs : List (Key × V)} {ds : List (Key × D)}, RepK K G vs ds → RepK K G' vs ds
  | _, _, .nil => .nil
  | _, _, .cons h r => .cons (Rep.le e h) (RepK.le e r)
theorem Rep.mono {v : V} {d : D} (e : Same G G') (h : Rep K G v d) : Rep K G' v d := h.le (.of e)
theorem RepL.mono {v : List V} {d : List D} (e : Same G G') (h : RepL K G v d) : RepL K G' v d := h.le (.of e)
theorem RepK.mono {v : List (Key × V)} {d : List (Key × D)} (e : Same G G') (h : RepK K G v d) : RepK K G' v d := h.le (.of e)
theorem RepL.length : ∀ {vs : List V} {ds : List D}, RepL K G vs ds → vs.length = ds.length
  | _, _, .nil => rfl
  | _, _, .cons _ r => congrArg (· + 1) (RepL.length r)
theorem RepK.length : ∀ {vs : List (Key × V)} {ds : List (Key × D)}, RepK K G vs ds → vs.length = ds.length
  | _, _, .nil => rfl
  | _, _, .cons _ r => congrArg (· + 1) (RepK.length r)
theorem RepL.get : ∀ {vs : List V} {ds : List D} {i : Nat} {d : D}, RepL K G vs ds → ds[i]? = some d → ∃ v, vs[i]? = some v ∧ Rep K G v d
  | _, _, _, _, .nil, h => by simp at h
  | _, _, 0, _, .cons r _, h => by
    rw [List.getElem?_cons_zero] at h
    cases h
    exact ⟨_, rfl, r⟩
  | _, _, i + 1, _, .cons _ r, h => by
    rw [List.getElem?_cons_succ] at h
    exact RepL.get (i := i) r h
theorem RepL.get' : ∀ {vs : List V} {ds : List D} {i : Nat} {v : V}, RepL K G vs ds → vs[i]? = some v → ∃ d, ds[i]? = some d ∧ Rep K G v d
  | _, _, _, _, .nil, h => by simp at h
  | _, _, 0, _, .cons r _, h => by
    rw [List.getElem?_cons_zero] at h
    cases h
    exact ⟨_, rfl, r⟩
  | _, _, i + 1, _, .cons _ r, h => by
    rw [List.getElem?_cons_succ] at h
    exact RepL.get' (i := i) r h
theorem RepL.append : ∀ {vs ws : List V} {ds es : List D}, RepL K G vs ds → RepL K G ws es → RepL K G (vs ++ ws) (ds ++ es)
  | _, _, _, _, .nil, h => h
  | _, _, _, _, .cons r t, h => .cons r (RepL.append t h)
theorem RepL.take : ∀ {vs : List V} {ds : List D} (n : Nat), RepL K G vs ds → RepL K G (vs.take n) (ds.take n)
  | _, _, 0, _ => by simp only [List.take_zero]; exact .nil
  | _, _, n + 1, .nil => .nil
  | _, _, n + 1, .cons r t => .cons r (RepL.take n t)
theorem RepL.drop : ∀ {vs : List V} {ds : List D} (n : Nat), RepL K G vs ds → RepL K G (vs.drop n) (ds.drop n)
  | _, _, 0, h => h
  | _, _, n + 1, .nil => .nil
  | _, _, n + 1, .cons r t => RepL.drop n t
theorem RepL.reverse : ∀ {vs : List V} {ds : List D}, RepL K G vs ds → RepL K G vs.reverse ds.reverse
  | _, _, .nil => .nil
  | _, _, .cons r t => by
    rw [List.reverse_cons, List.reverse_cons]
    exact (RepL.reverse t).append (.cons r .nil)
theorem RepL.set : ∀ {vs : List V} {ds : List D} {v : V} {d : D} (i : Nat), RepL K G vs ds → Rep K G v d → RepL K G (vs.set i v) (ds.set i d)
  | _, _, _, _, _, .nil, _ => .nil
  | _, _, _, _, 0, .cons _ t, h => .cons h t
  | _, _, _, _, i + 1, .cons r t, h => .cons r (RepL.set i t h)
theorem RepL.eraseIdx : ∀ {vs : List V} {ds : List D} (i : Nat), RepL K G vs ds → RepL K G (vs.eraseIdx i) (ds.eraseIdx i)
  | _, _, _, .nil => .nil
  | _, _, 0, .cons _ t => t
  | _, _, i + 1, .cons r t => .cons r (RepL.eraseIdx i t)
theorem RepL.replicate {v : V} {d : D} (h : Rep K G v d) : ∀ n : Nat, RepL K G (List.replicate n v) (List.replicate n d)
  | 0 => .nil
  | n + 1 => .cons h (RepL.replicate h n)
theorem RepL.flatten_rep {vs : List V} {ds : List D} (h : RepL K G vs ds) : ∀ n : Nat, RepL K G (List.replicate n vs).flatten (List.replicate n ds).flatten
  | 0 => .nil
  | n + 1 => by
    rw [List.replicate_succ, List.replicate_succ, List.flatten_cons, List.flatten_cons]
    exact h.append (RepL.flatten_rep h n)
theorem RepL.ints : ∀ {vs : List V} {ns : List Int}, RepL K G vs (ns.map .int) → vs = ns.map V.int
  | _, [], .nil => rfl
  | _, n :: ns, .cons (.int _) t => by rw [List.map_cons, RepL.ints t]
theorem RepL.bls : ∀ {vs : List V} {ns : List Bool}, RepL K G vs (ns.map .bl) → vs = ns.map V.bl
  | _, [], .nil => rfl
  | _, n :: ns, .cons (.bl _) t => by rw [List.map_cons, RepL.bls t]
theorem RepL.of_ints : ∀ (ns : List Int), RepL K G (ns.map V.int) (ns.map .int)
  | [] => .nil
  | n :: ns => .cons (.int n) (RepL.of_ints ns)
end

/-! ### what a slot holds -/
inductive Sl where
  | un
  | im (d : D)
  | ow (d : D)
  deriving Inhabited
abbrev Env := List Sl
def getS : Env → Nat → Sl
  | [], _ => .un
  | s :: _, 0 => s
  | _ :: e, n + 1 => getS e n
theorem getS_eq : ∀ (e : Env) (i : Nat), getS e i = (e[i]?).getD .un
  | [], _ => by simp [getS]
  | s :: _, 0 => rfl
  | _ :: e, n + 1 => by
    rw [List.getElem?_cons_succ]
    exact getS_eq e n
/-- a tracked object bears d, its parts are in G -/
def HOf (K : PySem.W.Frag) (G : Hp) : HO → D → Prop
  | .lst xs, .lst ds => RepL K G xs ds
  | .dK ks, .dic ds => RepK K G ks ds
  | _, _ => False
theorem HOf.mono {K : PySem.W.Frag} {G G' : Hp} {o : HO} {d : D} (e : Same G G') (h : HOf K G o d) : HOf K G' o d := by
  cases o <;> cases d <;> first | exact h.elim | exact RepL.mono e h | exact RepK.mono e h
theorem HOf.rep {K : PySem.W.Frag} {G : Hp} {o : HO} {d : D} {p : Addr} (h : HOf K G o d) (hp : G p = some o) : Rep K G (.ref p) d := by
  cases o <;> cases d <;> first | exact h.elim | exact .lst hp h | exact .dic (.inl hp) h
theorem same_new {G : Hp} {p : Addr} {o : HO} (h : G p = none) : Same G (upd G p o) := fun a u e => by
  rw [upd_ne (ne_of_none e h)]
  exact e
theorem upd_same_of {G H : Hp} {p : Addr} {o : HO} (e : Same G H) (h : H p = some o) : Same (upd G p o) H := fun a u q => by
  by_cases ha : a = p
  · subst ha
    rw [upd_same] at q
    rw [h]
    exact q
  · rw [upd_ne ha] at q
    exact e _ _ q

/-- G grows, into what F does not know -/
structure Grow (F G G' : Hp) : Prop where
  same : Same G G'
  new : ∀ a o, G' a = some o → (∃ o', G a = some o') ∨ F a = none
theorem Grow.refl {F G : Hp} : Grow F G G := ⟨Same.refl G, fun _ o h => .inl ⟨o, h⟩⟩
theorem Grow.trans {F G G1 G2 : Hp} (a : Grow F G G1) (b : Grow F G1 G2) : Grow F G G2 := ⟨a.same.trans b.same, fun x o h => by
  rcases b.new x o h with ⟨o', h'⟩ | h'
  · exact a.new x o' h'
  · exact .inr h'⟩
theorem Grow.frame {F F' G G' : Hp} (a : Grow F' G G') (h : Same F F') : Grow F G G' := ⟨a.same, fun x o q => by
  rcases a.new x o q with z | z
  · exact .inl z
  · exact .inr (h.free z)⟩
theorem Grow.put {F G : Hp} {p : Addr} {o : HO} (hg : G p = none) (hf : F p = none) : Grow F G (upd G p o) := ⟨same_new hg, fun a u q => by
  by_cases ha : a = p
  · subst ha
    exact .inr hf
  · rw [upd_ne ha] at q
    exact .inl ⟨u, q⟩⟩

/-- the state: H the heap, G what is known and stays, F what must stay, the slots as env says -/
structure Stt (K : PySem.W.Frag) (F G H : Hp) (σ : L2.St) (env : Env) : Prop where
  gh : Same G H
  fh : Same F H
  len : env.length = σ.length
  im : ∀ i d, getS env i = .im d → ∃ v, σ[i]? = some (some v) ∧ Rep K G v d
  ow : ∀ i d, getS env i = .ow d → ∃ a o, σ[i]? = some (some (.ref a)) ∧ H a = some o ∧ HOf K G o d ∧ G a = none ∧ F a = none
  dj : ∀ i j d e a, getS env i = .ow d → getS env j = .ow e → σ[i]? = some (some (.ref a)) → σ[j]? = some (some (.ref a)) → i = j

/-- what kind of value: known and staying, a new object of nobody's, the object of an owned slot -/
inductive RK where
  | fz | nw | sl (i : Nat)
  deriving Inhabited
/-- at p a new object, of nobody's -/
structure NewAt (K : PySem.W.Frag) (F G H : Hp) (σ : L2.St) (env : Env) (p : Addr) (d : D) : Prop where
  ex : ∃ o, H p = some o ∧ HOf K G o d
  g : G p = none
  f : F p = none
  own : ∀ i e, getS env i = .ow e → σ[i]? ≠ some (some (.ref p))
def ResOk (K : PySem.W.Frag) (F G H : Hp) (σ : L2.St) (env : Env) (v : V) (d : D) : RK → Prop
  | .fz => Rep K G v d
  | .nw => ∃ p, v = .ref p ∧ NewAt K F G H σ env p d
  | .sl i => getS env i = .ow d ∧ σ[i]? = some (some v)

section
variable {K : PySem.W.Frag} {F G H : Hp} {σ : L2.St} {env : Env}
theorem getS_set_same {env : Env} {i : Nat} {s : Sl} (h : i < env.length) : getS (env.set i s) i = s := by
  rw [getS_eq, List.getElem?_set_self h]
  rfl
theorem getS_set_ne {env : Env} {i j : Nat} {s : Sl} (h : i ≠ j) : getS (env.set i s) j = getS env j := by
  rw [getS_eq, getS_eq, List.getElem?_set_ne h]
theorem getS_lt {env : Env} {i : Nat} (h : getS env i ≠ .un) : i < env.length := by
  rcases Nat.lt_or_ge i env.length with q | q
  · exact q
  · rw [getS_eq, List.getElem?_eq_none q] at h
    exact absurd rfl h
/-- a new object is laid; nobody's -/
theorem Stt.alloc (S : Stt K F G H σ env) {p : Addr} {o : HO} (hp : H p = none) : Stt K F G (upd H p o) σ env where
  gh := S.gh.trans (same_new hp)
  fh := S.fh.trans (same_new hp)
  len := S.len
  im := S.im
  ow i d h := by
    obtain ⟨a, u, h1, h2, h3, h4, h5⟩ := S.ow i d h
    exact ⟨a, u, h1, by rw [upd_ne (ne_of_none h2 hp)]; exact h2, h3, h4, h5⟩
  dj := S.dj
theorem Stt.newAt (S : Stt K F G H σ env) {p : Addr} {o : HO} {d : D} (hp : H p = none) (h : HOf K G o d) : NewAt K F G (upd H p o) σ env p d where
  ex := ⟨o, upd_same, h⟩
  g := S.gh.free hp
  f := S.fh.free hp
  own i e h z := by
    obtain ⟨a, u, h1, h2, _⟩ := S.ow i e h
    rw [h1] at z
    cases z
    rw [hp] at h2
    cases h2
/-- what stands, of nobody's, becomes known -/
theorem Stt.know (S : Stt K F G H σ env) {p : Addr} {o : HO} (hp : H p = some o) (hg : G p = none) (ho : ∀ i e, getS env i = .ow e → σ[i]? ≠ some (some (.ref p))) : Stt K F (upd G p o) H σ env where
  gh := upd_same_of S.gh hp
  fh := S.fh
  len := S.len
  im i d h := by
    obtain ⟨v, h1, h2⟩ := S.im i d h
    exact ⟨v, h1, h2.mono (same_new hg)⟩
  ow i d h := by
    obtain ⟨a, u, h1, h2, h3, h4, h5⟩ := S.ow i d h
    refine ⟨a, u, h1, h2, h3.mono (same_new hg), ?_, h5⟩
    rw [upd_ne]
    · exact h4
    · rintro rfl
      exact ho i d h h1
  dj := S.dj
theorem NewAt.know {p : Addr} {d : D} (S : Stt K F G H σ env) (n : NewAt K F G H σ env p d) : ∃ G', Grow F G G' ∧ Stt K F G' H σ env ∧ Rep K G' (.ref p) d := by
  obtain ⟨o, h1, h2⟩ := n.ex
  exact ⟨upd G p o, .put n.g n.f, S.know h1 n.g n.own, (h2.mono (same_new n.g)).rep upd_same⟩
/-- a new known object -/
theorem Stt.allocG (S : Stt K F G H σ env) {p : Addr} {o : HO} (hp : H p = none) : Stt K F (upd G p o) (upd H p o) σ env ∧ Grow F G (upd G p o) := by
  refine ⟨(S.alloc hp).know upd_same (S.gh.free hp) fun i e h z => ?_, .put (S.gh.free hp) (S.fh.free hp)⟩
  obtain ⟨a, u, h1, h2, _⟩ := S.ow i e h
  rw [h1] at z
  cases z
  rw [hp] at h2
  cases h2
/-- an owned slot's object becomes known -/
theorem Stt.freeze (S : Stt K F G H σ env) {i : Nat} {d : D} (h : getS env i = .ow d) : ∃ G' v, Grow F G G' ∧ Stt K F G' H σ (env.set i (.im d)) ∧ σ[i]? = some (some v) ∧ Rep K G' v d := by
  obtain ⟨a, u, h1, h2, h3, h4, h5⟩ := S.ow i d h
  have hl : i < env.length := getS_lt (by rw [h]; exact nofun)
  have own : ∀ {j e}, getS (env.set i (.im d)) j = .ow e → j ≠ i ∧ getS env j = .ow e := fun {j e} q => by
    by_cases hj : j = i
    · subst hj
      rw [getS_set_same hl] at q
      cases q
    · rw [getS_set_ne (Ne.symm hj)] at q
      exact ⟨hj, q⟩
  refine ⟨upd G a u, .ref a, .put h4 h5, ⟨upd_same_of S.gh h2, S.fh, by rw [List.length_set]; exact S.len, fun j e q => ?_, fun j e q => ?_, fun j k e f b q1 q2 z1 z2 => ?_⟩, h1, (h3.mono (same_new h4)).rep upd_same⟩
  · by_cases hj : j = i
    · subst hj
      rw [getS_set_same hl] at q
      cases q
      exact ⟨_, h1, (h3.mono (same_new h4)).rep upd_same⟩
    · rw [getS_set_ne (Ne.symm hj)] at q
      obtain ⟨v, z1, z2⟩ := S.im j e q
      exact ⟨v, z1, z2.mono (same_new h4)⟩
  · obtain ⟨hj, q⟩ := own q
    obtain ⟨b, w, z1, z2, z3, z4, z5⟩ := S.ow j e q
    refine ⟨b, w, z1, z2, z3.mono (same_new h4), ?_, z5⟩
    rw [upd_ne]
    · exact z4
    · rintro rfl
      exact hj (S.dj j i e d b q h z1 h1)
  · exact S.dj j k e f b (own q1).2 (own q2).2 z1 z2
/-- any result becomes known -/
def frzE (d : D) (k : RK) (env : Env) : Env := match k with
  | .sl i => env.set i (.im d)
  | _ => env
theorem ResOk.know {v : V} {d : D} {k : RK} (S : Stt K F G H σ env) (r : ResOk K F G H σ env v d k) : ∃ G', Grow F G G' ∧ Stt K F G' H σ (frzE d k env) ∧ Rep K G' v d := by
  cases k with
  | fz => exact ⟨G, .refl, S, r⟩
  | nw =>
    obtain ⟨p, rfl, n⟩ := r
    exact n.know S
  | sl i =>
    obtain ⟨h, q⟩ := r
    obtain ⟨G', w, g, S', z, rw'⟩ := S.freeze h
    rw [q] at z
    cases z
    exact ⟨G', g, S', rw'⟩
/-- a slot forgotten -/
theorem Stt.forget (S : Stt K F G H σ env) (i : Nat) : Stt K F G H σ (env.set i .un) := by
  have own : ∀ {j s}, s ≠ Sl.un → getS (env.set i .un) j = s → getS env j = s := fun {j s} hs q => by
    by_cases hj : j = i
    · subst hj
      rcases Nat.lt_or_ge j env.length with hl | hl
      · rw [getS_set_same hl] at q
        exact absurd q.symm hs
      · rw [List.set_eq_of_length_le hl] at q
        exact q
    · rw [getS_set_ne (Ne.symm hj)] at q
      exact q
  exact ⟨S.gh, S.fh, by rw [List.length_set]; exact S.len, fun j d q => S.im j d (own nofun q), fun j d q => S.ow j d (own nofun q), fun j k d e a q1 q2 => S.dj j k d e a (own nofun q1) (own nofun q2)⟩
/-- a slot stored: a known value -/
theorem Stt.set (S : Stt K F G H σ env) {i : Nat} {v : V} {d : D} (hi : i < env.length) (h : Rep K G v d) : Stt K F G H (σ.set i (some v)) (env.set i (.im d)) := by
  have own : ∀ {j e}, getS (env.set i (.im d)) j = .ow e → j ≠ i ∧ getS env j = .ow e := fun {j e} q => by
    by_cases hj : j = i
    · subst hj
      rw [getS_set_same hi] at q
      cases q
    · rw [getS_set_ne (Ne.symm hj)] at q
      exact ⟨hj, q⟩
  have hs : i < σ.length := by rw [← S.len]; exact hi
  refine ⟨S.gh, S.fh, by rw [List.length_set, List.length_set]; exact S.len, fun j e q => ?_, fun j e q => ?_, fun j k e f b q1 q2 z1 z2 => ?_⟩
  · by_cases hj : j = i
    · subst hj
      rw [getS_set_same hi] at q
      cases q
      exact ⟨v, List.getElem?_set_self hs, h⟩
    · rw [getS_set_ne (Ne.symm hj)] at q
      obtain ⟨w, z1, z2⟩ := S.im j e q
      exact ⟨w, by rw [List.getElem?_set_ne (Ne.symm hj)]; exact z1, z2⟩
  · obtain ⟨hj, q⟩ := own q
    obtain ⟨b, w, z1, z2⟩ := S.ow j e q
    exact ⟨b, w, by rw [List.getElem?_set_ne (Ne.symm hj)]; exact z1, z2⟩
  · obtain ⟨hj, p1⟩ := own q1
    obtain ⟨hk, p2⟩ := own q2
    rw [List.getElem?_set_ne (Ne.symm hj)] at z1
    rw [List.getElem?_set_ne (Ne.symm hk)] at z2
    exact S.dj j k e f b p1 p2 z1 z2
/-- .. a new object -/
theorem Stt.setNew (S : Stt K F G H σ env) {i : Nat} {p : Addr} {d : D} (hi : i < env.length) (n : NewAt K F G H σ env p d) : Stt K F G H (σ.set i (some (.ref p))) (env.set i (.ow d)) := by
  have hs : i < σ.length := by rw [← S.len]; exact hi
  have own : ∀ {j e}, j ≠ i → getS (env.set i (.ow d)) j = e → getS env j = e := fun {j e} hj q => by
    rw [getS_set_ne (Ne.symm hj)] at q
    exact q
  refine ⟨S.gh, S.fh, by rw [List.length_set, List.length_set]; exact S.len, fun j e q => ?_, fun j e q => ?_, fun j k e f b q1 q2 z1 z2 => ?_⟩
  · by_cases hj : j = i
    · subst hj
      rw [getS_set_same hi] at q
      cases q
    · obtain ⟨w, z1, z2⟩ := S.im j e (own hj q)
      exact ⟨w, by rw [List.getElem?_set_ne (Ne.symm hj)]; exact z1, z2⟩
  · by_cases hj : j = i
    · subst hj
      rw [getS_set_same hi] at q
      cases q
      obtain ⟨o, h1, h2⟩ := n.ex
      exact ⟨p, o, List.getElem?_set_self hs, h1, h2, n.g, n.f⟩
    · obtain ⟨b, w, z1, z2⟩ := S.ow j e (own hj q)
      exact ⟨b, w, by rw [List.getElem?_set_ne (Ne.symm hj)]; exact z1, z2⟩
  · by_cases hj : j = i
    · by_cases hk : k = i
      · rw [hj, hk]
      · subst hj
        rw [List.getElem?_set_self hs] at z1
        cases z1
        rw [List.getElem?_set_ne (Ne.symm hk)] at z2
        exact absurd z2 (n.own k f (own hk q2))
    · by_cases hk : k = i
      · subst hk
        rw [List.getElem?_set_self hs] at z2
        cases z2
        rw [List.getElem?_set_ne (Ne.symm hj)] at z1
        exact absurd z1 (n.own j e (own hj q1))
      · rw [List.getElem?_set_ne (Ne.symm hj)] at z1
        rw [List.getElem?_set_ne (Ne.symm hk)] at z2
        exact S.dj j k e f b (own hj q1) (own hk q2) z1 z2
/-- an owned object changed -/
theorem Stt.mut (S : Stt K F G H σ env) {i : Nat} {a : Addr} {d d' : D} {o' : HO} (h : getS env i = .ow d) (ha : σ[i]? = some (some (.ref a))) (ho : HOf K G o' d') : Stt K F G (upd H a o') σ (env.set i (.ow d')) := by
  obtain ⟨a', u, h1, h2, h3, h4, h5⟩ := S.ow i d h
  rw [ha] at h1
  cases h1
  have hl : i < env.length := getS_lt (by rw [h]; exact nofun)
  have out : ∀ {X : Hp}, X a = none → Same X H → Same X (upd H a o') := fun {X} hx e b q z => by
    rw [upd_ne (ne_of_none z hx)]
    exact e _ _ z
  have own : ∀ {j e}, j ≠ i → getS (env.set i (.ow d')) j = e → getS env j = e := fun {j e} hj q => by
    rw [getS_set_ne (Ne.symm hj)] at q
    exact q
  refine ⟨out h4 S.gh, out h5 S.fh, by rw [List.length_set]; exact S.len, fun j e q => ?_, fun j e q => ?_, fun j k e f b q1 q2 z1 z2 => ?_⟩
  · by_cases hj : j = i
    · subst hj
      rw [getS_set_same hl] at q
      cases q
    · exact S.im j e (own hj q)
  · by_cases hj : j = i
    · subst hj
      rw [getS_set_same hl] at q
      cases q
      exact ⟨a, o', ha, upd_same, ho, h4, h5⟩
    · have q' := own hj q
      obtain ⟨b, w, z1, z2, z3⟩ := S.ow j e q'
      refine ⟨b, w, z1, ?_, z3⟩
      rw [upd_ne]
      · exact z2
      · rintro rfl
        exact hj (S.dj j i e d b q' h z1 ha)
  · have own2 : ∀ {j e}, getS (env.set i (.ow d')) j = .ow e → ∃ e', getS env j = .ow e' := fun {j e} q => by
      by_cases hj : j = i
      · subst hj
        exact ⟨d, h⟩
      · exact ⟨e, own hj q⟩
    obtain ⟨e', p1⟩ := own2 q1
    obtain ⟨f', p2⟩ := own2 q2
    exact S.dj j k e' f' b p1 p2 z1 z2
/-- an object of nobody's is added to what must stay -/
theorem Stt.hold (S : Stt K F G H σ env) {p : Addr} {o : HO} (hp : H p = some o) (ho : ∀ i e, getS env i = .ow e → σ[i]? ≠ some (some (.ref p))) : Stt K (upd F p o) G H σ env where
  gh := S.gh
  fh := upd_same_of S.fh hp
  len := S.len
  im := S.im
  ow i d h := by
    obtain ⟨a, u, h1, h2, h3, h4, h5⟩ := S.ow i d h
    refine ⟨a, u, h1, h2, h3, h4, ?_⟩
    rw [upd_ne]
    · exact h5
    · rintro rfl
      exact ho i d h h1
  dj := S.dj
theorem Stt.frame {F' : Hp} (S : Stt K F' G H σ env) (h : Same F F') : Stt K F G H σ env where
  gh := S.gh
  fh := h.trans S.fh
  len := S.len
  im := S.im
  ow i d q := by
    obtain ⟨a, u, h1, h2, h3, h4, h5⟩ := S.ow i d q
    exact ⟨a, u, h1, h2, h3, h4, h.free h5⟩
  dj := S.dj
end
end PL
set_option maxHeartbeats 4000000
/-! Pure layer 2: the small syntax and its evaluator on plain data. -/
namespace PL
open PySem L2

inductive BO where
  | add | sub | mul | fdiv | mod | pow | shl | shr | band | bor | bxor
inductive CO where
  | lt | le | gt | ge | eq | ne | isin | notin | is_ | isnot
inductive Ty where
  | int | bool | str | tuple | list | dict
inductive BI where
  | len | abs | int | bool | min | max | sum | any | all | sorted | tuple | list | gcd | sortedSet | lenSet
mutual
inductive MT where
  | nm (i : Nat)
  | tp (ts : MTs)
inductive MTs where
  | nil
  | cons (t : MT) (r : MTs)
end
mutual
inductive ME where
  | var (i : Nat)
  | lit (d : D)
  | bin (o : BO) (a b : ME)
  | neg (a : ME)
  | cmp (o : CO) (a b : ME)
  | chain (o p : CO) (a b c : ME)
  | and (a b : ME)
  | or (a b : ME)
  | not (a : ME)
  | ife (c a b : ME)
  | tupD (as : MA)
  | lstD (as : MA)
  | sub (a i : ME)
  | subD (a k : ME)
  | inD (neg : Bool) (k a : ME)
  | slice (a lo hi : ME)
  | rev (tup : Bool) (a : ME)
  | asInt (a : ME)
  | call (f : Nat) (as : MA)
  | callP (f : Nat) (perm : List Nat) (as : MA)
  | callIO (f i : Nat) (as : MA)
  | bi (b : BI) (as : MA)
  | isi (ts : List Ty) (a : ME)
  | comp (own : List Nat) (t : MT) (it : MI) (c elt : ME)
  | range (tup : Bool) (it : MI)
  | popAt (i : Nat) (m : ME)
  | pop (i : Nat)
  | get2 (a k z : ME)
  | dicD (ks vs : MA)
inductive MA where
  | nil
  | cons (a : ME) (r : MA)
  | star (a : ME) (r : MA)
inductive MI where
  | seq (tup : Bool) (a : ME)
  | rng1 (a : ME)
  | rng2 (a b : ME)
  | rng3 (a b c : ME)
  | enum (a : ME)
  | zip (a b : ME)
  | items (a : ME)
  | keys (a : ME)
end
inductive MS where
  | skip
  | seq (a b : MS)
  | expr (m : ME)
  | set (i : Nat) (m : ME)
  | unp (t : MT) (m : ME)
  | par2 (i j : Nat) (a b : ME)
  | par3 (i j k : Nat) (a b c : ME)
  | setIx (i : Nat) (mi mv : ME)
  | setKey (i : Nat) (mk mv : ME)
  | aug (i : Nat) (o : BO) (m : ME)
  | augIx (i : Nat) (mi : ME) (o : BO) (m : ME)
  | app (i : Nat) (m : ME)
  | ext (i : Nat) (m : ME)
  | ret (m : ME)
  | retN
  | ite (c : ME) (a b : MS)
  | whl (c : ME) (b : MS)
  | forr (t : MT) (it : MI) (b : MS)
  /-- over the items of an owned dict, which is read no more -/
  | forD (i : Nat) (t : MT) (b : MS)
  | brk
  | cont
  | kill (is : List Nat)
  /-- name i = name j, whose object goes over -/
  | mov (i j : Nat)
  | never

/-! ### operations by values: the value, and whether it is a new object -/
def mulOk (i j : Int) : Bool := decide (-(2 ^ 64) < i ∧ i < 2 ^ 64) || decide (-(2 ^ 64) < j ∧ j < 2 ^ 64)
def addF : D → D → Option (D × Bool)
  | .int i, .int j => some (.int (i + j), false)
  | .lst xs, .lst ys => if xs.length + ys.length ≤ sizeLine then some (.lst (xs ++ ys), true) else none
  | .tup xs, .tup ys => if xs.length + ys.length ≤ sizeLine then some (.tup (xs ++ ys), false) else none
  | _, _ => none
def mulF : D → D → Option (D × Bool)
  | .int i, .int j => if mulOk i j = true then some (.int (i * j), false) else none
  | .lst xs, .int k => if -(2 ^ 63) ≤ k ∧ k < 2 ^ 63 ∧ xs.length * k.toNat ≤ sizeLine then some (.lst (List.replicate k.toNat xs).flatten, true) else none
  | _, _ => none
def divF : D → D → Option (D × Bool)
  | .int i, .int j => if 0 < j ∧ j < 2 ^ 64 then some (.int (i / j), false) else if -(2 ^ 29) < j ∧ j < 0 then some (.int (i.fdiv j), false) else none
  | _, _ => none
def modF : D → D → Option (D × Bool)
  | .int i, .int j => if 0 < j then some (.int (i % j), false) else none
  | _, _ => none
def powF : D → D → Option (D × Bool)
  | .int i, .int j => if 0 ≤ j ∧ j ≤ 1000000 ∧ i.natAbs < 2 ^ 64 then some (.int (i ^ j.toNat), false) else none
  | _, _ => none
def shlF : D → D → Option (D × Bool)
  | .int i, .int j => if 0 ≤ j ∧ j ≤ 1000000 ∧ i.natAbs < 2 ^ 64 then some (.int (i * 2 ^ j.toNat), false) else none
  | _, _ => none
def shrF : D → D → Option (D × Bool)
  | .int i, .int j => if 0 ≤ j then some (.int (i / 2 ^ j.toNat), false) else none
  | _, _ => none
def intF (g : Int → Int → Int) : D → D → Option (D × Bool)
  | .int i, .int j => some (.int (g i j), false)
  | _, _ => none
def binF : BO → D → D → Option (D × Bool)
  | .add => addF
  | .sub => intF fun i j => i - j
  | .mul => mulF
  | .fdiv => divF
  | .mod => modF
  | .pow => powF
  | .shl => shlF
  | .shr => shrF
  | .band => intF Builtin.bitAnd
  | .bor => intF Builtin.bitOr
  | .bxor => intF Builtin.bitXor
mutual
def toP : D → PyData
  | .non => .none
  | .bl b => .bool b
  | .int i => .int i
  | .str x => .str x
  | .lst xs => .list (toPL xs)
  | .tup xs => .tuple (toPL xs)
  | .dic _ => .none
  | .scr _ => .none
def toPL : List D → List PyData
  | [] => []
  | x :: xs => toP x :: toPL xs
end
/-- data that == and < know, at most n deep -/
def okN : Nat → D → Bool
  | _, .non => true
  | _, .bl _ => true
  | _, .int _ => true
  | _, .str x => PyData.strOk x
  | n + 1, .lst xs => xs.all (okN n)
  | n + 1, .tup xs => xs.all (okN n)
  | _, _ => false
def eqF (x y : D) : Option Bool := if okN 60 x = true ∧ okN 60 y = true then some (PyData.eqv (toP x) (toP y)) else none
def isFlat : D → Bool
  | .non => true
  | .bl _ => true
  | .int _ => true
  | .str _ => true
  | _ => false
def eqFlat : D → D → Bool
  | .non, .non => true
  | .bl a, .bl b => a == b
  | .int i, .int j => decide (i = j)
  | .str a, .str b => decide (a = b)
  | .bl a, .int j => decide ((if a then 1 else 0) = j)
  | .int i, .bl b => decide (i = (if b then 1 else 0))
  | _, _ => false
def seqOf : D → Option (List D)
  | .lst xs => some xs
  | .scr ns => some (ns.map .int)
  | .tup xs => some xs
  | _ => none
/-- a list's items, a tuple's -/
def seqK : Bool → D → Option (List D)
  | false, .lst xs => some xs
  | false, .scr ns => some (ns.map .int)
  | true, .tup xs => some xs
  | _, _ => none
def inF (x y : D) : Option Bool := (seqOf y).bind fun ys => if isFlat x = true ∧ ys.all isFlat = true then some (ys.any fun z => eqFlat z x) else none
def cmpI (p : Int → Int → Bool) : D → D → Option Bool
  | .int i, .int j => some (p i j)
  | _, _ => none
def isNonD : D → Bool
  | .non => true
  | _ => false
def isF : D → D → Option Bool
  | x, .non => some (isNonD x)
  | .bl a, .bl b => some (decide (a = b))
  | _, _ => none
def cmpF : CO → D → D → Option Bool
  | .lt => cmpI fun i j => decide (i < j)
  | .le => cmpI fun i j => decide (i ≤ j)
  | .gt => cmpI fun i j => decide (j < i)
  | .ge => cmpI fun i j => decide (j ≤ i)
  | .eq => eqF
  | .ne => fun x y => (eqF x y).map (!·)
  | .isin => inF
  | .notin => fun x y => (inF x y).map (!·)
  | .is_ => isF
  | .isnot => fun x y => (isF x y).map (!·)
def intsD : List D → Option (List Int)
  | [] => some []
  | .int i :: r => (intsD r).map fun is => i :: is
  | _ :: _ => none
def blsD : List D → Option (List Bool)
  | [] => some []
  | .bl i :: r => (blsD r).map fun is => i :: is
  | _ :: _ => none
def minI : List Int → Option Int
  | [] => none
  | x :: xs => some (xs.foldl (fun a b => if b < a then b else a) x)
def maxI : List Int → Option Int
  | [] => none
  | x :: xs => some (xs.foldl (fun a b => if a < b then b else a) x)
/-- the least by Python's order of data, the first of equal ones; all alike -/
def minBy : List D → Option D
  | [] => none
  | x :: xs => some (xs.foldl (fun a b => if PySem.W.dataLt (toP b) (toP a) = true then b else a) x)
def maxBy : List D → Option D
  | [] => none
  | x :: xs => some (xs.foldl (fun a b => if PySem.W.dataLt (toP a) (toP b) = true then b else a) x)
def okS (xs : List D) : Bool := (xs.all fun x => okN 60 x) && ((xs.all fun x => xs.all fun y => PySem.W.alike (toP x) (toP y)) && ((xs.all fun x => match x with
  | .tup (_ :: _) => true
  | _ => false) || xs.all fun x => match x with
  | .non => false
  | .tup _ => false
  | _ => true))
def sortD (xs : List D) : Option (List D) := if okS xs = true ∧ xs.length ≤ sizeLine then some (xs.mergeSort (PySem.W.dataLe false toP)) else none
def oneN (d : Option D) : Option (D × Bool) := d.map fun d => (d, false)
def oneF (f : D → Option (D × Bool)) : List D → Option (D × Bool)
  | [x] => f x
  | _ => none
def lenD : D → Option (D × Bool)
  | .lst xs => some (.int xs.length, false)
  | .tup xs => some (.int xs.length, false)
  | .scr xs => some (.int xs.length, false)
  | _ => none
def absD : D → Option (D × Bool)
  | .int i => some (.int (if i < 0 then -i else i), false)
  | _ => none
def intD : D → Option (D × Bool)
  | .int i => some (.int i, false)
  | .bl b => some (.int (if b then 1 else 0), false)
  | _ => none
def boolD : D → Option (D × Bool)
  | .bl b => some (.bl b, false)
  | .int b => some (.bl (b != 0), false)
  | _ => none
def sumD (x : D) : Option (D × Bool) := (seqOf x).bind fun xs => (intsD xs).map fun is => (.int is.sum, false)
def anyD : D → Option (D × Bool)
  | .lst xs => (blsD xs).map fun bs => (.bl (bs.any id), false)
  | _ => none
def allD : D → Option (D × Bool)
  | .lst xs => (blsD xs).map fun bs => (.bl (bs.all id), false)
  | _ => none
def sortedD (x : D) : Option (D × Bool) := (seqOf x).bind fun xs => (sortD xs).map fun ys => (.lst ys, true)
def tupleD (x : D) : Option (D × Bool) := (seqOf x).map fun xs => (.tup xs, false)
def listD (x : D) : Option (D × Bool) := (seqOf x).map fun xs => (.lst xs, true)
def tupsI : List D → Option (List (List Int))
  | [] => some []
  | .tup xs :: r => (intsD xs).bind fun k => (tupsI r).map fun ks => k :: ks
  | _ :: _ => none
/-- a row into strictly rising ones -/
def insR (k : List Int) : List (List Int) → List (List Int)
  | [] => [k]
  | m :: r => if k < m then k :: m :: r else if m < k then m :: insR k r else m :: r
/-- the rows, each once, rising -/
def rowsD (ks : List (List Int)) : List (List Int) := ks.foldr insR []
def rowD (k : List Int) : D := .tup (k.map .int)
def sortedSetD (x : D) : Option (D × Bool) := match x with
  | .lst xs => (tupsI xs).bind fun ks => if ks.length ≤ 120 ∧ (ks.all fun k => !k.isEmpty) = true then some (.lst ((rowsD ks).map rowD), true) else none
  | _ => none
def minD1 (x : D) : Option (D × Bool) := (seqOf x).bind fun xs => if okS xs = true then oneN (minBy xs) else none
def maxD1 (x : D) : Option (D × Bool) := (seqOf x).bind fun xs => if okS xs = true then oneN (maxBy xs) else none
def minF : List D → Option (D × Bool)
  | [x] => minD1 x
  | [.int i, .int j] => some (.int (if j < i then j else i), false)
  | _ => none
def maxF : List D → Option (D × Bool)
  | [x] => maxD1 x
  | [.int i, .int j] => some (.int (if j > i then j else i), false)
  | _ => none
def gcdF : List D → Option (D × Bool)
  | [.int a, .int b] => some (.int ((Nat.gcd a.natAbs b.natAbs : Nat) : Int), false)
  | _ => none
def biF : BI → List D → Option (D × Bool)
  | .len => oneF lenD
  | .abs => oneF absD
  | .int => oneF intD
  | .bool => oneF boolD
  | .min => minF
  | .max => maxF
  | .sum => oneF sumD
  | .any => oneF anyD
  | .all => oneF allD
  | .sorted => oneF sortedD
  | .tuple => oneF tupleD
  | .list => oneF listD
  | .gcd => gcdF
  | .sortedSet => oneF sortedSetD
  | .lenSet => fun _ => none
def tyB : Ty → D → Bool
  | .int, .int _ => true
  | .int, .bl _ => true
  | .bool, .bl _ => true
  | .str, .str _ => true
  | .tuple, .tup _ => true
  | .list, .lst _ => true
  | .list, .scr _ => true
  | .dict, .dic _ => true
  | _, _ => false
def ixF : D → D → Option D
  | .scr ns, .int i => (atI ns i).map .int
  | .lst xs, .int i => atI xs i
  | .tup xs, .int i => atI xs i
  | _, _ => none
def partD : D → Option (Option Int)
  | .non => some none
  | .int i => some (some i)
  | _ => none
def cutD (xs : List D) (lo hi : Option Int) : List D := (xs.drop (HT.sIx xs.length 0 lo)).take (HT.sIx xs.length xs.length hi - HT.sIx xs.length 0 lo)
def sliceF (x : D) (lo hi : Option Int) : Option (D × Bool) := match x with
  | .lst xs => some (.lst (cutD xs lo hi), true)
  | .scr xs => some (.lst (cutD (xs.map .int) lo hi), true)
  | .tup xs => some (.tup (cutD xs lo hi), false)
  | _ => none
def revF : Bool → D → Option (D × Bool)
  | false, .lst xs => some (.lst xs.reverse, true)
  | true, .tup xs => some (.tup xs.reverse, false)
  | _, _ => none
def keyD : D → Option Key
  | .int i => some (.inl i)
  | .str x => some (.inr x)
  | _ => none
def lookD (kvs : List (Key × D)) (k : Key) : Option D := (kvs.find? fun kv => decide (kv.1 = k)).map (·.2)
def putD (kvs : List (Key × D)) (k : Key) (d : D) : List (Key × D) := if (kvs.any fun kv => decide (kv.1 = k)) = true then kvs.map fun kv => if kv.1 = k then (kv.1, d) else kv else kvs ++ [(k, d)]
def isDicD : D → Bool
  | .dic _ => true
  | _ => false
def keyOfD : Key → D
  | .inl i => .int i
  | .inr x => .str x

/-! ### borrowing, freezing -/
abbrev Bd := D ⊕ Nat
def slD (s : Sl) : Option D := match s with
  | .im d => some d
  | .ow d => some d
  | .un => none
def rd (env : Env) : Bd → Option D
  | .inl d => some d
  | .inr i => slD (getS env i)
def bw (r : Option (D × RK × Env)) : Option (Bd × Env) := r.map fun p => match p.2.1 with
  | .sl i => (.inr i, p.2.2)
  | _ => (.inl p.1, p.2.2)
def fw (r : Option (D × RK × Env)) : Option (D × Env) := r.map fun p => (p.1, frzE p.1 p.2.1 p.2.2)
def out (env : Env) (r : Option (D × Bool)) : Option (D × RK × Env) := r.map fun p => (p.1, (if p.2 = true then .nw else .fz), env)
def blOf (r : Option (D × RK × Env)) : Option (Bool × Env) := r.bind fun p => match p.1 with
  | .bl b => some (b, p.2.2)
  | _ => none
def wipeE (env : Env) : List Nat → Env
  | [] => env
  | v :: vs => (wipeE env vs).set v .un
/-- the own slots of a block back as they were -/
def backE (env now : Env) : List Nat → Env
  | [] => now
  | v :: vs => (backE env now vs).set v (getS env v)
def noOwn (env : Env) (vs : List Nat) : Bool := vs.all fun v => match getS env v with
  | .ow _ => false
  | _ => true
mutual
def asgT : MT → D → Env → Option Env
  | .nm i, d, env => if i < env.length then some (env.set i (.im d)) else none
  | .tp ts, d, env => match d with
    | .tup ds => asgTs ts ds env
    | _ => none
def asgTs : MTs → List D → Env → Option Env
  | .nil, [], env => some env
  | .cons t r, d :: ds, env => (asgT t d env).bind fun env' => asgTs r ds env'
  | _, _, _ => none
end
mutual
def slotsT : MT → List Nat
  | .nm i => [i]
  | .tp ts => slotsTs ts
def slotsTs : MTs → List Nat
  | .nil => []
  | .cons t r => slotsT t ++ slotsTs r
end
/-- the turns of a comprehension -/
def compGo (asg : D → Env → Option Env) (cond : Env → Option (Bool × Env)) (elt : Env → Option (D × Env)) (own : List Nat) : List D → Env → Option (List D × Env)
  | [], env => some ([], env)
  | d :: ds, env => (asg d env).bind fun env1 => (cond env1).bind fun c => match c.1 with
    | true => (elt c.2).bind fun y => (compGo asg cond elt own ds (wipeE y.2 own)).map fun r => (y.1 :: r.1, r.2)
    | false => compGo asg cond elt own ds (wipeE c.2 own)

/-- a def's worth: whether its first argument is changed, whether what it hands back is new; from the arguments what it hands back, and the first argument behind it -/
structure FS where
  ar : Nat
  io : Bool
  fresh : Bool
  run : List D → Option (D × D)
instance : Inhabited FS := ⟨⟨0, false, false, fun _ => none⟩⟩
def slotSet (i : Nat) (env : Env) (d : D) : Env := env.set i (.ow d)
def owD (env : Env) (i : Nat) : Option D := match getS env i with
  | .ow d => some d
  | _ => none
def owL (env : Env) (i : Nat) : Option (List D) := (owD env i).bind fun d => match d with
  | .lst xs => some xs
  | _ => none
def owK (env : Env) (i : Nat) : Option (List (Key × D)) := (owD env i).bind fun d => match d with
  | .dic xs => some xs
  | _ => none
def intOf : D → Option Int
  | .int i => some i
  | _ => none
def rgD (lo : Int) (n : Nat) (c : Int) : List D := (List.range n).map fun (i : Nat) => .int (lo + (i : Int) * c)
def rgOk (i : Int) : Bool := decide (-(2 ^ 62) ≤ i ∧ i < 2 ^ 62)
def pairsD : List D → List D → List D
  | x :: xs, y :: ys => .tup [x, y] :: pairsD xs ys
  | _, _ => []
def enumD (i : Nat) : List D → List D
  | [] => []
  | x :: xs => .tup [.int i, x] :: enumD (i + 1) xs
def permD (ds : List D) : List Nat → Option (List D)
  | [] => some []
  | i :: is => (ds[i]?).bind fun d => (permD ds is).map fun r => d :: r
def kvsD : List D → List D → Option (List (Key × D))
  | [], [] => some []
  | k :: ks, v :: vs => (keyD k).bind fun k' => (kvsD ks vs).map fun r => (k', v) :: r
  | _, _ => none
def mergeD (a : List (Key × D)) (b : List (Key × D)) : List (Key × D) := b.foldl (fun acc p => putD acc p.1 p.2) a

section
variable (Φ : Nat → FS)
mutual
def ev : ME → Env → Option (D × RK × Env)
  | .var i, env => match getS env i with
    | .im d => some (d, .fz, env)
    | .ow d => some (d, .sl i, env)
    | .un => none
  | .lit d, env => some (d, .fz, env)
  | .bin o a b, env => (bw (ev a env)).bind fun x => (bw (ev b x.2)).bind fun y => (rd y.2 x.1).bind fun dx => (rd y.2 y.1).bind fun dy => out y.2 (binF o dx dy)
  | .neg a, env => (fw (ev a env)).bind fun x => match x.1 with
    | .int i => some (.int (-i), .fz, x.2)
    | _ => none
  | .cmp o a b, env => (bw (ev a env)).bind fun x => (bw (ev b x.2)).bind fun y => (rd y.2 x.1).bind fun dx => (rd y.2 y.1).bind fun dy => (cmpF o dx dy).map fun c => (.bl c, .fz, y.2)
  | .chain o p a b c, env => (bw (ev a env)).bind fun x => (bw (ev b x.2)).bind fun y => (rd y.2 x.1).bind fun dx => (rd y.2 y.1).bind fun dy => (cmpF o dx dy).bind fun t => match t with
    | true => (bw (ev c y.2)).bind fun z => (rd z.2 y.1).bind fun dy' => (rd z.2 z.1).bind fun dz => (cmpF p dy' dz).map fun c => (.bl c, .fz, z.2)
    | false => some (.bl false, .fz, y.2)
  | .and a b, env => (blOf (ev a env)).bind fun x => match x.1 with
    | true => ev b x.2
    | false => some (.bl false, .fz, x.2)
  | .or a b, env => (blOf (ev a env)).bind fun x => match x.1 with
    | true => some (.bl true, .fz, x.2)
    | false => ev b x.2
  | .not a, env => (blOf (ev a env)).map fun x => (.bl (!x.1), .fz, x.2)
  | .ife c a b, env => (blOf (ev c env)).bind fun x => match x.1 with
    | true => ev a x.2
    | false => ev b x.2
  | .tupD as, env => (evA as env).bind fun r => if r.1.length ≤ sizeLine then some (.tup r.1, .fz, r.2) else none
  | .lstD as, env => (evA as env).bind fun r => if r.1.length ≤ sizeLine then some (.lst r.1, .nw, r.2) else none
  | .sub a i, env => (bw (ev a env)).bind fun x => (fw (ev i x.2)).bind fun y => (rd y.2 x.1).bind fun dx => (ixF dx y.1).map fun d => (d, .fz, y.2)
  | .subD a k, env => (bw (ev a env)).bind fun x => (fw (ev k x.2)).bind fun y => (rd y.2 x.1).bind fun dx => match dx with
    | .dic kvs => (keyD y.1).bind fun k' => (lookD kvs k').map fun d => (d, .fz, y.2)
    | _ => none
  | .inD neg k a, env => (fw (ev k env)).bind fun y => (bw (ev a y.2)).bind fun x => (rd x.2 x.1).bind fun dx => match dx with
    | .dic kvs => (keyD y.1).map fun k' => (.bl (if neg = true then !(lookD kvs k').isSome else (lookD kvs k').isSome), .fz, x.2)
    | _ => none
  | .slice a lo hi, env => (bw (ev a env)).bind fun x => (fw (ev lo x.2)).bind fun l => (fw (ev hi l.2)).bind fun h => (rd h.2 x.1).bind fun dx => (partD l.1).bind fun l' => (partD h.1).bind fun h' => out h.2 (sliceF dx l' h')
  | .rev t a, env => (bw (ev a env)).bind fun x => (rd x.2 x.1).bind fun dx => out x.2 (revF t dx)
  | .asInt a, env => (fw (ev a env)).bind fun x => (intOf x.1).map fun i => (.int i, .fz, x.2)
  | .call f as, env => (evA as env).bind fun r => match (Φ f).io with
    | true => none
    | false => if r.1.length = (Φ f).ar then ((Φ f).run r.1).map fun d => (d.1, (if (Φ f).fresh = true then .nw else .fz), r.2) else none
  | .callP f perm as, env => (evA as env).bind fun r => (permD r.1 perm).bind fun ds => match (Φ f).io with
    | true => none
    | false => if ds.length = (Φ f).ar then ((Φ f).run ds).map fun d => (d.1, (if (Φ f).fresh = true then .nw else .fz), r.2) else none
  | .callIO f i as, env => match getS env i with
    | .ow _ => (evA as env).bind fun r => (owD r.2 i).bind fun d0 => match (Φ f).io with
      | true => if (d0 :: r.1).length = (Φ f).ar then ((Φ f).run (d0 :: r.1)).map fun d => (d.1, (if (Φ f).fresh = true then .nw else .fz), slotSet i r.2 d.2) else none
      | false => none
    | _ => none
  | .bi b as, env => (evB as env).bind fun r => (r.1.mapM (rd r.2)).bind fun ds => out r.2 (biF b ds)
  | .isi ts a, env => (bw (ev a env)).bind fun x => (rd x.2 x.1).map fun d => (.bl (ts.any fun t => tyB t d), .fz, x.2)
  | .comp own t it c elt, env => (evI it env).bind fun r => if noOwn r.2 own = true then
      (compGo (asgT t) (fun e => blOf (ev c e)) (fun e => fw (ev elt e)) own r.1 (wipeE r.2 own)).map fun z => (.lst z.1, .nw, backE r.2 z.2 own) else none
  | .range tup it, env => (evI it env).map fun r => match tup with
    | true => (.tup r.1, .fz, r.2)
    | false => (.lst r.1, .nw, r.2)
  | .popAt i m, env => (owL env i).bind fun _ => (fw (ev m env)).bind fun x => (intOf x.1).bind fun k => (owL x.2 i).bind fun xs => if -(2 ^ 63) ≤ k ∧ k < 2 ^ 63 then
      (seqIndex? k xs.length).bind fun j => (xs[j]?).map fun d => (d, .fz, slotSet i x.2 (.lst (xs.eraseIdx j))) else none
  | .pop i, env => (owL env i).bind fun xs => (xs[xs.length - 1]?).map fun d => (d, .fz, slotSet i env (.lst xs.dropLast))
  | .get2 a k z, env => (bw (ev a env)).bind fun x => (rd x.2 x.1).bind fun d0 => match isDicD d0 with
    | false => none
    | true => (fw (ev k x.2)).bind fun y => (fw (ev z y.2)).bind fun w => (rd w.2 x.1).bind fun dx => match dx with
    | .dic kvs => (keyD y.1).map fun k' => ((lookD kvs k').getD w.1, .fz, w.2)
    | _ => none
  | .dicD ks vs, env => match ks, vs with
    | .nil, .nil => some (.dic [], .nw, env)
    | .cons k .nil, .cons v .nil => (fw (ev k env)).bind fun x => (fw (ev v x.2)).bind fun y => (keyD x.1).map fun k' => (.dic [(k', y.1)], .nw, y.2)
    | _, _ => none
def evA : MA → Env → Option (List D × Env)
  | .nil, env => some ([], env)
  | .cons a r, env => (fw (ev a env)).bind fun x => (evA r x.2).map fun y => (x.1 :: y.1, y.2)
  | .star a r, env => (fw (ev a env)).bind fun x => (seqOf x.1).bind fun xs => (evA r x.2).map fun y => (xs ++ y.1, y.2)
def evB : MA → Env → Option (List Bd × Env)
  | .nil, env => some ([], env)
  | .cons a r, env => (bw (ev a env)).bind fun x => (evB r x.2).map fun y => (x.1 :: y.1, y.2)
  | .star _ _, _ => none
def evI : MI → Env → Option (List D × Env)
  | .seq t a, env => (fw (ev a env)).bind fun x => (seqK t x.1).map fun xs => (xs, x.2)
  | .rng1 a, env => (fw (ev a env)).bind fun x => (intOf x.1).bind fun j => if rgOk j = true ∧ j ≤ 16777216 then some (rgD 0 j.toNat 1, x.2) else none
  | .rng2 a b, env => (fw (ev a env)).bind fun x => (fw (ev b x.2)).bind fun y => (intOf x.1).bind fun i => (intOf y.1).bind fun j => if (rgOk i = true ∧ rgOk j = true) ∧ j - i ≤ 16777216 then some (rgD i (j - i).toNat 1, y.2) else none
  | .rng3 a b c, env => (fw (ev a env)).bind fun x => (fw (ev b x.2)).bind fun y => (fw (ev c y.2)).bind fun z => (intOf x.1).bind fun i => (intOf y.1).bind fun j => (intOf z.1).bind fun k =>
      if ((rgOk i = true ∧ rgOk j = true) ∧ k = -1) ∧ i - j ≤ 16777216 then some (rgD i (i - j).toNat (-1), z.2) else none
  | .enum a, env => (fw (ev a env)).bind fun x => (seqK false x.1).map fun xs => (enumD 0 xs, x.2)
  | .zip a b, env => (fw (ev a env)).bind fun x => (fw (ev b x.2)).bind fun y => (seqOf x.1).bind fun xs => (seqOf y.1).map fun ys => (pairsD xs ys, y.2)
  | .items a, env => (fw (ev a env)).bind fun x => match x.1 with
    | .dic kvs => some (kvs.map fun p => .tup [keyOfD p.1, p.2], x.2)
    | _ => none
  | .keys a, env => (fw (ev a env)).bind fun x => match x.1 with
    | .dic kvs => some (kvs.map fun p => keyOfD p.1, x.2)
    | _ => none
end

/-! ### statements -/
inductive Out where
  | nx (e : Env)
  | rt (d : D) (k : RK) (e : Env)
  | bk (e : Env)
  | ct (e : Env)
def andThen (r : Option Out) (k : Env → Option Out) : Option Out := r.bind fun o => match o with
  | .nx e => k e
  | o => some o
/-- a store of a result -/
def setR (i : Nat) (d : D) (k : RK) (env : Env) : Option Env := if i < env.length then (match k with
  | .nw => some (env.set i (.ow d))
  | k => some ((frzE d k env).set i (.im d))) else none
def whileGo (c : Env → Option (Bool × Env)) (b : Env → Option Out) : Nat → Env → Option Out
  | 0, _ => none
  | n + 1, env => (c env).bind fun t => match t.1 with
    | true => (b t.2).bind fun o => match o with
      | .nx e => whileGo c b n e
      | .ct e => whileGo c b n e
      | .bk e => some (.nx e)
      | .rt d k e => some (.rt d k e)
    | false => some (.nx t.2)
def forGo (asg : D → Env → Option Env) (b : Env → Option Out) : List D → Env → Option Out
  | [], env => some (.nx env)
  | d :: ds, env => (asg d env).bind fun env1 => (b env1).bind fun o => match o with
    | .nx e => forGo asg b ds e
    | .ct e => forGo asg b ds e
    | .bk e => some (.nx e)
    | .rt d k e => some (.rt d k e)
/-- a value for a later store: what aliases a slot is frozen -/
def keepR (r : Option (D × RK × Env)) : Option (D × Bool × Env) := r.map fun p => (p.1, (match p.2.1 with
  | .nw => true
  | _ => false), frzE p.1 p.2.1 p.2.2)
def setK (i : Nat) (d : D) (nw : Bool) (env : Env) : Env := env.set i (if nw = true then .ow d else .im d)
def evS (fuel : Nat) : MS → Env → Option Out
  | .skip, env => some (.nx env)
  | .seq a b, env => andThen (evS fuel a env) (evS fuel b)
  | .expr m, env => (ev Φ m env).map fun x => .nx x.2.2
  | .set i m, env => (ev Φ m env).bind fun x => (setR i x.1 x.2.1 x.2.2).map .nx
  | .unp t m, env => (fw (ev Φ m env)).bind fun x => (asgT t x.1 x.2).map .nx
  | .par2 i j a b, env => (keepR (ev Φ a env)).bind fun x => (keepR (ev Φ b x.2.2)).bind fun y => if i < env.length ∧ j < env.length ∧ i ≠ j then some (.nx (setK j y.1 y.2.1 (setK i x.1 x.2.1 y.2.2))) else none
  | .par3 i j l a b c, env => (keepR (ev Φ a env)).bind fun x => (keepR (ev Φ b x.2.2)).bind fun y => (keepR (ev Φ c y.2.2)).bind fun z =>
      if (i < env.length ∧ j < env.length ∧ l < env.length) ∧ i ≠ j ∧ i ≠ l ∧ j ≠ l then some (.nx (setK l z.1 z.2.1 (setK j y.1 y.2.1 (setK i x.1 x.2.1 z.2.2)))) else none
  | .setIx i mi mv, env => (fw (ev Φ mv env)).bind fun x => (owL x.2 i).bind fun _ => (fw (ev Φ mi x.2)).bind fun y => (intOf y.1).bind fun k => (owL y.2 i).bind fun xs => (ixN xs.length k).map fun j => .nx (slotSet i y.2 (.lst (xs.set j x.1)))
  | .setKey i mk mv, env => (fw (ev Φ mv env)).bind fun x => (owK x.2 i).bind fun _ => (fw (ev Φ mk x.2)).bind fun y => (keyD y.1).bind fun k => (owK y.2 i).bind fun kvs => if kvs.length < sizeLine then some (.nx (slotSet i y.2 (.dic (putD kvs k x.1)))) else none
  | .aug i o m, env => (slD (getS env i)).bind fun d => match d with
    | .int a => (fw (ev Φ m env)).bind fun x => (intOf x.1).bind fun b => (match o with
      | .add => some (a + b)
      | .sub => some (a - b)
      | _ => none).bind fun c => (if i < x.2.length then some (Out.nx (x.2.set i (.im (.int c)))) else none)
    | _ => none
  | .augIx i mi o m, env => (fw (ev Φ mi env)).bind fun y => (intOf y.1).bind fun k => (owL y.2 i).bind fun xs => (atI xs k).bind fun d => (intOf d).bind fun a => (fw (ev Φ m y.2)).bind fun x => (intOf x.1).bind fun b => (match o with
      | .add => some (a + b)
      | .sub => some (a - b)
      | _ => none).bind fun c => (owL x.2 i).bind fun ys => (ixN ys.length k).map fun j => .nx (slotSet i x.2 (.lst (ys.set j (.int c))))
  | .app i m, env => (owL env i).bind fun _ => (fw (ev Φ m env)).bind fun x => (owL x.2 i).bind fun xs => if xs.length < sizeLine then some (.nx (slotSet i x.2 (.lst (xs ++ [x.1])))) else none
  | .ext i m, env => (owL env i).bind fun _ => (fw (ev Φ m env)).bind fun x => match x.1 with
    | .lst ys => (owL x.2 i).bind fun xs => if xs.length + ys.length ≤ sizeLine then some (.nx (slotSet i x.2 (.lst (xs ++ ys)))) else none
    | _ => none
  | .ret m, env => (ev Φ m env).map fun x => .rt x.1 x.2.1 x.2.2
  | .retN, env => some (.rt .non .fz env)
  | .ite c a b, env => (blOf (ev Φ c env)).bind fun x => match x.1 with
    | true => evS fuel a x.2
    | false => evS fuel b x.2
  | .whl c b, env => whileGo (fun e => blOf (ev Φ c e)) (evS fuel b) fuel env
  | .forr t it b, env => (evI Φ it env).bind fun r => forGo (asgT t) (evS fuel b) r.1 r.2
  | .forD i t b, env => (owK env i).bind fun kvs => forGo (asgT t) (evS fuel b) (kvs.map fun p => .tup [keyOfD p.1, p.2]) (env.set i .un)
  | .brk, env => some (.bk env)
  | .cont, env => some (.ct env)
  | .kill is, env => some (.nx (wipeE env is))
  | .mov i j, env => match getS env j with
    | .ow d => if i < env.length then some (.nx ((env.set j .un).set i (.ow d))) else none
    | _ => none
  | .never, _ => none
end
end PL
set_option maxHeartbeats 4000000
/-! Pure layer 3: what the evaluator says is what the readings ask: operators. -/
namespace PL
open PySem PySem.Spec PyProof.Rows L2

/-! ### the content of a value -/
def Top (K : PySem.W.Frag) (G H : Hp) (v : V) : D → Prop
  | .non => v = .non
  | .bl b => v = .bl b
  | .int i => v = .int i
  | .str x => v = .str x
  | .lst ds => ∃ a xs, v = .ref a ∧ H a = some (.lst xs) ∧ RepL K G xs ds
  | .tup ds => ∃ a xs, v = .ref a ∧ SqT K G a xs ∧ RepL K G xs ds
  | .dic ks => ∃ a kv, v = .ref a ∧ Rd H a (.dK kv) ∧ RepK K G kv ks
  | .scr ns => ∃ a, v = .ref a ∧ SqL K G a (ns.map V.int)
section
variable {K : PySem.W.Frag} {F G H : Hp} {σ : L2.St} {env : Env}
theorem Top.of_rep {v : V} {d : D} (e : Same G H) (h : Rep K G v d) : Top K G H v d := by
  cases h with
  | non => rfl
  | bl b => rfl
  | int i => rfl
  | str x => rfl
  | lst a b => exact ⟨_, _, rfl, e _ _ a, b⟩
  | tup a b => exact ⟨_, _, rfl, a, b⟩
  | dic a b => exact ⟨_, _, rfl, (RdLe.of e).k a, b⟩
  | scr a => exact ⟨_, rfl, a⟩
theorem Top.of_own {a : Addr} {o : HO} {d : D} (h : H a = some o) (q : HOf K G o d) : Top K G H (.ref a) d := by
  cases o <;> cases d <;> first | exact q.elim | exact ⟨a, _, rfl, h, q⟩ | exact ⟨a, _, rfl, .inl h, q⟩
theorem Top.rep {v : V} {d : D} (e : Same G H) (h : Top K G H v d) : Rep K H v d := by
  cases d with
  | non => cases h; exact .non
  | bl b => cases h; exact .bl b
  | int i => cases h; exact .int i
  | str x => cases h; exact .str x
  | lst ds =>
    obtain ⟨a, xs, rfl, h1, h2⟩ := h
    exact .lst h1 (h2.mono e)
  | tup ds =>
    obtain ⟨a, xs, rfl, h1, h2⟩ := h
    exact .tup ((RdLe.of e).t h1) (h2.mono e)
  | dic ds =>
    obtain ⟨a, xs, rfl, h1, h2⟩ := h
    exact .dic h1 (h2.mono e)
  | scr ns =>
    obtain ⟨a, rfl, h1⟩ := h
    exact .scr (e.seq h1)
theorem Top.tupG {v : V} {ds : List D} (h : Top K G H v (.tup ds)) : Rep K G v (.tup ds) := by
  obtain ⟨a, xs, rfl, h1, h2⟩ := h
  exact .tup h1 h2
theorem Top.seq {v : V} {d : D} {ds : List D} (g : Same G H) (h : Top K G H v d) (e : seqOf d = some ds) : ∃ a xs, v = .ref a ∧ (SqL K H a xs ∨ SqT K H a xs) ∧ RepL K G xs ds := by
  cases d with
  | lst xs =>
    cases e
    obtain ⟨a, xs, rfl, h1, h2⟩ := h
    exact ⟨a, xs, rfl, .inl (SqL.of h1), h2⟩
  | tup xs =>
    cases e
    obtain ⟨a, xs, rfl, h1, h2⟩ := h
    exact ⟨a, xs, rfl, .inr ((RdLe.of g).t h1), h2⟩
  | scr ns =>
    cases e
    obtain ⟨a, rfl, h1⟩ := h
    exact ⟨a, _, rfl, .inl (g.seq h1), .of_ints ns⟩
  | _ => cases e

/-- what an operation's end must give -/
def Fin (K : PySem.W.Frag) (F G : Hp) (σ : L2.St) (env : Env) (d : D) (nw : Bool) (Q : VK) : Prop :=
  ∀ v G' H', Stt K F G' H' σ env → Grow F G G' → ResOk K F G' H' σ env v d (if nw = true then .nw else .fz) → Q v H'
theorem Fin.val {d : D} {v : V} {Q : VK} (f : Fin K F G σ env d false Q) (S : Stt K F G H σ env) (r : Rep K G v d) : Q v H := f v G H S .refl r
theorem Fin.new {d : D} {Q : VK} {o : HO} {p : Addr} (f : Fin K F G σ env d true Q) (S : Stt K F G H σ env) (hp : H p = none) (h : HOf K G o d) : Q (.ref p) (upd H p o) :=
  f _ G _ (S.alloc hp) .refl ⟨p, rfl, S.newAt hp h⟩
theorem Fin.tup {ds : List D} {xs : List V} {Q : VK} {p : Addr} (f : Fin K F G σ env (.tup ds) false Q) (S : Stt K F G H σ env) (hp : H p = none) (h : RepL K G xs ds) : Q (.ref p) (upd H p (.tup xs)) := by
  obtain ⟨S', g⟩ := S.allocG (o := .tup xs) hp
  exact f _ _ _ S' g (.tup (SqT.of upd_same) (h.mono g.same))
end
/-- a reading of an operation serves the evaluator's -/
def OpSem (K : PySem.W.Frag) (r : R2) (f : D → D → Option (D × Bool)) : Prop :=
  ∀ {F G H : Hp} {σ : L2.St} {env : Env} {x y : V} {dx dy d : D} {nw : Bool} {Q : VK}, Stt K F G H σ env → Top K G H x dx → Top K G H y dy → f dx dy = some (d, nw) → Fin K F G σ env d nw Q → r x y H Q
def CmpSem (K : PySem.W.Frag) (r : R2) (f : D → D → Option Bool) : Prop :=
  ∀ {F G H : Hp} {σ : L2.St} {env : Env} {x y : V} {dx dy : D} {b : Bool} {Q : VK}, Stt K F G H σ env → Top K G H x dx → Top K G H y dy → f dx dy = some b → Q (.bl b) H → r x y H Q
structure Op (X : Cx) (o : Operator) (f : D → D → Option (D × Bool)) : Prop where
  ex : ∃ r, OpR X (binaryOp o) r ∧ OpSem X.K r f
structure Cm (X : Cx) (o : CmpOp) (f : D → D → Option Bool) : Prop where
  ex : ∃ r, OpR X (compareOp o) r ∧ CmpSem X.K r f
section
variable {X : Cx}
variable {K : PySem.W.Frag}
theorem intF_inv {g : Int → Int → Int} {dx dy d : D} {nw : Bool} (e : intF g dx dy = some (d, nw)) : ∃ i j, dx = .int i ∧ dy = .int j ∧ d = .int (g i j) ∧ nw = false := by
  unfold intF at e
  split at e
  · cases e
    exact ⟨_, _, rfl, rfl, rfl, rfl⟩
  · cases e
theorem os_int {g : Int → Int → Int} : OpSem K (rI0 fun i j => .int (g i j)) (intF g) := by
  intro F G H σ env x y dx dy d nw Q S hx hy e f
  obtain ⟨i, j, rfl, rfl, rfl, rfl⟩ := intF_inv e
  exact ⟨i, j, hx, hy, f.val S (.int _)⟩
theorem o_sub : Op X .Sub (binF .sub) := ⟨_, op_sub, os_int⟩
theorem o_band : Op X .BitAnd (binF .band) := ⟨_, op_and, os_int⟩
theorem o_bor : Op X .BitOr (binF .bor) := ⟨_, op_or, os_int⟩
theorem o_bxor : Op X .BitXor (binF .bxor) := ⟨_, op_xor, os_int⟩
theorem o_add : Op X .Add (binF .add) := by
  refine ⟨_, OpR.or op_add (OpR.or op_cat op_catA), ?_⟩
  intro F G H σ env x y dx dy d nw Q S hx hy e f
  change addF dx dy = _ at e
  unfold addF at e
  split at e
  · cases e
    exact .inl ⟨_, _, hx, hy, f.val S (.int _)⟩
  · split at e
    · rename_i xs ys hl
      cases e
      obtain ⟨a, vs, rfl, h1, h2⟩ := hx
      obtain ⟨b, ws, rfl, h3, h4⟩ := hy
      refine .inr (.inl ⟨a, b, vs, ws, rfl, rfl, h1, h3, by rw [h2.length, h4.length]; exact hl, fun p hp => f.new S hp (o := .lst (vs ++ ws)) (h2.append h4)⟩)
    · cases e
  · split at e
    · rename_i xs ys hl
      cases e
      obtain ⟨a, vs, rfl, h1, h2⟩ := hx
      obtain ⟨b, ws, rfl, h3, h4⟩ := hy
      refine .inr (.inr ⟨a, b, vs, ws, rfl, rfl, (RdLe.of S.gh).t h1, (RdLe.of S.gh).t h3, by rw [h2.length, h4.length]; exact hl, fun hv => ?_, fun _ hw => ?_, fun _ _ p hp => ?_⟩)
      · subst hv
        cases h2
        exact f.val S (.tup h3 h4)
      · subst hw
        cases h4
        rw [List.append_nil] at f
        exact f.val S (.tup h1 h2)
      · exact f.tup S hp (h2.append h4)
    · cases e
  · cases e

theorem mulOk_iff {i j : Int} (h : mulOk i j = true) : CMul i j := by
  unfold mulOk at h
  rw [Bool.or_eq_true, decide_eq_true_eq, decide_eq_true_eq] at h
  exact h
theorem o_mul : Op X .Mult (binF .mul) := by
  refine ⟨_, OpR.or op_mul op_rep, ?_⟩
  intro F G H σ env x y dx dy d nw Q S hx hy e f
  change mulF dx dy = _ at e
  unfold mulF at e
  split at e
  · split at e
    · rename_i h
      cases e
      exact .inl ⟨_, _, hx, hy, mulOk_iff h, f.val S (.int _)⟩
    · cases e
  · split at e
    · rename_i h
      cases e
      obtain ⟨a, vs, rfl, h1, h2⟩ := hx
      exact .inr ⟨a, _, vs, rfl, hy, h1, h.1, h.2.1, by rw [h2.length]; exact h.2.2, fun p hp => f.new S hp (o := .lst _) (h2.flatten_rep _)⟩
    · cases e
  · cases e
theorem small_div {j : Int} (h0 : 0 < j) (h : j < 2 ^ 64) : CDivW 0 j := wide_div (b := 64) h0 (by omega) (by decide) (by decide)
theorem o_fdiv : Op X .FloorDiv (binF .fdiv) := by
  refine ⟨_, OpR.or op_fdivW op_fdivN, ?_⟩
  intro F G H σ env x y dx dy d nw Q S hx hy e f
  change divF dx dy = _ at e
  unfold divF at e
  split at e
  · split at e
    · rename_i h
      cases e
      exact .inl ⟨_, _, hx, hy, small_div h.1 h.2, f.val S (.int _)⟩
    · split at e
      · rename_i h
        cases e
        exact .inr ⟨_, _, hx, hy, ⟨by omega, by omega⟩, f.val S (.int _)⟩
      · cases e
  · cases e
theorem o_mod : Op X .Mod (binF .mod) := by
  refine ⟨_, op_mod, ?_⟩
  intro F G H σ env x y dx dy d nw Q S hx hy e f
  change modF dx dy = _ at e
  unfold modF at e
  split at e
  · split at e
    · rename_i h
      cases e
      exact ⟨_, _, hx, hy, h, f.val S (.int _)⟩
    · cases e
  · cases e
theorem o_pow : Op X .Pow (binF .pow) := by
  refine ⟨_, op_pow, ?_⟩
  intro F G H σ env x y dx dy d nw Q S hx hy e f
  change powF dx dy = _ at e
  unfold powF at e
  split at e
  · split at e
    · rename_i h
      cases e
      exact ⟨_, _, hx, hy, h, f.val S (.int _)⟩
    · cases e
  · cases e
theorem o_shl : Op X .LShift (binF .shl) := by
  refine ⟨_, op_shl, ?_⟩
  intro F G H σ env x y dx dy d nw Q S hx hy e f
  change shlF dx dy = _ at e
  unfold shlF at e
  split at e
  · split at e
    · rename_i h
      cases e
      exact ⟨_, _, hx, hy, h, f.val S (.int _)⟩
    · cases e
  · cases e
theorem o_shr : Op X .RShift (binF .shr) := by
  refine ⟨_, op_shr, ?_⟩
  intro F G H σ env x y dx dy d nw Q S hx hy e f
  change shrF dx dy = _ at e
  unfold shrF at e
  split at e
  · split at e
    · rename_i h
      cases e
      exact ⟨_, _, hx, hy, h, f.val S (.int _)⟩
    · cases e
  · cases e

/-! ### comparisons -/
theorem cmpI_inv {p : Int → Int → Bool} {dx dy : D} {b : Bool} (e : cmpI p dx dy = some b) : ∃ i j, dx = .int i ∧ dy = .int j ∧ b = p i j := by
  unfold cmpI at e
  split at e
  · cases e
    exact ⟨_, _, rfl, rfl, rfl⟩
  · cases e
theorem cs_int {p : Int → Int → Bool} : CmpSem K (rI0 fun i j => .bl (p i j)) (cmpI p) := by
  intro F G H σ env x y dx dy b Q S hx hy e f
  obtain ⟨i, j, rfl, rfl, rfl⟩ := cmpI_inv e
  exact ⟨i, j, hx, hy, f⟩
theorem c_lt : Cm X .Lt (cmpF .lt) := ⟨_, op_lt, cs_int⟩
theorem c_le : Cm X .LtE (cmpF .le) := ⟨_, op_le, cs_int⟩
theorem c_gt : Cm X .Gt (cmpF .gt) := ⟨_, op_gt, cs_int⟩
theorem c_ge : Cm X .GtE (cmpF .ge) := ⟨_, op_ge, cs_int⟩
theorem toPL_length : ∀ xs : List D, (toPL xs).length = xs.length
  | [] => rfl
  | _ :: xs => by rw [toPL, List.length_cons, List.length_cons, toPL_length xs]
theorem toPL_map : ∀ xs : List D, toPL xs = xs.map toP
  | [] => rfl
  | x :: xs => by rw [toPL, toPL_map xs, List.map_cons]
theorem Dp.of_rep {H : Hp} : ∀ (n : Nat) {v : V} {d : D}, Rep K H v d → okN n d = true → Dp K H v (toP d)
  | n, _, .non, h, _ => by cases h; simp only [toP]; exact .non
  | n, _, .bl b, h, _ => by cases h; simp only [toP]; exact .bl b
  | n, _, .int i, h, _ => by cases h; simp only [toP]; exact .int i
  | n, _, .str x, h, _ => by cases h; simp only [toP]; exact .str x
  | 0, _, .lst _, _, e => by simp [okN] at e
  | 0, _, .tup _, _, e => by simp [okN] at e
  | n + 1, _, .lst ds, h, e => by
    cases h with
    | lst h1 h2 =>
      rename_i a xs
      have e' : ds.all (okN n) = true := by simpa [okN] using e
      have all : ∀ (xs : List V) (ds : List D), RepL K H xs ds → ds.all (okN n) = true → DpAll K H xs (toPL ds) := by
        intro xs ds h
        induction ds generalizing xs with
        | nil => intro _; cases h; exact .nil
        | cons d ds ih =>
          intro e
          rw [List.all_cons, Bool.and_eq_true] at e
          cases h with
          | cons r t => exact .cons (Dp.of_rep n r e.1) (ih _ t e.2)
      simp only [toP]
      exact .lst (SqL.of h1) (all xs ds h2 e')
  | n + 1, _, .tup ds, h, e => by
    cases h with
    | tup h1 h2 =>
      rename_i a xs
      have e' : ds.all (okN n) = true := by simpa [okN] using e
      have all : ∀ (xs : List V) (ds : List D), RepL K H xs ds → ds.all (okN n) = true → DpAll K H xs (toPL ds) := by
        intro xs ds h
        induction ds generalizing xs with
        | nil => intro _; cases h; exact .nil
        | cons d ds ih =>
          intro e
          rw [List.all_cons, Bool.and_eq_true] at e
          cases h with
          | cons r t => exact .cons (Dp.of_rep n r e.1) (ih _ t e.2)
      simp only [toP]
      exact .tup h1 (all xs ds h2 e')
  | 0, _, .dic _, _, e => by simp [okN] at e
  | n + 1, _, .dic _, _, e => by simp [okN] at e
  | 0, _, .scr _, _, e => by simp [okN] at e
  | n + 1, _, .scr _, _, e => by simp [okN] at e
theorem okN_canLay : ∀ (n : Nat) (d : D), okN n d = true → (toP d).canLay0 = true ∧ (toP d).depth ≤ n
  | n, .non, _ => by simp [toP, PyData.canLay0, PyData.depth]
  | n, .bl b, _ => by simp [toP, PyData.canLay0, PyData.depth]
  | n, .int b, _ => by simp [toP, PyData.canLay0, PyData.depth]
  | n, .str b, e => by
    have e' : PyData.strOk b = true := by cases n <;> simpa [okN] using e
    simp [toP, PyData.canLay0, PyData.depth, e']
  | 0, .lst _, e => by simp [okN] at e
  | 0, .tup _, e => by simp [okN] at e
  | n + 1, .lst ds, e => by
    have e' : ds.all (okN n) = true := by simpa [okN] using e
    have all : ∀ (ds : List D), ds.all (okN n) = true → PyData.canLayAll0 (toPL ds) = true ∧ PyData.depthAll (toPL ds) ≤ n := by
      intro ds
      induction ds with
      | nil => intro _; simp [toPL, PyData.canLayAll0, PyData.depthAll]
      | cons d ds ih =>
        intro e
        rw [List.all_cons, Bool.and_eq_true] at e
        obtain ⟨h1, h2⟩ := okN_canLay n d e.1
        obtain ⟨h3, h4⟩ := ih e.2
        simp only [toPL, PyData.canLayAll0, PyData.depthAll, h1, h3, Bool.and_self, true_and]
        omega
    obtain ⟨h1, h2⟩ := all ds e'
    simp only [toP, PyData.canLay0, PyData.depth, h1, true_and]
    omega
  | n + 1, .tup ds, e => by
    have e' : ds.all (okN n) = true := by simpa [okN] using e
    have all : ∀ (ds : List D), ds.all (okN n) = true → PyData.canLayAll0 (toPL ds) = true ∧ PyData.depthAll (toPL ds) ≤ n := by
      intro ds
      induction ds with
      | nil => intro _; simp [toPL, PyData.canLayAll0, PyData.depthAll]
      | cons d ds ih =>
        intro e
        rw [List.all_cons, Bool.and_eq_true] at e
        obtain ⟨h1, h2⟩ := okN_canLay n d e.1
        obtain ⟨h3, h4⟩ := ih e.2
        simp only [toPL, PyData.canLayAll0, PyData.depthAll, h1, h3, Bool.and_self, true_and]
        omega
    obtain ⟨h1, h2⟩ := all ds e'
    simp only [toP, PyData.canLay0, PyData.depth, h1, true_and]
    omega
  | 0, .dic _, e => by simp [okN] at e
  | n + 1, .dic _, e => by simp [okN] at e
  | 0, .scr _, e => by simp [okN] at e
  | n + 1, .scr _, e => by simp [okN] at e
theorem okN_shaped {d : D} (e : okN 60 d = true) : SeqAt.shaped (toP d) = true := by
  obtain ⟨h1, h2⟩ := okN_canLay 60 d e
  unfold SeqAt.shaped
  rw [h1, Bool.true_and]
  exact decide_eq_true (by omega)
theorem eqF_inv {dx dy : D} {b : Bool} (e : eqF dx dy = some b) : okN 60 dx = true ∧ okN 60 dy = true ∧ b = PyData.eqv (toP dx) (toP dy) := by
  unfold eqF at e
  split at e
  · rename_i h
    cases e
    exact ⟨h.1, h.2, rfl⟩
  · cases e
theorem map_not {o : Option Bool} {b : Bool} (e : o.map (!·) = some b) : o = some (!b) := by
  cases o with
  | none => cases e
  | some c =>
    cases e
    simp
theorem c_eq (hu : X.A.units + 64 < cLine) : Cm X .Eq (cmpF .eq) := by
  refine ⟨_, op_eqD hu, ?_⟩
  intro F G H σ env x y dx dy b Q S hx hy e f
  obtain ⟨h1, h2, rfl⟩ := eqF_inv e
  exact ⟨_, _, Dp.of_rep 60 (hx.rep S.gh) h1, Dp.of_rep 60 (hy.rep S.gh) h2, okN_shaped h1, okN_shaped h2, f⟩
theorem c_ne (hu : X.A.units + 64 < cLine) : Cm X .NotEq (cmpF .ne) := by
  refine ⟨_, op_neD hu, ?_⟩
  intro F G H σ env x y dx dy b Q S hx hy e f
  obtain ⟨h1, h2, e3⟩ := eqF_inv (map_not e)
  have e4 : b = !PyData.eqv (toP dx) (toP dy) := by rw [← e3, Bool.not_not]
  subst e4
  exact ⟨_, _, Dp.of_rep 60 (hx.rep S.gh) h1, Dp.of_rep 60 (hy.rep S.gh) h2, okN_shaped h1, okN_shaped h2, f⟩
theorem flat_rep {G : Hp} {v : V} {d : D} (h : Rep K G v d) (e : isFlat d = true) : flatV v = true := by
  cases h <;> first | rfl | cases e
theorem flat_eq {G : Hp} {v w : V} {d e : D} (h : Rep K G v d) (h' : Rep K G w e) (f1 : isFlat d = true) (f2 : isFlat e = true) : eqV v w = eqFlat d e := by
  cases h <;> first
    | (cases f1; done)
    | (cases h' <;> first
      | (cases f2; done)
      | rfl
      | (simp only [eqV, eqFlat]; first | rfl | (rw [Bool.eq_iff_iff]; simp)))
theorem flat_all {G : Hp} : ∀ {vs : List V} {ds : List D}, RepL K G vs ds → ds.all isFlat = true → vs.all flatV = true
  | _, _, .nil, _ => rfl
  | _, _, .cons r t, e => by
    rw [List.all_cons, Bool.and_eq_true] at e
    rw [List.all_cons, flat_rep r e.1, flat_all t e.2, Bool.and_self]
theorem flat_any {G : Hp} {v : V} {d : D} (h : Rep K G v d) (f1 : isFlat d = true) : ∀ {vs : List V} {ds : List D}, RepL K G vs ds → ds.all isFlat = true → inV v vs = ds.any fun z => eqFlat z d
  | _, _, .nil, _ => rfl
  | _, _, .cons r t, e => by
    rw [List.all_cons, Bool.and_eq_true] at e
    have ih := flat_any h f1 t e.2
    unfold inV at ih ⊢
    rw [List.any_cons, List.any_cons, flat_eq r h e.1 f1, ih]
theorem inF_inv {dx dy : D} {b : Bool} (e : inF dx dy = some b) : ∃ ys, seqOf dy = some ys ∧ isFlat dx = true ∧ ys.all isFlat = true ∧ b = ys.any fun z => eqFlat z dx := by
  unfold inF at e
  cases q : seqOf dy with
  | none =>
    rw [q] at e
    cases e
  | some ys =>
    rw [q] at e
    simp only [Option.bind_some] at e
    split at e
    · rename_i h
      cases e
      exact ⟨ys, rfl, h.1, h.2, rfl⟩
    · cases e
theorem top_flat {G H : Hp} {v : V} {d : D} (h : Top K G H v d) (e : isFlat d = true) : Rep K G v d := by
  cases d with
  | non => cases h; exact .non
  | bl b => cases h; exact .bl b
  | int b => cases h; exact .int b
  | str b => cases h; exact .str b
  | _ => cases e
theorem c_in : Cm X .In (cmpF .isin) := by
  refine ⟨_, op_in_seq, ?_⟩
  intro F G H σ env x y dx dy b Q S hx hy e f
  obtain ⟨ys, q, f1, f2, rfl⟩ := inF_inv e
  obtain ⟨a, xs, rfl, h1, h2⟩ := hy.seq S.gh q
  have rx := top_flat hx f1
  refine ⟨a, xs, rfl, h1, flat_rep rx f1, flat_all h2 f2, ?_⟩
  rw [flat_any rx f1 h2 f2]
  exact f
theorem c_notin : Cm X .NotIn (cmpF .notin) := by
  refine ⟨_, op_notIn_seq, ?_⟩
  intro F G H σ env x y dx dy b Q S hx hy e f
  obtain ⟨ys, q, f1, f2, e3⟩ := inF_inv (map_not e)
  obtain ⟨a, xs, rfl, h1, h2⟩ := hy.seq S.gh q
  have rx := top_flat hx f1
  refine ⟨a, xs, rfl, h1, flat_rep rx f1, flat_all h2 f2, ?_⟩
  have e4 : b = !(ys.any fun z => eqFlat z dx) := by rw [← e3, Bool.not_not]
  rw [flat_any rx f1 h2 f2]
  subst e4
  exact f
theorem isNon_top {G H : Hp} {v : V} {d : D} (h : Top K G H v d) : decide (v = .non) = isNonD d := by
  cases d with
  | non => cases h; rfl
  | bl b => cases h; exact decide_eq_false nofun
  | int b => cases h; exact decide_eq_false nofun
  | str b => cases h; exact decide_eq_false nofun
  | lst xs => obtain ⟨a, _, rfl, _⟩ := h; exact decide_eq_false nofun
  | tup xs => obtain ⟨a, _, rfl, _⟩ := h; exact decide_eq_false nofun
  | dic xs => obtain ⟨a, _, rfl, _⟩ := h; exact decide_eq_false nofun
  | scr xs => obtain ⟨a, rfl, _⟩ := h; exact decide_eq_false nofun
theorem isF_inv {dx dy : D} {b : Bool} (e : isF dx dy = some b) : (dy = .non ∧ b = isNonD dx) ∨ ∃ p q, dx = .bl p ∧ dy = .bl q ∧ b = decide (p = q) := by
  unfold isF at e
  split at e
  · cases e
    exact .inl ⟨rfl, rfl⟩
  · cases e
    exact .inr ⟨_, _, rfl, rfl, rfl⟩
  · cases e
theorem c_is : Cm X .Is (cmpF .is_) := by
  refine ⟨_, OpR.or op_isN op_isBl, ?_⟩
  intro F G H σ env x y dx dy b Q S hx hy e f
  rcases isF_inv e with ⟨rfl, rfl⟩ | ⟨p, q, rfl, rfl, rfl⟩
  · refine .inl ⟨hy, ?_⟩
    rw [isNon_top hx]
    exact f
  · exact .inr ⟨p, q, hx, hy, f⟩
theorem c_isnot : Cm X .IsNot (cmpF .isnot) := by
  refine ⟨_, OpR.or op_notN op_notBl, ?_⟩
  intro F G H σ env x y dx dy b Q S hx hy e f
  have e1 := map_not e
  rcases isF_inv e1 with ⟨rfl, e2⟩ | ⟨p, q, rfl, rfl, e2⟩
  · refine .inl ⟨hy, ?_⟩
    rw [isNon_top hx, ← e2, Bool.not_not]
    exact f
  · refine .inr ⟨p, q, hx, hy, ?_⟩
    rw [← e2, Bool.not_not]
    exact f
end
end PL
set_option maxHeartbeats 4000000
/-! Pure layer 4: expressions. -/
namespace PL
open PySem PySem.Spec PyProof.Rows L2

def BdOk (K : PySem.W.Frag) (G : Hp) (σ : L2.St) (v : V) : Bd → Prop
  | .inl d => Rep K G v d
  | .inr i => σ[i]? = some (some v)
def BdsOk (K : PySem.W.Frag) (G : Hp) (σ : L2.St) : List V → List Bd → Prop
  | [], [] => True
  | v :: vs, b :: bs => BdOk K G σ v b ∧ BdsOk K G σ vs bs
  | _, _ => False
theorem BdOk.mono {K : PySem.W.Frag} {G G' : Hp} {σ : L2.St} {v : V} {b : Bd} (e : Same G G') (h : BdOk K G σ v b) : BdOk K G' σ v b := by
  cases b with
  | inl d => exact Rep.mono e h
  | inr i => exact h
theorem BdsOk.mono {K : PySem.W.Frag} {G G' : Hp} {σ : L2.St} (e : Same G G') : ∀ {vs : List V} {bs : List Bd}, BdsOk K G σ vs bs → BdsOk K G' σ vs bs
  | [], [], _ => trivial
  | _ :: _, _ :: _, h => ⟨h.1.mono e, BdsOk.mono e h.2⟩
theorem BdOk.top {K : PySem.W.Frag} {F G H : Hp} {σ : L2.St} {env : Env} {v : V} {b : Bd} {d : D} (S : Stt K F G H σ env) (h : BdOk K G σ v b) (e : rd env b = some d) : Top K G H v d := by
  cases b with
  | inl d' =>
    cases e
    exact Top.of_rep S.gh h
  | inr i =>
    have e' : slD (getS env i) = some d := e
    have h' : σ[i]? = some (some v) := h
    cases q : getS env i with
    | un =>
      rw [q] at e'
      cases e'
    | im d' =>
      rw [q] at e'
      cases e'
      obtain ⟨w, h1, h2⟩ := S.im i d q
      rw [h'] at h1
      cases h1
      exact Top.of_rep S.gh h2
    | ow d' =>
      rw [q] at e'
      cases e'
      obtain ⟨a, o, h1, h2, h3, _⟩ := S.ow i d q
      rw [h'] at h1
      cases h1
      exact Top.of_own h2 h3

section
variable (Φ : Nat → FS)
/-- the reading t serves the evaluator's m -/
def EvE (K : PySem.W.Frag) (t : TE) (m : ME) : Prop :=
  ∀ {F G H : Hp} {σ : L2.St} {env env' : Env} {d : D} {k : RK} {Q : VK}, Stt K F G H σ env → ev Φ m env = some (d, k, env') → (∀ v G' H', Stt K F G' H' σ env' → Grow F G G' → ResOk K F G' H' σ env' v d k → Q v H') → t σ H Q
def EvF (K : PySem.W.Frag) (t : TE) (m : ME) : Prop :=
  ∀ {F G H : Hp} {σ : L2.St} {env env' : Env} {d : D} {Q : VK}, Stt K F G H σ env → fw (ev Φ m env) = some (d, env') → (∀ v G' H', Stt K F G' H' σ env' → Grow F G G' → Rep K G' v d → Q v H') → t σ H Q
def EvB (K : PySem.W.Frag) (t : TE) (m : ME) : Prop :=
  ∀ {F G H : Hp} {σ : L2.St} {env env' : Env} {b : Bd} {Q : VK}, Stt K F G H σ env → bw (ev Φ m env) = some (b, env') → (∀ v G' H', Stt K F G' H' σ env' → Grow F G G' → BdOk K G' σ v b → Q v H') → t σ H Q
def EvT (K : PySem.W.Frag) (t : TT) (m : ME) : Prop :=
  ∀ {F G H : Hp} {σ : L2.St} {env env' : Env} {b : Bool} {Q : Bool → Hp → Prop}, Stt K F G H σ env → blOf (ev Φ m env) = some (b, env') → (∀ G' H', Stt K F G' H' σ env' → Grow F G G' → Q b H') → t σ H Q
def EvA (K : PySem.W.Frag) (t : TA) (as : MA) : Prop :=
  ∀ {F G H : Hp} {σ : L2.St} {env env' : Env} {ds : List D} {Q : List V → Hp → Prop}, Stt K F G H σ env → evA Φ as env = some (ds, env') → (∀ vs G' H', Stt K F G' H' σ env' → Grow F G G' → RepL K G' vs ds → Q vs H') → t σ H Q
def EvAB (K : PySem.W.Frag) (t : TA) (as : MA) : Prop :=
  ∀ {F G H : Hp} {σ : L2.St} {env env' : Env} {bs : List Bd} {Q : List V → Hp → Prop}, Stt K F G H σ env → evB Φ as env = some (bs, env') → (∀ vs G' H', Stt K F G' H' σ env' → Grow F G G' → BdsOk K G' σ vs bs → Q vs H') → t σ H Q
structure CE (X : Cx) (e : Expr) (m : ME) : Prop where
  ex : ∃ t, PE X e t ∧ EvE Φ X.K t m
structure CT (X : Cx) (e : Expr) (m : ME) : Prop where
  ex : ∃ t, PT X e t ∧ EvT Φ X.K t m
structure CW (X : Cx) (e : Expr) (m : ME) : Prop where
  ex : ∃ t, PW X e t ∧ EvT Φ X.K t m
structure CA (X : Cx) (es : List Expr) (as : MA) : Prop where
  ex : ∃ t, PA X es t ∧ EvA Φ X.K t as
structure CAB (X : Cx) (es : List Expr) (as : MA) : Prop where
  ex : ∃ t, PA X es t ∧ EvAB Φ X.K t as
end
section
variable {Φ : Nat → FS} {X : Cx} {K : PySem.W.Frag}
theorem EvE.f {t : TE} {m : ME} (h : EvE Φ K t m) : EvF Φ K t m := by
  intro F G H σ env env' d Q S e k
  cases q : ev Φ m env with
  | none =>
    rw [q] at e
    cases e
  | some p =>
    obtain ⟨d0, k0, env0⟩ := p
    rw [q] at e
    cases e
    refine h S q fun v G1 H1 S1 g1 r => ?_
    obtain ⟨G2, g2, S2, r2⟩ := r.know S1
    exact k v G2 H1 S2 (g1.trans g2) r2
theorem EvE.b {t : TE} {m : ME} (h : EvE Φ K t m) : EvB Φ K t m := by
  intro F G H σ env env' b Q S e k
  cases q : ev Φ m env with
  | none =>
    rw [q] at e
    cases e
  | some p =>
    obtain ⟨d0, k0, env0⟩ := p
    rw [q] at e
    cases k0 with
    | fz =>
      cases e
      exact h S q fun v G1 H1 S1 g1 r => k v G1 H1 S1 g1 r
    | nw =>
      cases e
      refine h S q fun v G1 H1 S1 g1 r => ?_
      obtain ⟨p, rfl, n⟩ := r
      obtain ⟨G2, g2, S2, r2⟩ := n.know S1
      exact k _ G2 H1 S2 (g1.trans g2) r2
    | sl i =>
      cases e
      exact h S q fun v G1 H1 S1 g1 r => k v G1 H1 S1 g1 r.2
theorem blOf_inv {r : Option (D × RK × Env)} {b : Bool} {env' : Env} (e : blOf r = some (b, env')) : ∃ k, r = some (.bl b, k, env') := by
  cases r with
  | none => cases e
  | some p =>
    obtain ⟨d, k, env0⟩ := p
    cases d with
    | bl c =>
      have e' : some (c, env0) = some (b, env') := e
      cases e'
      exact ⟨k, rfl⟩
    | _ => cases e
theorem ResOk.isBl {F G H : Hp} {σ : L2.St} {env : Env} {v : V} {b : Bool} {k : RK} (S : Stt K F G H σ env) (r : ResOk K F G H σ env v (.bl b) k) : v = .bl b := by
  cases k with
  | fz => cases r; rfl
  | nw =>
    obtain ⟨p, rfl, n⟩ := r
    obtain ⟨o, _, h⟩ := n.ex
    cases o <;> exact h.elim
  | sl i =>
    obtain ⟨a, o, h1, h2, h3, _⟩ := S.ow i _ r.1
    cases o <;> exact h3.elim
theorem EvE.t {t : TE} {m : ME} (h : EvE Φ K t m) : EvT Φ K (tB t) m := by
  intro F G H σ env env' b Q S e k
  obtain ⟨k0, q⟩ := blOf_inv e
  exact h S q fun v G1 H1 S1 g1 r => ⟨b, r.isBl S1, k G1 H1 S1 g1⟩

/-! ### names, constants -/
theorem ce_var (i : Nat) {x : Str} {pos : Pos} (hN : X.N[i]? = some x := by rfl) (hv : Vis X.env.scope x := by first | exact Or.inl rfl | exact Or.inr (Or.inl rfl) | exact Or.inr (Or.inr rfl)) (hd : (x == ("__debug__" : Str)) = false := by decide)
    (hcd : (x == ("__classdict__" : Str)) = false := by decide) : CE Φ X (.Name x pos) (.var i) := by
  refine ⟨tVar i, pv i hN hv hd hcd, ?_⟩
  intro F G H σ env env' d k Q S e q
  rw [ev] at e
  cases h : getS env i with
  | un =>
    rw [h] at e
    cases e
  | im d' =>
    rw [h] at e
    cases e
    obtain ⟨v, h1, h2⟩ := S.im i _ h
    exact ⟨v, h1, q v G H S .refl h2⟩
  | ow d' =>
    rw [h] at e
    cases e
    obtain ⟨a, o, h1, _⟩ := S.ow i _ h
    exact ⟨_, h1, q _ G H S .refl ⟨h, h1⟩⟩
theorem evE_lit {v : V} {d : D} (h : ∀ G, Rep K G v d) : EvE Φ K (tC v) (.lit d) := by
  intro F G H σ env env' d' k Q S e q
  rw [ev] at e
  cases e
  exact q v G H S .refl (h G)
theorem ce_int {i : Int} {j pos} : CE Φ X (.Constant (.int i) j pos) (.lit (.int i)) := ⟨_, pe_int, evE_lit fun _ => .int i⟩
theorem ce_bl {i : Bool} {j pos} : CE Φ X (.Constant (.bool i) j pos) (.lit (.bl i)) := ⟨_, pe_bl, evE_lit fun _ => .bl i⟩
theorem ce_non {j pos} : CE Φ X (.Constant .none j pos) (.lit .non) := ⟨_, pe_non, evE_lit fun _ => .non⟩
theorem ce_str {x : Str} {j pos} : CE Φ X (.Constant (.str x) j pos) (.lit (.str x)) := ⟨_, pe_str, evE_lit fun _ => .str x⟩
/-- a module's constant -/
theorem ce_glob {x : Str} {i : Int} {pos : Pos} (hm : ∃ t, X.mg x = some (.int i t)) (hg : Gl X x := by rfl) (hd : (x == ("__debug__" : Str)) = false := by decide) : CE Φ X (.Name x pos) (.lit (.int i)) := by
  obtain ⟨t, hm⟩ := hm
  exact ⟨_, pe_glob (v := .int i) hg hm ⟨t, rfl⟩ hd, evE_lit fun _ => .int i⟩

/-! ### operators -/
theorem bind_inv {α β : Type} {o : Option α} {f : α → Option β} {b : β} (e : o.bind f = some b) : ∃ a, o = some a ∧ f a = some b := by
  cases o with
  | none => cases e
  | some a => exact ⟨a, rfl, e⟩
theorem map_inv {α β : Type} {o : Option α} {f : α → β} {b : β} (e : o.map f = some b) : ∃ a, o = some a ∧ f a = b := by
  cases o with
  | none => cases e
  | some a => exact ⟨a, rfl, Option.some.inj e⟩
theorem out_inv {env env' : Env} {r : Option (D × Bool)} {d : D} {k : RK} (e : out env r = some (d, k, env')) : ∃ nw, r = some (d, nw) ∧ k = (if nw = true then .nw else .fz) ∧ env' = env := by
  obtain ⟨⟨d0, nw⟩, h1, h2⟩ := map_inv e
  cases h2
  exact ⟨nw, h1, rfl, rfl⟩
variable {a b c : Expr} {ma mb mc : ME} {pos : Pos}
theorem ce_bin {op : Operator} {o : BO} (ho : Op X op (binF o)) (ha : CE Φ X a ma) (hb : CE Φ X b mb) : CE Φ X (.BinOp a op b pos) (.bin o ma mb) := by
  obtain ⟨r, h1, h2⟩ := ho.ex
  obtain ⟨ta, pa, ea⟩ := ha.ex
  obtain ⟨tb, pb, eb⟩ := hb.ex
  refine ⟨_, pe_op h1 pa pb, ?_⟩
  intro F G H σ env env' d k Q S e q
  rw [ev] at e
  obtain ⟨⟨bx, env1⟩, e1, e⟩ := bind_inv e
  obtain ⟨⟨by', env2⟩, e2, e⟩ := bind_inv e
  obtain ⟨dx, e3, e⟩ := bind_inv e
  obtain ⟨dy, e4, e⟩ := bind_inv e
  obtain ⟨nw, e5, rfl, rfl⟩ := out_inv e
  refine ea.b S e1 fun x G1 H1 S1 g1 r1 => ?_
  refine eb.b S1 e2 fun y G2 H2 S2 g2 r2 => ?_
  exact h2 S2 ((r1.mono g2.same).top S2 e3) (r2.top S2 e4) e5 fun v G3 H3 S3 g3 r3 => q v G3 H3 S3 ((g1.trans g2).trans g3) r3
theorem ce_neg (ha : CE Φ X a ma) : CE Φ X (.UnaryOp .USub a pos) (.neg ma) := by
  obtain ⟨ta, pa, ea⟩ := ha.ex
  refine ⟨_, pe_un un_neg pa, ?_⟩
  intro F G H σ env env' d k Q S e q
  rw [ev] at e
  obtain ⟨⟨dx, env1⟩, e1, e⟩ := bind_inv e
  cases dx with
  | int i =>
    cases e
    refine ea.f S e1 fun x G1 H1 S1 g1 r1 => ?_
    cases r1
    exact ⟨i, rfl, q _ G1 H1 S1 g1 (.int _)⟩
  | _ => cases e
theorem cmp_core {r : R2} {f : D → D → Option Bool} (h2 : CmpSem K r f) {ta tb : TE} (ea : EvE Φ K ta ma) (eb : EvE Φ K tb mb) {F G H : Hp} {σ : L2.St} {env env1 env2 : Env} {bx by' : Bd} {dx dy : D} {z : Bool} {Q : VK} (S : Stt K F G H σ env)
    (e1 : bw (ev Φ ma env) = some (bx, env1)) (e2 : bw (ev Φ mb env1) = some (by', env2)) (e3 : rd env2 bx = some dx) (e4 : rd env2 by' = some dy) (e5 : f dx dy = some z) (q : ∀ G' H', Stt K F G' H' σ env2 → Grow F G G' → Q (.bl z) H') : tOp r ta tb σ H Q := by
  refine ea.b S e1 fun x G1 H1 S1 g1 r1 => ?_
  refine eb.b S1 e2 fun y G2 H2 S2 g2 r2 => ?_
  exact h2 S2 ((r1.mono g2.same).top S2 e3) (r2.top S2 e4) e5 (q G2 H2 S2 (g1.trans g2))
theorem ce_cmp {op : CmpOp} {o : CO} (ho : Cm X op (cmpF o)) (ha : CE Φ X a ma) (hb : CE Φ X b mb) (hm : behindInMarks op b = false := by first | exact nobehind _ (by decide) (by decide) | rfl | with_unfolding_all rfl) : CE Φ X (.Compare a [op] [b] pos) (.cmp o ma mb) := by
  obtain ⟨r, h1, h2⟩ := ho.ex
  obtain ⟨ta, pa, ea⟩ := ha.ex
  obtain ⟨tb, pb, eb⟩ := hb.ex
  refine ⟨_, pe_cmpR h1 pa pb hm, ?_⟩
  intro F G H σ env env' d k Q S e q
  rw [ev] at e
  obtain ⟨⟨bx, env1⟩, e1, e⟩ := bind_inv e
  obtain ⟨⟨by', env2⟩, e2, e⟩ := bind_inv e
  obtain ⟨dx, e3, e⟩ := bind_inv e
  obtain ⟨dy, e4, e⟩ := bind_inv e
  obtain ⟨z, e5, e⟩ := map_inv e
  cases e
  exact cmp_core h2 ea eb S e1 e2 e3 e4 e5 fun G' H' S' g => q _ G' H' S' g (Rep.bl z)
theorem ct_cmp {op : CmpOp} {o : CO} (ho : Cm X op (cmpF o)) (ha : CE Φ X a ma) (hb : CE Φ X b mb) (hm : behindInMarks op b = false := by first | exact nobehind _ (by decide) (by decide) | rfl | with_unfolding_all rfl) : CT Φ X (.Compare a [op] [b] pos) (.cmp o ma mb) := by
  obtain ⟨r, h1, h2⟩ := ho.ex
  obtain ⟨ta, pa, ea⟩ := ha.ex
  obtain ⟨tb, pb, eb⟩ := hb.ex
  refine ⟨_, pt_cmpR h1 pa pb hm, ?_⟩
  intro F G H σ env env' t Q S e q
  obtain ⟨k, e⟩ := blOf_inv e
  rw [ev] at e
  obtain ⟨⟨bx, env1⟩, e1, e⟩ := bind_inv e
  obtain ⟨⟨by', env2⟩, e2, e⟩ := bind_inv e
  obtain ⟨dx, e3, e⟩ := bind_inv e
  obtain ⟨dy, e4, e⟩ := bind_inv e
  obtain ⟨z, e5, e⟩ := map_inv e
  cases e
  exact cmp_core h2 ea eb S e1 e2 e3 e4 e5 fun G' H' S' g => ⟨t, rfl, q G' H' S' g⟩
theorem chain_core {r r' : R2} {f f' : D → D → Option Bool} (h2 : CmpSem K r f) (h3 : CmpSem K r' f') {ta tb tc : TE} (ea : EvE Φ K ta ma) (eb : EvE Φ K tb mb) (ec : EvE Φ K tc mc) {F G H : Hp} {σ : L2.St} {env env' : Env} {d : D} {k : RK} {Q : VK} (S : Stt K F G H σ env)
    (e : ((bw (ev Φ ma env)).bind fun x => (bw (ev Φ mb x.2)).bind fun y => (rd y.2 x.1).bind fun dx => (rd y.2 y.1).bind fun dy => (f dx dy).bind fun t => match t with
      | true => (bw (ev Φ mc y.2)).bind fun z => (rd z.2 y.1).bind fun dy' => (rd z.2 z.1).bind fun dz => (f' dy' dz).map fun c => (D.bl c, RK.fz, z.2)
      | false => some (D.bl false, RK.fz, y.2)) = some (d, k, env'))
    (q : ∀ z G' H', d = .bl z → Stt K F G' H' σ env' → Grow F G G' → Q (.bl z) H') : tChain r r' ta tb tc σ H Q := by
  obtain ⟨⟨bx, env1⟩, e1, e⟩ := bind_inv e
  obtain ⟨⟨by', env2⟩, e2, e⟩ := bind_inv e
  obtain ⟨dx, e3, e⟩ := bind_inv e
  obtain ⟨dy, e4, e⟩ := bind_inv e
  obtain ⟨z, e5, e⟩ := bind_inv e
  refine ea.b S e1 fun x G1 H1 S1 g1 r1 => ?_
  refine eb.b S1 e2 fun y G2 H2 S2 g2 r2 => ?_
  refine h2 S2 ((r1.mono g2.same).top S2 e3) (r2.top S2 e4) e5 ⟨z, rfl, ?_⟩
  cases z with
  | false =>
    cases e
    exact iteF (q _ G2 H2 rfl S2 (g1.trans g2))
  | true =>
    refine iteT ?_
    obtain ⟨⟨bz, env3⟩, e6, e⟩ := bind_inv e
    obtain ⟨dy', e7, e⟩ := bind_inv e
    obtain ⟨dz, e8, e⟩ := bind_inv e
    obtain ⟨w, e9, e⟩ := map_inv e
    cases e
    refine ec.b S2 e6 fun z G3 H3 S3 g3 r3 => ?_
    exact h3 S3 ((r2.mono g3.same).top S3 e7) (r3.top S3 e8) e9 (q _ G3 H3 rfl S3 ((g1.trans g2).trans g3))
theorem ce_chain {op op' : CmpOp} {o o' : CO} (ho : Cm X op (cmpF o)) (ho' : Cm X op' (cmpF o')) (ha : CE Φ X a ma) (hb : CE Φ X b mb) (hc : CE Φ X c mc) (hm : lastMarks [op, op'] [b, c] = false := by with_unfolding_all rfl) :
    CE Φ X (.Compare a [op, op'] [b, c] pos) (.chain o o' ma mb mc) := by
  obtain ⟨r, h1, h2⟩ := ho.ex
  obtain ⟨r', h1', h2'⟩ := ho'.ex
  obtain ⟨ta, pa, ea⟩ := ha.ex
  obtain ⟨tb, pb, eb⟩ := hb.ex
  obtain ⟨tc, pc, ec⟩ := hc.ex
  refine ⟨_, pe_chain h1 h1' pa pb pc hm, ?_⟩
  intro F G H σ env env' d k Q S e q
  rw [ev] at e
  have ek : k = .fz := by
    obtain ⟨⟨bx, env1⟩, e1, e⟩ := bind_inv e
    obtain ⟨⟨by', env2⟩, e2, e⟩ := bind_inv e
    obtain ⟨dx, e3, e⟩ := bind_inv e
    obtain ⟨dy, e4, e⟩ := bind_inv e
    obtain ⟨z, e5, e⟩ := bind_inv e
    cases z with
    | false => cases e; rfl
    | true =>
      obtain ⟨⟨bz, env3⟩, e6, e⟩ := bind_inv e
      obtain ⟨dy', e7, e⟩ := bind_inv e
      obtain ⟨dz, e8, e⟩ := bind_inv e
      obtain ⟨w, e9, e⟩ := map_inv e
      cases e
      rfl
  subst ek
  refine chain_core h2 h2' ea eb ec S e fun z G' H' hd S' g => ?_
  subst hd
  exact q _ G' H' S' g (Rep.bl z)
theorem ct_chain {op op' : CmpOp} {o o' : CO} (ho : Cm X op (cmpF o)) (ho' : Cm X op' (cmpF o')) (ha : CE Φ X a ma) (hb : CE Φ X b mb) (hc : CE Φ X c mc) (hm : lastMarks [op, op'] [b, c] = false := by with_unfolding_all rfl) :
    CT Φ X (.Compare a [op, op'] [b, c] pos) (.chain o o' ma mb mc) := by
  obtain ⟨r, h1, h2⟩ := ho.ex
  obtain ⟨r', h1', h2'⟩ := ho'.ex
  obtain ⟨ta, pa, ea⟩ := ha.ex
  obtain ⟨tb, pb, eb⟩ := hb.ex
  obtain ⟨tc, pc, ec⟩ := hc.ex
  refine ⟨_, pt_chain h1 h1' pa pb pc hm, ?_⟩
  intro F G H σ env env' t Q S e q
  obtain ⟨k, e⟩ := blOf_inv e
  rw [ev] at e
  exact chain_core (Q := fun x H' => ∃ k, x = .bl k ∧ Q k H') h2 h2' ea eb ec S e fun z G' H' hd S' g => by
    cases hd
    exact ⟨t, rfl, q G' H' S' g⟩

/-! ### and, or, not, if -/
/-- a test by the value -/
theorem ct_val (ha : CE Φ X a ma) (he : ∀ whole, isTrue a X.env whole = (do let v ← whole; standAt a.pos; holding [v] (truthy v)) := by intro _; rfl) : CT Φ X a ma := by
  obtain ⟨ta, pa, ea⟩ := ha.ex
  exact ⟨_, pt_val pa he, ea.t⟩
theorem CW.ct {e : Expr} {m : ME} (h : CW Φ X e m) : CT Φ X e m := by
  obtain ⟨t, p, e⟩ := h.ex
  exact ⟨t, p.pt, e⟩
variable {rest : List Expr}
theorem cw_and1 (ha : CT Φ X a ma) : CW Φ X (.BoolOp .And [a] pos) ma := by
  obtain ⟨t, p, e⟩ := ha.ex
  exact ⟨t, pw_and1 p, e⟩
theorem cw_or1 (ha : CT Φ X a ma) : CW Φ X (.BoolOp .Or [a] pos) ma := by
  obtain ⟨t, p, e⟩ := ha.ex
  exact ⟨t, pw_or1 p, e⟩
theorem cw_and (ha : CT Φ X a ma) (hb : CW Φ X (.BoolOp .And (b :: rest) pos) mb) : CW Φ X (.BoolOp .And (a :: b :: rest) pos) (.and ma mb) := by
  obtain ⟨ta, pa, ea⟩ := ha.ex
  obtain ⟨tb, pb, eb⟩ := hb.ex
  refine ⟨_, pw_and pa pb, ?_⟩
  intro F G H σ env env' t Q S e q
  obtain ⟨k, e⟩ := blOf_inv e
  rw [ev] at e
  obtain ⟨⟨z, env1⟩, e1, e⟩ := bind_inv e
  refine ea S e1 fun G1 H1 S1 g1 => ?_
  cases z with
  | true =>
    refine iteT (eb S1 ?_ fun G2 H2 S2 g2 => q G2 H2 S2 (g1.trans g2))
    simp only at e
    rw [e]
    rfl
  | false =>
    cases e
    exact iteF (q G1 H1 S1 g1)
theorem cw_or (ha : CT Φ X a ma) (hb : CW Φ X (.BoolOp .Or (b :: rest) pos) mb) : CW Φ X (.BoolOp .Or (a :: b :: rest) pos) (.or ma mb) := by
  obtain ⟨ta, pa, ea⟩ := ha.ex
  obtain ⟨tb, pb, eb⟩ := hb.ex
  refine ⟨_, pw_or pa pb, ?_⟩
  intro F G H σ env env' t Q S e q
  obtain ⟨k, e⟩ := blOf_inv e
  rw [ev] at e
  obtain ⟨⟨z, env1⟩, e1, e⟩ := bind_inv e
  refine ea S e1 fun G1 H1 S1 g1 => ?_
  cases z with
  | false =>
    refine iteF (eb S1 ?_ fun G2 H2 S2 g2 => q G2 H2 S2 (g1.trans g2))
    simp only at e
    rw [e]
    rfl
  | true =>
    cases e
    exact iteT (q G1 H1 S1 g1)
theorem ct_not (ha : CT Φ X a ma) : CT Φ X (.UnaryOp .Not a pos) (.not ma) := by
  obtain ⟨ta, pa, ea⟩ := ha.ex
  refine ⟨_, pt_not pa, ?_⟩
  intro F G H σ env env' t Q S e q
  obtain ⟨k, e⟩ := blOf_inv e
  rw [ev] at e
  obtain ⟨⟨z, env1⟩, e1, e⟩ := map_inv e
  cases e
  exact ea S e1 fun G1 H1 S1 g1 => q G1 H1 S1 g1
theorem ce_one {op} (ha : CE Φ X a ma) : CE Φ X (.BoolOp op [a] pos) ma := by
  obtain ⟨t, p, e⟩ := ha.ex
  exact ⟨t, pe_one p, e⟩
theorem ce_and (ha : CE Φ X a ma) (hb : CE Φ X (.BoolOp .And (b :: rest) pos) mb) : CE Φ X (.BoolOp .And (a :: b :: rest) pos) (.and ma mb) := by
  obtain ⟨ta, pa, ea⟩ := ha.ex
  obtain ⟨tb, pb, eb⟩ := hb.ex
  refine ⟨_, pe_and pa pb, ?_⟩
  intro F G H σ env env' d k Q S e q
  rw [ev] at e
  obtain ⟨⟨z, env1⟩, e1, e⟩ := bind_inv e
  obtain ⟨k0, e1⟩ := blOf_inv e1
  refine ea S e1 fun v G1 H1 S1 g1 r1 => ⟨z, r1.isBl S1, ?_⟩
  cases z with
  | true => exact iteT (eb S1 e fun v G2 H2 S2 g2 r2 => q v G2 H2 S2 (g1.trans g2) r2)
  | false =>
    cases e
    exact iteF (q _ G1 H1 S1 g1 (Rep.bl false))
theorem ce_or (ha : CE Φ X a ma) (hb : CE Φ X (.BoolOp .Or (b :: rest) pos) mb) : CE Φ X (.BoolOp .Or (a :: b :: rest) pos) (.or ma mb) := by
  obtain ⟨ta, pa, ea⟩ := ha.ex
  obtain ⟨tb, pb, eb⟩ := hb.ex
  refine ⟨_, pe_or pa pb, ?_⟩
  intro F G H σ env env' d k Q S e q
  rw [ev] at e
  obtain ⟨⟨z, env1⟩, e1, e⟩ := bind_inv e
  obtain ⟨k0, e1⟩ := blOf_inv e1
  refine ea S e1 fun v G1 H1 S1 g1 r1 => ⟨z, r1.isBl S1, ?_⟩
  cases z with
  | false => exact iteF (eb S1 e fun v G2 H2 S2 g2 r2 => q v G2 H2 S2 (g1.trans g2) r2)
  | true =>
    cases e
    exact iteT (q _ G1 H1 S1 g1 (Rep.bl true))
theorem ce_not (ha : CE Φ X a ma) : CE Φ X (.UnaryOp .Not a pos) (.not ma) := by
  obtain ⟨ta, pa, ea⟩ := ha.ex
  refine ⟨_, pe_not pa, ?_⟩
  intro F G H σ env env' d k Q S e q
  rw [ev] at e
  obtain ⟨⟨z, env1⟩, e1, e⟩ := map_inv e
  obtain ⟨k0, e1⟩ := blOf_inv e1
  cases e
  exact ea S e1 fun v G1 H1 S1 g1 r1 => ⟨z, r1.isBl S1, q _ G1 H1 S1 g1 (Rep.bl _)⟩
theorem ce_ife (hc : CT Φ X c mc) (ha : CE Φ X a ma) (hb : CE Φ X b mb) : CE Φ X (.IfExp c a b pos) (.ife mc ma mb) := by
  obtain ⟨tc, pc, ec⟩ := hc.ex
  obtain ⟨ta, pa, ea⟩ := ha.ex
  obtain ⟨tb, pb, eb⟩ := hb.ex
  refine ⟨_, pe_ifExp pc pa pb, ?_⟩
  intro F G H σ env env' d k Q S e q
  rw [ev] at e
  obtain ⟨⟨z, env1⟩, e1, e⟩ := bind_inv e
  refine ec S e1 fun G1 H1 S1 g1 => ?_
  cases z with
  | true => exact iteT (ea S1 e fun v G2 H2 S2 g2 r2 => q v G2 H2 S2 (g1.trans g2) r2)
  | false => exact iteF (eb S1 e fun v G2 H2 S2 g2 r2 => q v G2 H2 S2 (g1.trans g2) r2)
end
end PL
set_option maxHeartbeats 4000000
/-! Pure layer 5: arguments, displays, calls of defs. -/
namespace PL
open PySem PySem.Spec PyProof.Rows L2

section
variable {Φ : Nat → FS} {X : Cx} {K : PySem.W.Frag} {e : Expr} {es : List Expr} {m : ME} {as : MA} {pos p : Pos}
/-! ### arguments -/
theorem ca_nil : CA Φ X [] .nil := by
  refine ⟨_, pa_nil, ?_⟩
  intro F G H σ env env' ds Q S q k
  rw [evA] at q
  cases q
  exact k [] G H S .refl .nil
theorem ca_cons (h : CE Φ X e m) (hr : CA Φ X es as) (hs : starEach (e :: es) X.env = (false, eval e X.env) :: starEach es X.env := by rfl) : CA Φ X (e :: es) (.cons m as) := by
  obtain ⟨t, p, q⟩ := h.ex
  obtain ⟨t2, p2, q2⟩ := hr.ex
  refine ⟨_, pa_cons p p2 hs, ?_⟩
  intro F G H σ env env' ds Q S w k
  rw [evA] at w
  obtain ⟨⟨d, env1⟩, e1, w⟩ := bind_inv w
  obtain ⟨⟨ds1, env2⟩, e2, w⟩ := map_inv w
  cases w
  refine q.f S e1 fun v G1 H1 S1 g1 r1 => ?_
  exact q2 S1 e2 fun vs G2 H2 S2 g2 r2 => k _ G2 H2 S2 (g1.trans g2) (.cons (r1.mono g2.same) r2)
theorem ca_star (h : CE Φ X e m) (hr : CA Φ X es as) (hs : starEach (.Starred e p :: es) X.env = (true, eval e X.env) :: starEach es X.env := by rfl) : CA Φ X (.Starred e p :: es) (.star m as) := by
  obtain ⟨t, pp, q⟩ := h.ex
  obtain ⟨t2, p2, q2⟩ := hr.ex
  refine ⟨_, StX.pa_star pp p2 hs, ?_⟩
  intro F G H σ env env' ds Q S w k
  rw [evA] at w
  obtain ⟨⟨d, env1⟩, e1, w⟩ := bind_inv w
  obtain ⟨xs, e3, w⟩ := bind_inv w
  obtain ⟨⟨ds1, env2⟩, e2, w⟩ := map_inv w
  cases w
  refine q.f S e1 fun v G1 H1 S1 g1 r1 => ?_
  obtain ⟨a, vs, rfl, hq, hl⟩ := (Top.of_rep S1.gh r1).seq S1.gh e3
  exact ⟨a, vs, rfl, hq.symm, q2 S1 e2 fun ws G2 H2 S2 g2 r2 => k _ G2 H2 S2 (g1.trans g2) ((hl.mono g2.same).append r2)⟩
theorem cab_nil : CAB Φ X [] .nil := by
  refine ⟨_, pa_nil, ?_⟩
  intro F G H σ env env' ds Q S q k
  rw [evB] at q
  cases q
  exact k [] G H S .refl trivial
theorem cab_cons (h : CE Φ X e m) (hr : CAB Φ X es as) (hs : starEach (e :: es) X.env = (false, eval e X.env) :: starEach es X.env := by rfl) : CAB Φ X (e :: es) (.cons m as) := by
  obtain ⟨t, p, q⟩ := h.ex
  obtain ⟨t2, p2, q2⟩ := hr.ex
  refine ⟨_, pa_cons p p2 hs, ?_⟩
  intro F G H σ env env' ds Q S w k
  rw [evB] at w
  obtain ⟨⟨d, env1⟩, e1, w⟩ := bind_inv w
  obtain ⟨⟨ds1, env2⟩, e2, w⟩ := map_inv w
  cases w
  refine q.b S e1 fun v G1 H1 S1 g1 r1 => ?_
  exact q2 S1 e2 fun vs G2 H2 S2 g2 r2 => k _ G2 H2 S2 (g1.trans g2) ⟨r1.mono g2.same, r2⟩
/-! ### displays -/
theorem ite_inv {α : Type} {c : Prop} [Decidable c] {a : Option α} {b : α} (e : (if c then a else none) = some b) : c ∧ a = some b := by
  split at e
  · exact ⟨by assumption, e⟩
  · cases e
theorem ce_tup {x1} (h : CA Φ X es as) : CE Φ X (.Tuple es x1 pos) (.tupD as) := by
  obtain ⟨t, p, q⟩ := h.ex
  refine ⟨_, pe_tup p, ?_⟩
  intro F G H σ env env' d k Q S w kq
  rw [ev] at w
  obtain ⟨⟨ds, env1⟩, e1, w⟩ := bind_inv w
  obtain ⟨hl, w⟩ := ite_inv w
  cases w
  refine q S e1 fun vs G1 H1 S1 g1 r1 => ⟨by rw [r1.length]; exact hl, fun p hp => ?_⟩
  obtain ⟨S2, g2⟩ := S1.allocG (o := .tup vs) hp
  exact kq _ _ _ S2 (g1.trans g2) (Rep.tup (SqT.of upd_same) (r1.mono g2.same))
theorem ce_lst (h : CA Φ X es as) : CE Φ X (.List es pos) (.lstD as) := by
  obtain ⟨t, p, q⟩ := h.ex
  refine ⟨_, pe_lst p, ?_⟩
  intro F G H σ env env' d k Q S w kq
  rw [ev] at w
  obtain ⟨⟨ds, env1⟩, e1, w⟩ := bind_inv w
  obtain ⟨hl, w⟩ := ite_inv w
  cases w
  refine q S e1 fun vs G1 H1 S1 g1 r1 => ⟨by rw [r1.length]; exact hl, fun p hp => ?_⟩
  exact kq _ _ _ (S1.alloc hp) g1 ⟨p, rfl, S1.newAt (o := .lst vs) hp r1⟩
end

/-! ### defs and their promises -/
def del (H : Hp) (a : Addr) : Hp := fun b => if b = a then none else H b
theorem del_same {H : Hp} {a : Addr} : del H a a = none := by
  unfold del
  rw [if_pos rfl]
theorem del_ne {H : Hp} {a b : Addr} (h : b ≠ a) : del H a b = H b := by
  unfold del
  rw [if_neg h]
def RetOk (K : PySem.W.Frag) (H G' H' : Hp) (v : V) (d : D) (fresh : Bool) : Prop := match fresh with
  | true => ∃ p o, v = .ref p ∧ H p = none ∧ H' p = some o ∧ HOf K G' o d ∧ G' p = none
  | false => Rep K G' v d
/-- the promise of a def that is worth fs -/
def spFS (K : PySem.W.Frag) (fs : FS) : Sp := fun vs H Q _ => vs.length = fs.ar ∧
  ((fs.io = false ∧ ∃ G ds d d1, Same G H ∧ RepL K G vs ds ∧ fs.run ds = some (d, d1) ∧ ∀ v G' H', Same H H' → Same G' H' → Grow H G G' → RetOk K H G' H' v d fs.fresh → Q v H') ∨
   (fs.io = true ∧ ∃ G a o ws d0 ds d d1, vs = .ref a :: ws ∧ Same G H ∧ G a = none ∧ H a = some o ∧ HOf K G o d0 ∧ RepL K G ws ds ∧ fs.run (d0 :: ds) = some (d, d1) ∧
      ∀ v G' H' o', Same (del H a) H' → Same G' H' → Grow H G G' → H' a = some o' → HOf K G' o' d1 → RetOk K H G' H' v d fs.fresh → Q v H'))
/-- x is a def of the module, worth fs, by at most level k -/
structure Fn (X : Cx) (x : Str) (fs : FS) (k : Nat) : Prop where
  ex : ∃ f fd ps, FnOk X.prog X.w X.K X.mg X.base CX0 k f fd ps (spFS X.K fs) ∧ X.mg x = some (.ref f) ∧ PySem.W.keepIn X.K (.ref f) = true ∧ Binds X.K fd ps []
/-- .. by keywords, ks: the names as they are written; perm: the written one for each parameter -/
structure FnK (X : Cx) (x : Str) (fs : FS) (k : Nat) (ks : List Str) (perm : List Nat) : Prop where
  ex : ∃ f fd ps g gV, FnOk X.prog X.w X.K X.mg X.base CX0 k f fd ps (spFS X.K fs) ∧ X.mg x = some (.ref f) ∧ PySem.W.keepIn X.K (.ref f) = true ∧ KBn X.K fd ps 0 ks g gV ∧
    ∀ (G : Hp) (zs : List V) (ds es : List D), RepL X.K G zs ds → permD ds perm = some es → RepL X.K G (gV [] zs) es
section
variable {K : PySem.W.Frag} {F G H : Hp} {σ : L2.St} {env : Env}
/-- behind a call that keeps all -/
theorem Stt.after (S : Stt K F G H σ env) {G' H' : Hp} (h1 : Same H H') (h2 : Same G' H') (h3 : Grow H G G') : Stt K F G' H' σ env ∧ Grow F G G' := by
  refine ⟨⟨h2, S.fh.trans h1, S.len, fun i d h => ?_, fun i d h => ?_, S.dj⟩, h3.frame S.fh⟩
  · obtain ⟨v, z1, z2⟩ := S.im i d h
    exact ⟨v, z1, z2.mono h3.same⟩
  · obtain ⟨a, o, z1, z2, z3, z4, z5⟩ := S.ow i d h
    refine ⟨a, o, z1, h1 _ _ z2, z3.mono h3.same, ?_, z5⟩
    cases q : G' a with
    | none => rfl
    | some u =>
      rcases h3.new a u q with ⟨o', z⟩ | z
      · rw [z4] at z
        cases z
      · rw [z2] at z
        cases z
theorem RetOk.res (S : Stt K F G H σ env) {G' H' : Hp} {v : V} {d : D} {fresh : Bool} (h1 : Same H H' ∨ ∃ a, H a ≠ none ∧ Same (del H a) H') {env' : Env} (he : ∀ i e, getS env' i = .ow e → ∃ e', getS env i = .ow e') (r : RetOk K H G' H' v d fresh) :
    ResOk K F G' H' σ env' v d (if fresh = true then .nw else .fz) := by
  cases fresh with
  | false => exact r
  | true =>
    obtain ⟨p, o, rfl, z1, z2, z3, z4⟩ := r
    refine ⟨p, rfl, ⟨⟨o, z2, z3⟩, z4, S.fh.free z1, fun i e h q => ?_⟩⟩
    obtain ⟨e', h'⟩ := he i e h
    obtain ⟨a, u, y1, y2, _⟩ := S.ow i e' h'
    rw [y1] at q
    cases q
    rw [z1] at y2
    cases y2
end
section
variable {Φ : Nat → FS} {X : Cx} {x : Str} {p pos : Pos} {e : Expr} {es : List Expr} {as : MA} {k j : Nat}
theorem ce_call (f : Nat) (h : Fn X x (Φ f) k) (hr : Room j X.A) (ha : CA Φ X (e :: es) as) (hk : k ≤ j := by decide) (hg : Gl X x := by rfl) (hdb : (x == ("__debug__" : Str)) = false := by decide)
    (he : starEach (e :: es) X.env = (false, eval e X.env) :: starEach es X.env := by rfl) (hpl : (backTo pos (starEach es X.env)).any (·.1) = false := by rfl) : CE Φ X (.Call (.Name x p) (e :: es) [] pos) (.call f as) := by
  obtain ⟨fa, fd, ps, F, hm, hkp, hb⟩ := h.ex
  obtain ⟨t, pa, q⟩ := ha.ex
  refine ⟨_, pe_call F (hr.mono hk) hg hm hkp hb .nil pass0 pa hdb he hpl, ?_⟩
  intro F G H σ env env' d k Q S w kq
  rw [ev] at w
  obtain ⟨⟨ds, env1⟩, e1, w⟩ := bind_inv w
  cases hio : (Φ f).io with
  | true =>
    rw [hio] at w
    cases w
  | false =>
    rw [hio] at w
    obtain ⟨hl, w⟩ := ite_inv w
    obtain ⟨⟨d0, d1⟩, e2, w⟩ := map_inv w
    cases w
    refine q S e1 fun vs G1 H1 S1 g1 r1 => ?_
    refine ⟨by rw [List.append_nil, r1.length]; exact hl, .inl ⟨hio, G1, ds, d0, d1, S1.gh, by rw [List.append_nil]; exact r1, e2, fun v G2 H2 z1 z2 z3 z4 => ?_⟩⟩
    obtain ⟨S2, g2⟩ := S1.after z1 z2 z3
    exact kq v G2 H2 S2 (g1.trans g2) (z4.res S1 (.inl z1) fun i e h => ⟨e, h⟩)
theorem run_kw {ks : List Str} {perm : List Nat} {kws : List Keyword} {tk : TA} (f : Nat) (h : FnK X x (Φ f) k ks perm) (hr : Room j X.A) (hkw : PK X kws tk) (q : EvA Φ X.K tk as) (hk : k ≤ j := by decide) (hg : Gl X x := by rfl) (hdb : (x == ("__debug__" : Str)) = false := by decide)
    (hall : (backToKw pos (keywordEach kws X.env)).all (·.1.isSome) = true := by rfl) (hks : (backToKw pos (keywordEach kws X.env)).filterMap (·.1) = ks := by rfl) (hl : ks.length = perm.length := by rfl)
    (hpl : ((backTo pos (starEach [] X.env)).any (·.1) || (backToKw pos (keywordEach kws X.env)).any (·.1.isNone)) = false := by rfl) (hds : ∀ ds env env', evA Φ as env = some (ds, env') → ds.length = ks.length) :
    CE Φ X (.Call (.Name x p) [] kws pos) (.callP f perm as) := by
  obtain ⟨fa, fd, ps, g, gV, F, hm, hkp, hb, hgv⟩ := h.ex
  refine ⟨tCallN 0 ks.length (spFS X.K (Φ f)) gV E0 tNil tk, ⟨fun pins s σ H Q I h => ?_⟩, ?_⟩
  · refine wpAny_Call_Name_kw (ld_glob I hg hm ?_ hdb)
    refine PySem.W.callWith_KW0 (h₀ := X.base) I.ok.mod.kin hkp hall ?_ hpl
    refine thn (hkw.run pos pins s σ H _ I h) fun ws s2 ⟨zs, H2, I2, rz, l1, l2, q2⟩ => ⟨I2.kIn, ?_⟩
    rw [hks]
    exact run_fnN (us := []) (vs := []) F (hr.mono hk) hb pass0 I2 .nil rz rfl l2 q2
  · intro F G H σ env env' d k Q S w kq
    rw [ev] at w
    obtain ⟨⟨ds, env1⟩, e1, w⟩ := bind_inv w
    obtain ⟨es, e3, w⟩ := bind_inv w
    cases hio : (Φ f).io with
    | true =>
      rw [hio] at w
      cases w
    | false =>
      rw [hio] at w
      obtain ⟨hl, w⟩ := ite_inv w
      obtain ⟨⟨d0, d1⟩, e2, w⟩ := map_inv w
      cases w
      refine q S e1 fun vs G1 H1 S1 g1 r1 => ?_
      have r2 := hgv G1 vs ds es r1 e3
      refine ⟨rfl, by rw [r1.length]; exact hds _ _ _ e1, by rw [r2.length]; exact hl, .inl ⟨hio, G1, es, d0, d1, S1.gh, r2, e2, fun v G2 H2 z1 z2 z3 z4 => ?_⟩⟩
      obtain ⟨S2, g2⟩ := S1.after z1 z2 z3
      exact kq v G2 H2 S2 (g1.trans g2) (z4.res S1 (.inl z1) fun i e h => ⟨e, h⟩)
/-- the keywords' values -/
structure CK (Φ : Nat → FS) (X : Cx) (kws : List Keyword) (as : MA) (n : Nat) : Prop where
  ex : ∃ t, PK X kws t ∧ EvA Φ X.K t as
  len : ∀ ds env env', evA Φ as env = some (ds, env') → ds.length = n
theorem ck_nil : CK Φ X [] .nil 0 := by
  refine ⟨⟨_, pk_nil, ?_⟩, fun ds env env' e => ?_⟩
  · intro F G H σ env env' ds Q S q k
    rw [evA] at q
    cases q
    exact k [] G H S .refl .nil
  · rw [evA] at e
    cases e
    rfl
theorem ck_cons {nm : Option Str} {kpos : Pos} {m : ME} {kws : List Keyword} {n : Nat} (h : CE Φ X e m) (hr : CK Φ X kws as n) : CK Φ X (⟨nm, e, kpos⟩ :: kws) (.cons m as) (n + 1) := by
  obtain ⟨t, p, q⟩ := h.ex
  obtain ⟨⟨t2, p2, q2⟩, hl⟩ := hr
  refine ⟨⟨_, pk_cons p p2, ?_⟩, fun ds env env' w => ?_⟩
  · intro F G H σ env env' ds Q S w k
    rw [evA] at w
    obtain ⟨⟨d, env1⟩, e1, w⟩ := bind_inv w
    obtain ⟨⟨ds1, env2⟩, e2, w⟩ := map_inv w
    cases w
    refine q.f S e1 fun v G1 H1 S1 g1 r1 => ?_
    exact q2 S1 e2 fun vs G2 H2 S2 g2 r2 => k _ G2 H2 S2 (g1.trans g2) (.cons (r1.mono g2.same) r2)
  · rw [evA] at w
    obtain ⟨⟨d, env1⟩, e1, w⟩ := bind_inv w
    obtain ⟨⟨ds1, env2⟩, e2, w⟩ := map_inv w
    cases w
    rw [List.length_cons, hl _ _ _ e2]
theorem ce_callK {ks : List Str} {perm : List Nat} {kws : List Keyword} (f : Nat) (h : FnK X x (Φ f) k ks perm) (hr : Room j X.A) (hkw : CK Φ X kws as ks.length) (hk : k ≤ j := by decide) (hg : Gl X x := by rfl) (hdb : (x == ("__debug__" : Str)) = false := by decide)
    (hall : (backToKw pos (keywordEach kws X.env)).all (·.1.isSome) = true := by rfl) (hks : (backToKw pos (keywordEach kws X.env)).filterMap (·.1) = ks := by rfl) (hl : ks.length = perm.length := by rfl)
    (hpl : ((backTo pos (starEach [] X.env)).any (·.1) || (backToKw pos (keywordEach kws X.env)).any (·.1.isNone)) = false := by rfl) : CE Φ X (.Call (.Name x p) [] kws pos) (.callP f perm as) := by
  obtain ⟨⟨t, p, q⟩, hn⟩ := hkw
  exact run_kw f h hr p q hk hg hdb hall hks hl hpl hn
/-- a def that changes its first argument, an owned slot's object -/
theorem ce_callIO (f i : Nat) {y : Str} {py : Pos} (h : Fn X x (Φ f) k) (hr : Room j X.A) (ha : CA Φ X es as) (hk : k ≤ j := by decide) (hg : Gl X x := by rfl) (hdb : (x == ("__debug__" : Str)) = false := by decide)
    (hN : X.N[i]? = some y := by rfl) (hv : Vis X.env.scope y := by first | exact Or.inl rfl | exact Or.inr (Or.inl rfl) | exact Or.inr (Or.inr rfl)) (hd : (y == ("__debug__" : Str)) = false := by decide) (hcd : (y == ("__classdict__" : Str)) = false := by decide)
    (he : starEach (.Name y py :: es) X.env = (false, eval (.Name y py) X.env) :: starEach es X.env := by rfl) (hpl : (backTo pos (starEach es X.env)).any (·.1) = false := by rfl) : CE Φ X (.Call (.Name x p) (.Name y py :: es) [] pos) (.callIO f i as) := by
  obtain ⟨fa, fd, ps, F, hm, hkp, hb⟩ := h.ex
  obtain ⟨t, pa, q⟩ := ha.ex
  refine ⟨_, pe_call F (hr.mono hk) hg hm hkp hb .nil pass0 (pa_cons (pv i hN hv hd hcd) pa he) hdb he hpl, ?_⟩
  intro F G H σ env env' d k Q S w kq
  rw [ev] at w
  cases hs : getS env i with
  | un => rw [hs] at w; cases w
  | im _ => rw [hs] at w; cases w
  | ow d9 =>
    rw [hs] at w
    obtain ⟨⟨ds, env1⟩, e1, w⟩ := bind_inv w
    obtain ⟨d0, e3, w⟩ := bind_inv w
    cases hio : (Φ f).io with
    | false =>
      rw [hio] at w
      cases w
    | true =>
      rw [hio] at w
      obtain ⟨hl, w⟩ := ite_inv w
      obtain ⟨⟨d2, d1⟩, e2, w⟩ := map_inv w
      cases w
      obtain ⟨a, o9, z1, _⟩ := S.ow i d9 hs
      refine ⟨.ref a, z1, ?_⟩
      refine q S e1 fun vs G1 H1 S1 g1 r1 => ?_
      have hs1 : getS env1 i = .ow d0 := by
        unfold owD at e3
        cases hx : getS env1 i with
        | ow d' =>
          rw [hx] at e3
          cases e3
          rfl
        | im d' => rw [hx] at e3; cases e3
        | un => rw [hx] at e3; cases e3
      obtain ⟨a', o, y1, y2, y3, y4, y5⟩ := S1.ow i d0 hs1
      rw [z1] at y1
      cases y1
      refine ⟨by rw [List.append_nil, List.length_cons, r1.length]; exact hl, .inr ⟨hio, G1, a, o, vs, d0, ds, d2, d1, by rw [List.append_nil], S1.gh, y4, y2, y3, r1, e2, fun v G2 H2 o2 u1 u2 u3 u4 u5 u6 => ?_⟩⟩
      have ga : ∀ b u, H1 b = some u → G1 b = none → G2 b = none := fun b u hu hg => by
        cases qq : G2 b with
        | none => rfl
        | some u' =>
          rcases u3.new b u' qq with ⟨o', z⟩ | z
          · rw [hg] at z
            cases z
          · rw [hu] at z
            cases z
      have hli : i < env1.length := getS_lt (by rw [hs1]; exact nofun)
      have keep : ∀ b u, b ≠ a → H1 b = some u → H2 b = some u := fun b u hb hu => u1 b u (by rw [del_ne hb]; exact hu)
      have own : ∀ {j e}, j ≠ i → getS (slotSet i env1 d1) j = e → getS env1 j = e := fun {j e} hj q => by
        unfold slotSet at q
        rw [getS_set_ne (Ne.symm hj)] at q
        exact q
      have own2 : ∀ j e, getS (slotSet i env1 d1) j = .ow e → ∃ e', getS env1 j = .ow e' := fun j e q => by
        by_cases hj : j = i
        · subst hj
          exact ⟨d0, hs1⟩
        · exact ⟨e, own hj q⟩
      have S2 : Stt X.K F G2 H2 σ (slotSet i env1 d1) := by
        refine ⟨u2, fun b u hu => ?_, by unfold slotSet; rw [List.length_set]; exact S1.len, fun j e hj => ?_, fun j e hj => ?_, fun j l e e' b h1 h2 h3 h4 => ?_⟩
        · exact keep b u (fun z => by rw [z, y5] at hu; cases hu) (S1.fh _ _ hu)
        · by_cases hji : j = i
          · subst hji
            unfold slotSet at hj
            rw [getS_set_same hli] at hj
            cases hj
          · obtain ⟨w, w1, w2⟩ := S1.im j e (own hji hj)
            exact ⟨w, w1, w2.mono u3.same⟩
        · by_cases hji : j = i
          · subst hji
            unfold slotSet at hj
            rw [getS_set_same hli] at hj
            cases hj
            exact ⟨a, o2, z1, u4, u5, ga _ _ y2 y4, y5⟩
          · have hj' := own hji hj
            obtain ⟨b, w, w1, w2, w3, w4, w5⟩ := S1.ow j e hj'
            have hba : b ≠ a := fun z => by
              rw [z] at w1
              exact hji (S1.dj j i e d0 a hj' hs1 w1 z1)
            exact ⟨b, w, w1, keep b w hba w2, w3.mono u3.same, ga _ _ w2 w4, w5⟩
        · obtain ⟨p1, q1⟩ := own2 j e h1
          obtain ⟨p2, q2⟩ := own2 l e' h2
          exact S1.dj j l p1 p2 b q1 q2 h3 h4
      exact kq v G2 H2 S2 (g1.trans (u3.frame S1.fh)) (u6.res S1 (.inr ⟨a, by rw [y2]; exact nofun, u1⟩) own2)
end
end PL
set_option maxHeartbeats 4000000
/-! Pure layer 6: subscripts, slices, dicts, isinstance. -/
namespace PL
open PySem PySem.Spec PyProof.Rows L2

section
variable {K : PySem.W.Frag} {F G H : Hp} {σ : L2.St} {env : Env}
theorem atI_rep {vs : List V} {ds : List D} {i : Int} {d : D} (h : RepL K G vs ds) (e : atI ds i = some d) : ∃ v, atI vs i = some v ∧ Rep K G v d := by
  unfold atI at e ⊢
  rw [h.length]
  obtain ⟨j, e1, e2⟩ := bind_inv e
  obtain ⟨v, h1, h2⟩ := h.get e2
  exact ⟨v, by rw [e1]; exact h1, h2⟩
theorem atI_ints {ns : List Int} {i n : Int} (e : atI ns i = some n) : atI (ns.map V.int) i = some (.int n) := by
  unfold atI at e ⊢
  rw [List.length_map]
  obtain ⟨j, e1, e2⟩ := bind_inv e
  rw [e1]
  show (ns.map V.int)[j]? = _
  rw [List.getElem?_map, e2]
  rfl
theorem cutV_rep {vs : List V} {ds : List D} (h : RepL K G vs ds) (lo hi : Option Int) : RepL K G (cutV vs lo hi) (cutD ds lo hi) := by
  unfold cutV cutD
  rw [h.length]
  exact (h.drop _).take _
theorem find_rep {kv : List (Key × V)} {kd : List (Key × D)} (h : RepK K G kv kd) (k : Key) : (∀ d, lookD kd k = some d → ∃ v, valV kv k = some v ∧ Rep K G v d) ∧ (lookD kd k = none → valV kv k = none) := by
  induction kd generalizing kv with
  | nil =>
    cases h
    refine ⟨fun d e => ?_, fun _ => rfl⟩
    cases e
  | cons p r ih =>
    cases h with
    | @cons k' v d vs ds r1 t =>
      obtain ⟨h1, h2⟩ := ih t
      unfold lookD valV at *
      by_cases hk : k' = k
      · subst hk
        simp only [List.find?_cons, decide_true, Option.map_some, Option.some.injEq, reduceCtorEq, false_implies, and_true]
        rintro d' rfl
        exact ⟨v, rfl, r1⟩
      · simp only [List.find?_cons, decide_eq_false hk]
        exact ⟨h1, h2⟩
theorem valV_some {kv : List (Key × V)} {kd : List (Key × D)} (h : RepK K G kv kd) (k : Key) : (valV kv k).isSome = (lookD kd k).isSome := by
  obtain ⟨h1, h2⟩ := find_rep h k
  cases e : lookD kd k with
  | none => rw [h2 e]; rfl
  | some d =>
    obtain ⟨v, q, _⟩ := h1 d e
    rw [q]
    rfl
theorem key_rep {v : V} {d : D} {k : Key} (h : Rep K G v d) (e : keyD d = some k) : v = kV k := by
  cases h <;> first | (cases e; rfl) | cases e
theorem any_rep {kv : List (Key × V)} {kd : List (Key × D)} (h : RepK K G kv kd) (k : Key) : (kv.any fun p => decide (p.1 = k)) = kd.any fun p => decide (p.1 = k) := by
  induction kd generalizing kv with
  | nil => cases h; rfl
  | cons p t ih =>
    cases h with
    | cons r1 t1 => rw [List.any_cons, List.any_cons, ih t1]
theorem map_rep {kv : List (Key × V)} {kd : List (Key × D)} (h : RepK K G kv kd) {v : V} {d : D} (r : Rep K G v d) (k : Key) : RepK K G (kv.map fun p => if p.1 = k then (p.1, v) else p) (kd.map fun p => if p.1 = k then (p.1, d) else p) := by
  induction kd generalizing kv with
  | nil => cases h; exact .nil
  | cons p t ih =>
    cases h with
    | @cons k' v' d' vs ds r1 t1 =>
      rw [List.map_cons, List.map_cons]
      by_cases hk : k' = k
      · simp only [hk, if_true]
        exact .cons r (ih t1)
      · simp only [hk, if_false]
        exact .cons r1 (ih t1)
theorem app_rep {kv : List (Key × V)} {kd : List (Key × D)} (h : RepK K G kv kd) {v : V} {d : D} (r : Rep K G v d) (k : Key) : RepK K G (kv ++ [(k, v)]) (kd ++ [(k, d)]) := by
  induction kd generalizing kv with
  | nil => cases h; exact .cons r .nil
  | cons p t ih =>
    cases h with
    | cons r1 t1 => exact .cons r1 (ih t1)
theorem putK_rep {kv : List (Key × V)} {kd : List (Key × D)} (h : RepK K G kv kd) {v : V} {d : D} (r : Rep K G v d) (k : Key) : RepK K G (putK kv k v) (putD kd k d) := by
  unfold putK putD
  rw [any_rep h k]
  split
  · exact map_rep h r k
  · exact app_rep h r k
end
section
variable {Φ : Nat → FS} {X : Cx} {a b : Expr} {ma mb : ME} {pos p : Pos}
theorem ce_sub (ha : CE Φ X a ma) (hb : CE Φ X b mb) (hs : PlainIx b := by exact fun _ _ => rfl) : CE Φ X (.Subscript a b pos) (.sub ma mb) := by
  obtain ⟨ta, pa, ea⟩ := ha.ex
  obtain ⟨tb, pb, eb⟩ := hb.ex
  refine ⟨_, pe_ix (IxR.or ix_list ix_tup) pa pb hs, ?_⟩
  intro F G H σ env env' d k Q S e q
  rw [ev] at e
  obtain ⟨⟨bx, env1⟩, e1, e⟩ := bind_inv e
  obtain ⟨⟨di, env2⟩, e2, e⟩ := bind_inv e
  obtain ⟨dx, e3, e⟩ := bind_inv e
  obtain ⟨dd, e4, e⟩ := map_inv e
  cases e
  refine ea.b S e1 fun x G1 H1 S1 g1 r1 => ?_
  refine eb.f S1 e2 fun y G2 H2 S2 g2 r2 => ?_
  have t := (r1.mono g2.same).top S2 e3
  cases r2 with
  | int i =>
    cases dx with
    | scr ns =>
      obtain ⟨n, h1, h2⟩ := map_inv e4
      subst h2
      obtain ⟨l, rfl, h3⟩ := t
      exact .inl ⟨l, _, _, _, rfl, rfl, S2.gh.seq h3, atI_ints h1, q _ G2 H2 S2 (g1.trans g2) (Rep.int n)⟩
    | lst ds =>
      obtain ⟨l, xs, rfl, h3, h4⟩ := t
      obtain ⟨v, h5, h6⟩ := atI_rep h4 e4
      exact .inl ⟨l, xs, _, v, rfl, rfl, SqL.of h3, h5, q _ G2 H2 S2 (g1.trans g2) h6⟩
    | tup ds =>
      obtain ⟨l, xs, rfl, h3, h4⟩ := t
      obtain ⟨v, h5, h6⟩ := atI_rep h4 e4
      exact .inr ⟨l, xs, _, v, rfl, rfl, (RdLe.of S2.gh).t h3, h5, q _ G2 H2 S2 (g1.trans g2) h6⟩
    | _ => cases e4
  | _ => cases dx <;> cases e4
theorem ce_subD (hu : X.A.units + 1 < cLine) (ha : CE Φ X a ma) (hb : CE Φ X b mb) (hs : NoSl b := by exact fun _ _ => rfl) : CE Φ X (.Subscript a b pos) (.subD ma mb) := by
  obtain ⟨ta, pa, ea⟩ := ha.ex
  obtain ⟨tb, pb, eb⟩ := hb.ex
  refine ⟨_, pe_dget hu pa pb hs, ?_⟩
  intro F G H σ env env' d k Q S e q
  rw [ev] at e
  obtain ⟨⟨bx, env1⟩, e1, e⟩ := bind_inv e
  obtain ⟨⟨di, env2⟩, e2, e⟩ := bind_inv e
  obtain ⟨dx, e3, e⟩ := bind_inv e
  refine ea.b S e1 fun x G1 H1 S1 g1 r1 => ?_
  refine eb.f S1 e2 fun y G2 H2 S2 g2 r2 => ?_
  have t := (r1.mono g2.same).top S2 e3
  cases dx with
  | dic kvs =>
    obtain ⟨k', e4, e⟩ := bind_inv e
    obtain ⟨dd, e5, e⟩ := map_inv e
    cases e
    obtain ⟨l, kv, rfl, h3, h4⟩ := t
    obtain ⟨v, h5, h6⟩ := (find_rep h4 k').1 _ e5
    exact ⟨l, v, rfl, .inl ⟨kv, k', h3, key_rep r2 e4, h5.symm⟩, q _ G2 H2 S2 (g1.trans g2) h6⟩
  | _ => cases e
theorem inD_core {neg : Bool} {ta tb : TE} (ea : EvE Φ X.K ta ma) (eb : EvE Φ X.K tb mb) {F G H : Hp} {σ : L2.St} {env env' : Env} {d : D} {k : RK} {Q : V → Hp → Prop} (S : Stt X.K F G H σ env) (e : ev Φ (.inD neg ma mb) env = some (d, k, env'))
    (q : ∀ c G' H', d = .bl c → k = .fz → Stt X.K F G' H' σ env' → Grow F G G' → Q (.bl c) H') :
    ta σ H fun y H1 => tb σ H1 fun x H2 => ∃ a o, x = .ref a ∧ DGet H2 a y o ∧ Q (.bl (if neg = true then !o.isSome else o.isSome)) H2 := by
  rw [ev] at e
  obtain ⟨⟨di, env1⟩, e1, e⟩ := bind_inv e
  obtain ⟨⟨bx, env2⟩, e2, e⟩ := bind_inv e
  obtain ⟨dx, e3, e⟩ := bind_inv e
  refine ea.f S e1 fun y G1 H1 S1 g1 r1 => ?_
  refine eb.b S1 e2 fun x G2 H2 S2 g2 r2 => ?_
  have t := r2.top S2 e3
  cases dx with
  | dic kvs =>
    obtain ⟨k', e4, e⟩ := map_inv e
    cases e
    obtain ⟨l, kv, rfl, h3, h4⟩ := t
    refine ⟨l, valV kv k', rfl, .inl ⟨kv, k', h3, key_rep r1 e4, rfl⟩, ?_⟩
    rw [valV_some h4 k']
    exact q _ G2 H2 rfl rfl S2 (g1.trans g2)
  | _ => cases e
theorem ce_inD (hu : X.A.units + 1 < cLine) (ha : CE Φ X a ma) (hb : CE Φ X b mb) (h1 : behindInMarks .In b = false := by first | rfl | with_unfolding_all rfl) : CE Φ X (.Compare a [.In] [b] pos) (.inD false ma mb) := by
  obtain ⟨ta, pa, ea⟩ := ha.ex
  obtain ⟨tb, pb, eb⟩ := hb.ex
  refine ⟨_, pe_cmp (pc_din hu pa pb) h1, ?_⟩
  intro F G H σ env env' d k Q S e q
  refine inD_core (neg := false) ea eb S e fun c G' H' hd hk S' g => ?_
  subst hd hk
  exact q _ G' H' S' g (Rep.bl c)
theorem ct_inD (hu : X.A.units + 1 < cLine) (ha : CE Φ X a ma) (hb : CE Φ X b mb) (h1 : behindInMarks .In b = false := by first | rfl | with_unfolding_all rfl) : CT Φ X (.Compare a [.In] [b] pos) (.inD false ma mb) := by
  obtain ⟨ta, pa, ea⟩ := ha.ex
  obtain ⟨tb, pb, eb⟩ := hb.ex
  refine ⟨_, pt_cmp (pc_din hu pa pb) h1, ?_⟩
  intro F G H σ env env' t Q S e q
  obtain ⟨k, e⟩ := blOf_inv e
  refine inD_core (neg := false) (Q := fun x H' => ∃ c, x = .bl c ∧ Q c H') ea eb S e fun c G' H' hd hk S' g => ?_
  cases hd
  exact ⟨t, rfl, q G' H' S' g⟩
theorem ce_ninD (hu : X.A.units + 1 < cLine) (ha : CE Φ X a ma) (hb : CE Φ X b mb) (h1 : behindInMarks .NotIn b = false := by first | rfl | with_unfolding_all rfl) : CE Φ X (.Compare a [.NotIn] [b] pos) (.inD true ma mb) := by
  obtain ⟨ta, pa, ea⟩ := ha.ex
  obtain ⟨tb, pb, eb⟩ := hb.ex
  refine ⟨_, pe_cmp (pc_dnotin hu pa pb) h1, ?_⟩
  intro F G H σ env env' d k Q S e q
  refine inD_core (neg := true) ea eb S e fun c G' H' hd hk S' g => ?_
  subst hd hk
  exact q _ G' H' S' g (Rep.bl c)
theorem ct_ninD (hu : X.A.units + 1 < cLine) (ha : CE Φ X a ma) (hb : CE Φ X b mb) (h1 : behindInMarks .NotIn b = false := by first | rfl | with_unfolding_all rfl) : CT Φ X (.Compare a [.NotIn] [b] pos) (.inD true ma mb) := by
  obtain ⟨ta, pa, ea⟩ := ha.ex
  obtain ⟨tb, pb, eb⟩ := hb.ex
  refine ⟨_, pt_cmp (pc_dnotin hu pa pb) h1, ?_⟩
  intro F G H σ env env' t Q S e q
  obtain ⟨k, e⟩ := blOf_inv e
  refine inD_core (neg := true) (Q := fun x H' => ∃ c, x = .bl c ∧ Q c H') ea eb S e fun c G' H' hd hk S' g => ?_
  cases hd
  exact ⟨t, rfl, q G' H' S' g⟩

/-! ### slices -/
structure CP (Φ : Nat → FS) (X : Cx) (e : Option Expr) (m : ME) : Prop where
  ex : ∃ t : TO, PO X e t ∧ ∀ {F G H : Hp} {σ : L2.St} {env env' : Env} {d : D} {o : Option Int} {Q : Option Int → Hp → Prop}, Stt X.K F G H σ env → fw (ev Φ m env) = some (d, env') → partD d = some o → (∀ G' H', Stt X.K F G' H' σ env' → Grow F G G' → Q o H') → t σ H Q
theorem cp_none : CP Φ X none (.lit .non) := by
  refine ⟨_, po_none, ?_⟩
  intro F G H σ env env' d o Q S e h q
  rw [ev] at e
  cases e
  cases h
  exact q G H S .refl
theorem ce_asInt (ha : CE Φ X a ma) : CE Φ X a (.asInt ma) := by
  obtain ⟨ta, pa, ea⟩ := ha.ex
  refine ⟨_, pa, ?_⟩
  intro F G H σ env env' d k Q S e q
  rw [ev] at e
  obtain ⟨⟨dx, env1⟩, e1, e⟩ := bind_inv e
  obtain ⟨i, e2, e⟩ := map_inv e
  cases e
  refine ea.f S e1 fun v G1 H1 S1 g1 r1 => ?_
  cases dx <;> first | cases e2 | skip
  exact q v G1 H1 S1 g1 r1
theorem cp_some (ha : CE Φ X a ma) : CP Φ X (some a) (.asInt ma) := by
  obtain ⟨ta, pa, ea⟩ := (ce_asInt ha).ex
  refine ⟨_, po_some pa, ?_⟩
  intro F G H σ env env' d o Q S e h q
  refine ea.f S e fun v G1 H1 S1 g1 r1 => ?_
  cases r1 with
  | int i =>
    cases h
    exact ⟨i, rfl, q G1 H1 S1 g1⟩
  | non =>
    exfalso
    obtain ⟨⟨d0, k0, e0⟩, e1, e2⟩ := map_inv e
    rw [ev] at e1
    obtain ⟨⟨dx, env1⟩, e3, e1⟩ := bind_inv e1
    obtain ⟨i, e4, e1⟩ := map_inv e1
    cases e1
    cases e2
  | _ => cases h
theorem sl_semL {K : PySem.W.Frag} {F G H : Hp} {σ : L2.St} {env : Env} {x : V} {dx d : D} {lo hi : Option Int} {nw : Bool} {Q : VK} (S : Stt K F G H σ env) (t : Top K G H x dx) (e : sliceF dx lo hi = some (d, nw)) (f : Fin K F G σ env d nw Q) :
    rSlL K x lo hi H Q ∨ rSlA K x lo hi H Q := by
  unfold sliceF at e
  split at e
  · cases e
    obtain ⟨l, xs, rfl, h3, h4⟩ := t
    exact .inl ⟨l, xs, rfl, SqL.of h3, fun p hp => f.new S hp (o := .lst _) (cutV_rep h4 lo hi)⟩
  · cases e
    obtain ⟨l, rfl, h3⟩ := t
    exact .inl ⟨l, _, rfl, S.gh.seq h3, fun p hp => f.new S hp (o := .lst _) (cutV_rep (.of_ints _) lo hi)⟩
  · cases e
    obtain ⟨l, xs, rfl, h3, h4⟩ := t
    refine .inr ⟨l, xs, rfl, (RdLe.of S.gh).t h3, fun hw => ?_, fun _ p hp => f.tup S hp (cutV_rep h4 lo hi)⟩
    rename_i ds
    have ed : cutD ds lo hi = ds := by
      unfold cutD
      rw [h4.length] at hw
      rw [hw.1, hw.2, List.drop_zero, Nat.sub_zero, List.take_length]
    rw [ed] at f
    exact f.val S (.tup h3 h4)
  · cases e
theorem ce_slice {lo hi : Option Expr} {ml mh : ME} {p2 : Pos} (ha : CE Φ X a ma) (hl : CP Φ X lo ml) (hh : CP Φ X hi mh) : CE Φ X (.Subscript a (.Slice lo hi none p2) pos) (.slice ma ml mh) := by
  obtain ⟨ta, pa, ea⟩ := ha.ex
  obtain ⟨tl, pl, el⟩ := hl.ex
  obtain ⟨th, ph, eh⟩ := hh.ex
  refine ⟨_, pe_slice (SlR.or sl_list sl_tupA) pa pl ph, ?_⟩
  intro F G H σ env env' d k Q S e q
  rw [ev] at e
  obtain ⟨⟨bx, env1⟩, e1, e⟩ := bind_inv e
  obtain ⟨⟨dl, env2⟩, e2, e⟩ := bind_inv e
  obtain ⟨⟨dh, env3⟩, e3, e⟩ := bind_inv e
  obtain ⟨dx, e4, e⟩ := bind_inv e
  obtain ⟨l', e5, e⟩ := bind_inv e
  obtain ⟨h', e6, e⟩ := bind_inv e
  obtain ⟨nw, e7, rfl, rfl⟩ := out_inv e
  refine ea.b S e1 fun x G1 H1 S1 g1 r1 => ?_
  refine el S1 e2 e5 fun G2 H2 S2 g2 => ?_
  refine eh S2 e3 e6 fun G3 H3 S3 g3 => ?_
  exact sl_semL S3 ((r1.mono (g2.trans g3).same).top S3 e4) e7 fun v G4 H4 S4 g4 r4 => q v G4 H4 S4 (((g1.trans g2).trans g3).trans g4) r4
/-! ### dicts -/
theorem ce_dic0 : CE Φ X (.Dict [] [] pos) (.dicD .nil .nil) := by
  refine ⟨_, pe_dnewK, ?_⟩
  intro F G H σ env env' d k Q S e q
  rw [ev] at e
  cases e
  exact fun p hp => q _ _ _ (S.alloc hp) .refl ⟨p, rfl, S.newAt (o := .dK []) hp .nil⟩
theorem ce_get2 {o e f : Expr} {mo me mf : ME} {apos cpos : Pos} (hu : X.A.units + 1 < cLine) (ho : CE Φ X o mo) (he : CE Φ X e me) (hf : CE Φ X f mf) (m : M2 X o "get" apos e f cpos := by exact ⟨rfl, rfl, rfl, rfl⟩) :
    CE Φ X (.Call (.Attribute o "get" apos) [e, f] [] cpos) (.get2 mo me mf) := by
  obtain ⟨ta, pa, ea⟩ := ho.ex
  obtain ⟨tb, pb, eb⟩ := he.ex
  obtain ⟨tc, pc, ec⟩ := hf.ex
  refine ⟨_, pe_dget2 hu pa pb pc m, ?_⟩
  intro F G H σ env env' d k Q S w q
  rw [ev] at w
  obtain ⟨⟨bx, env1⟩, e1, w⟩ := bind_inv w
  obtain ⟨d0, e0, w⟩ := bind_inv w
  cases d0 with
  | dic kv0 =>
    obtain ⟨⟨dk, env2⟩, e2, w⟩ := bind_inv w
    obtain ⟨⟨dz, env3⟩, e3, w⟩ := bind_inv w
    obtain ⟨dx, e4, w⟩ := bind_inv w
    refine ea.b S e1 fun x G1 H1 S1 g1 r1 => ?_
    obtain ⟨a, kv9, rfl, hd, _⟩ := r1.top S1 e0
    refine ⟨a, rfl, .inl ⟨kv9, hd⟩, ?_⟩
    refine eb.f S1 e2 fun y G2 H2 S2 g2 r2 => ?_
    refine ec.f S2 e3 fun z G3 H3 S3 g3 r3 => ?_
    have t := (r1.mono (g2.trans g3).same).top S3 e4
    obtain ⟨kvs, rfl⟩ : ∃ kvs, dx = .dic kvs := by
      cases dx with
      | dic kvs => exact ⟨kvs, rfl⟩
      | _ => cases w
    obtain ⟨k', e5, w⟩ := map_inv w
    cases w
    obtain ⟨l, kv, h0, h3, h4⟩ := t
    cases h0
    refine ⟨valV kv k', .inl ⟨kv, k', h3, key_rep r2 e5, rfl⟩, ?_⟩
    refine q _ G3 H3 S3 ((g1.trans g2).trans g3) ?_
    obtain ⟨h5, h6⟩ := find_rep h4 k'
    cases hl : lookD kvs k' with
    | none =>
      rw [h6 hl]
      exact r3
    | some d' =>
      obtain ⟨v, q1, q2⟩ := h5 d' hl
      rw [q1]
      exact q2
  | _ => cases w
end
end PL
set_option maxHeartbeats 4000000
/-! Pure layer 7: isinstance, built-in functions by values. -/
namespace PL
open PySem PySem.Spec PyProof.Rows L2

/-! ### isinstance -/
def tyN : D → String
  | .non => "NoneType"
  | .bl _ => "bool"
  | .int _ => "int"
  | .str _ => "str"
  | .lst _ => "list"
  | .scr _ => "list"
  | .tup _ => "tuple"
  | .dic _ => "dict"
def tyS : Ty → String
  | .int => "int"
  | .bool => "bool"
  | .str => "str"
  | .tuple => "tuple"
  | .list => "list"
  | .dict => "dict"
theorem kit_d (d : D) (t : Ty) : kitB (tyN d) (tyS t) = some (tyB t d) := by
  cases d <;> cases t <;> (simp only [tyN, tyS, tyB]; decide +kernel)
section
variable {K : PySem.W.Frag} {F G H : Hp} {σ : L2.St} {env : Env}
theorem ty_top {x : V} {d : D} (e : Same G H) (t : Top K G H x d) : TyX K H x (.type (tyN d)) := by
  cases d with
  | non => cases t; exact .base .non
  | bl b => cases t; exact .base (.bl b)
  | int b => cases t; exact .base (.int b)
  | str b => cases t; exact .base (.str b)
  | lst ds =>
    obtain ⟨a, xs, rfl, h, _⟩ := t
    exact .base (.lst h)
  | tup ds =>
    obtain ⟨a, xs, rfl, h, _⟩ := t
    rcases (RdLe.of e).t h with (h | ⟨o, h⟩) | ⟨o, its, n, h1, h2, _⟩
    · exact .base (.tup h)
    · exact .fTuple h
    · exact .kTuple h1 h2
  | dic ds =>
    obtain ⟨a, xs, rfl, h, _⟩ := t
    rcases h with h | ⟨o, h⟩
    · exact .base (.dK h)
    · exact .fDict h
  | scr ns =>
    obtain ⟨a, rfl, h⟩ := t
    rcases e.seq h with (h | ⟨o, h⟩) | ⟨o, its, n, h1, h2, _⟩
    · exact .base (.lst h)
    · exact .base (.frz h)
    · exact .kList h1 h2
theorem kit_any (d : D) : ∀ ts : List Ty, PySem.W.kitAny K (.type (tyN d)) (ts.map fun t => Value.type (tyS t)) = some (ts.any fun t => tyB t d)
  | [] => rfl
  | t :: ts => by
    rw [List.map_cons, List.any_cons]
    refine kitAny_cons (kit_ty (kit_d d t)) (fun h => ?_) fun h => ?_
    · rw [h, Bool.false_or]
      exact kit_any d ts
    · rw [h, Bool.true_or]
end
section
variable {Φ : Nat → FS} {X : Cx} {a : Expr} {ma : ME} {pos p p2 : Pos}
/-- a built-in type named -/
structure TyNm (X : Cx) (x : Str) (t : Ty) : Prop where
  hm : X.mg x = none
  hv : bootBuiltins x = some (.type (tyS t))
  hn : x ≠ "__name__"
  hd : (x == ("__debug__" : Str)) = false
theorem ce_isi {x : Str} {t : Ty} (hm0 : X.mg "isinstance" = none) (hb0 : bootBuiltins "isinstance" = some (.builtin "isinstance")) (ht : TyNm X x t) (ha : CE Φ X a ma) (hg0 : Gl X "isinstance" := by rfl) (hg : Gl X x := by rfl)
    (he : starEach [a, .Name x p2] X.env = (false, eval a X.env) :: starEach [.Name x p2] X.env := by rfl) (hpl : (backTo pos (starEach [.Name x p2] X.env)).any (·.1) = false := by rfl) (hs2 : starEach [.Name x p2] X.env = (false, eval (.Name x p2) X.env) :: starEach [] X.env := by rfl) :
    CE Φ X (.Call (.Name "isinstance" p) [a, .Name x p2] [] pos) (.isi [t] ma) := by
  obtain ⟨ta, pa, ea⟩ := ha.ex
  refine ⟨_, pe_callB call_isi hg0 hm0 hb0 (pa_cons pa (pa_cons (pe_bltn (v := .ty (tyS t)) hg ht.hm ht.hv rfl ht.hn ht.hd) pa_nil hs2) he) (by decide) (by decide) he hpl, ?_⟩
  intro F G H σ env env' d k Q S e q
  rw [ev] at e
  obtain ⟨⟨bx, env1⟩, e1, e⟩ := bind_inv e
  obtain ⟨dx, e2, e⟩ := map_inv e
  cases e
  refine ea.b S e1 fun x G1 H1 S1 g1 r1 => ?_
  refine ⟨x, _, _, _, _, rfl, .ty _, ty_top S1.gh (r1.top S1 e2), kit_ty (kit_d dx t), ?_⟩
  exact q _ G1 H1 S1 g1 (by simp only [List.any_cons, List.any_nil, Bool.or_false]; exact Rep.bl (tyB t dx))
theorem ce_isi2 {x y : Str} {t u : Ty} {kk : Nat} {p3 p4 : Pos} (hm0 : X.mg "isinstance" = none) (hb0 : bootBuiltins "isinstance" = some (.builtin "isinstance")) (ht : TyNm X x t) (ht2 : TyNm X y u) (ha : CE Φ X a ma) (hg0 : Gl X "isinstance" := by rfl) (hg : Gl X x := by rfl) (hg2 : Gl X y := by rfl)
    (he : starEach [a, .Tuple [.Name x p2, .Name y p3] kk p4] X.env = (false, eval a X.env) :: starEach [.Tuple [.Name x p2, .Name y p3] kk p4] X.env := by rfl) (hpl : (backTo pos (starEach [.Tuple [.Name x p2, .Name y p3] kk p4] X.env)).any (·.1) = false := by rfl)
    (hs1 : starEach [.Tuple [.Name x p2, .Name y p3] kk p4] X.env = (false, eval (.Tuple [.Name x p2, .Name y p3] kk p4) X.env) :: starEach [] X.env := by rfl)
    (hs2 : starEach [.Name x p2, .Name y p3] X.env = (false, eval (.Name x p2) X.env) :: starEach [.Name y p3] X.env := by rfl) (hs3 : starEach [.Name y p3] X.env = (false, eval (.Name y p3) X.env) :: starEach [] X.env := by rfl) :
    CE Φ X (.Call (.Name "isinstance" p) [a, .Tuple [.Name x p2, .Name y p3] kk p4] [] pos) (.isi [t, u] ma) := by
  obtain ⟨ta, pa, ea⟩ := ha.ex
  refine ⟨_, pe_callB call_isiT hg0 hm0 hb0 (pa_cons pa (pa_cons (pe_tup (pa_cons (pe_bltn (v := .ty (tyS t)) hg ht.hm ht.hv rfl ht.hn ht.hd) (pa_cons (pe_bltn (v := .ty (tyS u)) hg2 ht2.hm ht2.hv rfl ht2.hn ht2.hd) pa_nil hs3) hs2)) pa_nil hs1) he) (by decide) (by decide) he hpl, ?_⟩
  intro F G H σ env env' d k Q S e q
  rw [ev] at e
  obtain ⟨⟨bx, env1⟩, e1, e⟩ := bind_inv e
  obtain ⟨dx, e2, e⟩ := map_inv e
  cases e
  refine ea.b S e1 fun x G1 H1 S1 g1 r1 => ?_
  refine ⟨by show 2 ≤ sizeLine; decide, fun tp htp => ?_⟩
  have S2 : Stt X.K F G1 (upd H1 tp (.tup [.ty (tyS t), .ty (tyS u)])) σ env1 := S1.alloc htp
  refine ⟨x, tp, _, _, _, _, rfl, upd_same, .cons (.ty _) (.cons (.ty _) .nil), ty_top S2.gh (r1.top S2 e2), kit_any dx [t, u], ?_⟩
  exact q _ G1 _ S2 g1 (Rep.bl _)
end

/-! ### built-in functions by values -/
def TopL (K : PySem.W.Frag) (G H : Hp) : List V → List D → Prop
  | [], [] => True
  | v :: vs, d :: ds => Top K G H v d ∧ TopL K G H vs ds
  | _, _ => False
structure BiSem (K : PySem.W.Frag) (r : List V → Hp → VK → Prop) (b : BI) : Prop where
  run : ∀ {F G H : Hp} {σ : L2.St} {env : Env} {vs : List V} {ds : List D} {d : D} {nw : Bool} {Q : VK}, Stt K F G H σ env → TopL K G H vs ds → biF b ds = some (d, nw) → Fin K F G σ env d nw Q → r vs H Q
inductive BiV where
  | fn (id : String)
  | ty (T : String)
def BiV.v : BiV → Value
  | .fn id => .builtin id
  | .ty T => .type T
/-- x names a built-in function or type that does b -/
structure Bi (X : Cx) (x : Str) (b : BI) : Prop where
  ex : ∃ r v, CallR X (BiV.v v) r ∧ BiSem X.K r b ∧ X.mg x = none ∧ bootBuiltins x = some (BiV.v v) ∧ x ≠ "__name__" ∧ (x == ("__debug__" : Str)) = false
theorem tops {K : PySem.W.Frag} {F G H : Hp} {σ : L2.St} {env : Env} (S : Stt K F G H σ env) : ∀ {vs : List V} {bs : List Bd} {ds : List D}, BdsOk K G σ vs bs → bs.mapM (rd env) = some ds → TopL K G H vs ds
  | [], [], ds, _, e => by
    rw [List.mapM_nil] at e
    cases e
    trivial
  | v :: vs, b :: bs, ds, h, e => by
    rw [List.mapM_cons] at e
    obtain ⟨d, e1, e⟩ := bind_inv e
    obtain ⟨ds', e2, e⟩ := bind_inv e
    cases e
    exact ⟨h.1.top S e1, tops S h.2 e2⟩
theorem top1 {K : PySem.W.Frag} {G H : Hp} {vs : List V} {x : D} (t : TopL K G H vs [x]) : ∃ v, vs = [v] ∧ Top K G H v x := by
  match vs, t with
  | [v], t => exact ⟨v, rfl, t.1⟩
theorem top2 {K : PySem.W.Frag} {G H : Hp} {vs : List V} {x y : D} (t : TopL K G H vs [x, y]) : ∃ v w, vs = [v, w] ∧ Top K G H v x ∧ Top K G H w y := by
  match vs, t with
  | [v, w], t => exact ⟨v, w, rfl, t.1, t.2.1⟩
section
variable {Φ : Nat → FS} {X : Cx} {x : Str} {e : Expr} {es : List Expr} {as : MA} {pos p : Pos}
theorem ce_bi {b : BI} (h : Bi X x b) (ha : CAB Φ X (e :: es) as) (hg : Gl X x := by rfl) (he : starEach (e :: es) X.env = (false, eval e X.env) :: starEach es X.env := by rfl) (hpl : (backTo pos (starEach es X.env)).any (·.1) = false := by rfl) :
    CE Φ X (.Call (.Name x p) (e :: es) [] pos) (.bi b as) := by
  obtain ⟨r, v, hc, hs, hm, hv, hn, hd⟩ := h.ex
  obtain ⟨t, pa, ea⟩ := ha.ex
  have pe : PE X (.Call (.Name x p) (e :: es) [] pos) (tCB r t) := by
    cases v with
    | fn id => exact pe_callB hc hg hm hv pa hn hd he hpl
    | ty T => exact pe_callTy hc hg hm hv pa hn hd he hpl
  refine ⟨_, pe, ?_⟩
  intro F G H σ env env' d k Q S w q
  rw [ev] at w
  obtain ⟨⟨bs, env1⟩, e1, w⟩ := bind_inv w
  obtain ⟨ds, e2, w⟩ := bind_inv w
  obtain ⟨nw, e3, rfl, rfl⟩ := out_inv w
  refine ea S e1 fun vs G1 H1 S1 g1 r1 => ?_
  exact hs.run S1 (tops S1 r1 e2) e3 fun v G2 H2 S2 g2 r2 => q v G2 H2 S2 (g1.trans g2) r2
/-- f(e, ..), f a module's name for a built-in function -/
theorem ce_gcd (hm : X.mg x = some (.builtin "math.gcd")) (ha : CAB Φ X (e :: es) as) (hg : Gl X x := by rfl) (hd : (x == ("__debug__" : Str)) = false := by decide) (he : starEach (e :: es) X.env = (false, eval e X.env) :: starEach es X.env := by rfl) (hpl : (backTo pos (starEach es X.env)).any (·.1) = false := by rfl) :
    CE Φ X (.Call (.Name x p) (e :: es) [] pos) (.bi .gcd as) := by
  obtain ⟨t, pa, ea⟩ := ha.ex
  refine ⟨_, pe_callBfun cr_gcd hg hm pa hd he hpl, ?_⟩
  intro F G H σ env env' d k Q S w q
  rw [ev] at w
  obtain ⟨⟨bs, env1⟩, e1, w⟩ := bind_inv w
  obtain ⟨ds, e2, w⟩ := bind_inv w
  obtain ⟨nw, e3, rfl, rfl⟩ := out_inv w
  refine ea S e1 fun vs G1 H1 S1 g1 r1 => ?_
  have t := tops S1 r1 e2
  have e4 : gcdF ds = some (d, nw) := e3
  unfold gcdF at e4
  split at e4
  · cases e4
    obtain ⟨v1, v2, rfl, h1, h2⟩ := top2 t
    exact ⟨_, _, by rw [show v1 = _ from h1, show v2 = _ from h2], q _ G1 H1 S1 g1 (Rep.int _)⟩
  · cases e4
end

/-! ### the functions -/
section
variable {X : Cx} {K : PySem.W.Frag}
theorem oneF_inv {f : D → Option (D × Bool)} {ds : List D} {r : D × Bool} (e : oneF f ds = some r) : ∃ x, ds = [x] ∧ f x = some r := by
  unfold oneF at e
  split at e
  · exact ⟨_, rfl, e⟩
  · cases e
/-- a function of one argument by a rule on it -/
theorem bs_one {b : BI} {f : D → Option (D × Bool)} {r : List V → Hp → VK → Prop} (hb : biF b = oneF f) (h : ∀ {F G H : Hp} {σ : L2.St} {env : Env} {v : V} {x d : D} {nw : Bool} {Q : VK}, Stt K F G H σ env → Top K G H v x → f x = some (d, nw) → Fin K F G σ env d nw Q → r [v] H Q) : BiSem K r b := by
  refine ⟨?_⟩
  intro F G H σ env vs ds d nw Q S t e q
  rw [hb] at e
  obtain ⟨x, rfl, e⟩ := oneF_inv e
  obtain ⟨v, rfl, h1⟩ := top1 t
  exact h S h1 e q
theorem b_len (hm : X.mg "len" = none) : Bi X "len" .len := by
  refine ⟨_, .fn "len", call_len_seq, bs_one rfl ?_, hm, boot_len, by decide, by decide⟩
  intro F G H σ env v x d nw Q S t e q
  unfold lenD at e
  split at e
  · cases e
    obtain ⟨a, xs, rfl, h1, h2⟩ := t
    exact ⟨a, xs, rfl, .inl (SqL.of h1), by rw [h2.length]; exact q.val S (Rep.int _)⟩
  · cases e
    obtain ⟨a, xs, rfl, h1, h2⟩ := t
    exact ⟨a, xs, rfl, .inr ((RdLe.of S.gh).t h1), by rw [h2.length]; exact q.val S (Rep.int _)⟩
  · cases e
    obtain ⟨a, rfl, h1⟩ := t
    exact ⟨a, _, rfl, .inl (S.gh.seq h1), by rw [List.length_map]; exact q.val S (Rep.int _)⟩
  · cases e
theorem b_abs (hm : X.mg "abs" = none) : Bi X "abs" .abs := by
  refine ⟨_, .fn "abs", call_abs, bs_one rfl ?_, hm, by decide +kernel, by decide, by decide⟩
  intro F G H σ env v x d nw Q S t e q
  cases x with
  | int i =>
    cases e
    exact ⟨i, by rw [show v = _ from t], q.val S (Rep.int _)⟩
  | _ => cases e
theorem b_int (hm : X.mg "int" = none) : Bi X "int" .int := by
  refine ⟨_, .ty "int", call_int1, bs_one rfl ?_, hm, by decide +kernel, by decide, by decide⟩
  intro F G H σ env v x d nw Q S t e q
  cases x with
  | int i =>
    cases e
    exact .inl ⟨i, by rw [show v = _ from t], q.val S (Rep.int _)⟩
  | bl i =>
    cases e
    exact .inr ⟨i, by rw [show v = _ from t], q.val S (Rep.int _)⟩
  | _ => cases e
theorem b_bool (hm : X.mg "bool" = none) : Bi X "bool" .bool := by
  refine ⟨_, .ty "bool", call_bool1, bs_one rfl ?_, hm, by decide +kernel, by decide, by decide⟩
  intro F G H σ env v x d nw Q S t e q
  cases x with
  | int i =>
    cases e
    exact .inl ⟨i, by rw [show v = _ from t], q.val S (Rep.bl _)⟩
  | bl i =>
    cases e
    exact .inr ⟨i, by rw [show v = _ from t], q.val S (Rep.bl _)⟩
  | _ => cases e
theorem blsD_inv : ∀ {xs : List D} {bs : List Bool}, blsD xs = some bs → xs = bs.map .bl
  | [], _, e => by cases e; rfl
  | .bl b :: r, bs, e => by
    obtain ⟨cs, e1, e2⟩ := map_inv (show (blsD r).map (fun is => b :: is) = some bs from e)
    subst e2
    rw [List.map_cons, blsD_inv e1]
  | .non :: _, _, e => by cases e
  | .int _ :: _, _, e => by cases e
  | .str _ :: _, _, e => by cases e
  | .lst _ :: _, _, e => by cases e
  | .tup _ :: _, _, e => by cases e
  | .dic _ :: _, _, e => by cases e
  | .scr _ :: _, _, e => by cases e
theorem intsD_inv : ∀ {xs : List D} {bs : List Int}, intsD xs = some bs → xs = bs.map .int
  | [], _, e => by cases e; rfl
  | .int b :: r, bs, e => by
    obtain ⟨cs, e1, e2⟩ := map_inv (show (intsD r).map (fun is => b :: is) = some bs from e)
    subst e2
    rw [List.map_cons, intsD_inv e1]
  | .non :: _, _, e => by cases e
  | .bl _ :: _, _, e => by cases e
  | .str _ :: _, _, e => by cases e
  | .lst _ :: _, _, e => by cases e
  | .tup _ :: _, _, e => by cases e
  | .dic _ :: _, _, e => by cases e
  | .scr _ :: _, _, e => by cases e
theorem b_any (hc : X.calm = true) (hm : X.mg "any" = none) : Bi X "any" .any := by
  refine ⟨_, .fn "any", cr_any hc, bs_one rfl ?_, hm, by decide +kernel, by decide, by decide⟩
  intro F G H σ env v x d nw Q S t e q
  cases x with
  | lst xs =>
    obtain ⟨bs, e1, e2⟩ := map_inv (show (blsD xs).map (fun bs => (D.bl (bs.any id), false)) = _ from e)
    cases e2
    obtain ⟨a, ys, rfl, h1, h2⟩ := t
    rw [blsD_inv e1] at h2
    rw [h2.bls] at h1
    exact ⟨a, bs, rfl, SqL.of h1, q.val S (Rep.bl _)⟩
  | _ => cases e
theorem b_all (hc : X.calm = true) (hm : X.mg "all" = none) : Bi X "all" .all := by
  refine ⟨_, .fn "all", cr_all hc, bs_one rfl ?_, hm, by decide +kernel, by decide, by decide⟩
  intro F G H σ env v x d nw Q S t e q
  cases x with
  | lst xs =>
    obtain ⟨bs, e1, e2⟩ := map_inv (show (blsD xs).map (fun bs => (D.bl (bs.all id), false)) = _ from e)
    cases e2
    obtain ⟨a, ys, rfl, h1, h2⟩ := t
    rw [blsD_inv e1] at h2
    rw [h2.bls] at h1
    exact ⟨a, bs, rfl, SqL.of h1, q.val S (Rep.bl _)⟩
  | _ => cases e
theorem b_tuple (hm : X.mg "tuple" = none) : Bi X "tuple" .tuple := by
  refine ⟨_, .ty "tuple", call_tuple_of, bs_one rfl ?_, hm, by decide +kernel, by decide, by decide⟩
  intro F G H σ env v x d nw Q S t e q
  obtain ⟨xs, e1, e2⟩ := map_inv (show (seqOf x).map (fun xs => (D.tup xs, false)) = _ from e)
  cases e2
  cases x with
  | lst ds =>
    cases e1
    obtain ⟨a, ys, rfl, h1, h2⟩ := t
    exact ⟨a, ys, rfl, .inl ⟨SqL.of h1, fun p hp => q.tup S hp h2⟩⟩
  | scr ns =>
    cases e1
    obtain ⟨a, rfl, h1⟩ := t
    exact ⟨a, _, rfl, .inl ⟨S.gh.seq h1, fun p hp => q.tup S hp (.of_ints ns)⟩⟩
  | tup ds =>
    cases e1
    obtain ⟨a, ys, rfl, h1, h2⟩ := t
    exact ⟨a, ys, rfl, .inr ⟨(RdLe.of S.gh).t h1, q.val S (.tup h1 h2)⟩⟩
  | _ => cases e1
theorem b_list (hm : X.mg "list" = none) : Bi X "list" .list := by
  refine ⟨_, .ty "list", call_list_of, bs_one rfl ?_, hm, by decide +kernel, by decide, by decide⟩
  intro F G H σ env v x d nw Q S t e q
  obtain ⟨xs, e1, e2⟩ := map_inv (show (seqOf x).map (fun xs => (D.lst xs, true)) = _ from e)
  cases e2
  obtain ⟨a, ys, rfl, h1, h2⟩ := t.seq S.gh e1
  exact ⟨a, ys, rfl, h1, fun p hp => q.new S hp (o := .lst ys) h2⟩
/-- sum of a list or a tuple of ints -/
def rSumA (K : PySem.W.Frag) : List V → Hp → VK → Prop := fun vs H Q => ∃ (a : Addr) (ns : List Int), vs = [V.ref a] ∧ (SqL K H a (ns.map V.int) ∨ SqT K H a (ns.map V.int)) ∧ Q (.int ns.sum) H
theorem cr_sumA (hc : X.calm = true) : CallR X (.builtin "sum") (rSumA X.K) := by
  intro pins s σ H vs us Q I r h
  obtain ⟨a, ns, rfl, hs | hs, q⟩ := h
  · exact cr_sum hc pins s σ H _ us Q I r ⟨a, ns, rfl, hs, q⟩
  · obtain ⟨its, rv, ht, _⟩ := I.tuple hs
    rw [Vals.ref1 r]
    obtain ⟨xs, e⟩ := rv.ints.allInts.items
    have hn : numsOf (intItems xs).toList = ns := by rw [← e]; exact rv.ints.numsOf
    rw [nums_intItems] at hn
    have ht' : s.heap.IsTuple a (intItems xs) := by
      rw [← e]
      exact ht
    refine PySem.W.ktm_sumG (I.ok.hd hc) ht' fun h' tk t' hk => ?_
    refine ⟨.int _, H, I.kept hk, ⟨t', rfl⟩, ?_⟩
    rw [preSum_eq, List.take_of_length_le (by simp), hn]
    exact q
theorem b_sum (hc : X.calm = true) (hm : X.mg "sum" = none) : Bi X "sum" .sum := by
  refine ⟨_, .fn "sum", cr_sumA hc, bs_one rfl ?_, hm, by decide +kernel, by decide, by decide⟩
  intro F G H σ env v x d nw Q S t e q
  obtain ⟨xs, e1, e2⟩ := bind_inv (show (seqOf x).bind (fun xs => (intsD xs).map fun is => (D.int is.sum, false)) = _ from e)
  obtain ⟨is, e3, e4⟩ := map_inv e2
  cases e4
  obtain ⟨a, ys, rfl, h1, h2⟩ := t.seq S.gh e1
  rw [intsD_inv e3] at h2
  rw [h2.ints] at h1
  exact ⟨a, is, rfl, h1, q.val S (Rep.int _)⟩
end
end PL
set_option maxHeartbeats 4000000
/-! Pure layer 8: what a for walks, targets, comprehensions. -/
namespace PL
open PySem PySem.Spec PyProof.Rows L2

/-! ### sizes of what stands -/
def Szs (H : Hp) : Prop := ∀ a, (∀ xs, Rd H a (.lst xs) → xs.length ≤ sizeLine) ∧ (∀ xs, Rd H a (.tup xs) → xs.length ≤ sizeLine) ∧ ∀ kvs, Rd H a (.dK kvs) → kvs.length ≤ sizeLine
theorem szs_of {X : Cx} {pins : List (Addr × Obj)} {σ : L2.St} {H : Hp} {s : Shared} (I : Inv X pins σ H s) : Szs H := fun a =>
  ⟨fun xs h => (h.ok I.hok).1, fun xs h => (h.ok I.hok).1, fun xs h => (h.ok I.hok).1⟩
theorem Szs.l {K : PySem.W.Frag} {H : Hp} {a : Addr} {xs : List V} (z : Szs H) (h : SqL K H a xs) : xs.length ≤ sizeLine := by
  rcases h with h | ⟨o, its, n, _, _, _, _, h1, h2⟩
  · exact (z a).1 xs h
  · have e : xs.length = its.toList.length := h2.length
    have e2 : its.toList.length = its.size := Array.length_toList
    omega
theorem Szs.t {K : PySem.W.Frag} {H : Hp} {a : Addr} {xs : List V} (z : Szs H) (h : SqT K H a xs) : xs.length ≤ sizeLine := by
  rcases h with h | ⟨o, its, n, _, _, _, h1, h2⟩
  · exact (z a).2.1 xs h
  · have e : xs.length = its.toList.length := h2.length
    have e2 : its.toList.length = its.size := Array.length_toList
    omega
theorem pi_sz {X : Cx} {tg iter : Expr} {wi : TI} (h : PI X tg iter wi) : PI X tg iter (fun σ H R => wi σ H fun J H1 => Szs H1 → R J H1) := by
  refine ⟨fun pins s σ H R I hw => ?_⟩
  refine thn (h.run pins s σ H _ I hw) fun v s1 h1 => thn h1 fun itv s2 h2 => ?_
  obtain ⟨it, fp, tn, J, H', e, I', T, t0, hf, q⟩ := h2
  exact ⟨it, fp, tn, J, H', e, I', T, t0, hf, q (szs_of I')⟩

/-! ### iterators -/
/-- at turn i: an item that is known, or a new tuple of known items -/
def ItemOk (K : PySem.W.Frag) (G : Hp) (ds : List D) (i : Nat) (H : Hp) (x : V) (H' : Hp) : Prop :=
  ∃ d, ds[i]? = some d ∧ ((H' = H ∧ Rep K G x d) ∨ ∃ T vs es, x = .ref T ∧ H T = none ∧ H' = upd H T (.tup vs) ∧ d = .tup es ∧ RepL K G vs es)
def EvI (Φ : Nat → FS) (K : PySem.W.Frag) (wi : TI) (mi : MI) : Prop :=
  ∀ {F G H : Hp} {σ : L2.St} {env env' : Env} {ds : List D} {R : It → Hp → Prop}, Stt K F G H σ env → evI Φ mi env = some (ds, env') →
    (∀ J G' H' W Y, Stt K F G' H' σ env' → Grow F G G' → Walk J ds.length W Y → (∀ H2, Same G' H2 → W H2) → (∀ i H2 x H3, Same G' H2 → Y i H2 x H3 → ItemOk K G' ds i H2 x H3) → (Szs H' → ds.length ≤ sizeLine) → R J H') → wi σ H R
structure CI (Φ : Nat → FS) (X : Cx) (tg iter : Expr) (mi : MI) : Prop where
  ex : ∃ wi, PI X tg iter wi ∧ EvI Φ X.K wi mi
section
variable {Φ : Nat → FS} {X : Cx} {tg e e2 : Expr} {m m2 : ME} {pos p tpos : Pos}
theorem walk_cast {J : It} {n n' : Nat} {W : Hp → Prop} {Y : Nat → Hp → V → Hp → Prop} (w : Walk J n W Y) (h : n = n') : Walk J n' W Y := h ▸ w
/-- over a list's items -/
theorem seqL_inv {d : D} {xs : List D} (e : seqK false d = some xs) : (d = .lst xs) ∨ ∃ ns, d = .scr ns ∧ xs = ns.map .int := by
  cases d <;> first | cases e | skip
  · exact .inl rfl
  · exact .inr ⟨_, rfl, rfl⟩
theorem seqT_inv {d : D} {xs : List D} (e : seqK true d = some xs) : d = .tup xs := by
  cases d <;> first | cases e | skip
  rfl
theorem rep_listK {K : PySem.W.Frag} {G : Hp} {v : V} {d : D} {xs : List D} (r : Rep K G v d) (e : seqK false d = some xs) : ∃ a vs, v = .ref a ∧ SqL K G a vs ∧ RepL K G vs xs := by
  rcases seqL_inv e with rfl | ⟨ns, rfl, rfl⟩
  · cases r with
    | lst h1 h2 => exact ⟨_, _, rfl, SqL.of h1, h2⟩
  · cases r with
    | scr h1 => exact ⟨_, _, rfl, h1, .of_ints _⟩
theorem rep_tupK {K : PySem.W.Frag} {G : Hp} {v : V} {d : D} {xs : List D} (r : Rep K G v d) (e : seqK true d = some xs) : ∃ a vs, v = .ref a ∧ SqT K G a vs ∧ RepL K G vs xs := by
  rw [seqT_inv e] at r
  cases r with
  | tup h1 h2 => exact ⟨_, _, rfl, h1, h2⟩
theorem ci_list (h : CE Φ X e m) : CI Φ X tg e (.seq false m) := by
  obtain ⟨t, pe, ee⟩ := h.ex
  refine ⟨_, pi_list pe, ?_⟩
  intro F G H σ env env' ds R S w k
  rw [evI] at w
  obtain ⟨⟨d, env1⟩, e1, w⟩ := bind_inv w
  obtain ⟨xs, e2, w⟩ := map_inv w
  cases w
  refine ee.f S e1 fun v G1 H1 S1 g1 r1 => ?_
  have core := rep_listK r1 e2
  obtain ⟨a, vs, rfl, h1, h2⟩ := core
  refine ⟨a, rfl, ⟨vs, S1.gh.seq h1⟩, ?_⟩
  refine k _ G1 H1 _ _ S1 g1 (walk_cast (walk_list (xs := vs)) h2.length) (fun H2 z => z.seq h1) (fun i H2 x H3 z y => ?_) fun z => by
    rw [← h2.length]
    exact z.l (S1.gh.seq h1)
  obtain ⟨e3, e4⟩ := y
  obtain ⟨d, h3, h4⟩ := h2.get' e4
  exact ⟨d, h3, .inl ⟨e3, h4⟩⟩
theorem ci_tup (h : CE Φ X e m) : CI Φ X tg e (.seq true m) := by
  obtain ⟨t, pe, ee⟩ := h.ex
  refine ⟨_, pi_tup pe, ?_⟩
  intro F G H σ env env' ds R S w k
  rw [evI] at w
  obtain ⟨⟨d, env1⟩, e1, w⟩ := bind_inv w
  obtain ⟨xs, e2, w⟩ := map_inv w
  cases w
  refine ee.f S e1 fun v G1 H1 S1 g1 r1 => ?_
  obtain ⟨a, vs, rfl, h1, h2⟩ := rep_tupK r1 e2
  refine ⟨a, rfl, ⟨vs, (RdLe.of S1.gh).t h1⟩, ?_⟩
  refine k _ G1 H1 _ _ S1 g1 (walk_cast (walk_tup (xs := vs)) h2.length) (fun H2 z => (RdLe.of z).t h1) (fun i H2 x H3 z y => ?_) fun z => by
    rw [← h2.length]
    exact z.t ((RdLe.of S1.gh).t h1)
  obtain ⟨e3, e4⟩ := y
  obtain ⟨d, h3, h4⟩ := h2.get' e4
  exact ⟨d, h3, .inl ⟨e3, h4⟩⟩
theorem rgD_length (lo : Int) (n : Nat) (c : Int) : (rgD lo n c).length = n := by
  unfold rgD
  rw [List.length_map, List.length_range]
theorem rgD_get {lo c : Int} {n i : Nat} (h : i < n) : (rgD lo n c)[i]? = some (.int (lo + (i : Int) * c)) := by
  unfold rgD
  rw [List.getElem?_map, List.getElem?_range h]
  rfl
theorem range_fin {K : PySem.W.Frag} {G : Hp} {lo c : Int} {n : Nat} {i : Nat} {H2 H3 : Hp} {x : V} (hi : i < n) (y : YFn (fun i => .int (lo + (i : Nat) * c)) i H2 x H3) : ItemOk K G (rgD lo n c) i H2 x H3 := by
  obtain ⟨rfl, rfl⟩ := y
  exact ⟨_, rgD_get hi, .inl ⟨rfl, .int _⟩⟩
theorem line24 : (16777216 : Nat) ≤ sizeLine := by decide
theorem rgOk_inv {i : Int} (h : rgOk i = true) : -(2 ^ 62) ≤ i ∧ i < 2 ^ 62 := of_decide_eq_true h
/-- a walk of which a turn's number is known to lie below the end -/
theorem Walk.below {J : It} {n : Nat} {W : Hp → Prop} {Y : Nat → Hp → V → Hp → Prop} (w : Walk J n W Y) : Walk J n W (fun i H x H' => i < n ∧ Y i H x H') :=
  ⟨w.goes, w.stops, fun i H x H' hi hg y => ⟨hi, w.yields i H x H' hi hg y⟩⟩
theorem intOf_inv {d : D} {i : Int} (e : intOf d = some i) : d = .int i := by
  cases d <;> first | (cases e; rfl) | cases e
theorem ci_rng1 (hm : X.mg "range" = none) (h : CE Φ X e m) (hg : Gl X "range" := by rfl) (hs : starEach [e] X.env = (false, eval e X.env) :: starEach [] X.env := by rfl) : CI Φ X tg (.Call (.Name "range" p) [e] [] pos) (.rng1 m) := by
  obtain ⟨t, pe, ee⟩ := h.ex
  refine ⟨_, pi_range1 hg hm (pa_cons pe pa_nil hs) hs, ?_⟩
  intro F G H σ env env' ds R S w k
  rw [evI] at w
  obtain ⟨⟨d, env1⟩, e1, w⟩ := bind_inv w
  obtain ⟨j, e2, w⟩ := bind_inv w
  obtain ⟨⟨h1, h2⟩, w⟩ := ite_inv w
  cases w
  obtain ⟨b1, b2⟩ := rgOk_inv h1
  refine ee.f S e1 fun v G1 H1 S1 g1 r1 => ?_
  have q1 : d = .int j := intOf_inv e2
  subst q1
  cases r1
  refine ⟨j, rfl, b1, b2, k _ G1 H1 _ _ S1 g1 (walk_cast (Walk.below (walk_range (lo := 0) (n := j.toNat))) (rgD_length _ _ _).symm) (fun _ _ => trivial) (fun i H2 x H3 _ y => ?_) fun _ => ?_⟩
  · refine range_fin y.1 ⟨y.2.1, ?_⟩
    show x = V.int _
    rw [Int.mul_one]
    exact y.2.2
  · rw [rgD_length]
    have := line24
    omega
theorem ci_rng2 (hm : X.mg "range" = none) (h : CE Φ X e m) (h' : CE Φ X e2 m2) (hg : Gl X "range" := by rfl) (hs : starEach [e, e2] X.env = (false, eval e X.env) :: starEach [e2] X.env := by rfl) (hs2 : starEach [e2] X.env = (false, eval e2 X.env) :: starEach [] X.env := by rfl) :
    CI Φ X tg (.Call (.Name "range" p) [e, e2] [] pos) (.rng2 m m2) := by
  obtain ⟨t, pe, ee⟩ := h.ex
  obtain ⟨t2, pe2, ee2⟩ := h'.ex
  refine ⟨_, pi_range2 hg hm (pa_cons pe (pa_cons pe2 pa_nil hs2) hs) (by rw [hs, hs2]; rfl) hs2, ?_⟩
  intro F G H σ env env' ds R S w k
  rw [evI] at w
  obtain ⟨⟨d, env1⟩, e1, w⟩ := bind_inv w
  obtain ⟨⟨d2, env2⟩, e2, w⟩ := bind_inv w
  obtain ⟨i0, e3, w⟩ := bind_inv w
  obtain ⟨j0, e4, w⟩ := bind_inv w
  obtain ⟨⟨⟨h1, h2⟩, h3⟩, w⟩ := ite_inv w
  cases w
  obtain ⟨b1, b2⟩ := rgOk_inv h1
  obtain ⟨b3, b4⟩ := rgOk_inv h2
  refine ee.f S e1 fun v G1 H1 S1 g1 r1 => ?_
  refine ee2.f S1 e2 fun v2 G2 H2 S2 g2 r2 => ?_
  have q1 : d = .int i0 := intOf_inv e3
  have q2 : d2 = .int j0 := intOf_inv e4
  subst q1 q2
  cases r1
  cases r2
  refine ⟨i0, j0, rfl, ⟨b1, b2, b3, b4⟩, k _ G2 H2 _ _ S2 (g1.trans g2) (walk_cast (Walk.below (walk_range (lo := i0) (n := (j0 - i0).toNat))) (rgD_length _ _ _).symm) (fun _ _ => trivial) (fun i H2 x H3 _ y => ?_) fun _ => ?_⟩
  · refine range_fin y.1 ⟨y.2.1, ?_⟩
    show x = V.int _
    rw [Int.mul_one]
    exact y.2.2
  · rw [rgD_length]
    have := line24
    omega
theorem ci_down {e3 : Expr} {m3 : ME} (hm : X.mg "range" = none) (h : CE Φ X e m) (h' : CE Φ X e2 m2) (h'' : CE Φ X e3 m3) (hg : Gl X "range" := by rfl) (hs : starEach [e, e2, e3] X.env = (false, eval e X.env) :: starEach [e2, e3] X.env := by rfl) (hs2 : starEach [e2, e3] X.env = (false, eval e2 X.env) :: starEach [e3] X.env := by rfl)
    (hs3 : starEach [e3] X.env = (false, eval e3 X.env) :: starEach [] X.env := by rfl) (hpl : (backTo pos (starEach [e2, e3] X.env)).any (·.1) = false := by rfl) :
    CI Φ X tg (.Call (.Name "range" p) [e, e2, e3] [] pos) (.rng3 m m2 m3) := by
  obtain ⟨t, pe, ee⟩ := h.ex
  obtain ⟨t2, pe2, ee2⟩ := h'.ex
  obtain ⟨t3, pe3, ee3⟩ := h''.ex
  refine ⟨_, pi_range3 hg hm (pa_cons pe (pa_cons pe2 (pa_cons pe3 pa_nil hs3) hs2) hs) hs hpl, ?_⟩
  intro F G H σ env env' ds R S w k
  rw [evI] at w
  obtain ⟨⟨d, env1⟩, e1, w⟩ := bind_inv w
  obtain ⟨⟨d2, env2⟩, e2, w⟩ := bind_inv w
  obtain ⟨⟨d3, env3⟩, e5, w⟩ := bind_inv w
  obtain ⟨i0, e3, w⟩ := bind_inv w
  obtain ⟨j0, e4, w⟩ := bind_inv w
  obtain ⟨c0, e6, w⟩ := bind_inv w
  obtain ⟨⟨⟨⟨h1, h2⟩, h3⟩, h4⟩, w⟩ := ite_inv w
  cases w
  obtain ⟨b1, b2⟩ := rgOk_inv h1
  obtain ⟨b3, b4⟩ := rgOk_inv h2
  refine ee.f S e1 fun v G1 H1 S1 g1 r1 => ?_
  refine ee2.f S1 e2 fun v2 G2 H2 S2 g2 r2 => ?_
  refine ee3.f S2 e5 fun v3 G3 H3 S3 g3 r3 => ?_
  have q1 : d = .int i0 := intOf_inv e3
  have q2 : d2 = .int j0 := intOf_inv e4
  have q3 : d3 = .int c0 := intOf_inv e6
  subst q1 q2 q3 h3
  cases r1
  cases r2
  cases r3
  refine ⟨i0, j0, -1, (i0 - j0).toNat, rfl, RgC.neg b1 b2 b3 b4, k _ G3 H3 _ _ S3 ((g1.trans g2).trans g3) (walk_cast (Walk.below (walk_rangeC (lo := i0) (c := -1) (n := (i0 - j0).toNat))) (rgD_length _ _ _).symm) (fun _ _ => trivial) (fun i H2 x H3 _ y => range_fin y.1 y.2) fun _ => ?_⟩
  rw [rgD_length]
  have := line24
  omega
theorem enumD_length : ∀ (i : Nat) (xs : List D), (enumD i xs).length = xs.length
  | _, [] => rfl
  | i, _ :: xs => by rw [enumD, List.length_cons, List.length_cons, enumD_length (i + 1) xs]
theorem enumD_get : ∀ (i : Nat) (xs : List D) (j : Nat) (d : D), xs[j]? = some d → (enumD i xs)[j]? = some (.tup [.int ((i + j : Nat) : Int), d])
  | _, [], _, _, e => by simp at e
  | i, x :: xs, 0, d, e => by
    rw [List.getElem?_cons_zero] at e
    cases e
    rw [enumD]
    rfl
  | i, x :: xs, j + 1, d, e => by
    rw [List.getElem?_cons_succ] at e
    rw [enumD, List.getElem?_cons_succ, enumD_get (i + 1) xs j d e, show i + 1 + j = i + (j + 1) by omega]
theorem ci_enum {elts : List Expr} {kk : Nat} (hm : X.mg "enumerate" = none) (h : CE Φ X e m) (hg : Gl X "enumerate" := by rfl) (hs : starEach [e] X.env = (false, eval e X.env) :: starEach [] X.env := by rfl) :
    CI Φ X (.Tuple elts kk tpos) (.Call (.Name "enumerate" p) [e] [] pos) (.enum m) := by
  obtain ⟨t, pe, ee⟩ := h.ex
  refine ⟨_, pi_enum hg hm (pa_cons pe pa_nil hs) hs, ?_⟩
  intro F G H σ env env' ds R S w k
  rw [evI] at w
  obtain ⟨⟨d, env1⟩, e1, w⟩ := bind_inv w
  obtain ⟨xs, e2, w⟩ := map_inv w
  cases w
  refine ee.f S e1 fun v G1 H1 S1 g1 r1 => ?_
  have core := rep_listK r1 e2
  obtain ⟨a, vs, rfl, h1, h2⟩ := core
  refine ⟨a, vs, rfl, S1.gh.seq h1, k _ G1 H1 _ _ S1 g1 (walk_cast (walk_enum (xs := vs)) (h2.length.trans (enumD_length 0 xs).symm)) (fun H2 z => z.seq h1) (fun i H2 x H3 z y => ?_) fun z => ?_⟩
  · obtain ⟨T, x1, y1, rfl, h3, h4, h5, h6⟩ := y
    cases h5
    obtain ⟨d, h7, h8⟩ := h2.get' h6
    refine ⟨_, enumD_get 0 xs i d h7, .inr ⟨T, _, _, rfl, h3, h4, rfl, ?_⟩⟩
    rw [Nat.zero_add]
    exact .cons (.int _) (.cons h8 .nil)
  · rw [enumD_length, ← h2.length]
    exact z.l (S1.gh.seq h1)
theorem pairsD_length : ∀ (xs ys : List D), (pairsD xs ys).length = min xs.length ys.length
  | [], _ => by simp [pairsD]
  | _ :: _, [] => by simp [pairsD]
  | _ :: xs, _ :: ys => by rw [pairsD, List.length_cons, List.length_cons, List.length_cons, pairsD_length xs ys]; omega
theorem pairsD_get : ∀ (xs ys : List D) (j : Nat) (d e : D), xs[j]? = some d → ys[j]? = some e → (pairsD xs ys)[j]? = some (.tup [d, e])
  | [], _, _, _, _, h, _ => by simp at h
  | _ :: _, [], _, _, _, _, h => by simp at h
  | x :: xs, y :: ys, 0, d, e, h, h' => by
    rw [List.getElem?_cons_zero] at h h'
    cases h
    cases h'
    rw [pairsD]
    rfl
  | x :: xs, y :: ys, j + 1, d, e, h, h' => by
    rw [List.getElem?_cons_succ] at h h'
    rw [pairsD, List.getElem?_cons_succ, pairsD_get xs ys j d e h h']
theorem pair_ok {K : PySem.W.Frag} {G : Hp} {xs ys : List D} {vs ws : List V} (h : RepL K G vs xs) (h' : RepL K G ws ys) {i : Nat} {H2 H3 : Hp} {x : V} (y : YPair (fun i => vs[i]?) (fun i => ws[i]?) i H2 x H3) : ItemOk K G (pairsD xs ys) i H2 x H3 := by
  obtain ⟨T, x1, y1, rfl, h3, h4, h5, h6⟩ := y
  obtain ⟨d, h7, h8⟩ := h.get' h5
  obtain ⟨e, h9, h10⟩ := h'.get' h6
  exact ⟨_, pairsD_get xs ys i d e h7 h9, .inr ⟨T, _, _, rfl, h3, h4, rfl, .cons h8 (.cons h10 .nil)⟩⟩
end
end PL
set_option maxHeartbeats 4000000
/-! Pure layer 9: targets, comprehensions. -/
namespace PL
open PySem PySem.Spec PyProof.Rows L2

/-! ### targets -/
/-- the slots of vs alone have changed -/
def OnlyAt (vs : List Nat) (σ σ' : L2.St) : Prop := σ'.length = σ.length ∧ ∀ i, i ∉ vs → σ'[i]? = σ[i]?
theorem OnlyAt.refl {vs : List Nat} {σ : L2.St} : OnlyAt vs σ σ := ⟨rfl, fun _ _ => rfl⟩
theorem OnlyAt.trans {vs ws : List Nat} {σ σ1 σ2 : L2.St} (a : OnlyAt vs σ σ1) (b : OnlyAt ws σ1 σ2) : OnlyAt (vs ++ ws) σ σ2 :=
  ⟨b.1.trans a.1, fun i h => (b.2 i fun z => h (List.mem_append_right _ z)).trans (a.2 i fun z => h (List.mem_append_left _ z))⟩
theorem OnlyAt.weak {vs ws : List Nat} {σ σ' : L2.St} (a : OnlyAt vs σ σ') (h : ∀ i ∈ vs, i ∈ ws) : OnlyAt ws σ σ' := ⟨a.1, fun i z => a.2 i fun q => z (h i q)⟩
theorem wipe_get {σ : L2.St} {i : Nat} : ∀ {vs : List Nat}, i ∈ vs → i < σ.length → (wipe σ vs)[i]? = some none
  | [], h, _ => by cases h
  | v :: vs, h, hl => by
    unfold wipe
    by_cases hv : v = i
    · subst hv
      rw [List.getElem?_set_self (by rw [wipe_length]; exact hl)]
    · rw [List.getElem?_set_ne hv]
      rcases List.mem_cons.mp h with z | z
      · exact absurd z.symm hv
      · exact wipe_get z hl
theorem OnlyAt.wipe {vs : List Nat} {σ σ' : L2.St} (a : OnlyAt vs σ σ') : wipe σ' vs = wipe σ vs := by
  apply List.ext_getElem?
  intro i
  by_cases h : i ∈ vs
  · by_cases hl : i < σ.length
    · rw [wipe_get h hl, wipe_get h (by rw [a.1]; exact hl)]
    · rw [List.getElem?_eq_none (by rw [wipe_length, a.1]; omega), List.getElem?_eq_none (by rw [wipe_length]; omega)]
  · rw [wipe_out h, wipe_out h, a.2 i h]
def EvG (K : PySem.W.Frag) (g : TG) (t : MT) : Prop :=
  ∀ {F G H : Hp} {σ : L2.St} {env env' : Env} {d : D} {v : V} {Q : L2.St → Hp → Prop}, Stt K F G H σ env → Rep K G v d → asgT t d env = some env' → (∀ σ', Stt K F G H σ' env' → OnlyAt (slotsT t) σ σ' → Q σ' H) → g v σ H Q
def EvGs (K : PySem.W.Frag) (g : TGs) (ts : MTs) : Prop :=
  ∀ {F G H : Hp} {σ : L2.St} {env env' : Env} {ds : List D} {vs : List V} {Q : L2.St → Hp → Prop}, Stt K F G H σ env → RepL K G vs ds → asgTs ts ds env = some env' → (∀ σ', Stt K F G H σ' env' → OnlyAt (slotsTs ts) σ σ' → Q σ' H) → g vs σ H Q
structure CG (X : Cx) (e : Expr) (t : MT) : Prop where
  ex : ∃ g, PG X e g ∧ EvG X.K g t
structure CGs (X : Cx) (es : List Expr) (ts : MTs) (n : Nat) : Prop where
  ex : ∃ g, PGs X es g ∧ EvGs X.K g ts
  len : ∀ {ds env env'}, asgTs ts ds env = some env' → ds.length = n
section
variable {X : Cx} {e : Expr} {es : List Expr} {t : MT} {ts : MTs} {pos : Pos} {n : Nat}
theorem cg_name (i : Nat) {x : Str} (hN : X.N.Nodup) (hi : X.N[i]? = some x := by rfl) (hx : Loc X.env.scope x := by first | exact Or.inl rfl | exact Or.inr rfl) (hf : X.fn x = true ∨ X.env.scope.names.lookup x = some .local := by first | exact .inl rfl | exact .inr rfl | assumption) : CG X (.Name x pos) (.nm i) := by
  refine ⟨_, pg_name hN hi hx hf, ?_⟩
  intro F G H σ env env' d v Q S r e q
  rw [asgT] at e
  obtain ⟨h1, e⟩ := ite_inv e
  cases e
  refine q _ (S.set h1 r) ⟨List.length_set, fun j hj => ?_⟩
  rw [List.getElem?_set_ne (fun z => hj (by rw [slotsT, z]; exact List.mem_singleton.mpr rfl))]
theorem cgs_nil : CGs X [] .nil 0 := by
  refine ⟨⟨_, pgs_nil, ?_⟩, ?_⟩
  · intro F G H σ env env' ds vs Q S r e q
    cases ds with
    | nil =>
      cases r
      rw [asgTs] at e
      cases e
      exact ⟨rfl, q σ S .refl⟩
    | cons d ds => simp only [asgTs] at e; cases e
  · intro ds env env' e
    cases ds with
    | nil => rfl
    | cons d ds => simp only [asgTs] at e; cases e
theorem cgs_cons (h : CG X e t) (hr : CGs X es ts n) (hs : (assignEach (e :: es) X.env).map (·.2) = assign e X.env :: (assignEach es X.env).map (·.2) := by rfl) : CGs X (e :: es) (.cons t ts) (n + 1) := by
  obtain ⟨g, pg, eg⟩ := h.ex
  obtain ⟨⟨gs, pgs, egs⟩, hl⟩ := hr
  refine ⟨⟨_, pgs_cons pg pgs hs, ?_⟩, ?_⟩
  · intro F G H σ env env' ds vs Q S r e q
    cases ds with
    | nil => simp only [asgTs] at e; cases e
    | cons d ds =>
      cases r with
      | cons r1 r2 =>
        rw [asgTs] at e
        obtain ⟨env1, e1, e2⟩ := bind_inv e
        refine ⟨_, _, rfl, eg S r1 e1 fun σ1 S1 o1 => egs S1 r2 e2 fun σ2 S2 o2 => q σ2 S2 ?_⟩
        rw [slotsTs]
        exact o1.trans o2
  · intro ds env env' e
    cases ds with
    | nil => simp only [asgTs] at e; cases e
    | cons d ds =>
      rw [asgTs] at e
      obtain ⟨env1, e1, e2⟩ := bind_inv e
      rw [List.length_cons, hl e2]
theorem cg_tup {k : Nat} (hc : X.calm = true) (h : CGs X es ts n) (hn : (assignEach es X.env).length = n := by rfl) (hst : (assignEach es X.env).findIdx? (·.1) = none := by rfl) : CG X (.Tuple es k pos) (.tp ts) := by
  obtain ⟨⟨gs, pgs, egs⟩, hl⟩ := h
  refine ⟨_, pg_tup hc pgs hn hst, ?_⟩
  intro F G H σ env env' d v Q S r e q
  cases d with
  | tup ds =>
    cases r with
    | @tup a xs _ h1 h2 =>
      rw [asgT] at e
      refine ⟨a, xs, rfl, (RdLe.of S.gh).t h1, by rw [h2.length]; exact hl e, egs S h2 e fun σ' S' o => q σ' S' ?_⟩
      rw [slotsT]
      exact o
  | _ => simp only [asgT] at e; cases e
end

/-! ### a block's own slots -/
section
variable {K : PySem.W.Frag} {F G H : Hp} {σ : L2.St} {env : Env}
theorem wipeE_length (env : Env) : ∀ vs : List Nat, (wipeE env vs).length = env.length
  | [] => rfl
  | v :: vs => by unfold wipeE; rw [List.length_set, wipeE_length env vs]
theorem wipeE_in {env : Env} {i : Nat} : ∀ {vs : List Nat}, i ∈ vs → getS (wipeE env vs) i = .un
  | [], h => by cases h
  | v :: vs, h => by
    unfold wipeE
    by_cases hv : v = i
    · subst hv
      by_cases hl : v < (wipeE env vs).length
      · exact getS_set_same hl
      · rw [getS_eq, List.getElem?_eq_none (by rw [List.length_set]; omega)]
        rfl
    · rw [getS_set_ne hv]
      rcases List.mem_cons.mp h with z | z
      · exact absurd z.symm hv
      · exact wipeE_in z
theorem wipeE_out {env : Env} {i : Nat} : ∀ {vs : List Nat}, i ∉ vs → getS (wipeE env vs) i = getS env i
  | [], _ => rfl
  | v :: vs, h => by
    unfold wipeE
    rw [getS_set_ne (fun z => h (by rw [z]; exact List.mem_cons_self)), wipeE_out fun z => h (List.mem_cons_of_mem _ z)]
theorem backE_length (env now : Env) : ∀ vs : List Nat, (backE env now vs).length = now.length
  | [] => rfl
  | v :: vs => by unfold backE; rw [List.length_set, backE_length env now vs]
theorem backE_in {env now : Env} (hl : env.length = now.length) {i : Nat} : ∀ {vs : List Nat}, i ∈ vs → getS (backE env now vs) i = getS env i
  | [], h => by cases h
  | v :: vs, h => by
    unfold backE
    by_cases hv : v = i
    · subst hv
      by_cases hl2 : v < (backE env now vs).length
      · exact getS_set_same hl2
      · rw [getS_eq, getS_eq, List.getElem?_eq_none (by rw [List.length_set]; omega), List.getElem?_eq_none (by rw [backE_length] at hl2; omega)]
    · rw [getS_set_ne hv]
      rcases List.mem_cons.mp h with z | z
      · exact absurd z.symm hv
      · exact backE_in hl z
theorem backE_out {env now : Env} {i : Nat} : ∀ {vs : List Nat}, i ∉ vs → getS (backE env now vs) i = getS now i
  | [], _ => rfl
  | v :: vs, h => by
    unfold backE
    rw [getS_set_ne (fun z => h (by rw [z]; exact List.mem_cons_self)), backE_out fun z => h (List.mem_cons_of_mem _ z)]
/-- the same slots but those of vs; those are forgotten -/
theorem Stt.wiped {σ' : L2.St} {vs : List Nat} (S : Stt K F G H σ env) (o : OnlyAt vs σ σ') : Stt K F G H σ' (wipeE env vs) := by
  have own : ∀ {j s}, s ≠ Sl.un → getS (wipeE env vs) j = s → j ∉ vs ∧ getS env j = s := fun {j s} hs q => by
    by_cases hj : j ∈ vs
    · rw [wipeE_in hj] at q
      exact absurd q.symm hs
    · rw [wipeE_out hj] at q
      exact ⟨hj, q⟩
  refine ⟨S.gh, S.fh, by rw [wipeE_length, o.1]; exact S.len, fun j d q => ?_, fun j d q => ?_, fun j k d e a q1 q2 z1 z2 => ?_⟩
  · obtain ⟨hj, q⟩ := own (s := .im d) nofun q
    rw [o.2 j hj]
    exact S.im j d q
  · obtain ⟨hj, q⟩ := own (s := .ow d) nofun q
    rw [o.2 j hj]
    exact S.ow j d q
  · obtain ⟨hj, q1⟩ := own (s := .ow d) nofun q1
    obtain ⟨hk, q2⟩ := own (s := .ow e) nofun q2
    rw [o.2 j hj] at z1
    rw [o.2 k hk] at z2
    exact S.dj j k d e a q1 q2 z1 z2
theorem wipe_only {vs : List Nat} : OnlyAt vs σ (wipe σ vs) := ⟨wipe_length σ vs, fun i h => wipe_out h⟩
theorem noOwn_inv {env : Env} {vs : List Nat} (h : noOwn env vs = true) {v : Nat} (hv : v ∈ vs) {d : D} : getS env v ≠ .ow d := fun e => by
  have h2 := List.all_eq_true.mp h v hv
  simp only [e] at h2
  cases h2
/-- the block left: its own slots back as they were -/
theorem Stt.back {G' H' : Hp} {now : Env} {vs : List Nat} (S : Stt K F G H σ env) (S' : Stt K F G' H' (wipe σ vs) now) (g : Same G G') (hn : noOwn env vs = true) : Stt K F G' H' σ (backE env now vs) := by
  have hl : env.length = now.length := by rw [S.len, S'.len, wipe_length]
  have own : ∀ {j d}, getS (backE env now vs) j = .ow d → j ∉ vs ∧ getS now j = .ow d := fun {j d} q => by
    by_cases hj : j ∈ vs
    · rw [backE_in hl hj] at q
      exact absurd q (noOwn_inv hn hj)
    · rw [backE_out hj] at q
      exact ⟨hj, q⟩
  refine ⟨S'.gh, S'.fh, by rw [backE_length]; exact hl.symm.trans S.len, fun j d q => ?_, fun j d q => ?_, fun j k d e a q1 q2 z1 z2 => ?_⟩
  · by_cases hj : j ∈ vs
    · rw [backE_in hl hj] at q
      obtain ⟨v, h1, h2⟩ := S.im j d q
      exact ⟨v, h1, h2.mono g⟩
    · rw [backE_out hj] at q
      obtain ⟨v, h1, h2⟩ := S'.im j d q
      exact ⟨v, by rw [wipe_out hj] at h1; exact h1, h2⟩
  · obtain ⟨hj, q⟩ := own q
    obtain ⟨a, o, h1, h2⟩ := S'.ow j d q
    exact ⟨a, o, by rw [wipe_out hj] at h1; exact h1, h2⟩
  · obtain ⟨hj, q1⟩ := own q1
    obtain ⟨hk, q2⟩ := own q2
    exact S'.dj j k d e a q1 q2 (by rw [wipe_out hj]; exact z1) (by rw [wipe_out hk]; exact z2)
/-- the held object changes -/
theorem Stt.held {p : Addr} {o o' : HO} (S : Stt K (upd F p o) G H σ env) (hg : G p = none) : Stt K (upd F p o') G (upd H p o') σ env where
  gh := fun b q z => by rw [upd_ne (ne_of_none z hg)]; exact S.gh _ _ z
  fh := fun b q z => by
    by_cases hb : b = p
    · subst hb
      rw [upd_same] at z ⊢
      exact z
    · rw [upd_ne hb] at z ⊢
      exact S.fh b q (by rw [upd_ne hb]; exact z)
  len := S.len
  im := S.im
  ow i d h := by
    obtain ⟨a, u, h1, h2, h3, h4, h5⟩ := S.ow i d h
    have ha : a ≠ p := fun z => by
      rw [z, upd_same] at h5
      cases h5
    rw [upd_ne ha] at h5
    exact ⟨a, u, h1, by rw [upd_ne ha]; exact h2, h3, h4, by rw [upd_ne ha]; exact h5⟩
  dj := S.dj
theorem Grow.held {p : Addr} {o : HO} {G' : Hp} (g : Grow (upd F p o) G G') (hg : G p = none) : G' p = none := by
  cases q : G' p with
  | none => rfl
  | some u =>
    rcases g.new p u q with ⟨o', z⟩ | z
    · rw [hg] at z
      cases z
    · rw [upd_same] at z
      cases z
theorem same_upd {p : Addr} {o : HO} (h : F p = none) : Same F (upd F p o) := same_new h
end

/-! ### comprehensions -/
section
variable {Φ : Nat → FS} {X : Cx}
theorem ct_yes : ∃ t, PTs X [] t ∧ EvT Φ X.K t (.lit (.bl true)) := by
  refine ⟨_, pts_nil, ?_⟩
  intro F G H σ env env' b Q S e q
  obtain ⟨k, e⟩ := blOf_inv e
  rw [ev] at e
  cases e
  exact q G H S .refl
/-- a comprehension's tests -/
structure CTs (Φ : Nat → FS) (X : Cx) (ifs : List Expr) (m : ME) : Prop where
  ex : ∃ t, PTs X ifs t ∧ EvT Φ X.K t m
theorem cts_nil : CTs Φ X [] (.lit (.bl true)) := ⟨ct_yes⟩
theorem cts_one {c : Expr} {m : ME} (h : CT Φ X c m) : CTs Φ X [c] m := by
  obtain ⟨t, p, e⟩ := h.ex
  exact ⟨t, pts_one p, e⟩
/-- what the block's parts say, whatever the block's frame is -/
structure CBlk (Φ : Nat → FS) (X : Cx) (scope : Scope) (tg : Expr) (t : MT) (ifs : List Expr) (mc : ME) (elt : Expr) (me : ME) : Prop where
  tg : ∃ g, (∀ (s : Shared) (H : Hp) (C : Addr) (cl : List (Str × Addr)) (fp : List Addr), PG (X.blk s H scope (compEnvC scope cl C X.env) fp) tg g) ∧ EvG X.K g t
  ts : ∃ tt, (∀ (s : Shared) (H : Hp) (C : Addr) (cl : List (Str × Addr)) (fp : List Addr), PTs (X.blk s H scope (compEnvC scope cl C X.env) fp) ifs tt) ∧ EvT Φ X.K tt mc
  el : ∃ te, (∀ (s : Shared) (H : Hp) (C : Addr) (cl : List (Str × Addr)) (fp : List Addr), PE (X.blk s H scope (compEnvC scope cl C X.env) fp) elt te) ∧ EvE Φ X.K te me
theorem evE_lc {wi : TI} {g : TG} {tt : TT} {te : TE} {own : List Nat} {t : MT} {mi : MI} {mc me : ME} (hi : EvI Φ X.K wi mi) (hg : EvG X.K g t) (ht : EvT Φ X.K tt mc) (he : EvE Φ X.K te me) (hown : ∀ i ∈ slotsT t, i ∈ own) :
    EvE Φ X.K (tLc (fun σ H R => wi σ H fun J H1 => Szs H1 → R J H1) g tt te own) (.comp own t mi mc me) := by
  intro F G H σ env env' d k Q S w q
  rw [ev] at w
  obtain ⟨⟨ds, env1⟩, e1, w⟩ := bind_inv w
  obtain ⟨hn, w⟩ := ite_inv w
  obtain ⟨⟨ys, env2⟩, e2, w⟩ := map_inv w
  cases w
  refine hi S e1 fun J G1 H1 W Y S1 g1 wk hW hY hz sz => ?_
  have hlen := hz sz
  intro D hD
  refine lc_it wk (fun i H' => ∃ G2 acc done rest env3, H' D = some (.lst acc) ∧ Stt X.K (upd F D (.lst acc)) G2 H' (wipe σ own) env3 ∧ Grow F G1 G2 ∧ G2 D = none ∧ RepL X.K G2 acc done ∧ done.length ≤ i ∧
      compGo (asgT t) (fun e => blOf (ev Φ mc e)) (fun e => fw (ev Φ me e)) own (ds.drop i) env3 = some (rest, env2) ∧ ys = done ++ rest) ?_ ?_ ?_ ?_
  · refine ⟨G1, [], [], ys, wipeE env1 own, upd_same, ?_, .refl, S1.gh.free hD, .nil, Nat.le_refl _, e2, rfl⟩
    have S2 : Stt X.K F G1 (upd H1 D (.lst [])) σ env1 := S1.alloc hD
    exact (S2.hold upd_same fun i e h z => by
      obtain ⟨a, u, h1, h2, _⟩ := S1.ow i e h
      rw [h1] at z
      cases z
      rw [hD] at h2
      cases h2).wiped wipe_only
  · rintro i H' hi ⟨G2, acc, done, rest, env3, hd, S2, g2, _⟩
    exact hW H' (g2.same.trans S2.gh)
  · rintro i x H' H3 hi ⟨G2, acc, done, rest, env3, hd, S2, g2, hG, hr, hl, e3, e4⟩ y
    obtain ⟨d, hdi, hit⟩ := hY i H' x H3 (g2.same.trans S2.gh) y
    have hdrop : ds.drop i = d :: ds.drop (i + 1) := by
      obtain ⟨h1, h2⟩ := List.getElem?_eq_some_iff.mp hdi
      rw [← h2]
      exact List.drop_eq_getElem_cons h1
    rw [hdrop, compGo] at e3
    obtain ⟨env4, e5, e3⟩ := bind_inv e3
    obtain ⟨⟨c, env5⟩, e6, e3⟩ := bind_inv e3
    -- the item is known now
    have item : ∃ G3, Stt X.K (upd F D (.lst acc)) G3 H3 (wipe σ own) env3 ∧ Grow (upd F D (.lst acc)) G2 G3 ∧ Rep X.K G3 x d := by
      rcases hit with ⟨rfl, hx⟩ | ⟨T, vs, es, rfl, hT, rfl, rfl, hx⟩
      · exact ⟨G2, S2, .refl, hx.mono g2.same⟩
      · obtain ⟨S3, g3⟩ := S2.allocG (o := .tup vs) hT
        exact ⟨_, S3, g3, .tup (SqT.of upd_same) (hx.mono (g2.same.trans g3.same))⟩
    obtain ⟨G3, S3, g3, hx⟩ := item
    have fF : Same F (upd F D (.lst acc)) := same_upd (S1.fh.free hD)
    refine hg S3 hx e5 fun σ4 S4 o4 => ⟨((o4.weak hown).wipe).trans (by
      have h2 : wipe (wipe σ own) own = wipe σ own := (wipe_only).wipe
      exact h2), ?_⟩
    refine ht S4 e6 fun G5 H5 S5 g5 => ?_
    have hD5 : H5 D = some (.lst acc) := S5.fh D _ upd_same
    have G5D : G5 D = none := g5.held (g3.held hG)
    have g15 : Grow F G1 G5 := (g2.trans (g3.frame fF)).trans (g5.frame fF)
    have oW : OnlyAt own σ4 (wipe σ own) := ⟨by rw [o4.1], fun j hj => (o4.weak hown).2 j hj ▸ rfl⟩
    cases c with
    | false =>
      refine iteF ?_
      exact ⟨G5, acc, done, rest, _, hD5, S5.wiped oW, g15, G5D, hr.mono (g3.trans g5).same, Nat.le_succ_of_le hl, e3, e4⟩
    | true =>
      refine iteT ?_
      obtain ⟨⟨y', env6⟩, e7, e3⟩ := bind_inv e3
      obtain ⟨⟨rest', env7⟩, e8, e3⟩ := map_inv e3
      cases e3
      refine he.f S5 e7 fun v G6 H6 S6 g6 r6 => ?_
      have hD6 : H6 D = some (.lst acc) := S6.fh D _ upd_same
      have G6D : G6 D = none := g6.held G5D
      have hacc : acc.length = done.length := hr.length
      refine ⟨acc, hD6, by omega, ⟨G6, acc ++ [v], done ++ [y'], rest', _, upd_same, (S6.held G6D).wiped oW, g15.trans (g6.frame fF), G6D, (hr.mono (g3.same.trans (g5.same.trans g6.same))).append (.cons r6 .nil), ?_, e8, ?_⟩⟩
      · rw [List.length_append]
        exact Nat.succ_le_succ hl
      · rw [e4, List.append_assoc]
        rfl
  · rintro H' ⟨G2, acc, done, rest, env3, hd, S2, g2, hG, hr, hl, e3, e4⟩
    rw [List.drop_length, compGo] at e3
    cases e3
    rw [List.append_nil] at e4
    subst e4
    have S3 : Stt X.K F G2 H' (wipe σ own) env2 := S2.frame (same_upd (S1.fh.free hD))
    refine q _ G2 H' (S1.back S3 g2.same hn) (g1.trans g2) ⟨D, rfl, ⟨⟨.lst acc, hd, hr⟩, hG, S1.fh.free hD, fun j e h z => ?_⟩⟩
    by_cases hj : j ∈ own
    · have hlE : env1.length = env2.length := by rw [S1.len, S3.len, wipe_length]
      rw [backE_in hlE hj] at h
      exact noOwn_inv hn hj h
    · rw [backE_out hj] at h
      obtain ⟨a, o, h1, h2, h3, h4, h5⟩ := S2.ow j e h
      rw [wipe_out hj] at h1
      rw [h1] at z
      cases z
      rw [upd_same] at h5
      cases h5
variable {elt tg iter : Expr} {ifs : List Expr} {scope : Scope} {pos : Pos} {t : MT} {mi : MI} {mc me : ME}
theorem ce_lc {own : List (Str × Nat)} (hc : X.calm = true) (hN : X.N.Nodup) (hi : CI Φ X tg iter mi) (ok : BlkOk X.N X.env.scope scope own) (hb : CBlk Φ X scope tg t ifs mc elt me) (hown : ∀ i ∈ slotsT t, i ∈ own.map (·.2) := by decide) (hs : ∀ x, foldedSetIterable iter X.env x = pure x := by intro _; rfl) :
    CE Φ X (.ListComp elt [⟨tg, iter, ifs, 0⟩] scope pos) (.comp (own.map (·.2)) t mi mc me) := by
  obtain ⟨wi, pi, ei⟩ := hi.ex
  obtain ⟨⟨g, pg, eg⟩, ⟨tt, pt, et⟩, ⟨te, pe, ee⟩⟩ := hb
  exact ⟨_, pe_lc hc hN (pi_sz pi) ok pg pt pe hs, evE_lc ei eg et ee hown⟩
end
end PL
set_option maxHeartbeats 4000000
/-! Pure layer 10: statements. -/
namespace PL
open PySem PySem.Spec PyProof.Rows L2

def wr : MS → List Nat
  | .seq a b => wr a ++ wr b
  | .set i _ => [i]
  | .mov i _ => [i]
  | .unp t _ => slotsT t
  | .par2 i j _ _ => [i, j]
  | .par3 i j l _ _ _ => [i, j, l]
  | .aug i _ _ => [i]
  | .ite _ a b => wr a ++ wr b
  | .whl _ b => wr b
  | .forr t _ b => slotsT t ++ wr b
  | .forD _ t b => slotsT t ++ wr b
  | _ => []
/-- ws: the slots that may have changed since σ -/
def Post (K : PySem.W.Frag) (F G : Hp) (D : Ends) (σ : L2.St) (ws : List Nat) : Out → Prop
  | .nx e => ∀ σ' G' H', Stt K F G' H' σ' e → Grow F G G' → OnlyAt ws σ σ' → D.nx σ' H'
  | .rt d k e => ∀ v σ' G' H', Stt K F G' H' σ' e → Grow F G G' → OnlyAt ws σ σ' → ResOk K F G' H' σ' e v d k → D.rt v H'
  | .bk e => ∀ σ' G' H', Stt K F G' H' σ' e → Grow F G G' → OnlyAt ws σ σ' → D.bk σ' H'
  | .ct e => ∀ σ' G' H', Stt K F G' H' σ' e → Grow F G G' → OnlyAt ws σ σ' → D.ct σ' H'
theorem OnlyAt.two {vs ws : List Nat} {σ σ1 σ2 : L2.St} (a : OnlyAt vs σ σ1) (b : OnlyAt ws σ1 σ2) (h : ∀ i ∈ vs, i ∈ ws) : OnlyAt ws σ σ2 := ⟨b.1.trans a.1, fun i q => (b.2 i q).trans (a.2 i fun z => q (h i z))⟩
theorem Post.up {K : PySem.W.Frag} {F G G1 : Hp} {D : Ends} {σ σ1 : L2.St} {ws w1 w2 : List Nat} {o : Out} (p : Post K F G D σ ws o) (g : Grow F G G1) (oa : OnlyAt w1 σ σ1) (h1 : ∀ i ∈ w1, i ∈ ws) (h2 : ∀ i ∈ w2, i ∈ ws) : Post K F G1 D σ1 w2 o := by
  have tr : ∀ {σ'}, OnlyAt w2 σ1 σ' → OnlyAt ws σ σ' := fun {σ'} q => oa.two (q.weak h2) h1
  cases o with
  | nx e => exact fun σ' G' H' S g2 q => p σ' G' H' S (g.trans g2) (tr q)
  | rt d k e => exact fun v σ' G' H' S g2 q r => p v σ' G' H' S (g.trans g2) (tr q) r
  | bk e => exact fun σ' G' H' S g2 q => p σ' G' H' S (g.trans g2) (tr q)
  | ct e => exact fun σ' G' H' S g2 q => p σ' G' H' S (g.trans g2) (tr q)
theorem Post.g {K : PySem.W.Frag} {F G G1 : Hp} {D : Ends} {σ : L2.St} {ws w2 : List Nat} {o : Out} (p : Post K F G D σ ws o) (g : Grow F G G1) (h2 : ∀ i ∈ w2, i ∈ ws) : Post K F G1 D σ w2 o := p.up g (OnlyAt.refl (vs := [])) nofun h2
def EvS (Φ : Nat → FS) (fuel : Nat) (K : PySem.W.Frag) (t : TS) (m : MS) : Prop :=
  ∀ {F G H : Hp} {σ : L2.St} {env : Env} {o : Out} {D : Ends}, Stt K F G H σ env → evS Φ fuel m env = some o → Post K F G D σ (wr m) o → t D σ H
structure CS (Φ : Nat → FS) (fuel : Nat) (X : Cx) (st : Stmt) (m : MS) : Prop where
  ex : ∃ t, PS X st t ∧ EvS Φ fuel X.K t m
structure CSs (Φ : Nat → FS) (fuel : Nat) (X : Cx) (st : List Stmt) (m : MS) : Prop where
  ex : ∃ t, PSs X st t ∧ EvS Φ fuel X.K t m
section
variable {Φ : Nat → FS} {fuel : Nat} {X : Cx} {K : PySem.W.Frag} {st : Stmt} {rest : List Stmt} {m m2 : MS} {pos : Pos}
/-! ### blocks -/
theorem evS_skip : EvS Φ fuel K tNext .skip := by
  intro F G H σ env o D S e p
  rw [evS] at e
  cases e
  exact p σ G H S .refl .refl
theorem css_nil : CSs Φ fuel X [] .skip := ⟨_, pss_nil, evS_skip⟩
theorem evS_seq {t u : TS} (h1 : EvS Φ fuel K t m) (h2 : EvS Φ fuel K u m2) : EvS Φ fuel K (tSeq t u) (.seq m m2) := by
  intro F G H σ env o D S e p
  rw [evS] at e
  obtain ⟨oa, e1, e2⟩ := bind_inv (show (evS Φ fuel m env).bind _ = some o from e)
  refine h1 (D := { D with nx := u D }) S e1 ?_
  cases oa with
  | nx e' => exact fun σ' G' H' S' g q => h2 S' e2 (p.up g q (fun i z => List.mem_append_left _ z) (fun i z => List.mem_append_right _ z))
  | rt d k e' =>
    cases e2
    exact fun v σ' G' H' S g q r => p v σ' G' H' S g (q.weak fun i z => List.mem_append_left _ z) r
  | bk e' =>
    cases e2
    exact fun σ' G' H' S g q => p σ' G' H' S g (q.weak fun i z => List.mem_append_left _ z)
  | ct e' =>
    cases e2
    exact fun σ' G' H' S g q => p σ' G' H' S g (q.weak fun i z => List.mem_append_left _ z)
theorem css_cons (h1 : CS Φ fuel X st m) (h2 : CSs Φ fuel X rest m2) : CSs Φ fuel X (st :: rest) (.seq m m2) := by
  obtain ⟨t, p, e⟩ := h1.ex
  obtain ⟨u, p2, e2⟩ := h2.ex
  exact ⟨_, pss_cons p p2, evS_seq e e2⟩
theorem css_one (h1 : CS Φ fuel X st m) : CSs Φ fuel X [st] m := by
  obtain ⟨t, p, e⟩ := h1.ex
  exact ⟨_, pss_one p, e⟩
/-- slots that are read no more -/
theorem Stt.wipeE {F G H : Hp} {σ : L2.St} {env : Env} (S : Stt K F G H σ env) : ∀ is : List Nat, Stt K F G H σ (wipeE env is)
  | [] => S
  | i :: is => (Stt.wipeE S is).forget i
theorem css_kill (is : List Nat) (h2 : CSs Φ fuel X rest m2) : CSs Φ fuel X rest (.seq (.kill is) m2) := by
  obtain ⟨u, p2, e2⟩ := h2.ex
  refine ⟨_, p2, ?_⟩
  intro F G H σ env o D S e p
  rw [evS, evS] at e
  exact e2 (S.wipeE is) e (p.g .refl fun i z => z)
theorem cs_kill (is : List Nat) (h2 : CS Φ fuel X st m2) : CS Φ fuel X st (.seq (.kill is) m2) := by
  obtain ⟨u, p2, e2⟩ := h2.ex
  refine ⟨_, p2, ?_⟩
  intro F G H σ env o D S e p
  rw [evS, evS] at e
  exact e2 (S.wipeE is) e (p.g .refl fun i z => z)
theorem cs_pass : CS Φ fuel X (.Pass pos) .skip := ⟨_, ps_pass, evS_skip⟩
theorem cs_brk : CS Φ fuel X (.Break pos) .brk := by
  refine ⟨_, ps_break, ?_⟩
  intro F G H σ env o D S e p
  rw [evS] at e
  cases e
  exact p σ G H S .refl .refl
theorem cs_cont : CS Φ fuel X (.Continue pos) .cont := by
  refine ⟨_, ps_continue, ?_⟩
  intro F G H σ env o D S e p
  rw [evS] at e
  cases e
  exact p σ G H S .refl .refl
theorem evS_never : EvS Φ fuel K tNever .never := by
  intro F G H σ env o D S e p
  rw [evS] at e
  cases e
theorem cs_never : CS Φ fuel X st .never := ⟨_, ps_never, evS_never⟩
theorem css_never : CSs Φ fuel X rest .never := ⟨_, pss_never, evS_never⟩
variable {e e1 e2 : Expr} {me me1 me2 : ME}
theorem cs_expr (h : CE Φ X e me) (hs : swapsWith e none pos.line X.env = pure false := by rfl) : CS Φ fuel X (.Expr e pos) (.expr me) := by
  obtain ⟨t, p, q⟩ := h.ex
  refine ⟨_, ps_expr p hs, ?_⟩
  intro F G H σ env o D S w p
  rw [evS] at w
  obtain ⟨⟨d, k, env1⟩, w1, w⟩ := map_inv w
  cases w
  exact q S w1 fun v G1 H1 S1 g1 _ => p σ G1 H1 S1 g1 .refl
theorem cs_ret (h : CE Φ X e me) : CS Φ fuel X (.Return (some e) pos) (.ret me) := by
  obtain ⟨t, p, q⟩ := h.ex
  refine ⟨_, ps_ret p, ?_⟩
  intro F G H σ env o D S w p
  rw [evS] at w
  obtain ⟨⟨d, k, env1⟩, w1, w⟩ := map_inv w
  cases w
  exact q S w1 fun v G1 H1 S1 g1 r => p v σ G1 H1 S1 g1 .refl r
theorem cs_retN : CS Φ fuel X (.Return none pos) .retN := by
  refine ⟨_, ps_retN, ?_⟩
  intro F G H σ env o D S w p
  rw [evS] at w
  cases w
  exact p _ σ G H S .refl .refl Rep.non
theorem cs_if {a b : List Stmt} (hc : CT Φ X e me) (ha : CSs Φ fuel X a m) (hb : CSs Φ fuel X b m2) : CS Φ fuel X (.If e a b pos) (.ite me m m2) := by
  obtain ⟨t, p, q⟩ := hc.ex
  obtain ⟨ta, pa, qa⟩ := ha.ex
  obtain ⟨tb, pb, qb⟩ := hb.ex
  refine ⟨_, ps_if p pa pb, ?_⟩
  intro F G H σ env o D S w p
  rw [evS] at w
  obtain ⟨⟨c, env1⟩, w1, w⟩ := bind_inv w
  refine q S w1 fun G1 H1 S1 g1 => ?_
  cases c with
  | true => exact iteT (qa S1 w (p.g g1 fun i z => List.mem_append_left _ z))
  | false => exact iteF (qb S1 w (p.g g1 fun i z => List.mem_append_right _ z))
/-! ### stores -/
theorem only_set {σ : L2.St} {i : Nat} {v : Option V} : OnlyAt [i] σ (σ.set i v) := ⟨List.length_set, fun j hj => List.getElem?_set_ne fun z => hj (by rw [z]; exact List.mem_singleton.mpr rfl)⟩
theorem frzE_length (d : D) (k : RK) (env : Env) : (frzE d k env).length = env.length := by
  cases k <;> first | rfl | exact List.length_set
theorem setR_run {F G H : Hp} {σ : L2.St} {env env' : Env} {v : V} {d : D} {k : RK} {i : Nat} (S : Stt K F G H σ env) (r : ResOk K F G H σ env v d k) (w : setR i d k env = some env') : ∃ G', Grow F G G' ∧ Stt K F G' H (σ.set i (some v)) env' := by
  unfold setR at w
  obtain ⟨hi, w⟩ := ite_inv w
  cases k with
  | nw =>
    cases w
    obtain ⟨p, rfl, n⟩ := r
    exact ⟨G, .refl, S.setNew hi n⟩
  | fz =>
    cases w
    exact ⟨G, .refl, S.set hi r⟩
  | sl j =>
    cases w
    obtain ⟨G1, g1, S1, r1⟩ := r.know S
    exact ⟨G1, g1, S1.set (by rw [frzE_length]; exact hi) r1⟩
theorem evS_set {te : TE} {i : Nat} (q : EvE Φ K te me) : EvS Φ fuel K (tAsg te (gName i)) (.set i me) := by
  intro F G H σ env o D S w p
  rw [evS] at w
  obtain ⟨⟨d, k, env1⟩, w1, w⟩ := bind_inv w
  obtain ⟨env2, w2, w⟩ := map_inv w
  cases w
  refine q S w1 fun v G1 H1 S1 g1 r => ?_
  obtain ⟨G2, g2, S2⟩ := setR_run S1 r w2
  exact p _ G2 H1 S2 (g1.trans g2) only_set
theorem cs_set (i : Nat) {x : Str} {pos' : Pos} (hN : X.N.Nodup) (h : CE Φ X e me) (hi : X.N[i]? = some x := by rfl) (hx : Loc X.env.scope x := by first | exact Or.inl rfl | exact Or.inr rfl) (hs : swapsWith e (some (.Name x pos')) pos.line X.env = pure false := by rfl)
    (hf : X.fn x = true ∨ X.env.scope.names.lookup x = some .local := by first | exact .inl rfl | exact .inr rfl | assumption) : CS Φ fuel X (.Assign [.Name x pos'] e pos) (.set i me) := by
  obtain ⟨t, p, q⟩ := h.ex
  exact ⟨_, ps_set hN hi hx p hs hf, evS_set q⟩
/-- name = [..], on one line, the name a plain local -/
theorem cs_setLc (i : Nat) {y : Str} {py : Pos} {elt tg iter : Expr} {ifs : List Expr} {scope : Scope} {own : List (Str × Nat)} {spos : Pos} {t : MT} {mi : MI} {mc mel : ME} (hc : X.calm = true) (hN : X.N.Nodup)
    (hi : CI Φ X tg iter mi) (ok : BlkOk X.N X.env.scope scope own) (hb : CBlk Φ X scope tg t ifs mc elt mel) (hy : X.N[i]? = some y := by rfl) (hyl : X.env.scope.names.lookup y = some .local := by rfl)
    (hsw : swapsWith (.ListComp elt [⟨tg, iter, ifs, 0⟩] scope pos) (some (.Name y py)) spos.line X.env = pure true := by exact sw_true rfl rfl rfl rfl)
    (hown : ∀ i ∈ slotsT t, i ∈ own.map (·.2) := by decide) (hs : ∀ x, foldedSetIterable iter X.env x = pure x := by intro _; rfl) :
    CS Φ fuel X (.Assign [.Name y py] (.ListComp elt [⟨tg, iter, ifs, 0⟩] scope pos) spos) (.set i (.comp (own.map (·.2)) t mi mc mel)) := by
  obtain ⟨wi, pi, ei⟩ := hi.ex
  obtain ⟨⟨g, pg, eg⟩, ⟨tt, pt, et⟩, ⟨te, pe, ee⟩⟩ := hb
  exact ⟨_, ps_setLc hc hN hy hyl hsw (pi_sz pi) ok pg pt pe hs, evS_set (evE_lc ei eg et ee hown)⟩
theorem cs_unp {tg : Expr} {t : MT} (h : CE Φ X e me) (hg : CG X tg t) (hs : swapsWithSole [tg] e pos.line X.env = pure false := by rfl) (hw : swappedStores [tg] e X.env = pure none := by rfl)
    (h1 : (assignEach [tg] X.env).map (·.2) = [assign tg X.env] := by rfl) : CS Φ fuel X (.Assign [tg] e pos) (.unp t me) := by
  obtain ⟨te, p, q⟩ := h.ex
  obtain ⟨g, pg, eg⟩ := hg.ex
  refine ⟨_, ps_asg p pg hs hw h1, ?_⟩
  intro F G H σ env o D S w p
  rw [evS] at w
  obtain ⟨⟨d, env1⟩, w1, w⟩ := bind_inv w
  obtain ⟨env2, w2, w⟩ := map_inv w
  cases w
  refine q.f S w1 fun v G1 H1 S1 g1 r => ?_
  exact eg S1 r w2 fun σ' S' q => p σ' G1 H1 S' g1 q

/-! ### several at once -/
/-- a value kept for a later store -/
def Kept (K : PySem.W.Frag) (F F1 G1 : Hp) (v : V) (d : D) : Bool → Prop
  | true => ∃ p o, v = .ref p ∧ F1 = upd F p o ∧ HOf K G1 o d ∧ G1 p = none ∧ F p = none
  | false => F1 = F ∧ Rep K G1 v d
theorem Kept.same {F F1 G1 : Hp} {v : V} {d : D} {nw : Bool} (h : Kept K F F1 G1 v d nw) : Same F F1 := by
  cases nw with
  | true =>
    obtain ⟨p, o, _, rfl, _, _, hf⟩ := h
    exact same_new hf
  | false =>
    obtain ⟨rfl, _⟩ := h
    exact Same.refl _
theorem keep_step {te : TE} (q : EvE Φ K te me) {F G H : Hp} {σ : L2.St} {env env1 : Env} {d : D} {nw : Bool} {Q : VK} (S : Stt K F G H σ env) (w : keepR (ev Φ me env) = some (d, nw, env1))
    (k : ∀ v F1 G1 H1, Stt K F1 G1 H1 σ env1 → Grow F G G1 → Kept K F F1 G1 v d nw → Q v H1) : te σ H Q := by
  unfold keepR at w
  obtain ⟨⟨d0, k0, env0⟩, w1, w⟩ := map_inv w
  cases w
  refine q S w1 fun v G1 H1 S1 g1 r => ?_
  cases k0 with
  | fz => exact k v F G1 H1 S1 g1 ⟨rfl, r⟩
  | nw =>
    obtain ⟨p, rfl, n⟩ := r
    obtain ⟨o, h1, h2⟩ := n.ex
    exact k _ (upd F p o) G1 H1 (S1.hold h1 n.own) g1 ⟨p, o, rfl, rfl, h2, n.g, n.f⟩
  | sl i =>
    obtain ⟨G2, g2, S2, r2⟩ := r.know S1
    exact k v F G2 H1 S2 (g1.trans g2) ⟨rfl, r2⟩
/-- what may be stored now -/
def Item (K : PySem.W.Frag) (F G H : Hp) (σ : L2.St) (env : Env) (v : V) (d : D) : Bool → Prop
  | true => ∃ p, v = .ref p ∧ NewAt K F G H σ env p d
  | false => Rep K G v d
theorem Kept.item {F F1 F2 G1 G H : Hp} {σ : L2.St} {env : Env} {v : V} {d : D} {nw : Bool} (h : Kept K F F1 G1 v d nw) (S : Stt K F2 G H σ env) (e : Same F1 F2) (g : Grow F1 G1 G) : Item K F G H σ env v d nw := by
  cases nw with
  | false => exact Rep.mono g.same h.2
  | true =>
    obtain ⟨p, o, rfl, rfl, h2, h3, h4⟩ := h
    refine ⟨p, rfl, ⟨⟨o, S.fh _ _ (e _ _ upd_same), h2.mono g.same⟩, g.held h3, h4, fun i e' hi z => ?_⟩⟩
    obtain ⟨a, u, y1, y2, y3, y4, y5⟩ := S.ow i e' hi
    rw [z] at y1
    cases y1
    rw [e _ _ upd_same] at y5
    cases y5
theorem Item.set {F G H : Hp} {σ : L2.St} {env : Env} {v : V} {d : D} {nw : Bool} {i : Nat} (S : Stt K F G H σ env) (hi : i < env.length) (r : Item K F G H σ env v d nw) : Stt K F G H (σ.set i (some v)) (setK i d nw env) := by
  cases nw with
  | true =>
    obtain ⟨p, rfl, n⟩ := r
    exact S.setNew hi n
  | false => exact S.set hi r
def Apart (v w : V) : Bool → Bool → Prop
  | true, true => v ≠ w
  | _, _ => True
theorem Item.keep {F G H : Hp} {σ : L2.St} {env : Env} {v w : V} {d e : D} {nw mw : Bool} {i : Nat} (S : Stt K F G H σ env) (hi : i < env.length) (r : Item K F G H σ env v d nw) (ha : Apart w v mw nw) : Item K F G H (σ.set i (some w)) (setK i e mw env) v d nw := by
  cases nw with
  | false => exact r
  | true =>
    obtain ⟨p, rfl, n⟩ := r
    refine ⟨p, rfl, ⟨n.ex, n.g, n.f, fun j e' hj z => ?_⟩⟩
    unfold setK at hj
    by_cases hij : j = i
    · subst hij
      rw [getS_set_same hi] at hj
      have hs : j < σ.length := by rw [← S.len]; exact hi
      rw [List.getElem?_set_self hs] at z
      cases mw with
      | false => cases hj
      | true =>
        cases z
        exact ha rfl
    · rw [getS_set_ne (Ne.symm hij)] at hj
      rw [List.getElem?_set_ne (Ne.symm hij)] at z
      exact n.own j e' hj z
theorem Kept.apart {F F1 F2 G1 G2 : Hp} {v w : V} {d e : D} {nw mw : Bool} (h : Kept K F F1 G1 v d nw) (h2 : Kept K F1 F2 G2 w e mw) : Apart v w nw mw := by
  cases nw with
  | false => cases mw <;> trivial
  | true =>
    cases mw with
    | false => trivial
    | true =>
      obtain ⟨p, o, rfl, rfl, _⟩ := h
      obtain ⟨p2, o2, rfl, _, _, _, hf⟩ := h2
      rintro z
      cases z
      rw [upd_same] at hf
      cases hf
theorem Kept.apart2 {F F1 F2 F3 G1 G3 : Hp} {v w : V} {d e : D} {nw mw : Bool} (h : Kept K F F1 G1 v d nw) (hs : Same F1 F2) (h2 : Kept K F2 F3 G3 w e mw) : Apart v w nw mw := by
  cases nw with
  | false => cases mw <;> trivial
  | true =>
    cases mw with
    | false => trivial
    | true =>
      obtain ⟨p, o, rfl, rfl, _⟩ := h
      obtain ⟨p2, o2, rfl, _, _, _, hf⟩ := h2
      rintro z
      cases z
      rw [hs _ _ upd_same] at hf
      cases hf
theorem setK_length (i : Nat) (d : D) (nw : Bool) (env : Env) : (setK i d nw env).length = env.length := List.length_set
theorem cs_par2 (i j : Nat) {x y : Str} {a b : Expr} {ma mb : ME} {px py pt : Pos} {kt k2 pt2} (hc : X.calm = true) (hN : X.N.Nodup) (ha : CE Φ X a ma) (hb : CE Φ X b mb) (hi : X.N[i]? = some x := by rfl) (hj : X.N[j]? = some y := by rfl) (hij : i ≠ j := by decide)
    (hx : X.env.scope.names.lookup x = some .local := by rfl) (hy : X.env.scope.names.lookup y = some .local := by rfl)
    (hw : swappedStores [.Tuple [.Name x px, .Name y py] kt pt] (.Tuple [a, b] k2 pt2) X.env = pure (some [x, y]) := by rfl)
    (hs : swapsWithSole [.Tuple [.Name x px, .Name y py] kt pt] (.Tuple [a, b] k2 pt2) pos.line X.env = pure false := by rfl)
    (hs1 : starEach [a, b] X.env = (false, eval a X.env) :: starEach [b] X.env := by rfl) (hs2 : starEach [b] X.env = (false, eval b X.env) :: starEach [] X.env := by rfl) :
    CS Φ fuel X (.Assign [.Tuple [.Name x px, .Name y py] kt pt] (.Tuple [a, b] k2 pt2) pos) (.par2 i j ma mb) := by
  obtain ⟨ta, pa, qa⟩ := ha.ex
  obtain ⟨tb, pb, qb⟩ := hb.ex
  refine ⟨_, ps_par hc hN hi hj hij hx hy (pa_cons pa (pa_cons pb pa_nil hs2) hs1) hw hs, ?_⟩
  intro F G H σ env o D S w p
  rw [evS] at w
  obtain ⟨⟨d1, n1, env1⟩, w1, w⟩ := bind_inv w
  obtain ⟨⟨d2, n2, env2⟩, w2, w⟩ := bind_inv w
  obtain ⟨⟨l1, l2, l3⟩, w⟩ := ite_inv w
  cases w
  refine keep_step qa S w1 fun v1 F1 G1 H1 S1 g1 k1 => ?_
  refine keep_step qb S1 w2 fun v2 F2 G2 H2 S2 g2 k2 => ?_
  refine ⟨v1, v2, rfl, ?_⟩
  have hl : env2.length = env.length := by rw [S2.len, S.len]
  have it1 : Item X.K F G2 H2 σ env2 v1 d1 n1 := k1.item S2 k2.same g2
  have S3 : Stt X.K F G2 H2 σ env2 := S2.frame (k1.same.trans k2.same)
  have it2 : Item X.K F G2 H2 σ env2 v2 d2 n2 := by
    have z := k2.item S2 (Same.refl _) Grow.refl
    cases n2 with
    | false => exact z
    | true =>
      obtain ⟨p, rfl, n⟩ := z
      exact ⟨p, rfl, ⟨n.ex, n.g, k1.same.free n.f, n.own⟩⟩
  have S4 := it1.set S3 (by rw [hl]; exact l1)
  have it2' := it2.keep (e := d1) (mw := n1) (w := v1) S3 (i := i) (by rw [hl]; exact l1) (k1.apart k2)
  exact p _ G2 H2 (it2'.set S4 (by rw [setK_length, hl]; exact l2)) (g1.trans (g2.frame k1.same)) (only_set.trans only_set)
theorem cs_par3 (i j l : Nat) {x y z : Str} {a b c : Expr} {ma mb mc : ME} {px py pz pt : Pos} {kt k2 pt2} (hc : X.calm = true) (hN : X.N.Nodup) (ha : CE Φ X a ma) (hb : CE Φ X b mb) (hc' : CE Φ X c mc) (hi : X.N[i]? = some x := by rfl) (hj : X.N[j]? = some y := by rfl) (hl : X.N[l]? = some z := by rfl)
    (hij : i ≠ j := by decide) (hil : i ≠ l := by decide) (hjl : j ≠ l := by decide)
    (hx : X.env.scope.names.lookup x = some .local := by rfl) (hy : X.env.scope.names.lookup y = some .local := by rfl) (hz : X.env.scope.names.lookup z = some .local := by rfl)
    (hw : swappedStores [.Tuple [.Name x px, .Name y py, .Name z pz] kt pt] (.Tuple [a, b, c] k2 pt2) X.env = pure (some [x, y, z]) := by rfl)
    (hs : swapsWithSole [.Tuple [.Name x px, .Name y py, .Name z pz] kt pt] (.Tuple [a, b, c] k2 pt2) pos.line X.env = pure false := by rfl)
    (hs1 : starEach [a, b, c] X.env = (false, eval a X.env) :: starEach [b, c] X.env := by rfl) (hs2 : starEach [b, c] X.env = (false, eval b X.env) :: starEach [c] X.env := by rfl) (hs3 : starEach [c] X.env = (false, eval c X.env) :: starEach [] X.env := by rfl) :
    CS Φ fuel X (.Assign [.Tuple [.Name x px, .Name y py, .Name z pz] kt pt] (.Tuple [a, b, c] k2 pt2) pos) (.par3 i j l ma mb mc) := by
  obtain ⟨ta, pa, qa⟩ := ha.ex
  obtain ⟨tb, pb, qb⟩ := hb.ex
  obtain ⟨tc, pc, qc⟩ := hc'.ex
  refine ⟨_, ps_par3 hc hN hi hj hl hij hil hjl hx hy hz (pa_cons pa (pa_cons pb (pa_cons pc pa_nil hs3) hs2) hs1) hw hs, ?_⟩
  intro F G H σ env o D S w p
  rw [evS] at w
  obtain ⟨⟨d1, n1, env1⟩, w1, w⟩ := bind_inv w
  obtain ⟨⟨d2, n2, env2⟩, w2, w⟩ := bind_inv w
  obtain ⟨⟨d3, n3, env3⟩, w3, w⟩ := bind_inv w
  obtain ⟨⟨⟨l1, l2, l3⟩, _⟩, w⟩ := ite_inv w
  cases w
  refine keep_step qa S w1 fun v1 F1 G1 H1 S1 g1 k1 => ?_
  refine keep_step qb S1 w2 fun v2 F2 G2 H2 S2 g2 k2 => ?_
  refine keep_step qc S2 w3 fun v3 F3 G3 H3 S3 g3 k3 => ?_
  refine ⟨v1, v2, v3, rfl, ?_⟩
  have hl : env3.length = env.length := by rw [S3.len, S.len]
  have s12 := k1.same.trans k2.same
  have g13 : Grow F1 G1 G3 := g2.trans (g3.frame k2.same)
  have it1 : Item X.K F G3 H3 σ env3 v1 d1 n1 := k1.item S3 (k2.same.trans k3.same) g13
  have low : ∀ {F' : Hp} {v : V} {d : PL.D} {n : Bool}, Same F F' → Item X.K F' G3 H3 σ env3 v d n → Item X.K F G3 H3 σ env3 v d n := fun {F' v d n} hs z => by
    cases n with
    | false => exact z
    | true =>
      obtain ⟨p, rfl, n⟩ := z
      exact ⟨p, rfl, ⟨n.ex, n.g, hs.free n.f, n.own⟩⟩
  have it2 : Item X.K F G3 H3 σ env3 v2 d2 n2 := low k1.same (k2.item S3 k3.same g3)
  have it3 : Item X.K F G3 H3 σ env3 v3 d3 n3 := low s12 (k3.item S3 (Same.refl _) Grow.refl)
  have S4 : Stt X.K F G3 H3 σ env3 := S3.frame (s12.trans k3.same)
  have b1 : i < env3.length := by rw [hl]; exact l1
  have S5 := it1.set S4 b1
  have it2' := it2.keep (e := d1) (mw := n1) (w := v1) S4 b1 (k1.apart k2)
  have it3' := it3.keep (e := d1) (mw := n1) (w := v1) S4 b1 (k1.apart2 k2.same k3)
  have b2 : j < (setK i d1 n1 env3).length := by rw [setK_length, hl]; exact l2
  have S6 := it2'.set S5 b2
  have it3'' := it3'.keep (e := d2) (mw := n2) (w := v2) S5 b2 (k2.apart k3)
  exact p _ G3 H3 (it3''.set S6 (by rw [setK_length, setK_length, hl]; exact l3)) (g1.trans (g13.frame k1.same)) ((only_set.trans only_set).trans only_set)
end
end PL
set_option maxHeartbeats 4000000
/-! Pure layer 11: owned objects, loops, a def keeps its promise. -/
namespace PL
open PySem PySem.Spec PyProof.Rows L2

theorem owD_inv {env : Env} {i : Nat} {d : D} (e : owD env i = some d) : getS env i = .ow d := by
  unfold owD at e
  cases h : getS env i with
  | ow d' =>
    rw [h] at e
    cases e
    rfl
  | im d' => rw [h] at e; cases e
  | un => rw [h] at e; cases e
theorem owL_inv {env : Env} {i : Nat} {xs : List D} (e : owL env i = some xs) : getS env i = .ow (.lst xs) := by
  unfold owL at e
  obtain ⟨d, e1, e2⟩ := bind_inv e
  cases d with
  | lst ys =>
    cases e2
    exact owD_inv e1
  | _ => cases e2
theorem owK_inv {env : Env} {i : Nat} {xs : List (Key × D)} (e : owK env i = some xs) : getS env i = .ow (.dic xs) := by
  unfold owK at e
  obtain ⟨d, e1, e2⟩ := bind_inv e
  cases d with
  | dic ys =>
    cases e2
    exact owD_inv e1
  | _ => cases e2
section
variable {K : PySem.W.Frag} {F G H : Hp} {σ : L2.St} {env : Env}
theorem Stt.owL (S : Stt K F G H σ env) {i : Nat} {ds : List D} (e : getS env i = .ow (.lst ds)) : ∃ a xs, σ[i]? = some (some (.ref a)) ∧ H a = some (.lst xs) ∧ RepL K G xs ds := by
  obtain ⟨a, o, h1, h2, h3, _⟩ := S.ow i _ e
  cases o with
  | lst xs => exact ⟨a, xs, h1, h2, h3⟩
  | _ => exact h3.elim
theorem Stt.owK (S : Stt K F G H σ env) {i : Nat} {ds : List (Key × D)} (e : getS env i = .ow (.dic ds)) : ∃ a xs, σ[i]? = some (some (.ref a)) ∧ H a = some (.dK xs) ∧ RepK K G xs ds ∧ G a = none ∧ F a = none := by
  obtain ⟨a, o, h1, h2, h3, h4, h5⟩ := S.ow i _ e
  cases o with
  | dK xs => exact ⟨a, xs, h1, h2, h3, h4, h5⟩
  | _ => exact h3.elim
end
section
variable {Φ : Nat → FS} {fuel : Nat} {X : Cx} {K : PySem.W.Frag} {st : Stmt} {m m2 : MS} {pos : Pos} {e e1 e2 : Expr} {me me1 me2 : ME}
/-! ### methods of owned lists -/
theorem cs_app (i : Nat) {x : Str} {px apos cpos spos : Pos} (h : CE Φ X e me) (hN : X.N[i]? = some x := by rfl) (hv : Vis X.env.scope x := by first | exact Or.inl rfl | exact Or.inr (Or.inl rfl) | exact Or.inr (Or.inr rfl)) (hd : (x == ("__debug__" : Str)) = false := by decide)
    (hcd : (x == ("__classdict__" : Str)) = false := by decide) (hbase : attributeBase (.Name x px) "append" X.env (eval (.Name x px) X.env) = eval (.Name x px) X.env := by rfl)
    (hfew : ((backTo cpos (starEach [e] X.env)).all (fun x => !x.1) && (backToKw cpos (keywordEach [] X.env)).all (fun x => x.1.isSome)
      && decide (([e] : List Expr).length + ([] : List Keyword).length + (if ([] : List Keyword).isEmpty then 0 else 1) < 30)) = true := by rfl)
    (hline : (apos.endLine == cpos.line) = true := by rfl) (hs : starEach [e] X.env = (false, eval e X.env) :: starEach [] X.env := by rfl) (hplain : (backTo cpos (starEach [] X.env)).any (·.1) = false := by rfl)
    (hsw : swapsWith (.Call (.Attribute (.Name x px) "append" apos) [e] [] cpos) none spos.line X.env = pure false := by rfl) :
    CS Φ fuel X (.Expr (.Call (.Attribute (.Name x px) "append" apos) [e] [] cpos) spos) (.app i me) := by
  obtain ⟨t, p, q⟩ := h.ex
  refine ⟨_, ps_expr (pe_bm PySem.F.plainAttrs_list PySem.F.slot_list_append PySem.F.type_list_append mt_append (pv i hN hv hd hcd) (pa_cons p pa_nil hs) hbase hfew hline hs hplain) hsw, ?_⟩
  intro F G H σ env o D S w p
  rw [evS] at w
  obtain ⟨xs0, w0, w⟩ := bind_inv w
  obtain ⟨⟨d, env1⟩, w1, w⟩ := bind_inv w
  obtain ⟨xs, w2, w⟩ := bind_inv w
  obtain ⟨hl, w⟩ := ite_inv w
  cases w
  obtain ⟨a, vs0, h1, h2, _⟩ := S.owL (owL_inv w0)
  refine ⟨.ref a, h1, .inl ⟨rfl, vs0, SqL.of h2⟩, ?_⟩
  refine q.f S w1 fun v G1 H1 S1 g1 r1 => ?_
  obtain ⟨a', vs, h3, h4, h5⟩ := S1.owL (owL_inv w2)
  rw [h1] at h3
  cases h3
  refine ⟨a, vs, v, rfl, rfl, h4, by rw [h5.length]; exact hl, ?_⟩
  exact p σ G1 _ (S1.mut (owL_inv w2) h1 (o' := .lst (vs ++ [v])) (d' := .lst (xs ++ [d])) (h5.append (.cons r1 .nil))) g1 .refl
theorem cs_ext (i : Nat) {x : Str} {px apos cpos spos : Pos} (h : CE Φ X e me) (hN : X.N[i]? = some x := by rfl) (hv : Vis X.env.scope x := by first | exact Or.inl rfl | exact Or.inr (Or.inl rfl) | exact Or.inr (Or.inr rfl)) (hd : (x == ("__debug__" : Str)) = false := by decide)
    (hcd : (x == ("__classdict__" : Str)) = false := by decide) (hbase : attributeBase (.Name x px) "extend" X.env (eval (.Name x px) X.env) = eval (.Name x px) X.env := by rfl)
    (hfew : ((backTo cpos (starEach [e] X.env)).all (fun x => !x.1) && (backToKw cpos (keywordEach [] X.env)).all (fun x => x.1.isSome)
      && decide (([e] : List Expr).length + ([] : List Keyword).length + (if ([] : List Keyword).isEmpty then 0 else 1) < 30)) = true := by rfl)
    (hline : (apos.endLine == cpos.line) = true := by rfl) (hs : starEach [e] X.env = (false, eval e X.env) :: starEach [] X.env := by rfl) (hplain : (backTo cpos (starEach [] X.env)).any (·.1) = false := by rfl)
    (hsw : swapsWith (.Call (.Attribute (.Name x px) "extend" apos) [e] [] cpos) none spos.line X.env = pure false := by rfl) :
    CS Φ fuel X (.Expr (.Call (.Attribute (.Name x px) "extend" apos) [e] [] cpos) spos) (.ext i me) := by
  obtain ⟨t, p, q⟩ := h.ex
  refine ⟨_, ps_expr (pe_bm PySem.F.plainAttrs_list PySem.F.slot_list_extend PySem.F.type_list_extend mt_extend (pv i hN hv hd hcd) (pa_cons p pa_nil hs) hbase hfew hline hs hplain) hsw, ?_⟩
  intro F G H σ env o D S w p
  rw [evS] at w
  obtain ⟨xs0, w0, w⟩ := bind_inv w
  obtain ⟨⟨d, env1⟩, w1, w⟩ := bind_inv w
  cases d with
  | lst ys =>
    obtain ⟨xs, w2, w⟩ := bind_inv w
    obtain ⟨hl, w⟩ := ite_inv w
    cases w
    obtain ⟨a, vs0, h1, h2, _⟩ := S.owL (owL_inv w0)
    refine ⟨.ref a, h1, .inl ⟨rfl, vs0, SqL.of h2⟩, ?_⟩
    refine q.f S w1 fun v G1 H1 S1 g1 r1 => ?_
    obtain ⟨a', vs, h3, h4, h5⟩ := S1.owL (owL_inv w2)
    rw [h1] at h3
    cases h3
    cases r1 with
    | @lst b zs _ hb hz =>
      refine ⟨a, b, vs, zs, rfl, rfl, h4, S1.gh _ _ hb, by rw [h5.length, hz.length]; exact hl, ?_⟩
      exact p σ G1 _ (S1.mut (owL_inv w2) h1 (o' := .lst (vs ++ zs)) (d' := .lst (xs ++ ys)) (h5.append hz)) g1 .refl
  | _ => cases w
theorem ce_popAt (i : Nat) {x : Str} {px apos cpos : Pos} (h : CE Φ X e me) (hN : X.N[i]? = some x := by rfl) (hv : Vis X.env.scope x := by first | exact Or.inl rfl | exact Or.inr (Or.inl rfl) | exact Or.inr (Or.inr rfl)) (hd : (x == ("__debug__" : Str)) = false := by decide)
    (hcd : (x == ("__classdict__" : Str)) = false := by decide) (hbase : attributeBase (.Name x px) "pop" X.env (eval (.Name x px) X.env) = eval (.Name x px) X.env := by rfl)
    (hfew : ((backTo cpos (starEach [e] X.env)).all (fun x => !x.1) && (backToKw cpos (keywordEach [] X.env)).all (fun x => x.1.isSome)
      && decide (([e] : List Expr).length + ([] : List Keyword).length + (if ([] : List Keyword).isEmpty then 0 else 1) < 30)) = true := by rfl)
    (hline : (apos.endLine == cpos.line) = true := by rfl) (hs : starEach [e] X.env = (false, eval e X.env) :: starEach [] X.env := by rfl) (hplain : (backTo cpos (starEach [] X.env)).any (·.1) = false := by rfl) :
    CE Φ X (.Call (.Attribute (.Name x px) "pop" apos) [e] [] cpos) (.popAt i me) := by
  obtain ⟨t, p, q⟩ := h.ex
  refine ⟨_, pe_bm PySem.F.plainAttrs_list PySem.F.slot_list_pop PySem.F.type_list_pop mt_popAt (pv i hN hv hd hcd) (pa_cons p pa_nil hs) hbase hfew hline hs hplain, ?_⟩
  intro F G H σ env env' d0 k Q S w kq
  rw [ev] at w
  obtain ⟨xs0, w0, w⟩ := bind_inv w
  obtain ⟨⟨d, env1⟩, w1, w⟩ := bind_inv w
  obtain ⟨j, w2, w⟩ := bind_inv w
  obtain ⟨xs, w3, w⟩ := bind_inv w
  obtain ⟨⟨b1, b2⟩, w⟩ := ite_inv w
  obtain ⟨l, w4, w⟩ := bind_inv w
  obtain ⟨y, w5, w⟩ := map_inv w
  cases w
  obtain ⟨a, vs0, h1, h2, _⟩ := S.owL (owL_inv w0)
  refine ⟨.ref a, h1, .inl ⟨rfl, vs0, SqL.of h2⟩, ?_⟩
  refine q.f S w1 fun v G1 H1 S1 g1 r1 => ?_
  obtain ⟨a', vs, h3, h4, h5⟩ := S1.owL (owL_inv w3)
  rw [h1] at h3
  cases h3
  have q1 : d = .int j := intOf_inv w2
  subst q1
  cases r1
  obtain ⟨v, hv1, hv2⟩ := h5.get w5
  refine ⟨a, vs, j, l, v, rfl, rfl, h4, b1, b2, by rw [h5.length]; exact w4, hv1, ?_⟩
  exact kq v G1 _ (S1.mut (owL_inv w3) h1 (o' := .lst (vs.eraseIdx l)) (d' := .lst (xs.eraseIdx l)) (h5.eraseIdx l)) g1 hv2
/-! ### stores into owned objects -/
theorem cs_setIx (i : Nat) {x : Str} {px p' : Pos} (hv : CE Φ X e me) (hi : CE Φ X e1 me1) (hN : X.N[i]? = some x := by rfl) (hvis : Vis X.env.scope x := by first | exact Or.inl rfl | exact Or.inr (Or.inl rfl) | exact Or.inr (Or.inr rfl)) (hd : (x == ("__debug__" : Str)) = false := by decide)
    (hcd : (x == ("__classdict__" : Str)) = false := by decide)
    (ha : ∀ v, assign (.Subscript (.Name x px) e1 p') X.env v = (do
      let ov ← holding [v] (eval (.Name x px) X.env)
      let iv ← holding [v, ov] (eval e1 X.env)
      standAt p'
      holding [v, ov, iv] (setItem ov iv v)
      release [v, ov, iv] []) := by intro _; rfl)
    (hs : swapsWithSole [.Subscript (.Name x px) e1 p'] e pos.line X.env = pure false := by rfl) (hw : swappedStores [.Subscript (.Name x px) e1 p'] e X.env = pure none := by rfl)
    (h1 : (assignEach [.Subscript (.Name x px) e1 p'] X.env).map (·.2) = [assign (.Subscript (.Name x px) e1 p') X.env] := by rfl) :
    CS Φ fuel X (.Assign [.Subscript (.Name x px) e1 p'] e pos) (.setIx i me1 me) := by
  obtain ⟨t, p, q⟩ := hv.ex
  obtain ⟨t1, p1, q1⟩ := hi.ex
  refine ⟨_, ps_asg p (pg_sub (pv i hN hvis hd hcd) p1 set_list ha) hs hw h1, ?_⟩
  intro F G H σ env o D S w pp
  rw [evS] at w
  obtain ⟨⟨d, env1⟩, w1, w⟩ := bind_inv w
  obtain ⟨xs0, w0, w⟩ := bind_inv w
  obtain ⟨⟨di, env2⟩, w2, w⟩ := bind_inv w
  obtain ⟨k, w3, w⟩ := bind_inv w
  obtain ⟨xs, w4, w⟩ := bind_inv w
  obtain ⟨j, w5, w⟩ := map_inv w
  cases w
  refine q.f S w1 fun v G1 H1 S1 g1 r1 => ?_
  obtain ⟨a, vs0, h1, _, _⟩ := S1.owL (owL_inv w0)
  refine ⟨.ref a, h1, ?_⟩
  refine q1.f S1 w2 fun y G2 H2 S2 g2 r2 => ?_
  obtain ⟨a', vs, h3, h4, h5⟩ := S2.owL (owL_inv w4)
  rw [h1] at h3
  cases h3
  have qk : di = .int k := intOf_inv w3
  subst qk
  cases r2
  refine ⟨a, vs, k, j, rfl, rfl, h4, by rw [h5.length]; exact w5, ?_⟩
  exact pp σ G2 _ (S2.mut (owL_inv w4) h1 (o' := .lst (vs.set j v)) (d' := .lst (xs.set j d)) (h5.set j (r1.mono g2.same))) (g1.trans g2) .refl
theorem cs_setKey (hu : X.A.units + 1 < cLine) (i : Nat) {x : Str} {px p' : Pos} (hv : CE Φ X e me) (hi : CE Φ X e1 me1) (hN : X.N[i]? = some x := by rfl) (hvis : Vis X.env.scope x := by first | exact Or.inl rfl | exact Or.inr (Or.inl rfl) | exact Or.inr (Or.inr rfl)) (hd : (x == ("__debug__" : Str)) = false := by decide)
    (hcd : (x == ("__classdict__" : Str)) = false := by decide) (hs : swapsWith e (some (.Subscript (.Name x px) e1 p')) pos.line X.env = pure false := by rfl) :
    CS Φ fuel X (.Assign [.Subscript (.Name x px) e1 p'] e pos) (.setKey i me1 me) := by
  obtain ⟨t, p, q⟩ := hv.ex
  obtain ⟨t1, p1, q1⟩ := hi.ex
  refine ⟨_, ps_dput hu (pv i hN hvis hd hcd) p1 p hs, ?_⟩
  intro F G H σ env o D S w pp
  rw [evS] at w
  obtain ⟨⟨d, env1⟩, w1, w⟩ := bind_inv w
  obtain ⟨xs0, w0, w⟩ := bind_inv w
  obtain ⟨⟨di, env2⟩, w2, w⟩ := bind_inv w
  obtain ⟨k, w3, w⟩ := bind_inv w
  obtain ⟨kvs, w4, w⟩ := bind_inv w
  obtain ⟨hl, w⟩ := ite_inv w
  cases w
  refine q.f S w1 fun v G1 H1 S1 g1 r1 => ?_
  obtain ⟨a, vs0, h1, _⟩ := S1.owK (owK_inv w0)
  refine ⟨.ref a, h1, ?_⟩
  refine q1.f S1 w2 fun y G2 H2 S2 g2 r2 => ?_
  obtain ⟨a', vs, h3, h4, h5, _⟩ := S2.owK (owK_inv w4)
  rw [h1] at h3
  cases h3
  refine ⟨a, _, rfl, .inl ⟨vs, k, h4, key_rep r2 w3, by rw [h5.length]; exact hl, rfl⟩, ?_⟩
  exact pp σ G2 _ (S2.mut (owK_inv w4) h1 (o' := .dK (L2.putK vs k v)) (d' := .dic (putD kvs k d)) (putK_rep h5 (r1.mono g2.same) k)) (g1.trans g2) .refl

/-! ### while -/
theorem cs_while {body : List Stmt} (hp : PassesOwn (model X.prog X.w) X.A X.env X.xe) (hc : CT Φ X e me) (hb : CSs Φ fuel X body m) : CS Φ fuel X (.While e body [] pos) (.whl me m) := by
  obtain ⟨tc, pc, qc⟩ := hc.ex
  obtain ⟨tb, pb, qb⟩ := hb.ex
  refine ⟨_, ps_while hp pc pb, ?_⟩
  intro F G H σ env o D S w p
  rw [evS] at w
  refine ⟨fun n σ' H' => ∃ G' env', Stt X.K F G' H' σ' env' ∧ Grow F G G' ∧ OnlyAt (wr m) σ σ' ∧ whileGo (fun e => blOf (ev Φ me e)) (evS Φ fuel m) n env' = some o, ⟨fuel, G, env, S, .refl, .refl, w⟩, ?_⟩
  rintro n σ1 H1 ⟨G1, env1, S1, g1, o1, w1⟩
  cases n with
  | zero =>
    rw [whileGo] at w1
    cases w1
  | succ n =>
    rw [whileGo] at w1
    obtain ⟨⟨c, env2⟩, w2, w1⟩ := bind_inv w1
    refine qc S1 w2 fun G2 H2 S2 g2 => ?_
    have g12 := g1.trans g2
    cases c with
    | false =>
      cases w1
      exact iteF (p σ1 G2 H2 S2 g12 o1)
    | true =>
      obtain ⟨ob, w3, w1⟩ := bind_inv w1
      refine iteT ⟨fun σ' H' => ∃ G' env', Stt X.K F G' H' σ' env' ∧ Grow F G G' ∧ OnlyAt (wr m) σ σ' ∧ whileGo (fun e => blOf (ev Φ me e)) (evS Φ fuel m) n env' = some o, fun σ' H' h => ⟨n, Nat.lt_succ_self n, h⟩, ?_⟩
      refine qb S2 w3 ?_
      cases ob with
      | nx e' => exact fun σ' G' H' S' g q => ⟨G', e', S', g12.trans g, o1.two q fun i z => z, w1⟩
      | ct e' => exact fun σ' G' H' S' g q => ⟨G', e', S', g12.trans g, o1.two q fun i z => z, w1⟩
      | bk e' =>
        cases w1
        exact fun σ' G' H' S' g q => p σ' G' H' S' (g12.trans g) (o1.two q fun i z => z)
      | rt d k e' =>
        cases w1
        exact fun v σ' G' H' S' g q r => p v σ' G' H' S' (g12.trans g) (o1.two q fun i z => z) r

/-! ### for -/
theorem for_core {J : It} {W : Hp → Prop} {Y : Nat → Hp → V → Hp → Prop} {g : TG} {tb : TS} {t : MT} {ds : List D} (hg : EvG K g t) (hb : EvS Φ fuel K tb m) (wk : Walk J ds.length W Y) {F G H : Hp} {σ : L2.St} {env : Env} {o : Out} {D : Ends}
    (hW : ∀ H2, Same F H2 → Same G H2 → W H2) (hY : ∀ i H2 x H3, Same F H2 → Same G H2 → Y i H2 x H3 → ItemOk K G ds i H2 x H3) (S : Stt K F G H σ env) (w : forGo (asgT t) (evS Φ fuel m) ds env = some o) (p : Post K F G D σ (slotsT t ++ wr m) o) :
    ∃ W : Nat → Nat → L2.St → Hp → Prop, (∃ m, W 0 m σ H) ∧ ∀ i m σ H, W i m σ H →
      (J.stop i H ∧ D.nx σ H) ∨ (J.go i H ∧ ∃ N : L2.St → Hp → Prop, (∀ σ' H', N σ' H' → ∃ m', m' < m ∧ W (i + 1) m' σ' H') ∧ ∀ x H', J.yld i H x H' → g x σ H' fun σ2 H2 => tb { D with nx := N, ct := N, bk := D.nx } σ2 H2) := by
  refine for_it wk (fun i σ' H' => ∃ G' env', Stt K F G' H' σ' env' ∧ Grow F G G' ∧ OnlyAt (slotsT t ++ wr m) σ σ' ∧ forGo (asgT t) (evS Φ fuel m) (ds.drop i) env' = some o) ⟨G, env, S, .refl, .refl, w⟩ ?_ ?_ ?_
  · rintro i σ' H' hi ⟨G', env', S', g', _⟩
    exact hW H' S'.fh (g'.same.trans S'.gh)
  · rintro i x σ1 H1 H2 hi ⟨G1, env1, S1, g1, o1, w1⟩ y
    obtain ⟨d, hdi, hit⟩ := hY i H1 x H2 S1.fh (g1.same.trans S1.gh) y
    have hdrop : ds.drop i = d :: ds.drop (i + 1) := by
      obtain ⟨h1, h2⟩ := List.getElem?_eq_some_iff.mp hdi
      rw [← h2]
      exact List.drop_eq_getElem_cons h1
    rw [hdrop, forGo] at w1
    obtain ⟨env2, e5, w1⟩ := bind_inv w1
    obtain ⟨ob, e6, w1⟩ := bind_inv w1
    have item : ∃ G3, Stt K F G3 H2 σ1 env1 ∧ Grow F G1 G3 ∧ Rep K G3 x d := by
      rcases hit with ⟨rfl, hx⟩ | ⟨T, vs, es, rfl, hT, rfl, rfl, hx⟩
      · exact ⟨G1, S1, .refl, hx.mono g1.same⟩
      · obtain ⟨S3, g3⟩ := S1.allocG (o := .tup vs) hT
        exact ⟨_, S3, g3, .tup (SqT.of upd_same) (hx.mono (g1.same.trans g3.same))⟩
    obtain ⟨G3, S3, g3, hx⟩ := item
    have g13 := g1.trans g3
    refine hg S3 hx e5 fun σ4 S4 o4 => ?_
    have o14 : OnlyAt (slotsT t ++ wr m) σ σ4 := o1.two (o4.weak fun i z => List.mem_append_left _ z) fun i z => z
    refine hb S4 e6 ?_
    cases ob with
    | nx e' => exact fun σ' G' H' S' g q => ⟨G', e', S', g13.trans g, o14.two (q.weak fun i z => List.mem_append_right _ z) fun i z => z, w1⟩
    | ct e' => exact fun σ' G' H' S' g q => ⟨G', e', S', g13.trans g, o14.two (q.weak fun i z => List.mem_append_right _ z) fun i z => z, w1⟩
    | bk e' =>
      cases w1
      exact fun σ' G' H' S' g q => p σ' G' H' S' (g13.trans g) (o14.two (q.weak fun i z => List.mem_append_right _ z) fun i z => z)
    | rt d k e' =>
      cases w1
      exact fun v σ' G' H' S' g q r => p v σ' G' H' S' (g13.trans g) (o14.two (q.weak fun i z => List.mem_append_right _ z) fun i z => z) r
  · rintro σ1 H1 ⟨G1, env1, S1, g1, o1, w1⟩
    rw [List.drop_length, forGo] at w1
    cases w1
    exact p σ1 G1 H1 S1 g1 o1
theorem cs_for {tg iter : Expr} {body : List Stmt} {t : MT} {mi : MI} (hp : PassesOwn (model X.prog X.w) X.A X.env X.xe) (hc : X.calm = true) (hi : CI Φ X tg iter mi) (hg : CG X tg t) (hb : CSs Φ fuel X body m)
    (hs : ∀ x, foldedSetIterable iter X.env x = pure x := by intro _; rfl) : CS Φ fuel X (.For tg iter body [] pos) (.forr t mi m) := by
  obtain ⟨wi, pi, ei⟩ := hi.ex
  obtain ⟨g, pg, eg⟩ := hg.ex
  obtain ⟨tb, pb, qb⟩ := hb.ex
  refine ⟨_, ps_for hp hc pi pg pb hs, ?_⟩
  intro F G H σ env o D S w p
  rw [evS] at w
  obtain ⟨⟨ds, env1⟩, w1, w⟩ := bind_inv w
  refine ei S w1 fun J G1 H1 W Y S1 g1 wk hW hY _ => ?_
  exact for_core eg qb wk (fun H2 _ h => hW H2 h) (fun i H2 x H3 _ h y => hY i H2 x H3 h y) S1 w (p.g g1 fun i z => z)
/-! ### over an owned dict's items -/
theorem Stt.lock {F G H : Hp} {σ : L2.St} {env : Env} (S : Stt K F G H σ env) {i : Nat} {a : Addr} {d : D} {o' : HO} (h : getS env i = .ow d) (ha : σ[i]? = some (some (.ref a))) (hg : G a = none) (hf : F a = none) : Stt K (upd F a o') G (upd H a o') σ (env.set i .un) := by
  have S1 := S.forget i
  have hl : i < env.length := getS_lt (by rw [h]; exact nofun)
  refine ⟨fun b u q => ?_, fun b u q => ?_, S1.len, S1.im, fun j e q => ?_, S1.dj⟩
  · rw [upd_ne (ne_of_none q hg)]
    exact S.gh _ _ q
  · by_cases hb : b = a
    · subst hb
      rw [upd_same] at q ⊢
      exact q
    · rw [upd_ne hb] at q ⊢
      exact S.fh _ _ q
  · obtain ⟨b, u, h1, h2, h3, h4, h5⟩ := S1.ow j e q
    have hb : b ≠ a := fun z => by
      rw [z] at h1
      have hji : j ≠ i := fun z2 => by
        rw [z2, getS_set_same hl] at q
        cases q
      rw [getS_set_ne (Ne.symm hji)] at q
      exact hji (S.dj j i e d a q h h1 ha)
    exact ⟨b, u, h1, by rw [upd_ne hb]; exact h2, h3, h4, by rw [upd_ne hb]; exact h5⟩
theorem Stt.unlock {F G G' H' : Hp} {σ' : L2.St} {env' : Env} {a : Addr} {o1 u : HO} (S : Stt K (upd F a o1) G' H' σ' env') (g : Grow (upd F a o1) G G') (hg : G a = none) (hf : F a = none) : H' a = some o1 ∧ Stt K F G' (upd H' a u) σ' env' ∧ Grow F G G' :=
  ⟨S.fh _ _ upd_same, (S.held (o' := u) (g.held hg)).frame (same_new hf), g.frame (same_new hf)⟩
theorem cs_forD (i : Nat) {x : Str} {px apos cpos tpos : Pos} {elts : List Expr} {kk : Nat} {body : List Stmt} {t : MT} (hp : PassesOwn (model X.prog X.w) X.A X.env X.xe) (hc : X.calm = true) (hg : CG X (.Tuple elts kk tpos) t) (hb : CSs Φ fuel X body m)
    (hN : X.N[i]? = some x := by rfl) (hv : Vis X.env.scope x := by first | exact Or.inl rfl | exact Or.inr (Or.inl rfl) | exact Or.inr (Or.inr rfl)) (hd : (x == ("__debug__" : Str)) = false := by decide) (hcd : (x == ("__classdict__" : Str)) = false := by decide)
    (hbase : attributeBase (.Name x px) "items" X.env (eval (.Name x px) X.env) = eval (.Name x px) X.env := by rfl) (hline : (apos.endLine == cpos.line) = true := by rfl)
    (hs : ∀ y, foldedSetIterable (.Call (.Attribute (.Name x px) "items" apos) [] [] cpos) X.env y = pure y := by intro _; rfl) :
    CS Φ fuel X (.For (.Tuple elts kk tpos) (.Call (.Attribute (.Name x px) "items" apos) [] [] cpos) body [] pos) (.forD i t m) := by
  obtain ⟨g, pg, eg⟩ := hg.ex
  obtain ⟨tb, pb, qb⟩ := hb.ex
  refine ⟨_, ps_lock (ps_for hp hc (pi_items (pv i hN hv hd hcd) hbase hline) pg pb hs), ?_⟩
  intro F G H σ env o D S w p
  rw [evS] at w
  obtain ⟨kvs, w1, w⟩ := bind_inv w
  obtain ⟨a, ks, h1, h2, h3, h4, h5⟩ := S.owK (owK_inv w1)
  refine ⟨a, .dK ks, h2, trivial, fun od => ?_⟩
  refine ⟨.ref a, h1, a, od, ks, rfl, upd_same, ?_⟩
  have SL : Stt X.K (upd F a (.frz od (.dK ks))) G (upd H a (.frz od (.dK ks))) σ (env.set i .un) := S.lock (owK_inv w1) h1 h4 h5
  have hlen : ks.length = (kvs.map fun p => PL.D.tup [keyOfD p.1, p.2]).length := by rw [List.length_map]; exact h3.length
  refine for_core eg qb (walk_cast (walk_items (kvs := ks)) hlen) (fun H2 hf _ => hf _ _ upd_same) (fun j H2 y H3 _ hG yy => ?_) SL w ?_
  · obtain ⟨T, xk, xv, rfl, hT, rfl, hk, hvv⟩ := yy
    have hk : (ks[j]?).map (fun kv => kV kv.1) = some xk := hk
    have hvv : (ks[j]?).map Prod.snd = some xv := hvv
    have conv : ∀ (n : Nat) {kv : List (Key × V)} {kd : List (Key × PL.D)}, RepK X.K G kv kd → ∀ {p : Key × V}, kv[n]? = some p → ∃ d, kd[n]? = some (p.1, d) ∧ Rep X.K G p.2 d := by
      intro n
      induction n with
      | zero =>
        intro kv kd r p e
        cases r with
        | nil => simp at e
        | cons r1 t1 =>
          rw [List.getElem?_cons_zero] at e
          cases e
          exact ⟨_, rfl, r1⟩
      | succ n ih =>
        intro kv kd r p e
        cases r with
        | nil => simp at e
        | cons r1 t1 =>
          rw [List.getElem?_cons_succ] at e
          obtain ⟨d, q1, q2⟩ := ih t1 e
          exact ⟨d, by rw [List.getElem?_cons_succ]; exact q1, q2⟩
    cases hp1 : ks[j]? with
    | none => rw [hp1] at hk; cases hk
    | some pr =>
      rw [hp1] at hk hvv
      cases hk
      cases hvv
      obtain ⟨d, q1, q2⟩ := conv j h3 hp1
      refine ⟨.tup [keyOfD pr.1, d], by rw [List.getElem?_map, q1]; rfl, .inr ⟨T, _, _, rfl, hT, rfl, rfl, .cons ?_ (.cons q2 .nil)⟩⟩
      obtain ⟨pk, pvv⟩ := pr
      cases pk with
      | inl n => exact .int n
      | inr s => exact .str s
  · cases o with
    | nx e' =>
      intro σ' G' H' S' g' q
      obtain ⟨z1, z2, z3⟩ := S'.unlock (u := .dK ks) g' h4 h5
      exact ⟨z1, p σ' G' _ z2 z3 q⟩
    | bk e' =>
      intro σ' G' H' S' g' q
      obtain ⟨z1, z2, z3⟩ := S'.unlock (u := .dK ks) g' h4 h5
      exact ⟨z1, p σ' G' _ z2 z3 q⟩
    | ct e' =>
      intro σ' G' H' S' g' q
      obtain ⟨z1, z2, z3⟩ := S'.unlock (u := .dK ks) g' h4 h5
      exact ⟨z1, p σ' G' _ z2 z3 q⟩
    | rt d k e' =>
      intro v σ' G' H' S' g' q r
      obtain ⟨z1, z2, z3⟩ := S'.unlock (u := .dK ks) g' h4 h5
      refine ⟨z1, p v σ' G' _ z2 z3 q ?_⟩
      cases k with
      | fz => exact r
      | sl j => exact r
      | nw =>
        obtain ⟨b, rfl, n⟩ := r
        have hba : b ≠ a := fun z => by
          have := n.f
          rw [z, upd_same] at this
          cases this
        obtain ⟨u, q1, q2⟩ := n.ex
        exact ⟨b, rfl, ⟨⟨u, by rw [upd_ne hba]; exact q1, q2⟩, n.g, by have := n.f; rw [upd_ne hba] at this; exact this, n.own⟩⟩
end
end PL
set_option maxHeartbeats 4000000
/-! Pure layer 12: sorting, least, greatest; displays of dicts; rows turned round. -/
namespace PL
open PySem PySem.Spec PyProof.Rows L2

/-! ### sorted -/
section
variable {X : Cx}
theorem dp_all {K : PySem.W.Frag} {H : Hp} : ∀ {xs : List V} {ps : List PyData}, DpAll K H xs ps → xs.length = ps.length
  | _, _, .nil => rfl
  | _, _, .cons _ t => congrArg (· + 1) (dp_all t)
/-- an item with what it reads as, and its plain datum -/
abbrev It3 := V × D
def encD (p : It3) : PyData := toP p.2
theorem each_dp {pins : List (Addr × Obj)} {σ : L2.St} {H : Hp} {s : Shared} (I : Inv X pins σ H s) : ∀ {ps : List It3} {us : List Value}, (∀ p ∈ ps, Dp X.K H p.1 (encD p)) → Vals (ps.map (·.1)) us →
    PySem.W.EachIs (fun v (b : It3) => RelV b.1 v) us ps ∧ PySem.W.EachIs (fun v (b : It3) => ∃ as, Reads s.heap v (encD b) as) us ps
  | [], _, _, .nil => ⟨.nil, .nil⟩
  | p :: ps, _, h, .cons r t => by
    obtain ⟨e1, e2⟩ := each_dp I (fun q hq => h q (List.mem_cons_of_mem _ hq)) t
    exact ⟨.cons r e1, .cons (Dp.reads I _ _ _ (h p List.mem_cons_self) r) e2⟩
theorem each_vals : ∀ {ps : List It3} {us : List Value}, PySem.W.EachIs (fun v (b : It3) => RelV b.1 v) us ps → Vals (ps.map (·.1)) us
  | [], _, .nil => .nil
  | _ :: _, _, .cons r t => .cons r (each_vals t)
def rSortD (K : PySem.W.Frag) : List V → Hp → VK → Prop := fun vs H Q => ∃ (a : Addr) (ps : List It3), vs = [V.ref a] ∧ (SqL K H a (ps.map (·.1)) ∨ SqT K H a (ps.map (·.1))) ∧ (∀ p ∈ ps, Dp K H p.1 (encD p)) ∧ PySem.W.AllAlike (ps.map encD) ∧ PySem.W.Sortable (ps.map encD) ∧
  ps.length ≤ sizeLine ∧ (∀ p ∈ ps, (encD p).depth ≤ 60) ∧ ∀ q, H q = none → Q (.ref q) (upd H q (.lst ((ps.mergeSort (PySem.W.dataLe false encD)).map (·.1))))
theorem cr_sortD (hu : X.A.units + 70 < cLine) : CallR X (.builtin "sorted") (rSortD X.K) := by
  intro pins s σ H vs us Q I r h
  obtain ⟨a, ps, rfl, hs, hd, hal, hk, hL, hdep, q⟩ := h
  rw [Vals.ref1 r]
  have seq : ∃ (T : String) (o : Obj) (its : List Value) (n : Nat), (T = "list" ∨ T = "tuple") ∧ s.heap.get? a = some o ∧ o.cls = .type T ∧ o.data = .seq its.toArray n ∧ Vals (ps.map (·.1)) its := by
    rcases hs with hs | hs
    · obtain ⟨its, rv, p, _⟩ := I.list hs
      obtain ⟨o, h1, h2, n, h3⟩ := p.isList
      exact ⟨"list", o, its, n, .inl rfl, h1, h2, h3, rv⟩
    · obtain ⟨its, rv, ⟨o, h1, h2, n, h3⟩, _⟩ := I.tuple hs
      exact ⟨"tuple", o, its, n, .inr rfl, h1, h2, h3, rv⟩
  obtain ⟨T, o, its, n, hT, ho, hc, hdat, rv⟩ := seq
  have hlen : its.length = ps.length := by rw [← rv.length, List.length_map]
  refine Calls.call_function_entry kind_sorted plain_sorted entry_sorted (args_sorted1 _) ?_
  unfold Builtin.«sorted»
  refine wpAny_bind (m := checkCount "sorted" 1 1 _) (wpAny_pure ?_)
  refine wpAny_bind (wpAny_collect_seq (hsz := by rw [List.size_toArray, hlen]; exact hL) a hT ho hc hdat fun h' k1 => ?_)
  refine wpAny_bind (wpAny_newList ?_ (by show its.toArray.toList.length ≤ sizeLine; rw [hlen]; exact hL))
  have hoL : (h'.push (seqObj "list" its.toArray 0)).get? h'.objs.size = some (seqObj "list" its.toArray 0) := Heap.get?_push_size _ rfl
  obtain ⟨e1, e2⟩ := each_dp I hd rv
  have e2' : PySem.W.EachIs (fun v (b : It3) => ∃ as, Reads (h'.push (seqObj "list" its.toArray 0)) v (encD b) as ∧ h'.objs.size ∉ as) its ps := e2.mono fun v b ⟨as, rd⟩ => by
    have rd' : Reads h' v (encD b) as := Reads.keeps k1 rd
    refine ⟨as, Reads.keeps (fun _ _ => Heap.get?_push_of_some _) rd', fun hm => ?_⟩
    obtain ⟨u, hu'⟩ := PyProof.On.reads_mem_get rd' _ hm
    exact absurd (Heap.lt_size hu') (Nat.lt_irrefl _)
  refine wpAny_bind (wpAny_holding (PySem.W.list_sort_data (s := { s with heap := h'.push (seqObj "list" its.toArray 0) }) (vs := its) (n := 0) hoL e1 e2' hal hk hL (fun b hb => ?_) fun out hol eo => ?_))
  · have := hdep b hb
    show X.A.in1.units + 1 + (encD b).depth < cLine
    have hin : X.A.in1.units ≤ X.A.units + 3 := by
      first | (show X.A.units + 1 ≤ X.A.units + 3; omega) | (show X.A.units ≤ X.A.units + 3; omega) | (show X.A.units + 2 ≤ X.A.units + 3; omega) | (show X.A.units + 3 ≤ X.A.units + 3; omega)
    omega
  · obtain ⟨c, hcc⟩ := sortedHeap_at (vs := its) (out := out.toArray) hoL
    have hn : H h'.objs.size = none := (I.hok.kept k1).fresh (Nat.le_refl _)
    refine wpAny_pure ⟨_, rfl, .ref h'.objs.size, _, I.laidN (t' := s.toks) (o := .lst ((ps.mergeSort (PySem.W.dataLe false encD)).map (·.1))) (fun b u e => ?_) (PySem.fresh_in k1) hn ⟨?_, out, c, each_vals eo, hcc⟩, rfl, q _ hn⟩
    · have q1 := k1 b u e
      have hlt := Heap.lt_size q1
      rw [sortedHeap_old (Nat.ne_of_lt hlt) (by rw [size_push']; exact Nat.lt_succ_of_lt hlt)]
      exact Heap.get?_push_of_some _ q1
    · rw [List.length_map, List.length_mergeSort]
      exact hL

theorem zip_fst {K : PySem.W.Frag} {G : Hp} : ∀ {vs : List V} {ds : List D}, RepL K G vs ds → (vs.zip ds).map (·.1) = vs ∧ (vs.zip ds).map (·.2) = ds ∧ ∀ p ∈ vs.zip ds, Rep K G p.1 p.2
  | _, _, .nil => ⟨rfl, rfl, fun _ h => nomatch h⟩
  | _, _, .cons r t => by
    obtain ⟨h1, h2, h3⟩ := zip_fst t
    refine ⟨by rw [List.zip_cons_cons, List.map_cons, h1], by rw [List.zip_cons_cons, List.map_cons, h2], fun p hp => ?_⟩
    rw [List.zip_cons_cons] at hp
    rcases List.mem_cons.mp hp with rfl | hp
    · exact r
    · exact h3 p hp
theorem repL_of {K : PySem.W.Frag} {G : Hp} : ∀ {ps : List It3}, (∀ p ∈ ps, Rep K G p.1 p.2) → RepL K G (ps.map (·.1)) (ps.map (·.2))
  | [], _ => .nil
  | p :: ps, h => .cons (h p List.mem_cons_self) (repL_of fun q hq => h q (List.mem_cons_of_mem _ hq))
theorem okS_inv {xs : List D} (h : okS xs = true) : (∀ x ∈ xs, okN 60 x = true) ∧ PySem.W.AllAlike (xs.map toP) ∧ PySem.W.Sortable (xs.map toP) := by
  unfold okS at h
  rw [Bool.and_eq_true, Bool.and_eq_true, Bool.or_eq_true] at h
  obtain ⟨h1, h2, h3⟩ := h
  refine ⟨fun x hx => List.all_eq_true.mp h1 x hx, fun d hd d' hd' => ?_, ?_⟩
  · obtain ⟨x, hx, rfl⟩ := List.mem_map.mp hd
    obtain ⟨y, hy, rfl⟩ := List.mem_map.mp hd'
    exact List.all_eq_true.mp (List.all_eq_true.mp h2 x hx) y hy
  · rcases h3 with h3 | h3
    · refine .inl fun d hd => ?_
      obtain ⟨x, hx, rfl⟩ := List.mem_map.mp hd
      have := List.all_eq_true.mp h3 x hx
      cases x with
      | tup ys =>
        cases ys with
        | nil => simp at this
        | cons y ys => exact ⟨toP y, toPL ys, by simp only [toP, toPL]⟩
      | _ => simp at this
    · refine .inr fun d hd => ?_
      obtain ⟨x, hx, rfl⟩ := List.mem_map.mp hd
      have := List.all_eq_true.mp h3 x hx
      have hk := List.all_eq_true.mp h1 x hx
      cases x with
      | non => simp at this
      | tup ys => simp at this
      | dic ys => simp [okN] at hk
      | scr ys => simp [okN] at hk
      | _ => exact ⟨by simp [toP], fun xs => by simp [toP]⟩
theorem b_sorted (hu : X.A.units + 70 < cLine) (hm : X.mg "sorted" = none) : Bi X "sorted" .sorted := by
  refine ⟨_, .fn "sorted", cr_sortD hu, bs_one rfl ?_, hm, by decide +kernel, by decide, by decide⟩
  intro F G H σ env v x d nw Q S t e q
  obtain ⟨xs, e1, e2⟩ := bind_inv (show (seqOf x).bind (fun xs => (sortD xs).map fun ys => (D.lst ys, true)) = _ from e)
  obtain ⟨ys, e3, e4⟩ := map_inv e2
  cases e4
  unfold sortD at e3
  obtain ⟨⟨h1, h2⟩, e3⟩ := ite_inv e3
  cases e3
  obtain ⟨a, vs, rfl, hs, hl⟩ := t.seq S.gh e1
  obtain ⟨k1, k2, k3⟩ := okS_inv h1
  obtain ⟨z1, z2, z3⟩ := zip_fst hl
  have em : (vs.zip xs).map encD = xs.map toP := by
    conv => rhs; rw [← z2]
    rw [List.map_map]
    rfl
  have mem2 : ∀ p ∈ vs.zip xs, p.2 ∈ xs := fun p hp => by
    rw [← z2]
    exact List.mem_map.mpr ⟨p, hp, rfl⟩
  refine ⟨a, vs.zip xs, rfl, by rw [z1]; exact hs, fun p hp => Dp.of_rep 60 ((z3 p hp).mono S.gh) (k1 _ (mem2 p hp)), by rw [em]; exact k2, by rw [em]; exact k3, ?_, fun p hp => (okN_canLay 60 _ (k1 _ (mem2 p hp))).2, fun p hp => ?_⟩
  · have := congrArg List.length z2
    rw [List.length_map] at this
    rw [this]
    exact h2
  · refine q.new S hp (o := .lst _) ?_
    have ms : ((vs.zip xs).mergeSort (PySem.W.dataLe false encD)).map (·.2) = xs.mergeSort (PySem.W.dataLe false toP) := by
      conv => rhs; rw [← z2]
      exact List.map_mergeSort fun a _ b _ => rfl
    show RepL X.K G _ _
    rw [← ms]
    exact repL_of fun p hp => z3 p (List.mem_mergeSort.mp hp)

/-! ### least, greatest -/
theorem toP_inj : ∀ (n : Nat) {x y : D}, okN n x = true → okN n y = true → toP x = toP y → x = y := by
  intro n
  induction n with
  | zero =>
    intro x y hx hy e
    cases x <;> cases y <;> first | (simp [okN] at hx; done) | (simp [okN] at hy; done) | (simp [toP] at e; done) | rfl | (simp only [toP, PyData.bool.injEq, PyData.int.injEq, PyData.str.injEq] at e; rw [e])
  | succ n ih =>
    intro x y hx hy e
    have all : ∀ {xs ys : List D}, xs.all (okN n) = true → ys.all (okN n) = true → toPL xs = toPL ys → xs = ys := by
      intro xs
      induction xs with
      | nil => intro ys _ _ e; cases ys with
        | nil => rfl
        | cons y ys => simp [toPL] at e
      | cons x xs ihx => intro ys h1 h2 e; cases ys with
        | nil => simp [toPL] at e
        | cons y ys =>
          rw [List.all_cons, Bool.and_eq_true] at h1 h2
          simp only [toPL, List.cons.injEq] at e
          rw [ih h1.1 h2.1 e.1, ihx h1.2 h2.2 e.2]
    cases x <;> cases y <;> first | (simp [okN] at hx; done) | (simp [okN] at hy; done) | (simp [toP] at e; done) | rfl | (simp only [toP, PyData.bool.injEq, PyData.int.injEq, PyData.str.injEq] at e; rw [e]) | skip
    · simp only [toP, PyData.list.injEq] at e
      rw [all (by simpa [okN] using hx) (by simpa [okN] using hy) e]
    · simp only [toP, PyData.tuple.injEq] at e
      rw [all (by simpa [okN] using hx) (by simpa [okN] using hy) e]
/-- what min and max ask and give: the value is an item that reads as p -/
def rBestD (K : PySem.W.Frag) (best : PyData → List PyData → PyData) : List V → Hp → VK → Prop := fun vs H Q => ∃ (a : Addr) (xs : List V) (p : PyData) (ps : List PyData), vs = [V.ref a] ∧ (SqL K H a xs ∨ SqT K H a xs) ∧ DpAll K H xs (p :: ps) ∧
  PySem.W.AlikeAll (p :: ps) ∧ PyData.depthAll (p :: ps) ≤ 60 ∧ ∀ (i : Nat) (v : V), xs[i]? = some v → (p :: ps)[i]? = some (best p ps) → Q v H
theorem dpAll_get {K : PySem.W.Frag} {H : Hp} : ∀ {xs : List V} {ps : List PyData}, DpAll K H xs ps → ∀ (i : Nat) {v : V}, xs[i]? = some v → ∃ p, ps[i]? = some p ∧ Dp K H v p
  | _, _, .nil, i, v, e => by simp at e
  | _, _, .cons r t, 0, v, e => by
    rw [List.getElem?_cons_zero] at e
    cases e
    exact ⟨_, rfl, r⟩
  | _, _, .cons r t, i + 1, v, e => by
    rw [List.getElem?_cons_succ] at e
    exact dpAll_get t i e
theorem vals_get' : ∀ {xs : List V} {us : List Value}, Vals xs us → ∀ (i : Nat) {u : Value}, us[i]? = some u → ∃ x, xs[i]? = some x ∧ RelV x u
  | _, _, .nil, i, u, e => by simp at e
  | _, _, .cons r t, 0, u, e => by
    rw [List.getElem?_cons_zero] at e
    cases e
    exact ⟨_, rfl, r⟩
  | _, _, .cons r t, i + 1, u, e => by
    rw [List.getElem?_cons_succ] at e
    exact vals_get' t i e
theorem best_mem (f : PyData → PyData → Bool) : ∀ (xs : List PyData) (x : PyData), xs.foldl (fun a y => if f y a = true then y else a) x ∈ x :: xs
  | [], x => List.mem_cons_self
  | y :: ys, x => by
    rw [List.foldl_cons]
    have := best_mem f ys (if f y x = true then y else x)
    rcases List.mem_cons.mp this with e | e
    · rw [e]
      split
      · exact List.mem_cons_of_mem _ List.mem_cons_self
      · exact List.mem_cons_self
    · exact List.mem_cons_of_mem _ (List.mem_cons_of_mem _ e)
theorem best_end {pins : List (Addr × Obj)} {σ : L2.St} {H : Hp} {s : Shared} {xs : List V} {its : List Value} {p : PyData} {ps : List PyData} {b : PyData} {Q : VK} (I : Inv X pins σ H s) (rv : Vals xs its) (hd : DpAll X.K H xs (p :: ps)) (ha : PySem.W.AlikeAll (p :: ps)) (hb : b ∈ p :: ps)
    (q : ∀ (i : Nat) (v : V), xs[i]? = some v → (p :: ps)[i]? = some b → Q v H) {i : Nat} {v : Value} {h' : Heap} {tk : Nat} {bs : List Addr} (hv : its.toArray[i]? = some v) (hr : Reads h' v b bs) (k : ∀ c o, s.heap.get? c = some o → h'.get? c = some o) : EP X pins σ Q v { s with heap := h', toks := tk } := by
  have hv' : its[i]? = some v := by simpa using hv
  obtain ⟨x, hx, rx⟩ := vals_get' rv i hv'
  obtain ⟨d, hd1, hd2⟩ := dpAll_get hd i hx
  obtain ⟨as, r1⟩ := Dp.reads I _ _ _ hd2 rx
  have e : d = b := PySem.W.alike_unique d b v _ _ (ha.1 d (List.mem_of_getElem? hd1) b hb) (Reads.keeps k r1) hr
  rw [e] at hd1
  exact ⟨x, H, I.kept k, rx, q i x hx hd1⟩
theorem cr_minD (hc : X.calm = true) (hu : X.A.units + 70 < cLine) : CallR X (.builtin "min") (rBestD X.K PySem.W.minD) := by
  intro pins s σ H vs us Q I r h
  obtain ⟨a, xs, p, ps, rfl, hs, hd, ha, hdep, q⟩ := h
  rw [Vals.ref1 r]
  rcases hs with hs | hs
  · obtain ⟨its, rv, pl, _⟩ := I.list hs
    obtain ⟨as, hr⟩ := Dp.readsAll I _ _ _ hd rv
    exact PySem.W.min_list_data (I.ok.hd hc) pl.isList (by simpa using hr) ha (by omega) fun i v h' tk bs e1 e2 e3 => best_end I rv hd ha (best_mem (fun y a => PySem.W.dataLt y a) ps p) q e1 e2 e3
  · obtain ⟨its, rv, pl, _⟩ := I.tuple hs
    obtain ⟨as, hr⟩ := Dp.readsAll I _ _ _ hd rv
    exact PySem.W.min_tuple_data (I.ok.hd hc) (show s.heap.IsTuple a its.toArray from pl) (by simpa using hr) ha (by omega) fun i v h' tk bs e1 e2 e3 => best_end I rv hd ha (best_mem (fun y a => PySem.W.dataLt y a) ps p) q e1 e2 e3
theorem cr_maxD (hc : X.calm = true) (hu : X.A.units + 70 < cLine) : CallR X (.builtin "max") (rBestD X.K PySem.W.maxD) := by
  intro pins s σ H vs us Q I r h
  obtain ⟨a, xs, p, ps, rfl, hs, hd, ha, hdep, q⟩ := h
  rw [Vals.ref1 r]
  rcases hs with hs | hs
  · obtain ⟨its, rv, pl, _⟩ := I.list hs
    obtain ⟨as, hr⟩ := Dp.readsAll I _ _ _ hd rv
    exact PySem.W.max_list_data (I.ok.hd hc) pl.isList (by simpa using hr) ha (by omega) fun i v h' tk bs e1 e2 e3 => best_end I rv hd ha (best_mem (fun y a => PySem.W.dataLt a y) ps p) q e1 e2 e3
  · obtain ⟨its, rv, pl, _⟩ := I.tuple hs
    obtain ⟨as, hr⟩ := Dp.readsAll I _ _ _ hd rv
    exact PySem.W.max_tuple_data (I.ok.hd hc) (show s.heap.IsTuple a its.toArray from pl) (by simpa using hr) ha (by omega) fun i v h' tk bs e1 e2 e3 => best_end I rv hd ha (best_mem (fun y a => PySem.W.dataLt a y) ps p) q e1 e2 e3
theorem fold_toP (f : PyData → PyData → Bool) : ∀ (xs : List D) (x : D), toP (xs.foldl (fun a y => if f (toP y) (toP a) = true then y else a) x) = (xs.map toP).foldl (fun a y => if f y a = true then y else a) (toP x)
  | [], x => rfl
  | y :: ys, x => by
    rw [List.foldl_cons, List.map_cons, List.foldl_cons, fold_toP f ys]
    congr 1
    split <;> rfl
theorem depthAll_le {n : Nat} : ∀ {xs : List PyData}, (∀ x ∈ xs, x.depth ≤ n) → PyData.depthAll xs ≤ n
  | [], _ => by rw [PyData.depthAll]; exact Nat.zero_le _
  | x :: xs, h => by
    rw [PyData.depthAll]
    exact Nat.max_le.mpr ⟨h x List.mem_cons_self, depthAll_le fun y hy => h y (List.mem_cons_of_mem _ hy)⟩
theorem dpAll_of {K : PySem.W.Frag} {H : Hp} : ∀ {vs : List V} {ds : List D}, RepL K H vs ds → (∀ d ∈ ds, okN 60 d = true) → DpAll K H vs (ds.map toP)
  | _, _, .nil, _ => .nil
  | _, _, .cons r t, h => .cons (Dp.of_rep 60 r (h _ List.mem_cons_self)) (dpAll_of t fun d hd => h d (List.mem_cons_of_mem _ hd))
theorem best_sem {K : PySem.W.Frag} {best : PyData → List PyData → PyData} {f : PyData → PyData → Bool} {F G H : Hp} {σ : L2.St} {env : Env} {v : V} {x : D} {d0 : D} {dr : List D} {Q : VK} (hbest : ∀ p ps, best p ps = ps.foldl (fun a y => if f y a = true then y else a) p) (S : Stt K F G H σ env) (t : Top K G H v x) (e1 : seqOf x = some (d0 :: dr)) (hok : okS (d0 :: dr) = true)
    (hnn : ∀ d ∈ d0 :: dr, d ≠ .non) (q : Fin K F G σ env (dr.foldl (fun a y => if f (toP y) (toP a) = true then y else a) d0) false Q) : rBestD K best [v] H Q := by
  obtain ⟨a, vs, rfl, hs, hl⟩ := t.seq S.gh e1
  obtain ⟨k1, k2, _⟩ := okS_inv hok
  refine ⟨a, vs, toP d0, dr.map toP, rfl, hs, dpAll_of (hl.mono S.gh) k1, ⟨fun y hy z hz => k2 y hy z hz, fun y hy => ?_⟩, depthAll_le fun y hy => ?_, fun i w hw hi => ?_⟩
  · obtain ⟨d, hd, rfl⟩ := List.mem_map.mp (show y ∈ (d0 :: dr).map toP from hy)
    intro z
    have := hnn d hd
    have hk := k1 d hd
    cases d <;> first | exact this rfl | (simp [toP] at z; done) | (simp [okN] at hk; done)
  · obtain ⟨d, hd, rfl⟩ := List.mem_map.mp (show y ∈ (d0 :: dr).map toP from hy)
    exact (okN_canLay 60 _ (k1 _ hd)).2
  · obtain ⟨d, hd1, hd2⟩ := hl.get' hw
    have hi' : ((d0 :: dr).map toP)[i]? = some (best (toP d0) (dr.map toP)) := hi
    rw [List.getElem?_map, hd1] at hi'
    have e2 : toP d = best (toP d0) (dr.map toP) := Option.some.inj hi'
    rw [hbest, ← fold_toP] at e2
    have hm : ∀ (l : List D) (x : D), l.foldl (fun a y => if f (toP y) (toP a) = true then y else a) x ∈ x :: l := by
      intro l
      induction l with
      | nil => intro x; exact List.mem_cons_self
      | cons y ys ih =>
        intro x
        rw [List.foldl_cons]
        rcases List.mem_cons.mp (ih (if f (toP y) (toP x) = true then y else x)) with e | e
        · rw [e]
          split
          · exact List.mem_cons_of_mem _ List.mem_cons_self
          · exact List.mem_cons_self
        · exact List.mem_cons_of_mem _ (List.mem_cons_of_mem _ e)
    have e3 := toP_inj 60 (k1 d (List.mem_of_getElem? hd1)) (k1 _ (hm dr d0)) e2
    rw [e3] at hd2
    exact q.val S hd2
end
end PL
set_option maxHeartbeats 4000000
/-! Pure layer 13: min, max; {k: v}; xs[::-1]; list(range(..)). -/
namespace PL
open PySem PySem.Spec PyProof.Rows L2
section
variable {X : Cx} {K : PySem.W.Frag}
theorem okS_non {xs : List D} (h : okS xs = true) : ∀ d ∈ xs, d ≠ .non := by
  obtain ⟨_, _, k3⟩ := okS_inv h
  intro d hd e
  subst e
  rcases k3 with k | k
  · obtain ⟨x, r, e⟩ := k (toP .non) (List.mem_map.mpr ⟨_, hd, rfl⟩)
    simp [toP] at e
  · exact (k (toP .non) (List.mem_map.mpr ⟨_, hd, rfl⟩)).1 (by simp [toP])
theorem b_min (hc : X.calm = true) (hu : X.A.units + 70 < cLine) (hm : X.mg "min" = none) : Bi X "min" .min := by
  refine ⟨_, .fn "min", (cr_minD hc hu).or (call_min2 hc), ⟨?_⟩, hm, by decide +kernel, by decide, by decide⟩
  intro F G H σ env vs ds d nw Q S t e q
  have e : minF ds = some (d, nw) := e
  unfold minF at e
  split at e
  · rename_i x _
    obtain ⟨v, rfl, h1⟩ := top1 t
    unfold minD1 at e
    obtain ⟨xs, e1, e⟩ := bind_inv e
    obtain ⟨h2, e⟩ := ite_inv e
    obtain ⟨m, e2, e3⟩ := map_inv (show (minBy xs).map (fun d => (d, false)) = _ from e)
    cases e3
    cases xs with
    | nil => cases e2
    | cons d0 dr =>
      cases e2
      exact .inl (best_sem (f := fun y a => PySem.W.dataLt y a) (fun _ _ => rfl) S h1 e1 h2 (okS_non h2) q)
  · rename_i i j _
    obtain ⟨v, w, rfl, h1, h2⟩ := top2 t
    cases e
    exact .inr ⟨i, j, by rw [show v = _ from h1, show w = _ from h2], q.val S (Rep.int _)⟩
  · cases e
theorem b_max (hc : X.calm = true) (hu : X.A.units + 70 < cLine) (hm : X.mg "max" = none) : Bi X "max" .max := by
  refine ⟨_, .fn "max", (cr_maxD hc hu).or (call_max2 hc), ⟨?_⟩, hm, by decide +kernel, by decide, by decide⟩
  intro F G H σ env vs ds d nw Q S t e q
  have e : maxF ds = some (d, nw) := e
  unfold maxF at e
  split at e
  · rename_i x _
    obtain ⟨v, rfl, h1⟩ := top1 t
    unfold maxD1 at e
    obtain ⟨xs, e1, e⟩ := bind_inv e
    obtain ⟨h2, e⟩ := ite_inv e
    obtain ⟨m, e2, e3⟩ := map_inv (show (maxBy xs).map (fun d => (d, false)) = _ from e)
    cases e3
    cases xs with
    | nil => cases e2
    | cons d0 dr =>
      cases e2
      exact .inl (best_sem (f := fun y a => PySem.W.dataLt a y) (fun _ _ => rfl) S h1 e1 h2 (okS_non h2) q)
  · rename_i i j _
    obtain ⟨v, w, rfl, h1, h2⟩ := top2 t
    cases e
    exact .inr ⟨i, j, by rw [show v = _ from h1, show w = _ from h2], q.val S (Rep.int _)⟩
  · cases e
end
section
variable {Φ : Nat → FS} {X : Cx} {a b : Expr} {ma mb : ME} {pos p : Pos}
/-- {k: v} -/
theorem ce_dic1 (ha : CE Φ X a ma) (hb : CE Φ X b mb) : CE Φ X (.Dict [some a] [b] pos) (.dicD (.cons ma .nil) (.cons mb .nil)) := by
  obtain ⟨ta, pa, ea⟩ := ha.ex
  obtain ⟨tb, pb, eb⟩ := hb.ex
  refine ⟨_, pe_disp (pps_cons pa pb pps_nil) rfl rfl (by simp) (by show 1 ≤ 15; decide), ?_⟩
  intro F G H σ env env' d k Q S w q
  rw [ev] at w
  obtain ⟨⟨dk, env1⟩, e1, w⟩ := bind_inv w
  obtain ⟨⟨dv, env2⟩, e2, w⟩ := bind_inv w
  obtain ⟨k', e3, w⟩ := map_inv w
  cases w
  intro p hp
  have S0 : Stt X.K (upd F p (.dK [])) G (upd H p (.dK [])) σ env := (S.alloc hp).hold upd_same fun i e h z => by
    obtain ⟨b, u, h1, h2, _⟩ := S.ow i e h
    rw [h1] at z
    cases z
    rw [hp] at h2
    cases h2
  refine ea.f S0 e1 fun x G1 H1 S1 g1 r1 => ?_
  refine eb.f S1 e2 fun y G2 H2 S2 g2 r2 => ?_
  have hx := key_rep r1 e3
  have hd : H2 p = some (.dK []) := S2.fh _ _ upd_same
  refine ⟨hd, [(k', y)], by rw [hx]; rfl, by show 1 ≤ 15; decide, ?_⟩
  have gG : G p = none := S.gh.free hp
  have g12 := g1.trans g2
  have S3 : Stt X.K (upd F p (.dK [(k', y)])) G2 (upd H2 p (.dK [(k', y)])) σ env2 := S2.held (g12.held gG)
  refine q (.ref p) G2 _ (S3.frame (same_new (S.fh.free hp))) (g12.frame (same_new (S.fh.free hp))) ⟨p, rfl, ⟨⟨.dK [(k', y)], upd_same, .cons r2 .nil⟩, g12.held gG, S.fh.free hp, fun i e h z => ?_⟩⟩
  obtain ⟨b, u, h1, h2, h3, h4, h5⟩ := S3.ow i e h
  rw [h1] at z
  cases z
  rw [upd_same] at h5
  cases h5
/-- xs[::-1], a list's -/
theorem ce_revL {k : Nat} {p1 p2 p3 : Pos} (ha : CE Φ X a ma) : CE Φ X (.Subscript a (.Slice none none (some (.UnaryOp .USub (.Constant (.int 1) k p1) p2)) p3) pos) (.rev false ma) := by
  obtain ⟨ta, pa, ea⟩ := ha.ex
  refine ⟨_, pe_revL pa, ?_⟩
  intro F G H σ env env' d k Q S e q
  rw [ev] at e
  obtain ⟨⟨bx, env1⟩, e1, e⟩ := bind_inv e
  obtain ⟨dx, e2, e⟩ := bind_inv e
  obtain ⟨nw, e3, rfl, rfl⟩ := out_inv e
  refine ea.b S e1 fun x G1 H1 S1 g1 r1 => ?_
  have t := r1.top S1 e2
  cases dx with
  | lst ds =>
    cases e3
    obtain ⟨l, xs, rfl, h3, h4⟩ := t
    exact ⟨l, xs, rfl, SqL.of h3, fun p hp => q _ G1 _ (S1.alloc hp) g1 ⟨p, rfl, S1.newAt (o := .lst _) hp h4.reverse⟩⟩
  | _ => cases e3
/-- list(range(n)) -/
theorem ce_listRg1 {p2 pos2 : Pos} (hc : X.calm = true) (hml : X.mg "list" = none) (hmr : X.mg "range" = none) (ha : CE Φ X a ma) (hg : Gl X "list" := by rfl) (hg2 : Gl X "range" := by rfl)
    (na : starEach [a] X.env = (false, eval a X.env) :: starEach [] X.env := by rfl) (na2 : starEach [.Call (.Name "range" p2) [a] [] pos2] X.env = (false, eval (.Call (.Name "range" p2) [a] [] pos2) X.env) :: starEach [] X.env := by rfl) :
    CE Φ X (.Call (.Name "list" p) [.Call (.Name "range" p2) [a] [] pos2] [] pos) (.range false (.rng1 ma)) := by
  obtain ⟨ta, pa, ea⟩ := ha.ex
  refine ⟨_, pe_listRg hc hg hml (prg_1 hg2 hmr pa na) na2, ?_⟩
  intro F G H σ env env' d k Q S e q
  rw [ev] at e
  obtain ⟨⟨ds, env1⟩, e1, e⟩ := map_inv e
  cases e
  rw [evI] at e1
  obtain ⟨⟨dn, env2⟩, e2, e1⟩ := bind_inv e1
  obtain ⟨n, e3, e1⟩ := bind_inv e1
  obtain ⟨⟨h1, h2⟩, e1⟩ := ite_inv e1
  cases e1
  obtain ⟨b1, b2⟩ := rgOk_inv h1
  refine ea.f S e2 fun v G1 H1 S1 g1 r1 => ?_
  have q1 : dn = .int n := intOf_inv e3
  subst q1
  cases r1
  refine ⟨n, rfl, ⟨by decide, by decide, b1, b2, by omega⟩, fun p hp => ?_⟩
  refine q _ G1 _ (S1.alloc hp) g1 ⟨p, rfl, S1.newAt (o := .lst _) hp ?_⟩
  show RepL _ _ _ _
  have : ∀ l : List Nat, RepL X.K G1 (l.map fun i => V.int ((0 : Int) + (i : Nat))) (l.map fun (i : Nat) => .int ((0 : Int) + (i : Int) * 1)) := by
    intro l
    induction l with
    | nil => exact .nil
    | cons i l ih =>
      rw [List.map_cons, List.map_cons, Int.mul_one]
      exact .cons (.int _) ih
  have e0 : (n - 0).toNat = n.toNat := by rw [Int.sub_zero]
  unfold rgV rgD
  rw [e0]
  exact this _
end
end PL
set_option maxHeartbeats 4000000
/-! Pure layer 14: a tuple turned round; zip. -/
namespace PL
open PySem PySem.Spec PyProof.Rows L2
section
variable {prog : Program} {w : World} {A : Around} {E : Value → Shared → Prop} {s : Shared}
theorem adjust_back (n : Nat) : Builtin.Slice.sliceAdjust none none (-1) (n : Int) = ((n : Int) - 1, -1) := by
  unfold Builtin.Slice.sliceAdjust
  have h1 : ((-1 : Int) < 0) := by omega
  simp only [h1, if_true]
theorem places_back (n : Nat) : Builtin.Slice.slicePlaces ((n : Int) - 1) (-1) (-1) = n := by
  unfold Builtin.Slice.slicePlaces
  have h1 : ¬ ((-1 : Int) > 0) := by omega
  rw [if_neg h1]
  have e : -(-1 : Int) = 1 := rfl
  rw [e, Int.ediv_one]
  split <;> omega
theorem filter_same {α β : Type} {f g : α → Option β} : ∀ {l : List α}, (∀ m ∈ l, f m = g m) → l.filterMap f = l.filterMap g
  | [], _ => rfl
  | x :: l, h => by
    rw [List.filterMap_cons, List.filterMap_cons, h x List.mem_cons_self, filter_same fun m hm => h m (List.mem_cons_of_mem _ hm)]
theorem pick_back (xs : Array Value) : ((List.range xs.size).filterMap fun (m : Nat) => xs[(((xs.size : Int) - 1) + (m : Int) * (-1)).toNat]?).toArray = xs.toList.reverse.toArray := by
  congr 1
  have e : ∀ m ∈ List.range xs.size, xs[(((xs.size : Int) - 1) + (m : Int) * (-1)).toNat]? = some (xs.toList.reverse.getD m .none) := by
    intro m hm
    have hm' : m < xs.size := List.mem_range.mp hm
    have e1 : (((xs.size : Int) - 1) + (m : Int) * (-1)).toNat = xs.size - 1 - m := by omega
    rw [e1, List.getD_eq_getElem?_getD, List.getElem?_reverse (by rw [Array.length_toList]; exact hm'), Array.length_toList]
    have h2 : xs.size - 1 - m < xs.size := by omega
    simp [h2]
  rw [filter_same e]
  refine List.ext_getElem? fun i => ?_
  have e3 : (List.range xs.size).filterMap (fun m => some (xs.toList.reverse.getD m .none)) = (List.range xs.size).map fun m => xs.toList.reverse.getD m .none := by
    rw [← List.filterMap_eq_map]
    rfl
  rw [e3, List.getElem?_map]
  rcases Nat.lt_or_ge i xs.size with h | h
  · rw [List.getElem?_range h]
    have h2 : i < xs.toList.reverse.length := by rw [List.length_reverse, Array.length_toList]; exact h
    rw [Option.map_some, List.getD_eq_getElem?_getD, List.getElem?_eq_getElem h2]
    rfl
  · rw [List.getElem?_eq_none (by rw [List.length_range]; exact h), List.getElem?_eq_none (by rw [List.length_reverse, Array.length_toList]; exact h)]
    rfl
theorem getItem_tuple_back {t sl : Addr} {items : Array Value} {vl vu vs : Value} {Q : Value → Shared → Prop} (ht : IsTup s.heap t items) (hs : s.heap.IsSliceOf sl vl vu vs) (pl : IsPart vl none) (pu : IsPart vu none) (ps : IsPart vs (some (-1)))
    (h : Q (.ref s.heap.objs.size) { s with heap := s.heap.push { cls := .type "tuple", data := .seq items.toList.reverse.toArray } }) (hsz : items.size ≤ sizeLine) : wpAny (model prog w) A (getItem (.ref t) (.ref sl)) Q E s := by
  obtain ⟨os, hos, hcs, hds⟩ := id hs
  have hTs : s.TypeIs (.ref sl) "slice" := ⟨os, hos, hcs⟩
  unfold getItem
  try with_reducible refine wpAny_holding ?_
  first | refine wpAny_bind (wpAny_pure ?_) | skip
  refine wpAny_bind (wpAny_sequenceKey ht.typeIs (by decide) ?_)
  refine wpAny_bind (wpAny_callSpecial?_slot (name := Str.ofString "__getitem__") ht.typeIs PyProof.Rows.slot_tuple_getitem
    (wpAny_call_entry PyProof.Rows.slot_tuple_getitem ht.typeIs entry_tuple_getitem ?_ (args_tuple_getitem _ _)))
  show wpAny _ _ (Builtin.Tuple.tupleItemsOf (.ref t) >>= _) _ _ s
  refine wpAny_bind (tupleItemsOf_ ht ?_)
  refine wpAny_bind (wpAny_typeOf hTs ?_)
  rw [if_pos (by decide)]
  have ap : ∀ {R : Int × Int × Nat → Shared → Prop} {E'}, R ((items.size : Int) - 1, -1, items.size) s → wpAny (model prog w) A.in1 (Builtin.Slice.sliceApplied (.ref sl) (pure (items.size : Int))) R E' s := by
    intro R E' hR
    unfold Builtin.Slice.sliceApplied Builtin.Slice.sliceFields
    refine wpAny_bind (wpAny_bind (wpAny_field hos hds (x := vl) rfl (wpAny_bind (wpAny_field hos hds (x := vu) rfl (wpAny_bind (wpAny_field hos hds (x := vs) rfl (wpAny_pure ?_)))))))
    refine wpAny_bind (HT.slicePart_ ps ?_)
    show wpAny _ _ (if ((-1 : Int) == 0) = true then _ else _) _ _ s
    rw [if_neg (by decide)]
    refine wpAny_bind (HT.slicePart_ pl (wpAny_bind (HT.slicePart_ pu (wpAny_bind (wpAny_pure ?_)))))
    show wpAny _ _ (match Builtin.Slice.sliceAdjust none none (-1) (items.size : Int) with | (lo, hi) => pure (lo, (-1 : Int), Builtin.Slice.slicePlaces lo hi (-1))) _ _ s
    rw [adjust_back]
    show wpAny _ _ (pure ((items.size : Int) - 1, (-1 : Int), Builtin.Slice.slicePlaces ((items.size : Int) - 1) (-1) (-1))) _ _ s
    rw [places_back]
    exact wpAny_pure hR
  refine wpAny_bind (ap ?_)
  show wpAny _ _ (if (((items.size : Int) - 1) == 0 && ((-1 : Int)) == 1 && items.size == items.size) = true then _ else _) _ _ s
  rw [if_neg (by simp), pick_back]
  have htake : sizeOk (.seq items.toList.reverse.toArray) := by
    show items.toList.reverse.toArray.size ≤ sizeLine
    rw [List.size_toArray, List.length_reverse, Array.length_toList]
    exact hsz
  first
    | exact wpAny_bind (m := Builtin.Tuple.tupleExact _) (wpAny_newObj_type (wpAny_pure ⟨_, rfl, wpAny_pure h⟩) htake)
    | exact wpAny_bind (m := Builtin.Tuple.tupleExact _) (wpAny_newObj_type (wpAny_bind (wpAny_pure (wpAny_pure ⟨_, rfl, wpAny_pure h⟩))) htake)
    | exact wpAny_bind (wpAny_bind (m := Builtin.Tuple.tupleExact _) (wpAny_newObj_type (wpAny_pure (wpAny_pure ⟨_, rfl, wpAny_pure h⟩)) htake))
    | exact wpAny_bind (wpAny_bind (m := Builtin.Tuple.tupleExact _) (wpAny_newObj_type (wpAny_pure ⟨_, rfl, wpAny_pure h⟩) htake))
end
section
variable {X : Cx}
def tRevT (K : PySem.W.Frag) (te : TE) : TE := fun σ H Q => te σ H fun x H1 => ∃ a xs, x = .ref a ∧ SqT K H1 a xs ∧ ∀ p, H1 p = none → Q (.ref p) (upd H1 p (.tup xs.reverse))
theorem pe_revT {e : Expr} {te : TE} {k : Nat} {p1 p2 p3 pos : Pos} (he : PE X e te) : PE X (.Subscript e (.Slice none none (some (.UnaryOp .USub (.Constant (.int 1) k p1) p2)) p3) pos) (tRevT X.K te) := by
  refine ⟨fun pins s σ H Q I h => ?_⟩
  refine Subscript_ (thn (he.run pins s σ H _ I h) fun v s1 ⟨x, H1, I1, r1, q1⟩ => ?_)
  obtain ⟨a, xs, ex, hx, q⟩ := q1
  subst ex
  cases r1
  have hst : PO X (some (.UnaryOp .USub (.Constant (.int 1) k p1) p2)) (tPart (tUn (rU fun i => .int (-i)) (tC (.int 1)))) := po_some (pe_un un_neg pe_int)
  refine wpAny_Slice (thn (po_none.run pins s1 σ H1 (fun o H2 => o = none ∧ H2 = H1) I1 ⟨rfl, rfl⟩) fun vl s2 ⟨l, H2, I2, pl, el, e2⟩ => ?_)
  subst el e2
  refine thn (po_none.run pins s2 σ H2 (fun o H3 => o = none ∧ H3 = H2) I2 ⟨rfl, rfl⟩) fun vu s3 ⟨u, H3, I3, pu, eu, e3⟩ => ?_
  subst eu e3
  refine thn (hst.run pins s3 σ H3 (fun o H4 => o = some (-1) ∧ H4 = H3) I3 ⟨1, rfl, -1, rfl, rfl, rfl⟩) fun vs s4 ⟨o, H4, I4, ps, eo, e4⟩ => ?_
  subst eo e4
  have I5 : Inv X pins σ H4 { s4 with heap := s4.heap.push { cls := .type "slice", data := .fields #[vl, vu, vs] } } := I4.kept (t' := s4.toks) fun b ob q => Heap.get?_push_of_some _ q
  obtain ⟨its, r, ht, hz⟩ := I5.tuple hx
  have hlen := r.length
  show wpAny (model X.prog X.w) X.A (subscriptTail e (.Slice none none (some (.UnaryOp .USub (.Constant (.int 1) k p1) p2)) p3) (.ref a) (.ref s4.heap.objs.size)) (EP X pins σ Q) X.xe { s4 with heap := s4.heap.push { cls := .type "slice", data := .fields #[vl, vu, vs] } }
  refine tail_any (ops := [.ref a, .ref s4.heap.objs.size]) ht.typeIs (PyProof.Rows.slot_tuple_getitem.lookup) ?_ (by with_unfolding_all rfl)
  refine getItem_tuple_back ht (Heap.IsSliceOf.new _ vl vu vs) pl pu ps ?_ (by rw [List.size_toArray]; omega)
  refine ⟨.ref _, _, I5.laid (t' := s4.toks) (o := .tup xs.reverse) (fun b ob q => Heap.get?_push_of_some _ q) (Nat.le_refl _) ?_, rfl, q _ (I5.hok.fresh (Nat.le_refl _))⟩
  exact ⟨by rw [List.length_reverse]; exact hz, _, r.reverse, IsTup.new _ _⟩
end
section
variable {Φ : Nat → FS} {X : Cx} {a b : Expr} {ma mb : ME} {pos p : Pos}
theorem ce_revT {k : Nat} {p1 p2 p3 : Pos} (ha : CE Φ X a ma) : CE Φ X (.Subscript a (.Slice none none (some (.UnaryOp .USub (.Constant (.int 1) k p1) p2)) p3) pos) (.rev true ma) := by
  obtain ⟨ta, pa, ea⟩ := ha.ex
  refine ⟨_, pe_revT pa, ?_⟩
  intro F G H σ env env' d k Q S e q
  rw [ev] at e
  obtain ⟨⟨bx, env1⟩, e1, e⟩ := bind_inv e
  obtain ⟨dx, e2, e⟩ := bind_inv e
  obtain ⟨nw, e3, rfl, rfl⟩ := out_inv e
  refine ea.b S e1 fun x G1 H1 S1 g1 r1 => ?_
  have t := r1.top S1 e2
  cases dx with
  | tup ds =>
    cases e3
    obtain ⟨l, xs, rfl, h3, h4⟩ := t
    refine ⟨l, xs, rfl, (RdLe.of S1.gh).t h3, fun p hp => ?_⟩
    obtain ⟨S2, g2⟩ := S1.allocG (o := .tup xs.reverse) hp
    exact q _ _ _ S2 (g1.trans g2) (Rep.tup (SqT.of upd_same) (h4.reverse.mono g2.same))
  | _ => cases e3
end

/-! ### zip: each a list or a tuple -/
section
variable {prog : Program} {w : World} {A : Around}
def IsIt (t : Bool) (h : Heap) (it l : Addr) (i : Nat) : Prop := match t with
  | false => h.IsListIter it l i
  | true => h.IsTupleIter it l i
def IsSq (t : Bool) (h : Heap) (l : Addr) (items : Array Value) : Prop := match t with
  | false => h.IsList l items
  | true => h.IsTuple l items
theorem IsIt.ob {t : Bool} {h : Heap} {it l : Addr} {i : Nat} (x : IsIt t h it l i) : ∃ o, h.get? it = some o ∧ ∀ v, o.data ≠ .cell v := by
  cases t with
  | false =>
    obtain ⟨o, h1, _, h3⟩ := x
    exact ⟨o, h1, fun v q => by rw [h3] at q; cases q⟩
  | true =>
    obtain ⟨o, h1, _, h3⟩ := x
    exact ⟨o, h1, fun v q => by rw [h3] at q; cases q⟩
theorem IsIt.at {t : Bool} {h h' : Heap} {it l : Addr} {i : Nat} (x : IsIt t h it l i) (k : ∀ o, h.get? it = some o → h'.get? it = some o) : IsIt t h' it l i := by
  cases t with
  | false =>
    obtain ⟨o, h1, r⟩ := x
    exact ⟨o, k o h1, r⟩
  | true =>
    obtain ⟨o, h1, r⟩ := x
    exact ⟨o, k o h1, r⟩
theorem IsSq.at {t : Bool} {h h' : Heap} {l : Addr} {items : Array Value} (x : IsSq t h l items) (k : ∀ o, h.get? l = some o → h'.get? l = some o) : IsSq t h' l items := by
  cases t with
  | false =>
    obtain ⟨o, h1, r⟩ := x
    exact ⟨o, k o h1, r⟩
  | true =>
    obtain ⟨o, h1, r⟩ := x
    exact ⟨o, k o h1, r⟩
theorem IsSq.lt {t : Bool} {h : Heap} {l : Addr} {items : Array Value} (x : IsSq t h l items) : l < h.objs.size := by
  cases t with
  | false =>
    obtain ⟨o, h1, r⟩ := x
    exact Heap.lt_size h1
  | true =>
    obtain ⟨o, h1, r⟩ := x
    exact Heap.lt_size h1
theorem draws_sq (t : Bool) (hh : A.handled = none) (it l : Addr) (hne : l ≠ it) (items : Array Value) : Draws prog w A it [it, l] items.size (fun i v => items[i]? = some v) (fun i h => IsIt t h it l i ∧ IsSq t h l items) where
  live := fun _ _ st => let ⟨o, ho, _⟩ := st.1.ob; ⟨o, ho⟩
  frame := fun _ _ _ st hk => ⟨st.1.at fun o e => hk it (by simp) o e, st.2.at fun o e => hk l (by simp) o e⟩
  item := fun i s Q E hi st hQ => by
    cases t with
    | false => exact (Draws.list hh it l hne items).item i s Q E hi st hQ
    | true =>
      refine RZ.nextOf_tuple_item st.1 st.2 (x := items[i]) (by simp [hi]) fun h' hit' hs' => ?_
      exact hQ _ h' s.toks (by simp [hi]) ⟨hit', Heap.IsTuple.extBut st.2 hs'.extBut hne⟩ hs'
  done := fun s Q E st hE => by
    cases t with
    | false => exact (Draws.list hh it l hne items).done s Q E st hE
    | true => exact RZ.nextOf_tuple_end hh st.1 st.2 (by simp) hE
theorem sep_of {z TI TO i1 i2 a b : Addr} (D : ZipApart z TI TO i1 i2 a b) : ZipSep2 z TI TO i1 i2 [i1, a] [i2, b] where
  TIz := D.TIz
  TOz := D.TOz
  TITO := D.TITO
  TIi1 := D.TIi1
  mem1 := by simp
  zf1 := by simp only [List.mem_cons, List.not_mem_nil, or_false, not_or]; exact ⟨D.i1z.symm, D.l1z.symm⟩
  Tf1 := by simp only [List.mem_cons, List.not_mem_nil, or_false, not_or]; exact ⟨D.TOi1, D.l1TO.symm⟩
  TIi2 := D.TIi2
  mem2 := by simp
  zf2 := by simp only [List.mem_cons, List.not_mem_nil, or_false, not_or]; exact ⟨D.i2z.symm, D.l2z.symm⟩
  Tf2 := by simp only [List.mem_cons, List.not_mem_nil, or_false, not_or]; exact ⟨D.TOi2, D.l2TO.symm⟩
  sep1_2 := by simp only [List.mem_cons, List.not_mem_nil, or_false, not_or]; exact ⟨D.i12, D.l2i1.symm⟩
  sep2_1 := by simp only [List.mem_cons, List.not_mem_nil, or_false, not_or]; exact ⟨D.i12.symm, D.l1i2.symm⟩
def SqK (t : Bool) (K : PySem.W.Frag) (H : Hp) (a : Addr) (xs : List V) : Prop := match t with
  | false => SqL K H a xs
  | true => SqT K H a xs
theorem sqK_is {X : Cx} {pins : List (Addr × Obj)} {σ : L2.St} {H : Hp} {s : Shared} {t : Bool} {a : Addr} {xs : List V} (I : Inv X pins σ H s) (h : SqK t X.K H a xs) : ∃ its : List Value, Vals xs its ∧ IsSq t s.heap a its.toArray := by
  cases t with
  | false =>
    obtain ⟨its, rv, p, _⟩ := I.list h
    exact ⟨its, rv, p.isList⟩
  | true =>
    obtain ⟨its, rv, p, _⟩ := I.tuple h
    exact ⟨its, rv, p⟩
theorem sqK_inj {X : Cx} {pins : List (Addr × Obj)} {σ : L2.St} {H : Hp} {s : Shared} {t : Bool} {a : Addr} {xs ys : List V} (I : Inv X pins σ H s) (h : SqK t X.K H a xs) (h' : SqK t X.K H a ys) : xs = ys := by
  cases t with
  | false => exact I.list_inj h h'
  | true => exact I.tuple_inj h h'
def ItzK (t u : Bool) (K : PySem.W.Frag) (a b : Addr) : L2.It :=
  ⟨fun i H => ∃ (xs ys : List V) (x y : V), SqK t K H a xs ∧ SqK u K H b ys ∧ xs[i]? = some x ∧ ys[i]? = some y,
    fun i H v H' => ∃ T x y, v = .ref T ∧ H T = none ∧ H' = upd H T (.tup [x, y]) ∧ (∀ xs, SqK t K H a xs → xs[i]? = some x) ∧ ∀ ys, SqK u K H b ys → ys[i]? = some y,
    fun i H => ∃ xs ys : List V, SqK t K H a xs ∧ SqK u K H b ys ∧ i = min xs.length ys.length⟩
theorem turn_zipK {P : Program} {w : World} {K : PySem.W.Frag} {elts : List Expr} {kk : Nat} {tpos : Pos} {a b z TI TO i1 i2 : Addr} (t u : Bool) (D : ZipApart z TI TO i1 i2 a b) :
    Turn P w K (.Tuple elts kk tpos) (ItzK t u K a b) [z, TI, TO, i1, i2] z (fun i h => IsZip h z TI TO .none ∧ IsPair h TI (.ref i1) (.ref i2) ∧ (∃ x y, IsPair h TO x y) ∧ IsIt t h i1 a i ∧ IsIt u h i2 b i) where
  mem := by simp
  obj := fun i h st c hc => by
    obtain ⟨hz, hTI, ⟨x, y, hTO⟩, h1, h2⟩ := st
    obtain ⟨o1, e1, d1⟩ := h1.ob
    obtain ⟨o2, e2, d2⟩ := h2.ob
    have e' : c = z ∨ c = TI ∨ c = TO ∨ c = i1 ∨ c = i2 := by simpa using hc
    rcases e' with q | q | q | q | q
    · subst q; exact ⟨_, hz, nofun⟩
    · subst q; exact ⟨_, hTI, nofun⟩
    · subst q; exact ⟨_, hTO, nofun⟩
    · exact ⟨o1, q ▸ e1, d1⟩
    · exact ⟨o2, q ▸ e2, d2⟩
  keep := fun i h h' st k => by
    obtain ⟨hz, hTI, ⟨x, y, hTO⟩, h1, h2⟩ := st
    exact ⟨k z (by simp) _ hz, k TI (by simp) _ hTI, ⟨x, y, k TO (by simp) _ hTO⟩, h1.at fun o q => k i1 (by simp) o q, h2.at fun o q => k i2 (by simp) o q⟩
  item := by
    intro X hP hw hK hc i pins s σ H E I hf st hg
    subst hP hw hK
    obtain ⟨hz, hTI, ⟨x0, y0, hTO⟩, h1, h2⟩ := st
    obtain ⟨xs, ys, x, y, hqx, hqy, hx, hy⟩ := hg
    obtain ⟨its, rv, p⟩ := sqK_is I hqx
    obtain ⟨its2, rv2, p2⟩ := sqK_is I hqy
    have l1 := rv.length
    have l2 := rv2.length
    have hi1 : i < xs.length := (List.getElem?_eq_some_iff.mp hx).1
    have hi2 : i < ys.length := (List.getElem?_eq_some_iff.mp hy).1
    have hzl : z < s.heap.objs.size := Heap.lt_size hz
    refine wpAny_pyNext_zipD2_item (sep_of D) (draws_sq t (A := X.A.in1) (show X.A.in1.handled = none from I.ok.hd hc) i1 a D.l1i1 its.toArray) (draws_sq u (A := X.A.in1) (show X.A.in1.handled = none from I.ok.hd hc) i2 b D.l2i2 its2.toArray) hz hTI hTO ⟨h1, p⟩ ⟨h2, p2⟩
      (by rw [List.size_toArray]; omega) (by rw [List.size_toArray]; omega) fun u1 u2 h' tk pu1 pu2 z' TO' st1' st2' hT hsz hk => ?_
    have ru : RelV x u1 := by
      obtain ⟨x', hx', rx⟩ := vals_get' rv i (show its[i]? = some u1 by simpa using pu1)
      rw [hx] at hx'
      cases hx'
      exact rx
    have ru2 : RelV y u2 := by
      obtain ⟨y', hy', ry⟩ := vals_get' rv2 i (show its2[i]? = some u2 by simpa using pu2)
      rw [hy] at hy'
      cases hy'
      exact ry
    refine ⟨_, rfl, wpAny_letOwnedTupleGo_zip (s := { s with heap := h', toks := tk }) z' fun h'' z'' sb => ?_⟩
    have hT2 : h''.get? s.heap.objs.size = some { cls := .type "tuple", data := .seq #[u1, u2] } := (sb.2 _ (Nat.ne_of_gt hzl)).trans hT
    have new : ObjOk X.prog X.w (upd H s.heap.objs.size (.tup [x, y])) h'' s.heap.objs.size (.tup [x, y]) :=
      ⟨by show 2 ≤ sizeLine; decide, [u1, u2], .cons ru (.cons ru2 .nil), ⟨_, hT2, rfl, _, rfl⟩⟩
    have I1 : Inv X pins σ (upd H s.heap.objs.size (.tup [x, y])) { s with heap := h'', toks := tk } :=
      I.turnedNew (t' := tk) (ch := [z, TI, TO, i1, i2]) (fun c o hb q => (sb.2 c (fun q' => hb (by simp [q']))).trans (hk c o (fun q' => hb (by simp [q'])) (fun q' => hb (by simp [q'])) (fun q' => hb (by simp [q'])) (fun q' => hb (by simp [q'])) q)) hf (Nat.le_refl _) new
    refine ⟨.ref s.heap.objs.size, _, I1, rfl, ⟨_, x, y, rfl, I.hok.fresh (Nat.le_refl _), rfl, fun l hl => by rw [sqK_inj I hl hqx]; exact hx, fun l hl => by rw [sqK_inj I hl hqy]; exact hy⟩, ⟨z'', ?_, ⟨u1, u2, ?_⟩, ?_, ?_⟩, fun c hcm => ?_⟩
    · exact (sb.2 _ D.TIz).trans (hk _ _ D.TIz D.TITO D.TIi1 D.TIi2 hTI)
    · exact (sb.2 _ D.TOz).trans TO'
    · exact st1'.1.at fun o q => (sb.2 _ D.i1z).trans q
    · exact st2'.1.at fun o q => (sb.2 _ D.i2z).trans q
    · have hlt : c < s.heap.objs.size := by
        have e' : c = z ∨ c = TI ∨ c = TO ∨ c = i1 ∨ c = i2 := by simpa using hcm
        rcases e' with q | q | q | q | q
        · rw [q]; exact hzl
        · rw [q]; exact Heap.lt_size hTI
        · rw [q]; exact Heap.lt_size hTO
        · rw [q]; obtain ⟨_, e1, _⟩ := h1.ob; exact Heap.lt_size e1
        · rw [q]; obtain ⟨_, e2, _⟩ := h2.ob; exact Heap.lt_size e2
      rw [upd_ne (Nat.ne_of_lt hlt)]
      exact (hf c hcm).1
  done := by
    intro X hP hw hK hc i pins s σ H E I hf st hg
    subst hP hw hK
    obtain ⟨hz, hTI, ⟨x0, y0, hTO⟩, h1, h2⟩ := st
    obtain ⟨xs, ys, hqx, hqy, hend⟩ := hg
    obtain ⟨its, rv, p⟩ := sqK_is I hqx
    obtain ⟨its2, rv2, p2⟩ := sqK_is I hqy
    have l1 := rv.length
    have l2 := rv2.length
    exact wpAny_pyNext_zipD2_end (sep_of D) (draws_sq t (A := X.A.in1) (show X.A.in1.handled = none from I.ok.hd hc) i1 a D.l1i1 its.toArray) (draws_sq u (A := X.A.in1) (show X.A.in1.handled = none from I.ok.hd hc) i2 b D.l2i2 its2.toArray) hz hTI hTO ⟨h1, p⟩ ⟨h2, p2⟩
      (by rw [List.size_toArray]; omega) (by rw [List.size_toArray]; omega) (by rw [List.size_toArray, List.size_toArray]; omega) fun h' tk hk => ⟨rfl, I.turnedL (t' := tk) (ch := [z, TI, TO, i1, i2]) (fun c o hb q =>
      hk c o (fun q' => hb (by simp [q'])) (fun q' => hb (by simp [q'])) (fun q' => hb (by simp [q'])) (fun q' => hb (by simp [q'])) q) hf⟩
  self := fun A i s Q E st h => wpAny_pyIter_zip st.1 h
theorem walk_zipK {K : PySem.W.Frag} {t u : Bool} {a b : Addr} {xs ys : List V} : Walk (ItzK t u K a b) (min xs.length ys.length) (fun H => SqK t K H a xs ∧ SqK u K H b ys) (YPair (fun i => xs[i]?) (fun i => ys[i]?)) := by
  refine ⟨fun i _ hi q => ?_, fun _ q => ⟨xs, ys, q.1, q.2, rfl⟩, fun i H v H' _ q y => ?_⟩
  · have h1 : i < xs.length := by omega
    have h2 : i < ys.length := by omega
    exact ⟨xs, ys, xs[i], ys[i], q.1, q.2, by simp [h1], by simp [h2]⟩
  · obtain ⟨T, x, z, h1, h2, h3, h4, h5⟩ := y
    exact ⟨T, x, z, h1, h2, h3, h4 xs q.1, h5 ys q.2⟩
def itName : Bool → String
  | false => "list_iterator"
  | true => "tuple_iterator"
abbrev zH1 (t : Bool) (h : Heap) (l1 : Addr) : Heap := h.push { cls := .type (itName t), data := .fields #[.ref l1, .int 0 0] }
abbrev zH2 (t u : Bool) (h : Heap) (l1 l2 : Addr) : Heap := (zH1 t h l1).push { cls := .type (itName u), data := .fields #[.ref l2, .int 0 0] }
abbrev zH3 (t u : Bool) (h : Heap) (l1 l2 : Addr) : Heap := (zH2 t u h l1 l2).push { cls := .type "tuple", data := .seq #[.ref h.objs.size, .ref (zH1 t h l1).objs.size] }
abbrev zH4 (t u : Bool) (h : Heap) (l1 l2 : Addr) : Heap := (zH3 t u h l1 l2).push { cls := .type "tuple", data := .seq #[.none, .none] }
abbrev zH5 (t u : Bool) (h : Heap) (l1 l2 : Addr) : Heap := (zH4 t u h l1 l2).push { cls := .type "zip", data := .fields #[.none, .bool false, .bool false, .ref (zH2 t u h l1 l2).objs.size, .ref (zH3 t u h l1 l2).objs.size] }
theorem IsSq.push {t : Bool} {h : Heap} {l : Addr} {items : Array Value} (x : IsSq t h l items) (o : Obj) : IsSq t (h.push o) l items := x.at fun _ => Heap.get?_push_of_some _
theorem meets_zipK_new (t u : Bool) (l1 l2 : Addr) (xs ys : Array Value) :
    Meets (Builtin.«zip.__new__» ⟨[.type "zip", .ref l1, .ref l2], []⟩) (fun _ R s => IsSq t s.heap l1 xs ∧ IsSq u s.heap l2 ys ∧
      R (.ok (.ret (.ref (zH4 t u s.heap l1 l2).objs.size))) { s with heap := zH5 t u s.heap l1 l2 }) :=
  .of_wp fun prog w A R s h => by
    obtain ⟨hp, g, d, tk, os⟩ := s; obtain ⟨hl1, hl2, h⟩ := h
    have hsub := sub_zip
    cases t with
    | false =>
      have hL1 : Heap.IsList (Shared.heap ⟨hp, g, d, tk, os⟩) l1 xs := hl1
      cases u with
      | false =>
        have hL2 : Heap.IsList (Shared.heap ⟨hp.push { cls := .type "list_iterator", data := .fields #[.ref l1, .int 0 0] }, g, d, tk, os⟩) l2 ys := IsSq.push (t := false) hl2 _
        wp_walk using wpAny_pyIter_list hL1, wpAny_pyIter_list hL2
        exact ⟨_, rfl, h⟩
      | true =>
        have hL2 : Heap.IsTuple (Shared.heap ⟨hp.push { cls := .type "list_iterator", data := .fields #[.ref l1, .int 0 0] }, g, d, tk, os⟩) l2 ys := IsSq.push (t := true) hl2 _
        wp_walk using wpAny_pyIter_list hL1, wpAny_pyIter_tuple hL2
        exact ⟨_, rfl, h⟩
    | true =>
      have hL1 : Heap.IsTuple (Shared.heap ⟨hp, g, d, tk, os⟩) l1 xs := hl1
      cases u with
      | false =>
        have hL2 : Heap.IsList (Shared.heap ⟨hp.push { cls := .type "tuple_iterator", data := .fields #[.ref l1, .int 0 0] }, g, d, tk, os⟩) l2 ys := IsSq.push (t := false) hl2 _
        wp_walk using wpAny_pyIter_tuple hL1, wpAny_pyIter_list hL2
        exact ⟨_, rfl, h⟩
      | true =>
        have hL2 : Heap.IsTuple (Shared.heap ⟨hp.push { cls := .type "tuple_iterator", data := .fields #[.ref l1, .int 0 0] }, g, d, tk, os⟩) l2 ys := IsSq.push (t := true) hl2 _
        wp_walk using wpAny_pyIter_tuple hL1, wpAny_pyIter_tuple hL2
        exact ⟨_, rfl, h⟩
theorem isIt_new {t : Bool} {h : Heap} {it l : Addr} (e : h.get? it = some { cls := .type (itName t), data := .fields #[.ref l, .int 0 0] }) : IsIt t h it l 0 := by
  cases t with
  | false => exact ⟨_, e, rfl, rfl⟩
  | true => exact ⟨_, e, rfl, rfl⟩
variable {E : Value → Shared → Prop} {s : Shared}
theorem call_zipK {t u : Bool} {l1 l2 : Addr} {xs ys : Array Value} {Q : Value → Shared → Prop} (hl1 : IsSq t s.heap l1 xs) (hl2 : IsSq u s.heap l2 ys)
    (h : ∀ h', IsZip h' (s.heap.objs.size + 4) (s.heap.objs.size + 2) (s.heap.objs.size + 3) .none → IsPair h' (s.heap.objs.size + 2) (.ref s.heap.objs.size) (.ref (s.heap.objs.size + 1)) →
      IsPair h' (s.heap.objs.size + 3) .none .none → IsIt t h' s.heap.objs.size l1 0 → IsIt u h' (s.heap.objs.size + 1) l2 0 →
      (∀ c o, s.heap.get? c = some o → h'.get? c = some o) → Q (.ref (s.heap.objs.size + 4)) { s with heap := h' }) :
    wpAny (model prog w) A (call (.type "zip") [.ref l1, .ref l2]) Q E s := by
  refine callType_new F.called_zip (by decide) (F.typeCall_zip_2 _ _) (F.newCall_zip_2 _ _) (fun obj => F.args_object_init_3 obj _ _) F.entry_zip_new
    (meets_zipK_new t u l1 l2 xs ys) ⟨hl1, hl2, ?_⟩
  have z1 : (zH1 t s.heap l1).objs.size = s.heap.objs.size + 1 := Heap.size_push ..
  have z2 : (zH2 t u s.heap l1 l2).objs.size = s.heap.objs.size + 2 := by rw [Heap.size_push, z1]
  have z3 : (zH3 t u s.heap l1 l2).objs.size = s.heap.objs.size + 3 := by rw [Heap.size_push, z2]
  have z4 : (zH4 t u s.heap l1 l2).objs.size = s.heap.objs.size + 4 := by rw [Heap.size_push, z3]
  have up : ∀ {hh : Heap} {o : Obj} {c : Addr} {v : Obj}, hh.get? c = some v → (hh.push o).get? c = some v := fun e => Heap.get?_push_of_some _ e
  have g5 : (zH5 t u s.heap l1 l2).get? (zH4 t u s.heap l1 l2).objs.size = some _ := Heap.get?_push_size _ rfl
  have g4 : (zH5 t u s.heap l1 l2).get? (zH3 t u s.heap l1 l2).objs.size = some _ := up (Heap.get?_push_size _ rfl)
  have g3 : (zH5 t u s.heap l1 l2).get? (zH2 t u s.heap l1 l2).objs.size = some _ := up (up (Heap.get?_push_size _ rfl))
  have g2 : (zH5 t u s.heap l1 l2).get? (zH1 t s.heap l1).objs.size = some _ := up (up (up (Heap.get?_push_size _ rfl)))
  have g1 : (zH5 t u s.heap l1 l2).get? s.heap.objs.size = some _ := up (up (up (up (Heap.get?_push_size _ rfl))))
  show _ ∧ _
  rw [z2, z3, z4] at g5
  rw [z1, z2] at g3
  rw [z3] at g4
  rw [z1] at g2
  rw [z4]
  exact ⟨⟨_, g5, rfl⟩, h _ g5 g3 g4 (isIt_new g1) (isIt_new g2) fun c o x => up (up (up (up (up x))))⟩
end
def iZipK (K : PySem.W.Frag) (ta : TA) : TI := fun σ H R => ta σ H fun vs H1 => ∃ a b xs ys t u, vs = [.ref a, .ref b] ∧ SqK t K H1 a xs ∧ SqK u K H1 b ys ∧ R (ItzK t u K a b) H1
theorem pi_zipK {X : Cx} {e e2 : Expr} {ta : TA} {p pos tpos : Pos} {elts : List Expr} {kk : Nat} (hg : Gl X "zip") (hm : X.mg "zip" = none) (ha : PA X [e, e2] ta)
    (hs : starEach [e, e2] X.env = (false, eval e X.env) :: starEach [e2] X.env := by rfl) (hpl : (backTo pos (starEach [e2] X.env)).any (·.1) = false := by rfl) :
    PI X (.Tuple elts kk tpos) (.Call (.Name "zip" p) [e, e2] [] pos) (iZipK X.K ta) := by
  refine ⟨fun pins s σ H R I h => ?_⟩
  refine Call_ (ld_blt I hg hm PyProof.Rows.boot_zip (PyProof.Rows.callWith_type1 (thn (ha.run pos pins s σ H _ I h) fun us s1 ⟨vs, H1, I1, r1, q1⟩ => ?_) hs hpl))
  obtain ⟨a, b, xs, ys, t, u, ex, hqx, hqy, q⟩ := q1
  subst ex
  cases r1 with
  | cons r rr =>
    cases rr with
    | cons r' rr =>
      cases rr
      cases r
      cases r'
      obtain ⟨its, rv, p1⟩ := sqK_is I1 hqx
      obtain ⟨its2, rv2, p2⟩ := sqK_is I1 hqy
      refine call_zipK p1 p2 fun h' hz hTI hTO h1 h2 hk => wpAny_pyIter_zip hz ?_
      have I2 : Inv X pins σ H1 { s1 with heap := h' } := I1.kept (t' := s1.toks) hk
      refine ⟨s1.heap.objs.size + 4, [s1.heap.objs.size + 4, s1.heap.objs.size + 2, s1.heap.objs.size + 3, s1.heap.objs.size, s1.heap.objs.size + 1], _, _, H1, rfl, I2, turn_zipK t u (PySem.W.ktu_apart s1.heap.objs.size a b p1.lt p2.lt), ⟨hz, hTI, ⟨_, _, hTO⟩, h1, h2⟩, fun c hcm => ?_, q⟩
      have e' : c = s1.heap.objs.size + 4 ∨ c = s1.heap.objs.size + 2 ∨ c = s1.heap.objs.size + 3 ∨ c = s1.heap.objs.size ∨ c = s1.heap.objs.size + 1 := by simpa using hcm
      have hle : s1.heap.objs.size ≤ c := by
        rcases e' with z | z | z | z | z <;> rw [z] <;> first | exact Nat.le_add_right _ _ | exact Nat.le_refl _
      exact I1.fpOk hle (I1.hok.fresh hle)
theorem rep_sqK {K : PySem.W.Frag} {G : Hp} {v : V} {d : D} {xs : List D} (r : Rep K G v d) (e : seqOf d = some xs) : ∃ a vs t, v = .ref a ∧ SqK t K G a vs ∧ RepL K G vs xs := by
  cases d with
  | lst ys =>
    obtain ⟨a, vs, h1, h2, h3⟩ := rep_listK r (xs := xs) e
    exact ⟨a, vs, false, h1, h2, h3⟩
  | scr ys =>
    obtain ⟨a, vs, h1, h2, h3⟩ := rep_listK r (xs := xs) e
    exact ⟨a, vs, false, h1, h2, h3⟩
  | tup ys =>
    obtain ⟨a, vs, h1, h2, h3⟩ := rep_tupK r (xs := xs) e
    exact ⟨a, vs, true, h1, h2, h3⟩
  | _ => cases e
theorem SqK.le {t : Bool} {K : PySem.W.Frag} {G H : Hp} {a : Addr} {xs : List V} (e : Same G H) (h : SqK t K G a xs) : SqK t K H a xs := by
  cases t with
  | false => exact e.seq h
  | true => exact (RdLe.of e).t h
theorem Szs.k {t : Bool} {K : PySem.W.Frag} {H : Hp} {a : Addr} {xs : List V} (z : Szs H) (h : SqK t K H a xs) : xs.length ≤ sizeLine := by
  cases t with
  | false => exact z.l h
  | true => exact z.t h
section
variable {Φ : Nat → FS} {X : Cx} {a b : Expr} {ma mb : ME} {pos p : Pos}
theorem evA2 {Φ : Nat → FS} {K : PySem.W.Frag} {ta tb : TE} (ea : EvE Φ K ta ma) (eb : EvE Φ K tb mb) {F G H : Hp} {σ : L2.St} {env env1 env2 : Env} {d1 d2 : D} {Q : List V → Hp → Prop} (S : Stt K F G H σ env) (e1 : fw (ev Φ ma env) = some (d1, env1)) (e2 : fw (ev Φ mb env1) = some (d2, env2))
    (q : ∀ v w G' H', Stt K F G' H' σ env2 → Grow F G G' → Rep K G' v d1 → Rep K G' w d2 → Q [v, w] H') : tCons ta (tCons tb tNil) σ H Q := by
  refine ea.f S e1 fun v G1 H1 S1 g1 r1 => ?_
  exact eb.f S1 e2 fun w G2 H2 S2 g2 r2 => q v w G2 H2 S2 (g1.trans g2) (r1.mono g2.same) r2
theorem ci_zip {elts : List Expr} {kk : Nat} {tpos : Pos} (hm : X.mg "zip" = none) (ha : CE Φ X a ma) (hb : CE Φ X b mb) (hg : Gl X "zip" := by rfl) (hs : starEach [a, b] X.env = (false, eval a X.env) :: starEach [b] X.env := by rfl) (hs2 : starEach [b] X.env = (false, eval b X.env) :: starEach [] X.env := by rfl)
    (hpl : (backTo pos (starEach [b] X.env)).any (·.1) = false := by rfl) : CI Φ X (.Tuple elts kk tpos) (.Call (.Name "zip" p) [a, b] [] pos) (.zip ma mb) := by
  obtain ⟨ta, pa, ea⟩ := ha.ex
  obtain ⟨tb, pb, eb⟩ := hb.ex
  refine ⟨_, pi_zipK hg hm (pa_cons pa (pa_cons pb pa_nil hs2) hs) hs hpl, ?_⟩
  intro F G H σ env env' ds R S w k
  rw [evI] at w
  obtain ⟨⟨d1, env1⟩, e1, w⟩ := bind_inv w
  obtain ⟨⟨d2, env2⟩, e2, w⟩ := bind_inv w
  obtain ⟨xs, e3, w⟩ := bind_inv w
  obtain ⟨ys, e4, w⟩ := map_inv w
  cases w
  refine evA2 ea eb S e1 e2 fun v w G1 H1 S1 g1 r1 r2 => ?_
  obtain ⟨a, vs, t, rfl, h1, h2⟩ := rep_sqK r1 e3
  obtain ⟨b, ws, u, rfl, h3, h4⟩ := rep_sqK r2 e4
  refine ⟨a, b, vs, ws, t, u, rfl, h1.le S1.gh, h3.le S1.gh, ?_⟩
  refine k _ G1 H1 _ _ S1 g1 (walk_cast walk_zipK (by rw [pairsD_length, h2.length, h4.length])) (fun H2 z => ⟨h1.le z, h3.le z⟩) (fun i H2 x H3 z y => pair_ok h2 h4 y) fun z => ?_
  rw [pairsD_length, ← h2.length]
  exact Nat.le_trans (Nat.min_le_left _ _) (z.k (h1.le S1.gh))
end
end PL
set_option maxHeartbeats 4000000
/-! Pure layer 15: a def keeps the promise of its evaluator. -/
namespace PL
open PySem PySem.Spec PyProof.Rows L2

def endF (fresh : Bool) : Out → Option (D × D)
  | .nx _ => if fresh = true then none else some (.non, .non)
  | .rt d k _ => match fresh, k with
    | true, .fz => none
    | _, _ => some (d, .non)
  | _ => none
def endIO : Out → Option (D × D)
  | .nx e => (owD e 0).map fun d1 => (.non, d1)
  | .rt d k e => (owD (frzE d k e) 0).map fun d1 => (d, d1)
  | _ => none
def env0 (n : Nat) (ds : List D) : Env := ds.map .im ++ List.replicate (n - ds.length) .un
def env1 (n : Nat) (d0 : D) (ds : List D) : Env := .ow d0 :: (ds.map .im ++ List.replicate (n - (ds.length + 1)) .un)
/-- the worth of a def by its body: n its names -/
def runF (Φ : Nat → FS) (fuel : List D → Nat) (m : MS) (n : Nat) (io fresh : Bool) (ds : List D) : Option (D × D) := match io with
  | false => (evS Φ (fuel ds) m (env0 n ds)).bind (endF fresh)
  | true => match fresh, ds with
    | false, d0 :: r => (evS Φ (fuel ds) m (env1 n d0 r)).bind endIO
    | _, _ => none
def fsOf (Φ : Nat → FS) (fuel : List D → Nat) (m : MS) (n ar : Nat) (io fresh : Bool) : FS := ⟨ar, io, fresh, runF Φ fuel m n io fresh⟩

section
variable {K : PySem.W.Frag} {G : Hp}
theorem getS_im : ∀ (ds : List D) (r : Env) (i : Nat), getS (ds.map .im ++ r) i = if h : i < ds.length then .im ds[i] else getS r (i - ds.length)
  | [], r, i => by simp
  | d :: ds, r, 0 => by simp [getS]
  | d :: ds, r, i + 1 => by
    rw [List.map_cons, List.cons_append, getS, getS_im ds r i]
    by_cases h : i < ds.length
    · rw [dif_pos h, dif_pos (by simpa using h)]
      rfl
    · rw [dif_neg h, dif_neg (by simpa using h)]
      congr 1
      simp
theorem getS_un : ∀ (n i : Nat), getS (List.replicate n Sl.un) i = .un
  | 0, i => by simp [getS]
  | n + 1, 0 => rfl
  | n + 1, i + 1 => getS_un n i
theorem start_at {N : List Str} : ∀ {vs : List V} {i : Nat} {v : V}, vs[i]? = some v → (start N vs)[i]? = some (some v) := fun {vs i v} h => by
  unfold L2.start
  have hi := (List.getElem?_eq_some_iff.mp h).1
  rw [List.getElem?_append_left (by rw [List.length_map]; exact hi), List.getElem?_map, h]
  rfl
theorem start_len {N : List Str} {vs : List V} (h : vs.length ≤ N.length) : (start N vs).length = N.length := by
  unfold L2.start
  rw [List.length_append, List.length_map, List.length_replicate]
  omega
theorem stt0 {N : List Str} {H : Hp} {vs : List V} {ds : List D} (hs : Same G H) (r : RepL K G vs ds) (hl : ds.length ≤ N.length) : Stt K H G H (start N vs) (env0 N.length ds) where
  gh := hs
  fh := Same.refl H
  len := by
    rw [start_len (by rw [r.length]; exact hl)]
    unfold env0
    rw [List.length_append, List.length_map, List.length_replicate]
    omega
  im i d h := by
    unfold env0 at h
    rw [getS_im] at h
    split at h
    · rename_i hi
      cases h
      obtain ⟨v, h1, h2⟩ := r.get (List.getElem?_eq_getElem hi)
      exact ⟨v, start_at h1, h2⟩
    · rw [getS_un] at h
      cases h
  ow i d h := by
    unfold env0 at h
    rw [getS_im] at h
    split at h
    · cases h
    · rw [getS_un] at h
      cases h
  dj i j d e a h := by
    unfold env0 at h
    rw [getS_im] at h
    split at h
    · cases h
    · rw [getS_un] at h
      cases h
theorem stt1 {N : List Str} {H : Hp} {a : Addr} {o : HO} {ws : List V} {d0 : D} {ds : List D} (hs : Same G H) (hg : G a = none) (ha : H a = some o) (ho : HOf K G o d0) (r : RepL K G ws ds) (hl : ds.length + 1 ≤ N.length) :
    Stt K (del H a) G H (start N (.ref a :: ws)) (env1 N.length d0 ds) where
  gh := hs
  fh b u q := by
    by_cases hb : b = a
    · rw [hb, del_same] at q
      cases q
    · rw [del_ne hb] at q
      exact q
  len := by
    rw [start_len (by rw [List.length_cons, r.length]; exact hl)]
    unfold env1
    rw [List.length_cons, List.length_append, List.length_map, List.length_replicate]
    omega
  im i d h := by
    unfold env1 at h
    cases i with
    | zero => cases h
    | succ i =>
      rw [getS, getS_im] at h
      split at h
      · rename_i hi
        cases h
        obtain ⟨v, h1, h2⟩ := r.get (List.getElem?_eq_getElem hi)
        exact ⟨v, start_at (by rw [List.getElem?_cons_succ]; exact h1), h2⟩
      · rw [getS_un] at h
        cases h
  ow i d h := by
    unfold env1 at h
    cases i with
    | zero =>
      cases h
      exact ⟨a, o, start_at rfl, ha, ho, hg, del_same⟩
    | succ i =>
      rw [getS, getS_im] at h
      split at h
      · cases h
      · rw [getS_un] at h
        cases h
  dj i j d e b h h' _ _ := by
    unfold env1 at h h'
    cases i with
    | zero => cases j with
      | zero => rfl
      | succ j =>
        rw [getS, getS_im] at h'
        split at h'
        · cases h'
        · rw [getS_un] at h'
          cases h'
    | succ i =>
      rw [getS, getS_im] at h
      split at h
      · cases h
      · rw [getS_un] at h
        cases h
end
theorem grow_mono {F F' G G' : Hp} (g : Grow F G G') (h : ∀ a, F a = none → F' a = none ∨ ∃ o, G a = some o) : Grow F' G G' := ⟨g.same, fun a o q => by
  rcases g.new a o q with z | z
  · exact .inl z
  · rcases h a z with y | y
    · exact .inr y
    · exact .inl y⟩
section
variable {P : Program} {w : World} {K : PySem.W.Frag} {mg : Str → Option Value} {base : Heap} {x qual : Str} {params : Arguments} {body : List Stmt} {scope : Scope} {f : Addr} {fd : FuncData} {N ps : List Str} {k : Nat}
/-- the evaluator's worth is kept -/
theorem fn_pure {Φ : Nat → FS} {fuel : List D → Nat} {m : MS} {fresh : Bool} (F : FunD K x qual params body scope [] [] f fd) (S : FnScope N ps scope) (hN : ps.length ≤ N.length)
    (hb : ∀ (cdv : Value) (A : Around) (outer : List PySem.Env) (s : Shared) (H : Hp) (E : XK) (n : Nat), Room k (A.deeper (envOfC qual scope s.heap.objs.size f cdv)) → CSs Φ n (cxOf CX0 P w K mg base N qual scope f cdv A outer s H E).nox body m) :
    FnOk P w K mg base CX0 (k + 1) f fd ps (spFS K (fsOf Φ fuel m N.length ps.length false fresh)) := by
  refine F.ok S (fun vs H Q E h => h.1) fun cdv A outer s H vs Q E hr h => ?_
  obtain ⟨hl, ⟨_, G, ds, d, d1, hs, r, hrun, q⟩ | ⟨h0, _⟩⟩ := h
  · obtain ⟨t, pt, et⟩ := (hb cdv A outer s H E (fuel ds) hr).ex
    refine ⟨t, PSs.nox pt, ?_⟩
    have hrun : (evS Φ (fuel ds) m (env0 N.length ds)).bind (endF fresh) = some (d, d1) := hrun
    obtain ⟨o, e1, e2⟩ := bind_inv hrun
    have hl : vs.length = ps.length := hl
    have S0 := stt0 (N := N) hs r (by rw [← r.length, hl]; exact hN)
    refine et S0 e1 ?_
    cases o with
    | nx e =>
      intro σ' G' H' S' g _
      unfold endF at e2
      cases fresh with
      | true => cases e2
      | false =>
        cases e2
        exact q .non G' H' S'.fh S'.gh g Rep.non
    | rt d' k' e =>
      intro v σ' G' H' S' g _ rr
      cases fresh with
      | true =>
        cases k' with
        | fz => cases e2
        | nw =>
          cases e2
          obtain ⟨p, rfl, n⟩ := rr
          obtain ⟨o, n1, n2⟩ := n.ex
          exact q _ G' H' S'.fh S'.gh g ⟨p, o, rfl, n.f, n1, n2, n.g⟩
        | sl i =>
          cases e2
          obtain ⟨r1, r2⟩ := rr
          obtain ⟨a, o, h1, h2, h3, h4, h5⟩ := S'.ow i _ r1
          rw [r2] at h1
          cases h1
          exact q _ G' H' S'.fh S'.gh g ⟨a, o, rfl, h5, h2, h3, h4⟩
      | false =>
        have e2 : some (d', D.non) = some (d, d1) := by
          cases k' <;> exact e2
        cases e2
        obtain ⟨G2, g2, S2, r2⟩ := rr.know S'
        exact q v G2 H' S2.fh S2.gh (g.trans g2) r2
    | bk e => cases e2
    | ct e => cases e2
  · cases h0
theorem fn_io {Φ : Nat → FS} {fuel : List D → Nat} {m : MS} (F : FunD K x qual params body scope [] [] f fd) (S : FnScope N ps scope) (hN : ps.length ≤ N.length) (hw : 0 ∉ wr m)
    (hb : ∀ (cdv : Value) (A : Around) (outer : List PySem.Env) (s : Shared) (H : Hp) (E : XK) (n : Nat), Room k (A.deeper (envOfC qual scope s.heap.objs.size f cdv)) → CSs Φ n (cxOf CX0 P w K mg base N qual scope f cdv A outer s H E).nox body m) :
    FnOk P w K mg base CX0 (k + 1) f fd ps (spFS K (fsOf Φ fuel m N.length ps.length true false)) := by
  refine F.ok S (fun vs H Q E h => h.1) fun cdv A outer s H vs Q E hr h => ?_
  obtain ⟨hl, ⟨h0, _⟩ | ⟨_, G, a, o, ws, d0, ds, d, d1, rfl, hs, hg, ha, ho, r, hrun, q⟩⟩ := h
  · cases h0
  · obtain ⟨t, pt, et⟩ := (hb cdv A outer s H E (fuel (d0 :: ds)) hr).ex
    refine ⟨t, PSs.nox pt, ?_⟩
    have hrun : (evS Φ (fuel (d0 :: ds)) m (env1 N.length d0 ds)).bind endIO = some (d, d1) := hrun
    obtain ⟨ob, e1, e2⟩ := bind_inv hrun
    have hl : (V.ref a :: ws).length = ps.length := hl
    have S0 := stt1 (N := N) hs hg ha ho r (by rw [← r.length]; rw [List.length_cons] at hl; omega)
    have zero : ∀ {σ'}, OnlyAt (wr m) (start N (.ref a :: ws)) σ' → σ'[0]? = some (some (.ref a)) := fun {σ'} oo => (oo.2 0 hw).trans (start_at rfl)
    have gr : ∀ {G'}, Grow (del H a) G G' → ∀ {H' : Hp} {e : Env} {σ' : L2.St}, Stt K (del H a) G' H' σ' e → G' a = none → Grow H G G' := fun {G'} g {H' e σ'} S' hna => ⟨g.same, fun b u hb => by
      rcases g.new b u hb with z | z
      · exact .inl z
      · by_cases hba : b = a
        · rw [hba, hna] at hb
          cases hb
        · rw [del_ne hba] at z
          exact .inr z⟩
    refine et S0 e1 ?_
    cases ob with
    | nx e =>
      intro σ' G' H' S' g oo
      obtain ⟨dd, e3, e4⟩ := map_inv (show (owD e 0).map (fun d1 => (D.non, d1)) = _ from e2)
      cases e4
      obtain ⟨a', o', h1, h2, h3, h4, h5⟩ := S'.ow 0 _ (owD_inv e3)
      rw [zero oo] at h1
      cases h1
      exact q .non G' H' o' S'.fh S'.gh (gr g S' h4) h2 h3 Rep.non
    | rt d' k' e =>
      intro v σ' G' H' S' g oo rr
      obtain ⟨dd, e3, e4⟩ := map_inv (show (owD (frzE d' k' e) 0).map (fun d1 => (d', d1)) = _ from e2)
      cases e4
      obtain ⟨G2, g2, S2, r2⟩ := rr.know S'
      obtain ⟨a', o', h1, h2, h3, h4, h5⟩ := S2.ow 0 _ (owD_inv e3)
      rw [zero oo] at h1
      cases h1
      exact q v G2 H' o' S2.fh S2.gh (gr (g.trans g2) S2 h4) h2 h3 r2
    | bk e => cases e2
    | ct e => cases e2
end
/-- a worth that says less -/
theorem spFS_imp {K : PySem.W.Frag} {fs fs' : FS} (ha : fs'.ar = fs.ar) (hi : fs'.io = fs.io) (hf : fs'.fresh = fs.fresh) (hr : ∀ ds d d1, fs'.run ds = some (d, d1) → ∃ d2, fs.run ds = some (d, d2) ∧ (fs.io = true → d2 = d1)) : ∀ vs H Q E, spFS K fs' vs H Q E → spFS K fs vs H Q E := by
  intro vs H Q E ⟨hl, h⟩
  refine ⟨by rw [← ha]; exact hl, ?_⟩
  rcases h with ⟨h0, G, ds, d, d1, h1, h2, h3, h4⟩ | ⟨h0, G, a, o, ws, d0, ds, d, d1, h1, h2, h3, h4, h5, h6, h7, h8⟩
  · obtain ⟨d2, e1, _⟩ := hr _ _ _ h3
    refine .inl ⟨by rw [← hi]; exact h0, G, ds, d, d2, h1, h2, e1, ?_⟩
    rw [← hf]
    exact h4
  · obtain ⟨d2, e1, e2⟩ := hr _ _ _ h7
    have := e2 (by rw [← hi]; exact h0)
    subst this
    refine .inr ⟨by rw [← hi]; exact h0, G, a, o, ws, d0, ds, d, d2, h1, h2, h3, h4, h5, h6, e1, ?_⟩
    rw [← hf]
    exact h8
end PL
set_option maxHeartbeats 4000000
/-! Pure layer 16: one reading for each piece of the small syntax; blocks; what a def is from outside. -/
namespace PL
open PySem PySem.Spec PyProof.Rows L2

/-! ### the reading that the evaluator gives -/
def canE (Φ : Nat → FS) (K : PySem.W.Frag) (m : ME) : TE := fun σ H Q => ∃ (F G : Hp) (env env' : Env) (d : D) (k : RK), Stt K F G H σ env ∧ ev Φ m env = some (d, k, env') ∧ ∀ v G' H', Stt K F G' H' σ env' → Grow F G G' → ResOk K F G' H' σ env' v d k → Q v H'
def canT (Φ : Nat → FS) (K : PySem.W.Frag) (m : ME) : TT := fun σ H Q => ∃ (F G : Hp) (env env' : Env) (b : Bool), Stt K F G H σ env ∧ blOf (ev Φ m env) = some (b, env') ∧ ∀ G' H', Stt K F G' H' σ env' → Grow F G G' → Q b H'
def canG (K : PySem.W.Frag) (t : MT) : TG := fun v σ H Q => ∃ (F G : Hp) (env env' : Env) (d : D), Stt K F G H σ env ∧ Rep K G v d ∧ asgT t d env = some env' ∧ ∀ σ', Stt K F G H σ' env' → OnlyAt (slotsT t) σ σ' → Q σ' H
section
variable {Φ : Nat → FS} {K : PySem.W.Frag} {X : Cx}
theorem evE_can {m : ME} : EvE Φ K (canE Φ K m) m := by
  intro F G H σ env env' d k Q S e q
  exact ⟨F, G, env, env', d, k, S, e, q⟩
theorem evT_can {m : ME} : EvT Φ K (canT Φ K m) m := by
  intro F G H σ env env' b Q S e q
  exact ⟨F, G, env, env', b, S, e, q⟩
theorem evG_can {t : MT} : EvG K (canG K t) t := by
  intro F G H σ env env' d v Q S r e q
  exact ⟨F, G, env, env', d, S, r, e, q⟩
theorem CE.can {e : Expr} {m : ME} (h : CE Φ X e m) : PE X e (canE Φ X.K m) := by
  obtain ⟨t, p, q⟩ := h.ex
  refine ⟨fun pins s σ H Q I hw => p.run pins s σ H Q I ?_⟩
  obtain ⟨F, G, env, env', d, k, S, e1, qq⟩ := hw
  exact q S e1 qq
theorem CTs.can {ifs : List Expr} {m : ME} (h : CTs Φ X ifs m) : PTs X ifs (canT Φ X.K m) := by
  obtain ⟨t, p, q⟩ := h.ex
  refine ⟨fun pins s σ H Q I hw => p.run pins s σ H Q I ?_⟩
  obtain ⟨F, G, env, env', b, S, e1, qq⟩ := hw
  exact q S e1 qq
theorem CG.can {e : Expr} {t : MT} (h : CG X e t) : PG X e (canG X.K t) := by
  obtain ⟨g, p, q⟩ := h.ex
  refine ⟨fun pins s σ H v u Q I r hw => p.run pins s σ H v u Q I r ?_⟩
  obtain ⟨F, G, env, env', d, S, r1, e1, qq⟩ := hw
  exact q S r1 e1 qq
/-- a comprehension's block -/
theorem cblk {scope : Scope} {tg : Expr} {t : MT} {ifs : List Expr} {mc : ME} {elt : Expr} {me : ME} (hg : ∀ (s : Shared) (H : Hp) (C : Addr) (cl : List (Str × Addr)) (fp : List Addr), CG (X.blk s H scope (compEnvC scope cl C X.env) fp) tg t)
    (ht : ∀ (s : Shared) (H : Hp) (C : Addr) (cl : List (Str × Addr)) (fp : List Addr), CTs Φ (X.blk s H scope (compEnvC scope cl C X.env) fp) ifs mc)
    (he : ∀ (s : Shared) (H : Hp) (C : Addr) (cl : List (Str × Addr)) (fp : List Addr), CE Φ (X.blk s H scope (compEnvC scope cl C X.env) fp) elt me) : CBlk Φ X scope tg t ifs mc elt me where
  tg := ⟨canG X.K t, fun s H C cl fp => (hg s H C cl fp).can, evG_can⟩
  ts := ⟨canT Φ X.K mc, fun s H C cl fp => (ht s H C cl fp).can, evT_can⟩
  el := ⟨canE Φ X.K me, fun s H C cl fp => (he s H C cl fp).can, evE_can⟩
end

/-! ### a def from outside -/
def tbl : List FS → Nat → FS
  | [], _ => default
  | f :: _, 0 => f
  | _ :: r, n + 1 => tbl r n
structure FnG (P : Program) (w : World) (K : PySem.W.Frag) (mg : Str → Option Value) (base : Heap) (x : Str) (ps : List Str) (fs : FS) (k : Nat) : Prop where
  ex : ∃ f fd, FnOk P w K mg base CX0 k f fd ps (spFS K fs) ∧ mg x = some (.ref f) ∧ PySem.W.keepIn K (.ref f) = true ∧ Binds K fd ps []
def pick {α : Type} (ws : List α) (perm : List Nat) : List α := perm.filterMap fun i => ws[i]?
theorem vals_pick {zs : List V} {ws : List Value} (r : Vals zs ws) : ∀ perm : List Nat, Vals (pick zs perm) (pick ws perm)
  | [] => .nil
  | i :: is => by
    unfold pick
    rw [List.filterMap_cons, List.filterMap_cons]
    have l := r.length
    rcases Nat.lt_or_ge i zs.length with h | h
    · obtain ⟨x, hx, rx⟩ := vals_get' r i (List.getElem?_eq_getElem (by omega))
      rw [hx, List.getElem?_eq_getElem (by omega)]
      exact .cons rx (vals_pick r is)
    · rw [List.getElem?_eq_none h, List.getElem?_eq_none (by omega)]
      exact vals_pick r is
theorem rep_pick {K : PySem.W.Frag} {G : Hp} {zs : List V} {ds : List D} (r : RepL K G zs ds) : ∀ (perm : List Nat) {es : List D}, permD ds perm = some es → RepL K G (pick zs perm) es
  | [], es, e => by
    cases e
    exact .nil
  | i :: is, es, e => by
    rw [permD] at e
    obtain ⟨d, e1, e⟩ := bind_inv e
    obtain ⟨r', e2, e⟩ := map_inv e
    cases e
    obtain ⟨v, hv, rv⟩ := r.get e1
    unfold pick
    rw [List.filterMap_cons, hv]
    exact .cons rv (rep_pick r is e2)
structure FnGK (P : Program) (w : World) (K : PySem.W.Frag) (mg : Str → Option Value) (base : Heap) (x : Str) (ps : List Str) (fs : FS) (k : Nat) (ks : List Str) (perm : List Nat) : Prop where
  ex : ∃ f fd, FnOk P w K mg base CX0 k f fd ps (spFS K fs) ∧ mg x = some (.ref f) ∧ PySem.W.keepIn K (.ref f) = true ∧ KBn K fd ps 0 ks (fun _ ws => pick ws perm) (fun _ zs => pick zs perm)
section
variable {P : Program} {w : World} {K : PySem.W.Frag} {mg : Str → Option Value} {base : Heap} {x : Str} {fs fs' : FS} {k : Nat} {ks : List Str} {perm : List Nat} {N ps : List Str} {qual : Str} {scope : Scope} {f : Addr} {cdv : Value} {A : Around} {outer : List PySem.Env} {s : Shared} {H : Hp} {E : XK}
theorem FnG.at (h : FnG P w K mg base x ps fs k) {X : Cx} (h1 : X.prog = P := by rfl) (h2 : X.w = w := by rfl) (h3 : X.K = K := by rfl) (h4 : X.mg = mg := by rfl) (h5 : X.base = base := by rfl) : Fn X x fs k := by
  subst h1 h2 h3 h4 h5
  obtain ⟨f, fd, z⟩ := h.ex
  exact ⟨f, fd, ps, z⟩
theorem FnGK.at (h : FnGK P w K mg base x ps fs k ks perm) {X : Cx} (h1 : X.prog = P := by rfl) (h2 : X.w = w := by rfl) (h3 : X.K = K := by rfl) (h4 : X.mg = mg := by rfl) (h5 : X.base = base := by rfl) : FnK X x fs k ks perm := by
  subst h1 h2 h3 h4 h5
  obtain ⟨f, fd, z1, z2, z3, z4⟩ := h.ex
  exact ⟨f, fd, ps, _, _, z1, z2, z3, z4, fun G zs ds es r e => rep_pick r perm e⟩
theorem FnG.imp (h : FnG P w K mg base x ps fs k) (ha : fs'.ar = fs.ar) (hi : fs'.io = fs.io) (hf : fs'.fresh = fs.fresh) (hr : ∀ ds d d1, fs'.run ds = some (d, d1) → ∃ d2, fs.run ds = some (d, d2) ∧ (fs.io = true → d2 = d1)) : FnG P w K mg base x ps fs' k := by
  obtain ⟨f, fd, z1, z2⟩ := h.ex
  exact ⟨f, fd, z1.imp (spFS_imp ha hi hf hr), z2⟩
variable {params : Arguments} {body : List Stmt} {fd : FuncData}
theorem FnG.of (F : FunD K x qual params body scope [] [] f fd) (hm : mg x = some (.ref f)) (ok : FnOk P w K mg base CX0 k f fd ps (spFS K fs))
    (h : ∀ (kV doc pm : Value) (an : Option Addr) (cdv ct : Value) (us : List Value), us.length = ps.length → bindArgs (PySem.W.fnOf x qual params body scope .none kV doc pm an cdv ct) ⟨us, []⟩ = pure (ps.zip us)) : FnG P w K mg base x ps fs k :=
  ⟨f, fd, ok, hm, F.kp, F.bindsN h⟩
theorem kbn_of (F : FunD K x qual params body scope [] [] f fd) (ks : List Str) (perm : List Nat)
    (h : ∀ (kV doc pm : Value) (an : Option Addr) (cdv ct : Value) (ws : List Value), ws.length = ks.length → bindArgs (PySem.W.fnOf x qual params body scope .none kV doc pm an cdv ct) ⟨[], ks.zip ws⟩ = pure (ps.zip (pick ws perm))) :
    KBn K fd ps 0 ks (fun _ ws => pick ws perm) (fun _ zs => pick zs perm) := by
  obtain ⟨oc, od, dV, kV, doc, pm, an, cdv, ct, osl, rfl, lk, hcd, hD, hK⟩ := F.ex
  rcases hD with ⟨_, rfl⟩ | ⟨e, _⟩
  · refine ⟨fun s us ws _ hu hw => ?_, fun _ r => vals_pick r perm⟩
    cases us with
    | nil => exact .of_eq (h kV doc pm an cdv ct ws hw)
    | cons u us => cases hu
  · exact absurd rfl e
/-- by keywords: for a def told as FnG -/
theorem FnG.kw (g : FnG P w K mg base x ps fs k) (F : FunD K x qual params body scope [] [] f fd) (hm : mg x = some (.ref f)) (ks : List Str) (perm : List Nat)
    (h : ∀ (kV doc pm : Value) (an : Option Addr) (cdv ct : Value) (ws : List Value), ws.length = ks.length → bindArgs (PySem.W.fnOf x qual params body scope .none kV doc pm an cdv ct) ⟨[], ks.zip ws⟩ = pure (ps.zip (pick ws perm)))
    (hu : ∀ f' fd', mg x = some (.ref f') → FnOk P w K mg base CX0 k f' fd' ps (spFS K fs) → FnOk P w K mg base CX0 k f fd ps (spFS K fs)) : FnGK P w K mg base x ps fs k ks perm := by
  obtain ⟨f', fd', z1, z2, z3, z4⟩ := g.ex
  exact ⟨f, fd, hu f' fd' z2 z1, hm, F.kp, kbn_of F ks perm h⟩
end
theorem rm1 {k : Nat} {A : Around} (hr : Room k A) : A.units + 1 < cLine := by have := hr.un; omega
theorem rm64 {k : Nat} {A : Around} (hr : Room k A) : A.units + 64 < cLine := by have := hr.un; omega
theorem rm70 {k : Nat} {A : Around} (hr : Room k A) : A.units + 70 < cLine := by have := hr.un; omega
end PL
set_option maxHeartbeats 4000000
/-! Pure layer 17: a, b = x, y where a name is a cell: by a tuple that is unpacked. -/
namespace PL
open PySem PySem.Spec PyProof.Rows L2
section
variable {Φ : Nat → FS} {fuel : Nat} {X : Cx} {K : PySem.W.Frag} {pos : Pos}
theorem Item.alloc {F G H : Hp} {σ : L2.St} {env : Env} {v : V} {d : D} {nw : Bool} {p : Addr} {o : HO} (h : Item K F G H σ env v d nw) (hp : H p = none) : Item K F G (upd H p o) σ env v d nw := by
  cases nw with
  | false => exact h
  | true =>
    obtain ⟨q, rfl, n⟩ := h
    obtain ⟨u, n1, n2⟩ := n.ex
    exact ⟨q, rfl, ⟨⟨u, by rw [upd_ne (ne_of_none n1 hp)]; exact n1, n2⟩, n.g, n.f, n.own⟩⟩
theorem cs_mov (i j : Nat) {x y : Str} {px py : Pos} (hN : X.N.Nodup) (hi : X.N[i]? = some x := by rfl) (hj : X.N[j]? = some y := by rfl) (hx : Loc X.env.scope x := by first | exact Or.inl rfl | exact Or.inr rfl) (hv : Vis X.env.scope y := by first | exact Or.inl rfl | exact Or.inr (Or.inl rfl) | exact Or.inr (Or.inr rfl))
    (hd : (y == ("__debug__" : Str)) = false := by decide) (hcd : (y == ("__classdict__" : Str)) = false := by decide) (hs : swapsWith (.Name y py) (some (.Name x px)) pos.line X.env = pure false := by rfl)
    (hf : X.fn x = true ∨ X.env.scope.names.lookup x = some .local := by first | exact .inl rfl | exact .inr rfl) : CS Φ fuel X (.Assign [.Name x px] (.Name y py) pos) (.mov i j) := by
  refine ⟨_, ps_set hN hi hx (pv j hj hv hd hcd) hs hf, ?_⟩
  intro F G H σ env o D S w p
  rw [evS] at w
  cases hq : getS env j with
  | un => rw [hq] at w; cases w
  | im d => rw [hq] at w; cases w
  | ow d =>
    rw [hq] at w
    obtain ⟨hl, w⟩ := ite_inv w
    cases w
    obtain ⟨a, u, h1, h2, h3, h4, h5⟩ := S.ow j d hq
    refine ⟨.ref a, h1, ?_⟩
    have hlj : j < env.length := getS_lt (by rw [hq]; exact nofun)
    have n : NewAt X.K F G H σ (env.set j .un) a d := ⟨⟨u, h2, h3⟩, h4, h5, fun l e hle z => by
      have hlne : l ≠ j := fun q => by
        rw [q, getS_set_same hlj] at hle
        cases hle
      rw [getS_set_ne (Ne.symm hlne)] at hle
      exact hlne (S.dj l j e d a hle hq z h1)⟩
    exact p _ G H ((S.forget j).setNew (by rw [List.length_set]; exact hl) n) .refl only_set
theorem cs_par2c (i j : Nat) {x y : Str} {a b : Expr} {ma mb : ME} {px py pt : Pos} {kt k2 pt2} (hc : X.calm = true) (hN : X.N.Nodup) (ha : CE Φ X a ma) (hb : CE Φ X b mb) (hi : X.N[i]? = some x := by rfl) (hj : X.N[j]? = some y := by rfl) (hij : i ≠ j := by decide)
    (hx : Loc X.env.scope x := by first | exact Or.inl rfl | exact Or.inr rfl) (hy : Loc X.env.scope y := by first | exact Or.inl rfl | exact Or.inr rfl)
    (fx : X.fn x = true ∨ X.env.scope.names.lookup x = some .local := by first | exact .inl rfl | exact .inr rfl) (fy : X.fn y = true ∨ X.env.scope.names.lookup y = some .local := by first | exact .inl rfl | exact .inr rfl)
    (hw : swappedStores [.Tuple [.Name x px, .Name y py] kt pt] (.Tuple [a, b] k2 pt2) X.env = pure none := by rfl)
    (hs : swapsWithSole [.Tuple [.Name x px, .Name y py] kt pt] (.Tuple [a, b] k2 pt2) pos.line X.env = pure false := by rfl)
    (h1 : (assignEach [.Tuple [.Name x px, .Name y py] kt pt] X.env).map (·.2) = [assign (.Tuple [.Name x px, .Name y py] kt pt) X.env] := by rfl)
    (hs1 : starEach [a, b] X.env = (false, eval a X.env) :: starEach [b] X.env := by rfl) (hs2 : starEach [b] X.env = (false, eval b X.env) :: starEach [] X.env := by rfl)
    (hg1 : (assignEach [.Name x px, .Name y py] X.env).map (·.2) = assign (.Name x px) X.env :: (assignEach [.Name y py] X.env).map (·.2) := by rfl) (hg2 : (assignEach [.Name y py] X.env).map (·.2) = assign (.Name y py) X.env :: (assignEach [] X.env).map (·.2) := by rfl)
    (hn : (assignEach [.Name x px, .Name y py] X.env).length = 2 := by rfl) (hst : (assignEach [.Name x px, .Name y py] X.env).findIdx? (·.1) = none := by rfl) :
    CS Φ fuel X (.Assign [.Tuple [.Name x px, .Name y py] kt pt] (.Tuple [a, b] k2 pt2) pos) (.par2 i j ma mb) := by
  obtain ⟨ta, pa, qa⟩ := ha.ex
  obtain ⟨tb, pb, qb⟩ := hb.ex
  refine ⟨_, ps_asg (pe_tup (pa_cons pa (pa_cons pb pa_nil hs2) hs1)) (pg_tup hc (pgs_cons (pg_name hN hi hx fx) (pgs_cons (pg_name hN hj hy fy) pgs_nil hg2) hg1) hn hst) hs hw h1, ?_⟩
  intro F G H σ env o D S w p
  rw [evS] at w
  obtain ⟨⟨d1, n1, env1⟩, w1, w⟩ := bind_inv w
  obtain ⟨⟨d2, n2, env2⟩, w2, w⟩ := bind_inv w
  obtain ⟨⟨l1, l2, l3⟩, w⟩ := ite_inv w
  cases w
  refine keep_step qa S w1 fun v1 F1 G1 H1 S1 g1 k1 => ?_
  refine keep_step qb S1 w2 fun v2 F2 G2 H2 S2 g2 k2 => ?_
  refine ⟨by show 2 ≤ sizeLine; decide, fun T hT => ?_⟩
  refine ⟨T, [v1, v2], rfl, SqT.of upd_same, rfl, v1, [v2], rfl, v2, [], rfl, rfl, ?_⟩
  have hl : env2.length = env.length := by rw [S2.len, S.len]
  have it1 : Item X.K F G2 H2 σ env2 v1 d1 n1 := k1.item S2 k2.same g2
  have S3 : Stt X.K F G2 H2 σ env2 := S2.frame (k1.same.trans k2.same)
  have it2 : Item X.K F G2 H2 σ env2 v2 d2 n2 := by
    have z := k2.item S2 (Same.refl _) Grow.refl
    cases n2 with
    | false => exact z
    | true =>
      obtain ⟨p, rfl, n⟩ := z
      exact ⟨p, rfl, ⟨n.ex, n.g, k1.same.free n.f, n.own⟩⟩
  have S4 : Stt X.K F G2 (upd H2 T (.tup [v1, v2])) σ env2 := S3.alloc hT
  have j1 := it1.alloc (o := .tup [v1, v2]) hT
  have j2 := it2.alloc (o := .tup [v1, v2]) hT
  have S5 := j1.set S4 (by rw [hl]; exact l1)
  have j2' := j2.keep (e := d1) (mw := n1) (w := v1) S4 (i := i) (by rw [hl]; exact l1) (k1.apart k2)
  exact p _ G2 _ (j2'.set S5 (by rw [setK_length, hl]; exact l2)) (g1.trans (g2.frame k1.same)) (only_set.trans only_set)
end
end PL
set_option maxHeartbeats 4000000
/-! Pure layer 18: tables of sets with up to 512 slots. -/
namespace PL
open PySem PySem.Spec PyProof.Rows L2
/-! ### the round of i -> 5 i + 1 over 512 -/
def orb : Nat → Nat → List Nat
  | 0, _ => []
  | n + 1, x => x :: orb n ((x * 5 + 1) % 512)
theorem orb_mem : ∀ (n a y : Nat), y ∈ orb n (lcgN 511 a) → ∃ b, b < a + n ∧ lcgN 511 b = y
  | 0, a, y, h => by cases h
  | n + 1, a, y, h => by
    rcases List.mem_cons.mp h with e | q
    · exact ⟨a, by omega, e.symm⟩
    · obtain ⟨b, p1, p2⟩ := orb_mem n (a + 1) y q
      exact ⟨b, by omega, p2⟩
theorem orb_full : ((List.range 512).all fun j => (orb 512 0).contains j) = true := by decide +kernel
theorem back511 : lcgN 511 512 = 0 := by decide +kernel
theorem lcg511 {j : Nat} (hj : j ≤ 511) : ∃ b, b ≤ 511 ∧ lcgN 511 b = j := by
  have e := List.all_eq_true.mp orb_full j (List.mem_range.mpr (by omega))
  obtain ⟨b, p1, p2⟩ := orb_mem 512 0 j (by
    show j ∈ orb 512 0
    simpa using e)
  exact ⟨b, by omega, p2⟩
theorem again511 : ∀ k, lcgN 511 (512 + k) = lcgN 511 k
  | 0 => back511
  | k + 1 => by
    show (lcgN 511 (512 + k) * 5 + 1) % 512 = (lcgN 511 k * 5 + 1) % 512
    rw [again511 k]
/-- the masks of small tables -/
def MaskB (m : Nat) : Prop := m = 7 ∨ m = 31 ∨ m = 127 ∨ m = 511
theorem MaskB.round {m : Nat} (c : MaskB m) {i j : Nat} (hi : i ≤ m) (hj : j ≤ m) : ∃ k, k ≤ m ∧ lcgI m i k = j := by
  by_cases c5 : m = 511
  · subst c5
    obtain ⟨a, a1, rfl⟩ := lcg511 hi
    obtain ⟨b, b1, rfl⟩ := lcg511 hj
    by_cases hab : a ≤ b
    · refine ⟨b - a, by omega, ?_⟩
      rw [lcgN_add, show a + (b - a) = b by omega]
    · refine ⟨512 + b - a, by omega, ?_⟩
      rw [lcgN_add, show a + (512 + b - a) = 512 + b by omega, again511]
  · have c' : MaskOk m := by
      rcases c with z | z | z | z
      · exact Or.inl z
      · exact Or.inr (Or.inl z)
      · exact Or.inr (Or.inr z)
      · exact absurd z c5
    exact lcgI_all c' hi hj
theorem MaskB.odd {m : Nat} (c : MaskB m) : m % 2 = 1 := by
  rcases c with z | z | z | z <;> omega
theorem MaskB.le {m : Nat} (c : MaskB m) : m ≤ 511 := by
  rcases c with z | z | z | z <;> omega
theorem MaskB.runs {m : Nat} (c : MaskB m) (h : Int) {j : Nat} (hj : j ≤ m) : ∃ n, n ≤ m + 12 ∧ runI m (SetTable.bits h) n = j := by
  obtain ⟨k, k1, k2⟩ := c.round (runI_le m (SetTable.bits h) 12) hj
  refine ⟨12 + k, by omega, ?_⟩
  rw [runI_tail (bits_lt h), k2]
theorem MaskB.meets {m : Nat} (c : MaskB m) (h : Int) {j : Nat} (hj : j ≤ m) : ∃ k, k < 10 * SetTable.turns m ∧ way m h k = j := by
  obtain ⟨n, n1, n2⟩ := c.runs h hj
  obtain ⟨k, k1, k2⟩ := run_nth m (SetTable.bits h) n
  refine ⟨k, by unfold SetTable.turns; omega, ?_⟩
  show (nth m (runAt m (SetTable.bits h % (m + 1)) (SetTable.bits h)) k).j = j
  rw [k2, ← n2]
  rfl
theorem way_bd (m : Nat) (h : Int) (k : Nat) : way m h k ≤ m := by
  have h0 : SetTable.bits h % (m + 1) ≤ m := Nat.le_of_lt_succ (Nat.mod_lt _ (Nat.succ_pos _))
  have h1 := runEnd_bd h0
  have h2 := nth_in (m := m) k (runAt m (SetTable.bits h % (m + 1)) (SetTable.bits h)) (by
    show SetTable.bits h % (m + 1) + (SetTable.runEnd m (SetTable.bits h % (m + 1)) - SetTable.bits h % (m + 1)) ≤ m
    omega)
  exact Nat.le_trans (Nat.le_add_right _ _) h2

/-! ### a table in which all are found -/
structure Tb (t : SetTable) (hs : List Int) : Prop where
  rs : Ris t.place.toList
  du : t.dummies = #[]
  nn : t.place.size = hs.length
  mb : MaskB t.mask
  le : ∀ x ∈ t.place.toList, x ≤ t.mask
  wy : ∀ (i : Nat) (h : Int) (j : Nat), hs[i]? = some h → t.place.toList[i]? = some j → ∃ k, way t.mask h k = j ∧ ∀ l, l < k → way t.mask h l ∈ t.place.toList
theorem Tb.len {t : SetTable} {hs : List Int} (T : Tb t hs) : t.place.toList.length = hs.length := by
  rw [Array.length_toList]
  exact T.nn
/-- where a new one goes -/
theorem Tb.gap {t : SetTable} {hs : List Int} (T : Tb t hs) (hl : hs.length ≤ t.mask) (h : Int) : ∃ K, K < 10 * SetTable.turns t.mask ∧ way t.mask h K ∉ t.place.toList ∧ ∀ l, l < K → way t.mask h l ∈ t.place.toList := by
  have hlen := T.len
  obtain ⟨j, j1, j2⟩ := st_missing t.place.toList (t.mask + 1) (by omega)
  obtain ⟨k, k1, k2⟩ := T.mb.meets h (Nat.le_of_lt_succ j1)
  obtain ⟨K, l1, l2, l3⟩ := st_least (p := fun l => way t.mask h l ∉ t.place.toList) k (by
    show way t.mask h k ∉ t.place.toList
    rw [k2]
    exact j2)
  exact ⟨K, by omega, l2, fun l hl => Classical.byContradiction fun z => l3 l hl z⟩
/-- what bears the hash stands ahead of the gap -/
theorem Tb.ahead {t : SetTable} {hs : List Int} (T : Tb t hs) {h : Int} {K i j : Nat} (hK : way t.mask h K ∉ t.place.toList) (hi : hs[i]? = some h) (hj : t.place.toList[i]? = some j) : ∃ k, k < K ∧ way t.mask h k = j := by
  obtain ⟨k, e, q⟩ := T.wy i h j hi hj
  refine ⟨k, ?_, e⟩
  rcases Nat.lt_or_ge k K with c | c
  · exact c
  · exfalso
    rcases Nat.eq_or_lt_of_le c with z | z
    · subst z
      rw [e] at hK
      exact hK (List.mem_of_getElem? hj)
    · exact hK (q K z)
structure PutB (t t' : SetTable) (hs : List Int) (h : Int) (p : Nat) : Prop where
  tb : Tb t' (hs.take p ++ h :: hs.drop p)
  mask : t'.mask = t.mask
  led : t'.led = t.led
  plain : t'.plain = t.plain
  fill : t'.fill = hs.length + 1
theorem Tb.put {t : SetTable} {hs : List Int} (T : Tb t hs) {h : Int} {K : Nat} (hK : way t.mask h K ∉ t.place.toList) (hb : ∀ l, l < K → way t.mask h l ∈ t.place.toList) {j p : Nat} (hj : way t.mask h K = j) (hp : SetTable.below t.place j = p) :
    p ≤ hs.length ∧ (t.put j).2 = p ∧ PutB t (t.put j).1 hs h p := by
  have hjm : j ≤ t.mask := by
    rw [← hj]
    exact way_bd _ _ _
  have hKj : j ∉ t.place.toList := by
    rw [← hj]
    exact hK
  have hlen := T.len
  obtain ⟨c1, -, -⟩ := below_cut T.rs j
  rw [hp, ← Array.length_toList] at c1
  have hpp : (t.put j).1.place.toList = t.place.toList.take p ++ j :: t.place.toList.drop p := by
    rw [put_place t j, hp]
  have hsz : (t.put j).1.place.size = hs.length + 1 := by
    rw [← Array.length_toList, hpp, len_ins _ c1, hlen]
  have more : ∀ {x : Nat}, x ∈ t.place.toList → x ∈ (t.put j).1.place.toList := fun {x} hx => by
    rw [hpp, mem_ins]
    exact Or.inr hx
  have hne : t.place[SetTable.below t.place j]? ≠ some j := fun e => hKj (List.mem_of_getElem? (i := SetTable.below t.place j) (by rw [Array.getElem?_toList, e]))
  refine ⟨by omega, hp, ⟨ris_insert T.rs hne, put_dm T.du j, ?_, T.mb, fun x hx => ?_, fun i h' j' q1 q2 => ?_⟩, rfl, rfl, rfl, ?_⟩
  · rw [len_ins _ (by omega), hsz]
  · rw [hpp, mem_ins] at hx
    rcases hx with z | z
    · exact z ▸ hjm
    · exact T.le x z
  · rw [tins_get hs (by omega)] at q1
    rw [hpp, tins_get _ c1] at q2
    show ∃ k, way t.mask h' k = j' ∧ ∀ l, l < k → way t.mask h' l ∈ (t.put j).1.place.toList
    rcases Nat.lt_trichotomy i p with c | c | c
    · rw [if_pos c] at q1 q2
      obtain ⟨k, e, z⟩ := T.wy i h' j' q1 q2
      exact ⟨k, e, fun l hl => more (z l hl)⟩
    · rw [if_neg (by omega), if_pos c] at q1 q2
      cases q1
      cases q2
      exact ⟨K, hj, fun l hl => more (hb l hl)⟩
    · rw [if_neg (by omega), if_neg (by omega)] at q1 q2
      obtain ⟨k, e, z⟩ := T.wy (i - 1) h' j' q1 q2
      exact ⟨k, e, fun l hl => more (z l hl)⟩
  · show (t.put j).1.place.size + (t.put j).1.dummies.size = hs.length + 1
    rw [hsz, put_dm T.du j]
    rfl

/-! ### laid anew -/
theorem free_at {m : Nat} (c : MaskB m) (ow : Array (Option Nat)) (h : Int) {j : Nat} (hj : j ≤ m) (hf : oAt ow j = none) :
    ∃ K, SetTable.layClean.free m ow (SetTable.turns m) (SetTable.bits h % (m + 1)) (SetTable.bits h) = some (way m h K) ∧ oAt ow (way m h K) = none ∧ ∀ l, l < K → oAt ow (way m h l) ≠ none := by
  obtain ⟨n, n1, n2⟩ := c.runs h hj
  have hw : way m h (off m (SetTable.bits h % (m + 1)) (SetTable.bits h) n) = j := by
    show (nth m (runAt m _ _) (off m _ _ n)).j = j
    rw [nth_off, itL_run, ← n2]
    rfl
  obtain ⟨K, l1, l2, l3⟩ := st_least (p := fun l => oAt ow (way m h l) = none) _ (by show oAt ow (way m h _) = none; rw [hw]; exact hf)
  refine ⟨K, free_spec m ow (SetTable.turns m) n _ _ K (by unfold SetTable.turns; omega) l1 (fun l hl => ?_) ?_, l2, l3⟩
  · exact Option.isNone_eq_false_iff.mpr (Option.isSome_iff_ne_none.mpr (l3 l hl))
  · exact Option.isNone_iff_eq_none.mpr l2
theorem own_step {m : Nat} (c : MaskB m) {done : List Int} {ow : Array (Option Nat)} (W : Own m done ow) (hl : done.length ≤ m) (h : Int) :
    ∃ j, SetTable.layClean.free m ow (SetTable.turns m) (SetTable.bits h % (m + 1)) (SetTable.bits h) = some j ∧ Own m (done ++ [h]) (ow.setIfInBounds j (some done.length)) := by
  obtain ⟨ps, p1, p2⟩ := W.ps
  obtain ⟨j0, f1, f2⟩ := st_missing ps (m + 1) (by omega)
  have f3 : oAt ow j0 = none := Classical.byContradiction fun z => f2 (p2 j0 (Nat.le_of_lt_succ f1) z)
  obtain ⟨K, e1, e2, e3⟩ := free_at c ow h (Nat.le_of_lt_succ f1) f3
  have hjm := way_bd m h K
  have hsz := W.sz
  generalize hj : way m h K = j at e1 e2 hjm
  have me : oAt (ow.setIfInBounds j (some done.length)) j = some done.length := oAt_set_self _ (by omega)
  have they : ∀ {i : Nat}, i ≠ j → oAt (ow.setIfInBounds j (some done.length)) i = oAt ow i := fun {i} hi => oAt_set_ne _ hi
  have stay : ∀ {i : Nat}, oAt ow i ≠ none → oAt (ow.setIfInBounds j (some done.length)) i ≠ none := fun {i} hi => by
    by_cases z : i = j
    · rw [z, me]
      exact Option.some_ne_none _
    · rw [they z]
      exact hi
  refine ⟨j, e1, by rw [Array.size_setIfInBounds, hsz], fun i k hi e => ?_, fun k hk => ?_, j :: ps, by rw [List.length_cons, List.length_append, p1, List.length_singleton], fun i hi e => ?_⟩
  · by_cases z : i = j
    · subst z
      rw [me] at e
      cases e
      exact ⟨h, K, by rw [List.getElem?_append_right (Nat.le_refl _), Nat.sub_self]; rfl, hj, fun l hl => stay (e3 l hl)⟩
    · rw [they z] at e
      obtain ⟨h', K', a1, a2, a3⟩ := W.at_ i k hi e
      exact ⟨h', K', by rw [List.getElem?_append_left (List.getElem?_eq_some_iff.mp a1).1, a1], a2, fun l hl => stay (a3 l hl)⟩
  · rw [List.length_append, List.length_singleton] at hk
    rcases Nat.lt_or_ge k done.length with z | z
    · obtain ⟨i, i1, i2⟩ := W.all k z
      refine ⟨i, i1, ?_⟩
      rw [they fun q => by rw [q, e2] at i2; cases i2]
      exact i2
    · refine ⟨j, hjm, ?_⟩
      rw [me, show done.length = k by omega]
  · by_cases z : i = j
    · exact z ▸ List.mem_cons_self
    · rw [they z] at e
      exact List.mem_cons_of_mem _ (p2 i hi e)
theorem own_fold {m : Nat} (c : MaskB m) : ∀ (todo done : List Int) (ow : Array (Option Nat)), Own m done ow → done.length + todo.length ≤ m →
    ∃ ow', todo.foldl (stepF m) (some (ow, done.length)) = some (ow', done.length + todo.length) ∧ Own m (done ++ todo) ow'
  | [], done, ow, W, _ => ⟨ow, rfl, by rw [List.append_nil]; exact W⟩
  | h :: todo, done, ow, W, hl => by
    rw [List.length_cons] at hl
    obtain ⟨j, e, W1⟩ := own_step c W (by omega) h
    have hn : (done ++ [h]).length = done.length + 1 := by rw [List.length_append, List.length_singleton]
    obtain ⟨ow', e1, W2⟩ := own_fold c todo (done ++ [h]) _ W1 (by omega)
    refine ⟨ow', ?_, by rw [List.append_assoc] at W2; exact W2⟩
    rw [List.foldl_cons, stepF_some e, ← hn, e1, hn, List.length_cons]
    congr 2
    omega
theorem lay_clean {m : Nat} (c : MaskB m) {hs : Array Int} (hn : hs.size ≤ m) : ∃ ow, SetTable.layClean m hs = some ow ∧ Own m hs.toList ow := by
  obtain ⟨ow, e, W⟩ := own_fold c hs.toList [] _ (Own.init m) (by
    show 0 + hs.size ≤ m
    omega)
  refine ⟨ow, ?_, W⟩
  rw [layClean_eq]
  have e' : hs.toList.foldl (stepF m) (some (Array.replicate (m + 1) none, 0)) = _ := e
  rw [e']
  rfl
structure LaidB (t t' : SetTable) (hs : Array Int) (M : Nat) (order : Array Nat) : Prop where
  perm : order.toList.Perm (List.range hs.size)
  tb : Tb t' (order.toList.map fun i => hs.getD i 0)
  mask : t'.mask = M
  led : t'.led = t.led
  plain : t'.plain = t.plain
theorem laid_anew (t : SetTable) {hs : Array Int} {wanted M : Nat} (hw : SetTable.sizeAbove wanted - 1 = M) (c : MaskB M) (hn : hs.size ≤ M) : ∃ t' order, t.relaid hs wanted = some (t', order) ∧ LaidB t t' hs M order := by
  obtain ⟨ow, e, W⟩ := lay_clean c hn
  have hsz := W.sz
  have hr : t.relaid hs wanted = some (tabOf t M ow, ((liveOf M ow).map (·.2)).toArray) := by
    rw [relaid_eq, hw, e]
    rfl
  obtain ⟨r1, r2⟩ : Ris ((liveOf M ow).map (·.1)) ∧ ∀ x ∈ (liveOf M ow).map (·.1), x ∈ List.range (M + 1) := ris_live (fun j => ow.getD j none) (List.range (M + 1)) List.pairwise_lt_range
  have live : ∀ {j k : Nat}, (j, k) ∈ liveOf M ow ↔ j ≤ M ∧ oAt ow j = some k := mem_live hsz
  have hlen : (liveOf M ow).length = hs.size := by
    obtain ⟨ps, p1, p2⟩ := W.ps
    have nd : ((liveOf M ow).map (·.1)).Nodup := List.Pairwise.imp (fun q => Nat.ne_of_lt q) r1
    have up := nat_nodup_len ((liveOf M ow).map (·.1)) ps nd fun x hx => by
      obtain ⟨⟨y, k⟩, hq, rfl⟩ := List.mem_map.mp hx
      obtain ⟨b1, b2⟩ := live.mp hq
      exact p2 y b1 (by rw [b2]; exact Option.some_ne_none _)
    have dn := nat_nodup_len (List.range hs.size) ((liveOf M ow).map (·.2)) List.nodup_range fun k hk => by
      obtain ⟨j, b1, b2⟩ := W.all k (by rw [Array.length_toList]; exact List.mem_range.mp hk)
      exact List.mem_map.mpr ⟨(j, k), live.mpr ⟨b1, b2⟩, rfl⟩
    have hz : hs.toList.length = hs.size := rfl
    rw [List.length_map, p1, hz] at up
    rw [List.length_map, List.length_range] at dn
    omega
  refine ⟨tabOf t M ow, _, hr, ?_, ⟨r1, rfl, ?_, c, fun x hx => ?_, fun i h j q1 q2 => ?_⟩, rfl, rfl, rfl⟩
  · refine perm_range hs.size _ (by rw [List.toList_toArray, List.length_map, hlen]) fun k hk => ?_
    obtain ⟨j, b1, b2⟩ := W.all k (by rw [Array.length_toList]; exact hk)
    exact List.mem_map.mpr ⟨(j, k), live.mpr ⟨b1, b2⟩, rfl⟩
  · show ((liveOf M ow).map (·.1)).toArray.size = _
    simp
  · exact Nat.le_of_lt_succ (List.mem_range.mp (r2 x hx))
  · have q1' : (((liveOf M ow).map (·.2)).map fun i => hs.getD i 0)[i]? = some h := q1
    have q2' : ((liveOf M ow).map (·.1))[i]? = some j := q2
    rw [List.getElem?_map] at q2'
    obtain ⟨⟨y, k⟩, hq, rfl⟩ := Option.map_eq_some_iff.mp q2'
    rw [List.getElem?_map, List.getElem?_map, hq] at q1'
    have eh : hs.getD k 0 = h := Option.some.inj q1'
    obtain ⟨b1, b2⟩ := live.mp (List.mem_of_getElem? hq)
    obtain ⟨h0, K, a1, a2, a3⟩ := W.at_ y k b1 b2
    have e0 : hs.getD k 0 = h0 := by
      rw [Array.getD_eq_getD_getElem?, ← Array.getElem?_toList, a1]
      rfl
    obtain rfl : h0 = h := e0.symm.trans eh
    refine ⟨K, a2, fun l hl => ?_⟩
    show way M h0 l ∈ (liveOf M ow).map (·.1)
    obtain ⟨k2, z⟩ := Option.ne_none_iff_exists'.mp (a3 l hl)
    exact List.mem_map.mpr ⟨(way M h0 l, k2), live.mpr ⟨way_bd M h0 l, z⟩, rfl⟩
theorem size_512 : SetTable.sizeAbove (SetTable.grown 77) = 512 := by decide +kernel
end PL
set_option maxHeartbeats 4000000
/-! Pure layer 19: sets of up to 120 tuples of ints. -/
namespace PL
open PySem PySem.Spec PyProof.Rows L2
abbrev Ro := Addr × List Int
abbrev keysOf (P : Program) (w : World) (L : List Ro) : List Int := L.map fun p => thash P w p.2
abbrev pos0 (m : Nat) (h : Int) : SetTable.Probe := runAt m (SetTable.bits h % (m + 1)) (SetTable.bits h)
structure SetB (P : Program) (w : World) (h : Heap) (a : Addr) (L : List Ro) (es : Array (Int × Value)) (ep : Nat) (t : SetTable) : Prop where
  ob : ∃ o, h.get? a = some o ∧ o.ExactSet ∧ o.data = .set es ep t
  rw_ : es.toList = rowsOf P w L
  tb : Tb t (keysOf P w L)
  nd : (L.map (·.2)).Nodup
  ts : ∀ p ∈ L, IsT P w h p.2 p.1
  pl : t.plain = true
  ld : w.params.followText "set-order" = true ∨ t.led = true
  rm : L.length * 5 < t.mask * 3
  fw : L.length ≤ 120
section
variable {P : Program} {w : World} {A : Around} {E : Value → Shared → Prop} {s : Shared} {a : Addr} {L : List Ro} {es : Array (Int × Value)} {ep : Nat} {t : SetTable}
theorem rows_size (h : es.toList = rowsOf P w L) : es.size = L.length := by
  have e := congrArg List.length h
  rw [show (rowsOf P w L).length = L.length from List.length_map ..] at e
  exact e
theorem rows_at (h : es.toList = rowsOf P w L) {i : Nat} {p : Ro} (hp : L[i]? = some p) : es[i]? = some (thash P w p.2, .ref p.1) := by
  have e : (rowsOf P w L)[i]? = some (thash P w p.2, .ref p.1) := by
    show (L.map _)[i]? = _
    rw [List.getElem?_map, hp]
    rfl
  rw [← h, Array.getElem?_toList] at e
  exact e
theorem fits_of (hsz : t.place.size = es.size) (hd : t.dummies = #[]) (hle : es.size ≤ t.mask) : t.fits es.size = true := by
  unfold SetTable.fits SetTable.fill
  rw [hd]
  simp [hsz, hle]
theorem SetB.fits (R : SetB P w s.heap a L es ep t) : t.fits es.size = true := by
  have h1 := rows_size R.rw_
  have h2 := R.tb.nn
  have h3 := R.rm
  rw [List.length_map] at h2
  exact fits_of (by omega) R.tb.du (by omega)
theorem mask_whole (c : MaskB t.mask) : ¬ t.gaveWay = true := by
  unfold SetTable.gaveWay
  rw [c.odd]
  decide
theorem nth_calm (m : Nat) : ∀ (n : Nat) (p : SetTable.Probe), p.dummy = none → (nth m p n).dummy = none
  | 0, _, h => h
  | n + 1, p, h => nth_calm m n (adv m p) (by
    unfold adv
    split <;> exact h)
/-- the search from the c-th step of the way on -/
theorem seek (R : SetB P w s.heap a L es ep t) {x : Addr} {k : List Int} (hx : IsT P w s.heap k x) (hu : A.units < cLine) {h : Int} (hh : thash P w k = h) {K : Nat} (hKf : K < 10 * SetTable.turns t.mask) (hK : way t.mask h K ∉ t.place.toList)
    (hb : ∀ c, c < K → way t.mask h c ∈ t.place.toList) {Q : SetFound → Shared → Prop} (hin : k ∈ L.map (·.2) → Q (.there none) s) (hout : k ∉ L.map (·.2) → Q (.free (way t.mask h K) false) s) :
    ∀ (f c : Nat) (stand : Option SetTable.Probe), stand.getD (t.probeStart h) = nth t.mask (pos0 t.mask h) c → c ≤ K → K - c < f → (∀ (i : Nat) p, L[i]? = some p → p.2 = k → ∃ c', c ≤ c' ∧ c' < K ∧ t.place.toList[i]? = some (way t.mask h c')) →
      wpAny (model P w) A (setSearchFrom a (.ref x) h true f stand) Q E s := by
  obtain ⟨o, ho, hex, hd⟩ := R.ob
  have hfit := R.fits
  have ent : ∀ {i : Nat} {p : Ro}, L[i]? = some p → es[i]? = some (thash P w p.2, .ref p.1) := rows_at R.rw_
  have hkey : ∀ {i : Nat} {p : Ro}, L[i]? = some p → (fun i => (es[i]?.map (·.1)).getD 0) i = thash P w p.2 := fun {i p} hp => by
    show (es[i]?.map (·.1)).getD 0 = _
    rw [ent hp]
    rfl
  intro f
  induction f with
  | zero => exact fun c _ _ _ hf => absurd hf (Nat.not_lt_zero _)
  | succ f ih =>
    intro c stand hst hc hf hre
    have jump : ∀ q, nth t.mask (nth t.mask (pos0 t.mask h) c) q = nth t.mask (pos0 t.mask h) (c + q) := fun q => (nth_add t.mask c _ q).symm
    have seat : ∀ q, (nth t.mask (nth t.mask (pos0 t.mask h) c) q).j = way t.mask h (c + q) := fun q => congrArg SetTable.Probe.j (jump q)
    have met := go_spec t R.tb.rs R.tb.du (fun i => (es[i]?.map (·.1)).getD 0) h (10 * SetTable.turns t.mask) (K - c) (nth t.mask (pos0 t.mask h) c) (nth_calm t.mask c _ rfl) (by omega) (fun q hq => by rw [seat]; exact hb _ (by omega))
      (by rw [seat, show c + (K - c) = K by omega]; exact hK)
    rw [setSearchFrom_succ]
    refine wpAny_bind (wpAny_setState_of (Q := _) ho hd hfit ?_)
    dsimp only
    refine wp_if_neg (mask_whole R.tb.mb) ?_
    try refine wpAny_bind (wpAny_pure ?_)
    rcases met with ⟨q, i, hq, hi, hhash, hno, hpr⟩ | ⟨hno, hpr⟩
    · rw [seat] at hi
      rw [seat, jump] at hpr
      rw [show t.probe (fun i => (es[i]?.map (·.1)).getD 0) h (stand.getD (t.probeStart h)) = some (.candidate (way t.mask h (c + q)) i (nth t.mask (pos0 t.mask h) (c + (q + 1)))) from by rw [hst]; exact hpr]
      dsimp only
      have hil : i < L.length := by
        have l1 := (List.getElem?_eq_some_iff.mp hi).1
        have l2 := R.tb.len
        rw [List.length_map] at l2
        omega
      obtain ⟨p, hp⟩ : ∃ p, L[i]? = some p := ⟨_, List.getElem?_eq_getElem hil⟩
      have hm : p ∈ L := List.mem_of_getElem? hp
      have live : t.slot (way t.mask h (c + q)) = .live i := slot_live R.tb.rs hi
      have rest : wpAny (model P w) A (searchRest a (.ref x) h true f es t (way t.mask h (c + q)) i (nth t.mask (pos0 t.mask h) (c + (q + 1)))) Q E s := by
        unfold searchRest
        rw [ent hp]
        dsimp only
        refine wpAny_bind (wpAny_holding (wpAny_eqBool_tuple (Q := _) hu (R.ts p hm) hx ?_))
        refine wpAny_bind (wpAny_setState_of (Q := _) ho hd hfit ?_)
        dsimp only
        by_cases same : p.2 = k
        · refine wp_if_pos (by simp [same]) (wpAny_pure (hin ?_))
          exact List.mem_map.mpr ⟨p, hm, same⟩
        · refine wp_if_neg (by simp [same]) ?_
          try refine wpAny_bind (wpAny_pure ?_)
          rw [sameMem]
          dsimp only
          simp only [if_true, live, ent hp]
          refine wpAny_bind (wpAny_isSame_ref_self (wpAny_bind (wpAny_pure ?_)))
          simp only [if_true]
          refine wp_if_neg (by simp [same]) (ih (c + (q + 1)) _ rfl (by omega) (by omega) fun i0 p0 h0 k0 => ?_)
          obtain ⟨c', a1, a2, a3⟩ := hre i0 p0 h0 k0
          have k1 : thash P w p0.2 = h := by rw [k0, hh]
          have n1 : c + q < c' := by
            rcases Nat.lt_or_ge (c + q) c' with z | z
            · exact z
            · exfalso
              rcases Nat.eq_or_lt_of_le z with y | y
              · subst y
                have l0 := slot_live R.tb.rs a3
                rw [live] at l0
                injection l0 with l0
                subst l0
                rw [hp] at h0
                cases h0
                exact same k0
              · exact hno (c' - c) i0 (by omega) (by rw [seat, show c + (c' - c) = c' by omega]; exact a3) ((hkey h0).trans k1)
          exact ⟨c', by omega, a2, a3⟩
      by_cases hl : t.led = true
      · refine wp_if_neg (by simp [hl]) ?_
        try refine wpAny_bind (wpAny_pure ?_)
        exact rest
      · refine wp_if_pos (by simp [hl]) (wpAny_bind (seen_tup hx (fun y hy => ?_) ?_))
        · obtain ⟨e, e1, e2⟩ := List.mem_map.mp hy
          have e3 : e ∈ es.toList := by
            have : e ∈ es ∧ e.1 = h := by simpa using e1
            simpa using this.1
          rw [R.rw_] at e3
          obtain ⟨r, r1, r2⟩ := List.mem_map.mp e3
          exact ⟨r.2, r.1, by rw [← e2, ← r2], R.ts r r1⟩
        · refine wp_if_neg (by decide) ?_
          try refine wpAny_bind (wpAny_pure ?_)
          exact rest
    · rw [seat, show c + (K - c) = K by omega] at hpr
      rw [show t.probe (fun i => (es[i]?.map (·.1)).getD 0) h (stand.getD (t.probeStart h)) = some (.empty (way t.mask h K) none) from by rw [hst]; exact hpr]
      dsimp only
      refine wpAny_pure (hout fun hm => ?_)
      obtain ⟨p0, m0, k0⟩ := List.mem_map.mp hm
      obtain ⟨i0, h0⟩ := List.mem_iff_getElem?.mp m0
      obtain ⟨c', a1, a2, a3⟩ := hre i0 p0 h0 k0
      exact hno (c' - c) i0 (by omega) (by rw [seat, show c + (c' - c) = c' by omega]; exact a3) ((hkey h0).trans (by rw [k0, hh]))
theorem seek_all (R : SetB P w s.heap a L es ep t) {x : Addr} {k : List Int} (hx : IsT P w s.heap k x) (hu : A.units < cLine) {h : Int} (hh : thash P w k = h) {Q : SetFound → Shared → Prop} (hin : k ∈ L.map (·.2) → Q (.there none) s)
    (hout : ∀ K, k ∉ L.map (·.2) → way t.mask h K ∉ t.place.toList → (∀ c, c < K → way t.mask h c ∈ t.place.toList) → Q (.free (way t.mask h K) false) s) : wpAny (model P w) A (setSearch a (.ref x) h true) Q E s := by
  have hr := R.rm
  obtain ⟨K, hKf, hK, hb⟩ := R.tb.gap (by rw [List.length_map]; omega) h
  have hbig : 10 * SetTable.turns t.mask < 100000 := by
    have := R.tb.mb.le
    unfold SetTable.turns
    omega
  unfold setSearch
  refine seek R hx hu hh hKf hK hb hin (fun hn => hout K hn hK hb) 100000 0 none rfl (Nat.zero_le _) (by omega) fun i p hp k0 => ?_
  have hi : (keysOf P w L)[i]? = some h := by
    rw [List.getElem?_map, hp, ← hh, ← k0]
    rfl
  have hil : i < t.place.toList.length := by
    rw [R.tb.len, List.length_map]
    exact (List.getElem?_eq_some_iff.mp hp).1
  obtain ⟨c, c1, c2⟩ := R.tb.ahead hK hi (List.getElem?_eq_getElem hil)
  exact ⟨c, Nat.zero_le _, c1, by rw [List.getElem?_eq_getElem hil, c2]⟩
/-- laid anew -/
theorem relay_b {o : Obj} (ho : s.heap.get? a = some o) (hex : o.ExactSet) (hd : o.data = .set es ep t) (hrows : es.toList = rowsOf P w L) (hfit : t.fits es.size = true) (nd : (L.map (·.2)).Nodup) (ts : ∀ p ∈ L, IsT P w s.heap p.2 p.1) (pl : t.plain = true)
    (ld : w.params.followText "set-order" = true ∨ t.led = true) (fw : L.length ≤ 120) {wanted M : Nat} (hw : SetTable.sizeAbove wanted = M + 1) (c : MaskB M) (rm : L.length * 5 < M * 3) {Q : Unit → Shared → Prop}
    (hQ : ∀ h' L' es' ep' t', Heap.SameBut a s.heap h' → SetB P w h' a L' es' ep' t' → L'.Perm L → Q () { s with heap := h' }) : wpAny (model P w) A (setRelay a wanted) Q E s := by
  have hsl := rows_size hrows
  have hle := c.le
  obtain ⟨t', order, e, B⟩ := laid_anew t (hs := es.map (·.1)) (wanted := wanted) (M := M) (by omega) c (by rw [Array.size_map]; omega)
  have hp := B.perm
  have T := B.tb
  rw [Array.size_map, hsl] at hp
  obtain ⟨L2, r1, r2, r3⟩ := order_rows L es order hrows hp
  rw [← r3] at T
  have hs2 : (order.filterMap (es[·]?)).size = es.size := by rw [rows_size r1, hsl, r2.length_eq]
  have hsm : es.size ≤ sizeLine := by rw [sizeLine_eq]; omega
  rw [setRelay_eq]
  refine wpAny_bind (wpAny_setState_of (Q := _) ho hd hfit ?_)
  dsimp only
  refine wp_if_neg (by rw [hw, sizeLine_eq]; omega) ?_
  try refine wpAny_bind (wpAny_pure ?_)
  rw [e]
  dsimp only
  refine wpAny_bind (wp_if_neg (by rw [hs2]; simp) ?_)
  try refine wpAny_bind (wpAny_pure ?_)
  refine wpAny_pure ?_
  dsimp only
  refine wpAny_storeSet_of ho hd ?_ (by rw [hs2]; exact hsm)
  have sb : Heap.SameBut a s.heap (s.heap.update a (Obj.putSet (order.filterMap (es[·]?)) t')) := Heap.SameBut.update ..
  refine hQ _ L2 _ (ep + 1) t' sb ⟨⟨_, store_at ho hd, ⟨hex.1, hex.2.1, hex.2.2⟩, rfl⟩, r1, T, (r2.map (·.2)).nodup_iff.mpr nd, fun p hm => isT_same (ts p (r2.mem_iff.mp hm)) ho hd sb, by rw [B.plain]; exact pl, by rw [B.led]; exact ld, by rw [r2.length_eq, B.mask]; exact rm, by rw [r2.length_eq]; exact fw⟩ r2
/-- one added -/
theorem add_b (R : SetB P w s.heap a L es ep t) {x : Addr} {k : List Int} (hx : IsT P w s.heap k x) (hu : A.units < cLine) (hfew : L.length + 1 ≤ 120) {Q : Bool → Shared → Prop}
    (hQ : ∀ b h' L' es' ep' t', Heap.SameBut a s.heap h' → SetB P w h' a L' es' ep' t' → (k ∈ L.map (·.2) → L' = L) → (k ∉ L.map (·.2) → L'.Perm ((x, k) :: L)) → Q b { s with heap := h' }) : wpAny (model P w) A (setAddHashed a (.ref x) (thash P w k)) Q E s := by
  obtain ⟨o, ho, hex, hd⟩ := R.ob
  have hsl := rows_size R.rw_
  have hr := R.rm
  obtain ⟨h, hh⟩ : ∃ h, thash P w k = h := ⟨_, rfl⟩
  rw [hh]
  unfold setAddHashed
  refine wpAny_holding ?_
  rw [show (100000 : Nat) = 99999 + 1 from rfl, setAddHashedIn_succ]
  refine wpAny_bind (wpAny_setState_of (Q := _) ho hd R.fits ?_)
  dsimp only
  refine wp_if_neg (by simp [byScan, Value.scannable]) ?_
  try refine wpAny_bind (wpAny_pure ?_)
  refine wpAny_bind (seek_all R hx hu hh (fun hm => ?_) fun K hm hK hb => ?_)
  · dsimp only
    exact wpAny_pure (hQ false s.heap L es ep t (Heap.SameBut.refl a s.heap) R (fun _ => rfl) fun z => absurd hm z)
  dsimp only
  refine wpAny_bind (wpAny_setState_of (Q := _) ho hd R.fits ?_)
  dsimp only
  obtain ⟨j, hj⟩ : ∃ j, way t.mask h K = j := ⟨_, rfl⟩
  obtain ⟨p, hp⟩ : ∃ p, SetTable.below t.place j = p := ⟨_, rfl⟩
  obtain ⟨q1, q2, B⟩ := R.tb.put hK hb hj hp
  rw [hj]
  have pl1 : (t.put j).1.plain = true := B.plain.trans R.pl
  generalize hpt : t.put j = pt at q2 B pl1 ⊢
  obtain ⟨t1, p1⟩ := pt
  dsimp only at q2 B pl1 ⊢
  subst q2
  first
    | (refine wpAny_bind ?_; refine wp_if_pos pl1 ?_; refine hashBy_tup hx ?_)
    | refine wp_if_pos pl1 (wpAny_bind (hashBy_tup hx ?_))
  simp only [if_true]
  have hin : (SetTable.insertAt es p1 (h, Value.ref x)).toList = rowsOf P w (L.take p1 ++ (x, k) :: L.drop p1) := by
    rw [SetTable.toList_insertAt, rows_put, R.rw_, hh]
  have pm := put_perm L p1 (x, k)
  have T1 : Tb t1 (keysOf P w (L.take p1 ++ (x, k) :: L.drop p1)) := by
    have := B.tb
    rw [← List.map_take, ← List.map_drop, ← hh] at this
    show Tb t1 ((L.take p1 ++ (x, k) :: L.drop p1).map fun p => thash P w p.2)
    rw [List.map_append, List.map_cons]
    exact this
  have fl := B.fill
  rw [List.length_map] at fl
  generalize SetTable.insertAt es p1 (h, Value.ref x) = es1 at hin ⊢
  generalize L.take p1 ++ (x, k) :: L.drop p1 = L1 at pm hin T1
  have hlen : L1.length = L.length + 1 := pm.length_eq
  have nd1 : (L1.map (·.2)).Nodup := (pm.map (·.2)).nodup_iff.mpr (List.nodup_cons.mpr ⟨hm, R.nd⟩)
  have hes := rows_size hin
  have ld1 : w.params.followText "set-order" = true ∨ t1.led = true := by
    rw [B.led]
    exact R.ld
  refine wpAny_bind (wpAny_storeSet_of ho hd ?_ (by rw [hes, sizeLine_eq]; omega))
  have sb : Heap.SameBut a s.heap (s.heap.update a (Obj.putSet es1 t1)) := Heap.SameBut.update ..
  have ho1 := store_at (es' := es1) (t' := t1) ho hd
  generalize s.heap.update a (Obj.putSet es1 t1) = h1 at sb ho1 ⊢
  have ts1 : ∀ p ∈ L1, IsT P w h1 p.2 p.1 := fun p hp => by
    rcases List.mem_cons.mp (pm.mem_iff.mp hp) with e | hp
    · exact e ▸ isT_same hx ho hd sb
    · exact isT_same (R.ts p hp) ho hd sb
  have tf : t1.tooFull = decide ((L.length + 1) * 5 ≥ t.mask * 3) := by
    unfold SetTable.tooFull
    rw [fl, B.mask]
  by_cases hf : t1.tooFull = true
  · rw [tf, decide_eq_true_eq] at hf
    have go : ∀ M, SetTable.sizeAbove (SetTable.grown (L.length + 1)) = M + 1 → MaskB M → (L.length + 1) * 5 < M * 3 → wpAny (model P w) A (setRelay a (SetTable.grown (L.length + 1))) (fun _ s' => wpAny (model P w) A (pure true) Q E s') E { s with heap := h1 } := fun M m1 m2 m3 => by
      refine relay_b (s := { s with heap := h1 }) ho1 ⟨hex.1, hex.2.1, hex.2.2⟩ rfl hin (fits_of (by rw [T1.nn, List.length_map]; omega) T1.du (by rw [B.mask]; omega)) nd1 ts1 pl1 ld1 (by omega) m1 m2 (by omega) fun h2 L2 es2 ep2 t2 sb2 R2 pm2 => ?_
      exact wpAny_pure (hQ true h2 L2 es2 ep2 t2 (sb.trans sb2) R2 (fun z => absurd z hm) fun _ => pm2.trans pm)
    first
      | (refine wpAny_bind ?_; refine wp_if_pos (by simp [tf, hf]) ?_)
      | (refine wp_if_pos (by simp [tf, hf]) ?_; refine wpAny_bind ?_)
    rw [hsl]
    rcases R.tb.mb with m | m | m | m
    · have e : L.length + 1 = 5 := by omega
      exact go 31 (by rw [e, size_20]) (.inr (.inl rfl)) (by omega)
    · have e : L.length + 1 = 19 := by omega
      exact go 127 (by rw [e, size_76]) (.inr (.inr (.inl rfl))) (by omega)
    · have e : L.length + 1 = 77 := by omega
      exact go 511 (by rw [e, size_512]) (.inr (.inr (.inr rfl))) (by omega)
    · omega
  · first
      | refine wp_if_neg (by simp [hf]) ?_
      | (refine wpAny_bind ?_; refine wp_if_neg (by simp [hf]) ?_; refine wpAny_pure ?_)
    rw [tf, decide_eq_true_eq] at hf
    exact wpAny_pure (hQ true h1 L1 es1 (ep + 1) t1 sb ⟨⟨_, ho1, ⟨hex.1, hex.2.1, hex.2.2⟩, rfl⟩, hin, T1, nd1, ts1, pl1, ld1, by rw [B.mask]; omega, by omega⟩ (fun z => absurd z hm) fun _ => pm)
end
end PL
set_option maxHeartbeats 4000000
/-! Pure layer 20: sorted(set(rows)). -/
namespace PL
open PySem PySem.Spec PyProof.Rows L2
/-! ### rows of numbers, rising -/
abbrev Rw := List Int
theorem rw_eq {a b : Rw} (h1 : ¬ a < b) (h2 : ¬ b < a) : a = b := List.le_antisymm h2 h1
theorem rows_one : ∀ {l m : List Rw}, l.Pairwise (· < ·) → m.Pairwise (· < ·) → (∀ r, r ∈ l ↔ r ∈ m) → l = m := by
  intro l m hl hm h
  have ne : ∀ {a b : Rw}, a < b → a ≠ b := fun {a b} q e => List.lt_irrefl b (by rw [e] at q; exact q)
  have nl : l.Nodup := List.Pairwise.imp ne hl
  have nm : m.Nodup := List.Pairwise.imp ne hm
  exact List.Perm.eq_of_pairwise (le := (· < ·)) (fun a b _ _ p q => absurd q (List.lt_asymm p)) hl hm ((List.perm_ext_iff_of_nodup nl nm).mpr h)
theorem mem_insR {k r : Rw} : ∀ {l : List Rw}, r ∈ insR k l ↔ r = k ∨ r ∈ l
  | [] => by simp [insR]
  | m :: l => by
    unfold insR
    split
    · simp
    · split
      · rw [List.mem_cons, mem_insR, List.mem_cons]
        constructor
        · rintro (z | z | z)
          · exact .inr (.inl z)
          · exact .inl z
          · exact .inr (.inr z)
        · rintro (z | z | z)
          · exact .inr (.inl z)
          · exact .inl z
          · exact .inr (.inr z)
      · rename_i h1 h2
        have e := rw_eq h1 h2
        subst e
        simp
theorem insR_rises {k : Rw} : ∀ {l : List Rw}, l.Pairwise (· < ·) → (insR k l).Pairwise (· < ·)
  | [], _ => List.pairwise_singleton _ _
  | m :: l, h => by
    obtain ⟨h1, h2⟩ := List.pairwise_cons.mp h
    unfold insR
    split
    · rename_i hk
      refine List.pairwise_cons.mpr ⟨fun r hr => ?_, h⟩
      rcases List.mem_cons.mp hr with e | hr
      · exact e ▸ hk
      · exact List.lt_trans hk (h1 r hr)
    · split
      · rename_i hk
        refine List.pairwise_cons.mpr ⟨fun r hr => ?_, insR_rises h2⟩
        rcases mem_insR.mp hr with e | hr
        · exact e ▸ hk
        · exact h1 r hr
      · exact h
theorem mem_rowsD {r : Rw} : ∀ {l : List Rw}, r ∈ rowsD l ↔ r ∈ l
  | [] => by simp [rowsD]
  | k :: l => by
    show r ∈ insR k (rowsD l) ↔ _
    rw [mem_insR, mem_rowsD, List.mem_cons]
theorem rowsD_rises : ∀ l : List Rw, (rowsD l).Pairwise (· < ·)
  | [] => List.Pairwise.nil
  | k :: l => insR_rises (rowsD_rises l)
theorem toPL_ints : ∀ k : List Int, toPL (k.map .int) = k.map PyData.int
  | [] => rfl
  | n :: k => by
    show PyData.int n :: toPL (k.map .int) = _
    rw [toPL_ints k]
    rfl
def encT (p : Ro) : PyData := .tuple (p.2.map .int)
theorem lt_encT (p q : Ro) : PySem.W.dataLt (encT p) (encT q) = decide (p.2 < q.2) := by
  unfold encT
  rw [PySem.W.dataLt_tuple]
  exact PySem.W.dataLt_ints _ _
theorem le_encT (p q : Ro) : PySem.W.dataLe false encT p q = true ↔ p.2 ≤ q.2 := by
  show (!PySem.W.dataLt (encT q) (encT p)) = true ↔ _
  rw [lt_encT, Bool.not_eq_true', decide_eq_false_iff_not]
  exact Iff.rfl
/-- distinct rows, sorted -/
theorem sort_rows {L : List Ro} {ks : List Rw} (nd : (L.map (·.2)).Nodup) (hm : ∀ r, r ∈ L.map (·.2) ↔ r ∈ ks) : (L.mergeSort (PySem.W.dataLe false encT)).map (·.2) = rowsD ks := by
  have hp : (L.mergeSort (PySem.W.dataLe false encT)).Perm L := List.mergeSort_perm L _
  have h1 : (L.mergeSort (PySem.W.dataLe false encT)).Pairwise (fun p q => PySem.W.dataLe false encT p q = true) :=
    PySem.W.sort_pairwise (PySem.W.sortLe_total (PyProof.Rows.listOrd itemOrd) false fun b => PySem.W.keyToks (encT b)) L
  have nd2 : ((L.mergeSort (PySem.W.dataLe false encT)).map (·.2)).Nodup := (hp.map (·.2)).nodup_iff.mpr nd
  refine rows_one ?_ (rowsD_rises ks) fun r => ?_
  · rw [List.pairwise_map]
    have n2 := List.pairwise_map.mp nd2
    refine List.Pairwise.imp (fun {p q} z => ?_) (h1.and n2)
    have z1 := (le_encT p q).mp z.1
    exact Classical.byContradiction fun y => z.2 (List.le_antisymm z1 y)
  · rw [(hp.map (·.2)).mem_iff, hm, mem_rowsD]

/-! ### set(rows) -/
section
variable {P : Program} {w : World} {A : Around} {E : Value → Shared → Prop} {s : Shared}
theorem SetB.keep {h h' : Heap} {a : Addr} {L : List Ro} {es : Array (Int × Value)} {ep : Nat} {t : SetTable} (R : SetB P w h a L es ep t) (ha : ∀ o, h.get? a = some o → h'.get? a = some o) (ht : ∀ p ∈ L, IsT P w h' p.2 p.1) : SetB P w h' a L es ep t := by
  obtain ⟨o, ho, r⟩ := R.ob
  exact ⟨⟨o, ha o ho, r⟩, R.rw_, R.tb, R.nd, ht, R.pl, R.ld, R.rm, R.fw⟩
abbrev newSet (w : World) : Obj := { cls := .type "set", dict := none, data := .set #[] 0 (.fresh 0 0 (!w.params.followText "set-order")) }
theorem setB_new {h : Heap} {a : Addr} (ho : h.get? a = some (newSet w)) : SetB P w h a [] #[] 0 (.fresh 0 0 (!w.params.followText "set-order")) where
  ob := ⟨_, ho, ⟨rfl, rfl, rfl⟩, rfl⟩
  rw_ := rfl
  tb := ⟨List.Pairwise.nil, rfl, rfl, .inl rfl, fun x hx => (by cases hx), fun i h j hi => (by simp at hi)⟩
  nd := List.nodup_nil
  ts := fun p hp => nomatch hp
  pl := rfl
  ld := by
    cases hq : w.params.followText "set-order"
    · exact .inr rfl
    · exact .inl rfl
  rm := by show 0 * 5 < 7 * 3; omega
  fw := Nat.zero_le _
/-- the loop of set.update -/
theorem upd_b {I : Addr} {fp wr : List Addr} {G : Array GenState → Array GenState → Prop} {n : Nat} {Pv : Nat → Value → Prop} {St : Nat → Shared → Prop} {R : Result → Shared → Prop} (W : WalksS P w A.in1 I fp wr G n Pv St) (S : Addr) (hSf : S ∉ fp) (ks : List Ro)
    (hn : n = ks.length) (hfew : ks.length ≤ 120) (hval : ∀ i v, Pv i v → ∃ p, ks[i]? = some p ∧ v = .ref p.1) (h0 : Heap) (hk : ∀ p ∈ ks, IsT P w h0 p.2 p.1) (hS0 : h0.get? S = none) (hw0 : ∀ b ∈ wr, h0.get? b = none) (hu : A.in1.units < cLine) :
    ∀ (k i : Nat) (s : Shared), n - i = k → i ≤ n → St i s → (∀ b o, h0.get? b = some o → s.heap.get? b = some o) → (∃ L es ep t, SetB P w s.heap S L es ep t ∧ Got ks i L) →
      (∀ s' L es ep t, Moved (S :: wr) G s s' → SetB P w s'.heap S L es ep t → Got ks n L → (∀ b o, h0.get? b = some o → s'.heap.get? b = some o) → R (.ok (.ret .none)) s') → codeAny (model P w) A (.builtin "set.update.loop" ⟨[.ref S, .ref I], []⟩) R s := by
  have hSw : S ∉ wr := fun q => hSf (W.sub _ q)
  have wider : ∀ b ∈ wr, b ∈ S :: wr := fun b hb => List.mem_cons_of_mem _ hb
  have old : ∀ {s s' : Shared}, Moved wr G s s' → (∀ b o, h0.get? b = some o → s.heap.get? b = some o) → ∀ b o, h0.get? b = some o → s'.heap.get? b = some o := fun hm q b o e =>
    hm.heap b o (fun hb => by rw [hw0 b hb] at e; cases e) (q b o e)
  have among : ∀ {L : List Ro} {i : Nat}, Got ks i L → ∀ p ∈ L, p ∈ ks := fun g p hp => List.mem_of_mem_take (g.sub p hp)
  intro k
  induction k with
  | zero =>
    intro i s e0 hi hst hkp ⟨L, es, ep, t, hS, g⟩ hR
    obtain rfl : i = n := by omega
    refine codeAny_builtin F.entry_set_update_loop ?_
    rw [Around.under_plainId F.plain_set_update_loop _]
    show wpAny _ A.in1 (pyNext (.ref I) >>= _) _ _ s
    refine wpAny_bind (W.done s _ _ hst fun s' hm => ?_)
    show wpAny _ A.in1 (ret Value.none) _ _ s'
    have hkp' := old hm hkp
    exact wpAny_pure (hR s' L es ep t (hm.mono wider) (hS.keep (fun o e => hm.heap S o hSw e) fun p hp => isT_keep (hk p (among g p hp)) hkp') g hkp')
  | succ k ih =>
    intro i s e0 hi hst hkp ⟨L, es, ep, t, hS, g⟩ hR
    have hlt : i < n := by omega
    refine codeAny_builtin F.entry_set_update_loop ?_
    rw [Around.under_plainId F.plain_set_update_loop _]
    show wpAny _ A.in1 (pyNext (.ref I) >>= _) _ _ s
    refine wpAny_bind (W.item i s _ _ hlt hst fun v s' hP hst' hm => ?_)
    obtain ⟨p, hp, rfl⟩ := hval i v hP
    have hkp' := old hm hkp
    have hS' : SetB P w s'.heap S L es ep t := hS.keep (fun o e => hm.heap S o hSw e) fun q hq => isT_keep (hk q (among g q hq)) hkp'
    have hx : IsT P w s'.heap p.2 p.1 := isT_keep (hk p (List.mem_of_getElem? hp)) hkp'
    have hgl := g.len
    show wpAny _ A.in1 (holding [Value.ref p.1] (setAdd S (.ref p.1)) >>= _) _ _ s'
    refine wpAny_bind (wpAny_holding ?_)
    unfold setAdd
    refine wpAny_holding (wpAny_bind (wpAny_pyHash_tuple (Q := _) hu hx ?_))
    refine add_b (s := { s' with toks := s'.toks + (p.2.length + 1) }) hS' hx hu (by omega) fun b h' L' es' ep' t' hsb hS2 c1 c2 => ?_
    have g' : Got ks (i + 1) L' := by
      by_cases c : p.2 ∈ L.map (·.2)
      · rw [c1 c]
        exact g.same hp c
      · exact g.more hp (c2 c)
    have hkp2 : ∀ b o, h0.get? b = some o → h'.get? b = some o := fun b o e => (hsb.2 b fun z => by rw [z, hS0] at e; cases e).trans (hkp' b o e)
    refine wpAny_pure ⟨plainId_quiet F.plain_set_update_loop _, ih (i + 1) _ (by omega) hlt (W.frame _ s' _ _ hst' (Nat.le_add_right _ _) fun b hb o e => ?_) hkp2 ⟨L', es', ep', t', hS2, g'⟩ fun s'' L2 es2 ep2 t2 hm2 hS3 g3 hkp3 => ?_⟩
    · rw [hsb.2 b fun q : b = S => hSf (q ▸ hb)]
      exact e
    · refine hR s'' L2 es2 ep2 t2 (Moved.trans W.gtrans ((hm.mono wider).then_heap (Nat.le_add_right _ _) fun b o hb e => ?_) hm2) hS3 g3 hkp3
      rw [hsb.2 b fun q : b = S => hb (q ▸ List.mem_cons_self)]
      exact e
end
end PL
set_option maxHeartbeats 4000000
/-! Pure layer 21: the calls set(rows), sorted(set). -/
namespace PL
open PySem PySem.Spec PyProof.Rows L2
section
variable {P : Program} {w : World} {A : Around} {E : Value → Shared → Prop} {s : Shared}
/-- what set(rows) leaves -/
structure SetMade (P : Program) (w : World) (s : Shared) (ks : List Ro) (h' : Heap) (L : List Ro) (es : Array (Int × Value)) (ep : Nat) (t : SetTable) : Prop where
  set : SetB P w h' s.heap.objs.size L es ep t
  got : Got ks ks.length L
  old : ∀ b o, s.heap.get? b = some o → h'.get? b = some o
theorem call_set_b {l : Addr} {items : Array Value} (ks : List Ro) {Q : Value → Shared → Prop} (hh : A.handled = none) (hl : s.heap.IsList l items) (hit : items.toList = ks.map fun p => Value.ref p.1) (hk : ∀ p ∈ ks, IsT P w s.heap p.2 p.1) (hfew : ks.length ≤ 120)
    (hu : A.units + 3 < cLine) (q : ∀ (h' : Heap) (tk : Nat) L es ep t, SetMade P w s ks h' L es ep t → Q (.ref s.heap.objs.size) { s with heap := h', toks := tk }) : wpAny (model P w) A (call (.type "set") [.ref l]) Q E s := by
  have hisz : items.size = ks.length := by
    have z := congrArg List.length hit
    rw [List.length_map] at z
    exact z
  obtain ⟨c, tl, hmro⟩ := F.called_set.mro
  have hmade := F.called_set.made
  have hsub := F.called_set.sub
  refine wpAny_call (codeAny_of_tree ?_)
  show wpAny _ _ (callAny (.type "set") _) _ _ _
  refine wpAny_pure ⟨Code.quiet_builtin _ (by decide +kernel), codeAny_builtin F.entry_type_call ?_⟩
  rw [Around.under_plain (weight_type_call_type "set" [.ref l] []) rfl]
  have h1 := F.called_set.notType
  have h2 := F.called_set.canCreate
  have hct := F.typeCall_set_1 (.ref l)
  repeat (any_goals (first | assumption | wp_step))
  obtain ⟨S, hSdef⟩ : ∃ S, s.heap.objs.size = S := ⟨_, rfl⟩
  have hS : (s.heap.push (newSet w)).get? s.heap.objs.size = some (newSet w) := Heap.get?_push_size _ rfl
  refine codeAny_mono (code_set_led1 (.ref l) (E := E) (Q₁ := fun obj s₁ => obj = .ref s.heap.objs.size ∧ s₁ = { s with heap := s.heap.push (newSet w) }) ⟨rfl, rfl⟩) fun r s₁ hr => ?_
  rcases r with e | fl
  · exact hr
  cases fl with
  | ret obj =>
    obtain ⟨rfl, rfl⟩ := hr
    have hT : Shared.TypeIs { s with heap := s.heap.push (newSet w) } (.ref s.heap.objs.size) "set" := ⟨_, hS, rfl⟩
    have hli := F.called_set.init.lookup
    have hbi := F.called_set.init.bind (.ref s.heap.objs.size)
    repeat (any_goals (first | assumption | wp_step))
    refine codeAny_mono (codeAny_call_builtin (R := wants (fun r s₂ => r = .none ∧ ∃ h' tk L es ep t, s₂ = { s with heap := h', toks := tk } ∧ SetMade P w s ks h' L es ep t) E) F.called_set.init.plain F.entry_set_init (check_set_init_1 hT ?_)) fun r₂ s₂ hr₂ => ?_
    · obtain ⟨ol, hol, hcl, nl, hdl⟩ := hl
      obtain ⟨ocls, odict, odata, oslots⟩ := ol
      simp only at hcl hdl
      subst hcl
      subst hdl
      have hol' : (s.heap.push (newSet w)).get? l = some { cls := .type "list", dict := odict, data := .seq items nl, slots := oslots } := Heap.get?_push_of_some _ hol
      have hsls := F.sub_list_set
      have hslf := F.sub_list_frozenset
      have hne : (Value.type "list" == Value.type "dict") = false := by decide
      have hl1 : (s.heap.push (newSet w)).IsList l items := ⟨_, hol', rfl, nl, rfl⟩
      have sz1 : (s.heap.push (newSet w)).objs.size = s.heap.objs.size + 1 := Heap.size_push ..
      unfold Builtin.«set.__init__» noKeywords Builtin.Frozenset.updateFrom
      generalize hPI : pyIter = PI
      wp_walk
      subst hPI
      refine wpAny_pyIter_list hl1 (wpAny_bind (wpAny_runValue ?_))
      have hlS : l < s.heap.objs.size := Heap.lt_size hol
      have hh3 : A.in1.in1.in1.handled = none := by simp [hh]
      have hneI : l ≠ (s.heap.push (newSet w)).objs.size := by
        rw [sz1]
        exact Nat.ne_of_lt (Nat.lt_succ_of_lt hlS)
      have hSf : s.heap.objs.size ∉ [(s.heap.push (newSet w)).objs.size, l] := by
        intro z
        rcases List.mem_cons.mp z with z | z
        · rw [sz1] at z
          exact Nat.ne_of_lt (Nat.lt_succ_self _) z
        · exact Nat.ne_of_gt hlS (List.mem_singleton.mp z)
      have hval : ∀ (i : Nat) (v : Value), items[i]? = some v → ∃ p, ks[i]? = some p ∧ v = .ref p.1 := fun i v hv => by
        rw [← Array.getElem?_toList, hit, List.getElem?_map] at hv
        obtain ⟨p, p1, p2⟩ := Option.map_eq_some_iff.mp hv
        exact ⟨p, p1, p2.symm⟩
      have blank : ∀ b, s.heap.objs.size ≤ b → s.heap.get? b = none := fun b hb => Option.eq_none_iff_forall_ne_some.mpr fun o z => absurd (Heap.lt_size z) (Nat.not_lt.mpr hb)
      refine upd_b ((Walks.list hh3 _ l hneI items).toS) s.heap.objs.size hSf ks hisz hfew hval s.heap hk (blank _ (Nat.le_refl _)) (fun b hb => blank b (by
          rw [List.mem_singleton.mp hb, sz1]
          exact Nat.le_succ _)) hu (items.size - 0) 0 _ (by omega) (Nat.zero_le _) ⟨⟨_, Heap.get?_push_size _ rfl, rfl, rfl⟩, (hl1.push _)⟩ (fun b o e => Heap.get?_push_of_some _ (Heap.get?_push_of_some _ e)) ?_ ?_
      · exact ⟨[], #[], 0, _, setB_new (Heap.get?_push_of_some _ hS), Got.zero ks⟩
      · intro s' L es ep t hm hS' g' hkp
        obtain ⟨h', g2, d', tk', os'⟩ := s'
        obtain rfl : g2 = s.gens := hm.gens
        obtain rfl : d' = s.drawn := hm.drawn
        obtain rfl : os' = s.os := hm.os
        show wpAny _ _ _ _ _ _
        refine wpAny_pure ?_
        show wpAny _ _ (ret Value.none) _ _ _
        rw [hisz] at g'
        exact wpAny_pure ⟨rfl, h', tk', L, es, ep, t, rfl, hS', g', hkp⟩
    · rcases r₂ with e | fl₂
      · exact hr₂
      cases fl₂ with
      | ret r =>
        obtain ⟨rfl, h', tk, L, es, ep, t, rfl, M⟩ := hr₂
        repeat (any_goals (first | assumption | wp_step))
        exact q _ _ _ _ _ _ M
      | _ => exact hr₂.elim
  | _ => exact hr.elim

/-! ### sorted of the set -/
theorem refs_back {L : List Ro} : ∀ {vs : List Value}, (∀ v ∈ vs, ∃ q ∈ L, v = Value.ref q.1) → ∃ L1 : List Ro, vs = L1.map (fun q => Value.ref q.1) ∧ ∀ q ∈ L1, q ∈ L
  | [], _ => ⟨[], rfl, fun q hq => nomatch hq⟩
  | v :: vs, h => by
    obtain ⟨q, hq, e⟩ := h v List.mem_cons_self
    obtain ⟨L1, e1, hs⟩ := refs_back (vs := vs) fun u hu => h u (List.mem_cons_of_mem _ hu)
    refine ⟨q :: L1, by rw [List.map_cons, e, e1], fun r hr => ?_⟩
    rcases List.mem_cons.mp hr with rfl | z
    · exact hq
    · exact hs r z
theorem reads_ints {h : Heap} : ∀ {k : List Int} {us : List Value}, ItemsAre (intKind P w) k us → ReadsAll h us (k.map PyData.int) []
  | [], _, .nil => .nil
  | n :: k, _, .cons h1 t => by
    obtain ⟨tk, rfl⟩ := Value.isInt_shape h1
    exact .cons (as := []) (bs := []) (.int n tk) (reads_ints t)
theorem reads_row {h : Heap} {k : List Int} {b : Addr} (x : IsT P w h k b) : ∃ as, Reads h (.ref b) (.tuple (k.map .int)) as := by
  obtain ⟨o, items, n, ho, hc, hd, hi⟩ := x
  exact ⟨_, .tuple ho hc hd (reads_ints hi)⟩
theorem row_depth (k : List Int) : (PyData.tuple (k.map .int)).depth ≤ 60 := by
  have : ∀ k : List Int, okN 60 (D.tup (k.map .int)) = true := fun k => List.all_eq_true.mpr fun x hx => by
    obtain ⟨n, _, rfl⟩ := List.mem_map.mp hx
    rfl
  have h := (okN_canLay 60 _ (this k)).2
  rw [toP, toPL_ints] at h
  exact h
theorem alike_rows : ∀ (k m : List Int), PySem.W.alikeAll (k.map PyData.int) (m.map PyData.int) = true
  | [], m => by simp [PySem.W.alikeAll]
  | _ :: _, [] => by simp [PySem.W.alikeAll]
  | a :: k, b :: m => by
    rw [List.map_cons, List.map_cons, PySem.W.alikeAll, alike_rows k m]
    simp [PySem.W.alike]
theorem sorted_b {a : Addr} {L : List Ro} {es : Array (Int × Value)} {ep : Nat} {t : SetTable} {Q : Value → Shared → Prop} (R : SetB P w s.heap a L es ep t) (hh : A.handled = none) (hu : A.units + 70 < cLine) (hd : ∀ p ∈ L, p.2 ≠ [])
    (q : ∀ s' p (out : Array Value) (c : Nat) (L' : List Ro), (∀ b o, s.heap.get? b = some o → s'.heap.get? b = some o) → s'.gens = s.gens → s'.os = s.os → s.heap.objs.size ≤ p → s'.heap.get? p = some (seqObj "list" out c) → out.toList = L'.map (fun q => Value.ref q.1) →
      L'.Perm L → (∀ ks, (∀ r, r ∈ L.map (·.2) ↔ r ∈ ks) → L'.map (·.2) = rowsD ks) → Q (.ref p) s') : wpAny (model P w) A (call (.builtin "sorted") [.ref a]) Q E s := by
  obtain ⟨o, ho, hex, hdat⟩ := R.ob
  have hsz := rows_size R.rw_
  have hfew := R.fw
  refine Calls.call_function_entry kind_sorted plain_sorted entry_sorted (args_sorted1 _) ?_
  unfold Builtin.«sorted»
  refine wpAny_bind (m := checkCount "sorted" 1 1 _) (wpAny_pure ?_)
  refine wpAny_bind (collect_set (A := A.in1) hh ⟨o, ho, hex.1, hdat⟩ R.fits (by unfold scanBound; omega) R.tb.rs R.ld fun s1 vs k1 hz g1 o1 pm => ?_)
  have hes : es.toList.map (·.2) = L.map fun q => Value.ref q.1 := by
    rw [R.rw_]
    show (L.map _).map _ = _
    rw [List.map_map]
    rfl
  rw [hes] at pm
  have one : ∀ q ∈ L, ∀ r ∈ L, q.1 = r.1 → q = r := fun q hq r hr e => by
    have a1 := R.ts q hq
    rw [e] at a1
    exact Prod.ext e (a1.inj (R.ts r hr))
  obtain ⟨L1, rfl, hL1⟩ := refs_back (L := L) (vs := vs) fun v hv => by
    obtain ⟨r, hr, e⟩ := List.mem_map.mp (pm.mem_iff.mp hv)
    exact ⟨r, hr, e.symm⟩
  have nref : (L.map fun q => Value.ref q.1).Nodup := List.pairwise_map.mpr (List.Pairwise.imp_of_mem (fun {q r} hq hr hne e => hne (one q hq r hr (Value.ref.inj e))) (nodup_of_map R.nd))
  have pL : L1.Perm L := (List.perm_ext_iff_of_nodup (nodup_of_map (pm.nodup_iff.mpr nref)) (nodup_of_map R.nd)).mpr fun q => ⟨hL1 q, fun hq => by
    obtain ⟨r, hr, e⟩ := List.mem_map.mp (pm.mem_iff.mpr (List.mem_map.mpr ⟨q, hq, rfl⟩))
    rw [← one r (hL1 r hr) q hq (Value.ref.inj e)]
    exact hr⟩
  have hl1 : L1.length ≤ sizeLine := by
    rw [pL.length_eq, sizeLine_eq]
    omega
  refine wpAny_bind (wpAny_newList ?_ (by rw [List.length_map]; exact hl1))
  obtain ⟨us, hus⟩ : ∃ us, L1.map (fun q => Value.ref q.1) = us := ⟨_, rfl⟩
  rw [hus]
  have hoL : (s1.heap.push (seqObj "list" us.toArray 0)).get? s1.heap.objs.size = some (seqObj "list" us.toArray 0) := Heap.get?_push_size _ rfl
  have e1 : PySem.W.EachIs (fun v (b : Ro) => v = Value.ref b.1) us L1 := by
    rw [← hus]
    have : ∀ l : List Ro, PySem.W.EachIs (fun v (b : Ro) => v = Value.ref b.1) (l.map fun q => Value.ref q.1) l := by
      intro l
      induction l with
      | nil => exact .nil
      | cons q l ih => exact .cons rfl ih
    exact this L1
  have e2 : PySem.W.EachIs (fun v (b : Ro) => ∃ as, Reads (s1.heap.push (seqObj "list" us.toArray 0)) v (encT b) as ∧ s1.heap.objs.size ∉ as) us L1 := (PySem.W.each_mem e1).mono fun v b ⟨ev, hb⟩ => by
    obtain ⟨as, rd⟩ := reads_row (isT_keep (R.ts b (hL1 b hb)) k1)
    rw [ev]
    refine ⟨as, Reads.keeps (fun _ _ => Heap.get?_push_of_some _) rd, fun hm => ?_⟩
    obtain ⟨u, hu'⟩ := PyProof.On.reads_mem_get rd _ hm
    exact absurd (Heap.lt_size hu') (Nat.lt_irrefl _)
  have hal : PySem.W.AllAlike (L1.map encT) := fun x hx y hy => by
    obtain ⟨p, hp, rfl⟩ := List.mem_map.mp hx
    obtain ⟨r, hr, rfl⟩ := List.mem_map.mp hy
    show PySem.W.alike (.tuple _) (.tuple _) = true
    rw [PySem.W.alike]
    exact alike_rows _ _
  have hk : PySem.W.Sortable (L1.map encT) := .inl fun x hx => by
    obtain ⟨⟨b, k⟩, hp, rfl⟩ := List.mem_map.mp hx
    have := hd _ (hL1 _ hp)
    cases k with
    | nil => exact absurd rfl this
    | cons n k => exact ⟨_, _, rfl⟩
  refine wpAny_bind (wpAny_holding (PySem.W.list_sort_data (s := { s1 with heap := s1.heap.push (seqObj "list" us.toArray 0) }) (vs := us) (n := 0) hoL e1 e2 hal hk hl1 (fun b hb => ?_) fun out hol eo => ?_))
  · have := row_depth b.2
    show A.in1.units + 1 + (PyData.tuple (b.2.map .int)).depth < cLine
    have hin : A.in1.units ≤ A.units + 3 := by
      first | (show A.units + 1 ≤ A.units + 3; omega) | (show A.units ≤ A.units + 3; omega) | (show A.units + 2 ≤ A.units + 3; omega)
    omega
  · obtain ⟨c, hcc⟩ := sortedHeap_at (vs := us) (out := out.toArray) hoL
    have eout : ∀ {os : List Value} {bs : List Ro}, PySem.W.EachIs (fun v (b : Ro) => v = Value.ref b.1) os bs → os = bs.map fun q => Value.ref q.1 := by
      intro os bs z
      induction z with
      | nil => rfl
      | cons h1 _ ih => rw [h1, ih, List.map_cons]
    have pS : (L1.mergeSort (PySem.W.dataLe false encT)).Perm L := (List.mergeSort_perm L1 _).trans pL
    refine wpAny_pure ⟨_, rfl, q _ s1.heap.objs.size out.toArray c (L1.mergeSort (PySem.W.dataLe false encT)) (fun b u e => ?_) g1 o1 hz hcc (eout eo) pS fun ks hks => ?_⟩
    · have e' := k1 b u e
      have hlt := Heap.lt_size e'
      show (sortedHeap (s1.heap.push (seqObj "list" us.toArray 0)) s1.heap.objs.size us out.toArray).get? b = some u
      rw [sortedHeap_old (Nat.ne_of_lt hlt) (by rw [size_push']; exact Nat.lt_succ_of_lt hlt)]
      exact Heap.get?_push_of_some _ e'
    · exact sort_rows ((pL.map (·.2)).nodup_iff.mpr R.nd) fun r => by rw [(pL.map (·.2)).mem_iff, hks]
end
end PL
set_option maxHeartbeats 4000000
/-! Pure layer 22: the rule for sorted(set(rows)). -/
namespace PL
open PySem PySem.Spec PyProof.Rows L2
theorem tups_rep {K : PySem.W.Frag} {G : Hp} : ∀ {vs : List V} {ds : List D} {kss : List Rw}, RepL K G vs ds → tupsI ds = some kss → ∃ ks : List Ro, vs = ks.map (fun p => V.ref p.1) ∧ ks.map (·.2) = kss ∧ ∀ p ∈ ks, SqT K G p.1 (p.2.map V.int)
  | _, [], kss, .nil, e => by
    cases e
    exact ⟨[], rfl, rfl, fun p hp => nomatch hp⟩
  | _, d :: ds, kss, .cons r t, e => by
    cases d with
    | tup xs =>
      rw [tupsI] at e
      obtain ⟨k, e1, e⟩ := bind_inv e
      obtain ⟨ks0, e2, e⟩ := map_inv e
      cases e
      obtain ⟨ks, h1, h2, h3⟩ := tups_rep t e2
      cases intsD_inv e1
      cases r with
      | @tup a ws _ q1 q2 =>
        have ew := q2.ints
        subst ew
        refine ⟨(a, k) :: ks, by rw [List.map_cons, h1], by rw [List.map_cons, h2], fun p hp => ?_⟩
        rcases List.mem_cons.mp hp with rfl | hp
        · exact q1
        · exact h3 p hp
    | _ => cases e
def tSortSet (K : PySem.W.Frag) (te : TE) : TE := fun σ H Q => te σ H fun x H1 => ∃ (l : Addr) (ks : List Ro), x = V.ref l ∧ SqL K H1 l (ks.map fun p => V.ref p.1) ∧ (∀ p ∈ ks, SqT K H1 p.1 (p.2.map V.int)) ∧ ks.length ≤ 120 ∧ (∀ p ∈ ks, p.2 ≠ []) ∧
  ∀ (L : List Ro) (q : Addr), (∀ p ∈ L, p ∈ ks) → L.map (·.2) = rowsD (ks.map (·.2)) → H1 q = none → Q (.ref q) (upd H1 q (.lst (L.map fun p => V.ref p.1)))
section
variable {X : Cx} {a : Expr} {te : TE} {p p2 pos2 pos : Pos}
theorem pe_sortSet (hc : X.calm = true) (hu : X.A.units + 70 < cLine) (hg : Gl X "sorted") (hm : X.mg "sorted" = none) (hg2 : Gl X "set") (hm2 : X.mg "set" = none) (ha : PE X a te) (na : starEach [a] X.env = (false, eval a X.env) :: starEach [] X.env) :
    PE X (.Call (.Name "sorted" p) [.Call (.Name "set" p2) [a] [] pos2] [] pos) (tSortSet X.K te) := by
  refine ⟨fun pins s σ H Q I h => ?_⟩
  refine Call_ (ld_blt I hg hm (show bootBuiltins "sorted" = some (.builtin "sorted") by decide +kernel) ?_)
  refine PyProof.Rows.callWith_builtin1 (PyProof.Rows.args_cons ?_ rfl) rfl rfl
  refine Call_ (ld_blt I hg2 hm2 PyProof.Rows.boot_set ?_)
  refine PyProof.Rows.callWith_type1 (PyProof.Rows.args_cons (thn (ha.run pins s σ H _ I h) fun v s1 ⟨x, H1, I1, r1, q1⟩ => PyProof.Rows.args_nil ?_) na) na rfl
  obtain ⟨l, ks, rfl, hl, hk, h120, hne, q⟩ := q1
  cases r1
  obtain ⟨its, rv, pl, hz⟩ := I1.list hl
  have hT : ∀ p ∈ ks, IsT X.prog X.w s1.heap p.2 p.1 := fun p hp => I1.isT (hk p hp)
  refine call_set_b ks (I1.ok.hd hc) pl.isList (by simpa using refs_of_vals rv) hT h120 (by omega) fun h' tk L es ep t M => ?_
  refine PyProof.Rows.args_nil ?_
  have I2 : Inv X pins σ H1 { s1 with heap := h', toks := tk } := I1.kept fun b o e => M.old b o e
  have hsub : ∀ p ∈ L, p ∈ ks := fun p hp => List.mem_of_mem_take (M.got.sub p hp)
  refine sorted_b (s := { s1 with heap := h', toks := tk }) M.set (I2.ok.hd hc) hu (fun p hp => hne p (hsub p hp)) fun s' b out c L' k g o hp hgt hout pm pr => ?_
  have hfew : L'.length ≤ 120 := by
    rw [pm.length_eq]
    exact M.set.fw
  have hlen : (L'.map fun r => V.ref r.1).length ≤ sizeLine := by
    rw [List.length_map, sizeLine_eq]
    omega
  have hn : H1 b = none := I2.hok.fresh hp
  have hv : Vals (L'.map fun r => V.ref r.1) out.toList := by
    rw [hout]
    exact vals_of_refs L'
  have J : Inv X pins σ (upd H1 b (.lst (L'.map fun r => V.ref r.1))) { s1 with heap := s'.heap, gens := s'.gens, drawn := s'.drawn, toks := s'.toks } :=
    Inv.call (s := { s1 with heap := h', toks := tk }) I2 (ch := []) (Un.laid k hp hn) (I2.hok.laid k hp ⟨hlen, out.toList, c, hv, hgt⟩) (by rw [g]; exact I2.bare) fun _ z => nomatch z
  have e : s' = { s1 with heap := s'.heap, gens := s'.gens, drawn := s'.drawn, toks := s'.toks } := by
    cases s'
    cases s1
    cases o
    rfl
  rw [e]
  refine ⟨.ref b, _, J, rfl, q L' b (fun r hr => hsub r (pm.mem_iff.mp hr)) (pr _ fun r => ?_) hn⟩
  constructor
  · intro hr
    obtain ⟨z, z1, rfl⟩ := List.mem_map.mp hr
    exact List.mem_map.mpr ⟨z, hsub z z1, rfl⟩
  · intro hr
    obtain ⟨z, z1, rfl⟩ := List.mem_map.mp hr
    exact M.got.all z (by rw [List.take_length]; exact z1)
end
section
variable {Φ : Nat → FS} {X : Cx} {a : Expr} {ma : ME} {p p2 pos2 pos : Pos}
theorem ce_sortedSet (hc : X.calm = true) (hu : X.A.units + 70 < cLine) (hm : X.mg "sorted" = none) (hm2 : X.mg "set" = none) (ha : CE Φ X a ma) (hg : Gl X "sorted" := by rfl) (hg2 : Gl X "set" := by rfl)
    (na : starEach [a] X.env = (false, eval a X.env) :: starEach [] X.env := by rfl) : CE Φ X (.Call (.Name "sorted" p) [.Call (.Name "set" p2) [a] [] pos2] [] pos) (.bi .sortedSet (.cons ma .nil)) := by
  obtain ⟨te, pa, ea⟩ := ha.ex
  refine ⟨_, pe_sortSet hc hu hg hm hg2 hm2 pa na, ?_⟩
  intro F G H σ env env' d k Q S w q
  rw [ev] at w
  obtain ⟨⟨bs, env1⟩, e1, w⟩ := bind_inv w
  obtain ⟨ds, e2, w⟩ := bind_inv w
  obtain ⟨nw, e3, rfl, rfl⟩ := out_inv w
  rw [evB] at e1
  obtain ⟨⟨bx, env2⟩, e4, e1⟩ := bind_inv e1
  obtain ⟨y, e5, e1⟩ := map_inv e1
  cases e5
  cases e1
  have e3' : oneF sortedSetD ds = some (d, nw) := e3
  obtain ⟨dx, rfl, e6⟩ := oneF_inv e3'
  have e7 : rd env2 bx = some dx := by
    rw [List.mapM_cons] at e2
    obtain ⟨d1, h1, e2⟩ := bind_inv e2
    obtain ⟨ds', h2, e2⟩ := bind_inv e2
    rw [List.mapM_nil] at h2
    cases h2
    cases e2
    exact h1
  refine ea.b S e4 fun x G1 H1 S1 g1 r1 => ?_
  have t := r1.top S1 e7
  unfold sortedSetD at e6
  cases dx with
  | lst xs =>
    obtain ⟨kss, e8, e9⟩ := bind_inv e6
    obtain ⟨⟨h1, h2⟩, e9⟩ := ite_inv e9
    cases e9
    obtain ⟨l, vs, rfl, h3, h4⟩ := t
    obtain ⟨ks, rfl, rfl, h6⟩ := tups_rep h4 e8
    rw [List.length_map] at h1
    refine ⟨l, ks, rfl, SqL.of h3, fun r hr => (RdLe.of S1.gh).t (h6 r hr), h1, fun r hr z => ?_, fun L b hL hr hb => ?_⟩
    · have := List.all_eq_true.mp h2 r.2 (List.mem_map.mpr ⟨r, hr, rfl⟩)
      rw [z] at this
      cases this
    · refine q _ G1 _ (S1.alloc hb) g1 ⟨b, rfl, S1.newAt (o := .lst _) hb ?_⟩
      show RepL _ _ _ _
      rw [← hr, List.map_map]
      clear hr
      induction L with
      | nil => exact .nil
      | cons r L ih =>
        have hrk := h6 r (hL r List.mem_cons_self)
        exact .cons (.tup hrk (RepL.of_ints r.2)) (ih fun z hz => hL z (List.mem_cons_of_mem _ hz))
  | _ => cases e6
end
end PL
set_option maxHeartbeats 4000000
/-! The evaluator's steps as rewriting rules; loops of plain steps. -/
namespace PL
open PySem L2

section
variable {Φ : Nat → FS} {fuel : Nat} {env env1 : Env} {d : D} {k : RK} {b : Bool} {i j : Nat} {m a c e z : ME} {o : BO} {as r : MA}
@[simp] theorem getS_z {s : Sl} {e : Env} : getS (s :: e) 0 = s := rfl
@[simp] theorem getS_s {s : Sl} {e : Env} {n : Nat} : getS (s :: e) (n + 1) = getS e n := rfl
@[simp] theorem bw_fz : bw (some (d, .fz, env)) = some (.inl d, env) := rfl
@[simp] theorem bw_nw : bw (some (d, .nw, env)) = some (.inl d, env) := rfl
@[simp] theorem bw_sl : bw (some (d, .sl i, env)) = some (.inr i, env) := rfl
@[simp] theorem fw_fz : fw (some (d, .fz, env)) = some (d, env) := rfl
@[simp] theorem fw_nw : fw (some (d, .nw, env)) = some (d, env) := rfl
@[simp] theorem fw_sl : fw (some (d, .sl i, env)) = some (d, env.set i (.im d)) := rfl
@[simp] theorem rd_l : rd env (.inl d) = some d := rfl
@[simp] theorem rd_r : rd env (.inr i) = slD (getS env i) := rfl
@[simp] theorem slD_im : slD (.im d) = some d := rfl
@[simp] theorem slD_ow : slD (.ow d) = some d := rfl
@[simp] theorem blOf_bl : blOf (some (.bl b, k, env)) = some (b, env) := rfl
@[simp] theorem out_some {nw : Bool} : out env (some (d, nw)) = some (d, (if nw = true then .nw else .fz), env) := rfl
@[simp] theorem out_none : out env none = none := rfl
@[simp] theorem ev_lit : ev Φ (.lit d) env = some (d, .fz, env) := id rfl
theorem ev_var_eq : ev Φ (.var i) env = match getS env i with
    | .im d => some (d, .fz, env)
    | .ow d => some (d, .sl i, env)
    | .un => none := id rfl
theorem ev_im (h : getS env i = .im d) : ev Φ (.var i) env = some (d, .fz, env) := by rw [ev_var_eq, h]
theorem ev_ow (h : getS env i = .ow d) : ev Φ (.var i) env = some (d, .sl i, env) := by rw [ev_var_eq, h]
@[simp] theorem ev_bin : ev Φ (.bin o a c) env = (bw (ev Φ a env)).bind fun x => (bw (ev Φ c x.2)).bind fun y => (rd y.2 x.1).bind fun dx => (rd y.2 y.1).bind fun dy => out y.2 (binF o dx dy) := id rfl
@[simp] theorem ev_neg : ev Φ (.neg a) env = (fw (ev Φ a env)).bind fun x => match x.1 with
    | .int i => some (.int (-i), .fz, x.2)
    | _ => none := id rfl
@[simp] theorem ev_cmp {o : CO} : ev Φ (.cmp o a c) env = (bw (ev Φ a env)).bind fun x => (bw (ev Φ c x.2)).bind fun y => (rd y.2 x.1).bind fun dx => (rd y.2 y.1).bind fun dy => (cmpF o dx dy).map fun c => (.bl c, .fz, y.2) := id rfl
@[simp] theorem ev_chain {o p : CO} : ev Φ (.chain o p a c e) env = (bw (ev Φ a env)).bind fun x => (bw (ev Φ c x.2)).bind fun y => (rd y.2 x.1).bind fun dx => (rd y.2 y.1).bind fun dy => (cmpF o dx dy).bind fun t => match t with
    | true => (bw (ev Φ e y.2)).bind fun z => (rd z.2 y.1).bind fun dy' => (rd z.2 z.1).bind fun dz => (cmpF p dy' dz).map fun c => (.bl c, .fz, z.2)
    | false => some (.bl false, .fz, y.2) := id rfl
@[simp] theorem ev_and : ev Φ (.and a c) env = (blOf (ev Φ a env)).bind fun x => match x.1 with
    | true => ev Φ c x.2
    | false => some (.bl false, .fz, x.2) := id rfl
@[simp] theorem ev_or : ev Φ (.or a c) env = (blOf (ev Φ a env)).bind fun x => match x.1 with
    | true => some (.bl true, .fz, x.2)
    | false => ev Φ c x.2 := id rfl
@[simp] theorem ev_not : ev Φ (.not a) env = (blOf (ev Φ a env)).map fun x => (.bl (!x.1), .fz, x.2) := id rfl
@[simp] theorem ev_ife : ev Φ (.ife e a c) env = (blOf (ev Φ e env)).bind fun x => match x.1 with
    | true => ev Φ a x.2
    | false => ev Φ c x.2 := id rfl
@[simp] theorem ev_tupD : ev Φ (.tupD as) env = (evA Φ as env).bind fun r => if r.1.length ≤ sizeLine then some (.tup r.1, .fz, r.2) else none := id rfl
@[simp] theorem ev_lstD : ev Φ (.lstD as) env = (evA Φ as env).bind fun r => if r.1.length ≤ sizeLine then some (.lst r.1, .nw, r.2) else none := id rfl
@[simp] theorem ev_sub : ev Φ (.sub a c) env = (bw (ev Φ a env)).bind fun x => (fw (ev Φ c x.2)).bind fun y => (rd y.2 x.1).bind fun dx => (ixF dx y.1).map fun d => (d, .fz, y.2) := id rfl
@[simp] theorem ev_subD : ev Φ (.subD a c) env = (bw (ev Φ a env)).bind fun x => (fw (ev Φ c x.2)).bind fun y => (rd y.2 x.1).bind fun dx => match dx with
    | .dic kvs => (keyD y.1).bind fun k' => (lookD kvs k').map fun d => (d, .fz, y.2)
    | _ => none := id rfl
@[simp] theorem ev_inD {neg : Bool} : ev Φ (.inD neg c a) env = (fw (ev Φ c env)).bind fun y => (bw (ev Φ a y.2)).bind fun x => (rd x.2 x.1).bind fun dx => match dx with
    | .dic kvs => (keyD y.1).map fun k' => (.bl (if neg = true then !(lookD kvs k').isSome else (lookD kvs k').isSome), .fz, x.2)
    | _ => none := id rfl
@[simp] theorem ev_slice : ev Φ (.slice a c e) env = (bw (ev Φ a env)).bind fun x => (fw (ev Φ c x.2)).bind fun l => (fw (ev Φ e l.2)).bind fun h => (rd h.2 x.1).bind fun dx => (partD l.1).bind fun l' => (partD h.1).bind fun h' => out h.2 (sliceF dx l' h') := id rfl
@[simp] theorem ev_rev {t : Bool} : ev Φ (.rev t a) env = (bw (ev Φ a env)).bind fun x => (rd x.2 x.1).bind fun dx => out x.2 (revF t dx) := id rfl
@[simp] theorem ev_asInt : ev Φ (.asInt a) env = (fw (ev Φ a env)).bind fun x => (intOf x.1).map fun i => (.int i, .fz, x.2) := id rfl
@[simp] theorem ev_call {f : Nat} : ev Φ (.call f as) env = (evA Φ as env).bind fun r => match (Φ f).io with
    | true => none
    | false => if r.1.length = (Φ f).ar then ((Φ f).run r.1).map fun d => (d.1, (if (Φ f).fresh = true then .nw else .fz), r.2) else none := id rfl
@[simp] theorem ev_callP {f : Nat} {perm : List Nat} : ev Φ (.callP f perm as) env = (evA Φ as env).bind fun r => (permD r.1 perm).bind fun ds => match (Φ f).io with
    | true => none
    | false => if ds.length = (Φ f).ar then ((Φ f).run ds).map fun d => (d.1, (if (Φ f).fresh = true then .nw else .fz), r.2) else none := id rfl
@[simp] theorem ev_callIO {f : Nat} : ev Φ (.callIO f i as) env = match getS env i with
    | .ow _ => (evA Φ as env).bind fun r => (owD r.2 i).bind fun d0 => match (Φ f).io with
      | true => if (d0 :: r.1).length = (Φ f).ar then ((Φ f).run (d0 :: r.1)).map fun d => (d.1, (if (Φ f).fresh = true then .nw else .fz), slotSet i r.2 d.2) else none
      | false => none
    | _ => none := id rfl
@[simp] theorem ev_bi {f : BI} : ev Φ (.bi f as) env = (evB Φ as env).bind fun r => (r.1.mapM (rd r.2)).bind fun ds => out r.2 (biF f ds) := id rfl
@[simp] theorem ev_isi {ts : List Ty} : ev Φ (.isi ts a) env = (bw (ev Φ a env)).bind fun x => (rd x.2 x.1).map fun d => (.bl (ts.any fun t => tyB t d), .fz, x.2) := id rfl
/-- the turns of a comprehension, by its text -/
def compE (Φ : Nat → FS) (own : List Nat) (t : MT) (c elt : ME) (ds : List D) (env : Env) : Option (List D × Env) := compGo (asgT t) (fun e => blOf (ev Φ c e)) (fun e => fw (ev Φ elt e)) own ds env
@[simp] theorem ev_comp {own : List Nat} {t : MT} {it : MI} : ev Φ (.comp own t it c e) env = (evI Φ it env).bind fun r => if noOwn r.2 own = true then (compE Φ own t c e r.1 (wipeE r.2 own)).map fun z => (.lst z.1, .nw, backE r.2 z.2 own) else none := id rfl
@[simp] theorem ev_range {t : Bool} {it : MI} : ev Φ (.range t it) env = (evI Φ it env).map fun r => match t with
    | true => (.tup r.1, .fz, r.2)
    | false => (.lst r.1, .nw, r.2) := id rfl
@[simp] theorem ev_popAt : ev Φ (.popAt i a) env = (owL env i).bind fun _ => (fw (ev Φ a env)).bind fun x => (intOf x.1).bind fun k => (owL x.2 i).bind fun xs => if -(2 ^ 63) ≤ k ∧ k < 2 ^ 63 then
      (seqIndex? k xs.length).bind fun j => (xs[j]?).map fun d => (d, .fz, slotSet i x.2 (.lst (xs.eraseIdx j))) else none := by
  rw [ev]
@[simp] theorem ev_get2 : ev Φ (.get2 a c z) env = (bw (ev Φ a env)).bind fun x => (rd x.2 x.1).bind fun d0 => match isDicD d0 with
    | false => none
    | true => (fw (ev Φ c x.2)).bind fun y => (fw (ev Φ z y.2)).bind fun w => (rd w.2 x.1).bind fun dx => match dx with
    | .dic kvs => (keyD y.1).map fun k' => ((lookD kvs k').getD w.1, .fz, w.2)
    | _ => none := id rfl
@[simp] theorem ev_dic0 : ev Φ (.dicD .nil .nil) env = some (.dic [], .nw, env) := id rfl
@[simp] theorem ev_dic1 : ev Φ (.dicD (.cons a .nil) (.cons c .nil)) env = (fw (ev Φ a env)).bind fun x => (fw (ev Φ c x.2)).bind fun y => (keyD x.1).map fun k' => (.dic [(k', y.1)], .nw, y.2) := id rfl
@[simp] theorem evA_nil : evA Φ .nil env = some ([], env) := id rfl
@[simp] theorem evA_cons : evA Φ (.cons a r) env = (fw (ev Φ a env)).bind fun x => (evA Φ r x.2).map fun y => (x.1 :: y.1, y.2) := id rfl
@[simp] theorem evA_star : evA Φ (.star a r) env = (fw (ev Φ a env)).bind fun x => (seqOf x.1).bind fun xs => (evA Φ r x.2).map fun y => (xs ++ y.1, y.2) := id rfl
@[simp] theorem evB_nil : evB Φ .nil env = some ([], env) := id rfl
@[simp] theorem evB_cons : evB Φ (.cons a r) env = (bw (ev Φ a env)).bind fun x => (evB Φ r x.2).map fun y => (x.1 :: y.1, y.2) := id rfl
@[simp] theorem evI_seq {t : Bool} : evI Φ (.seq t a) env = (fw (ev Φ a env)).bind fun x => (seqK t x.1).map fun xs => (xs, x.2) := id rfl
/-- the turns of a range, sealed: its bounds are not to be reckoned with -/
noncomputable def rngS : {f : (Int → Env → Option (List D × Env)) × (Int → Int → Env → Option (List D × Env)) × (Int → Int → Int → Env → Option (List D × Env)) //
    (∀ j env, f.1 j env = if rgOk j = true ∧ j ≤ 16777216 then some (rgD 0 j.toNat 1, env) else none) ∧
    (∀ i j env, f.2.1 i j env = if (rgOk i = true ∧ rgOk j = true) ∧ j - i ≤ 16777216 then some (rgD i (j - i).toNat 1, env) else none) ∧
    (∀ i j k env, f.2.2 i j k env = if ((rgOk i = true ∧ rgOk j = true) ∧ k = -1) ∧ i - j ≤ 16777216 then some (rgD i (i - j).toNat (-1), env) else none)} :=
  Classical.choice ⟨⟨(fun j env => if rgOk j = true ∧ j ≤ 16777216 then some (rgD 0 j.toNat 1, env) else none,
    fun i j env => if (rgOk i = true ∧ rgOk j = true) ∧ j - i ≤ 16777216 then some (rgD i (j - i).toNat 1, env) else none,
    fun i j k env => if ((rgOk i = true ∧ rgOk j = true) ∧ k = -1) ∧ i - j ≤ 16777216 then some (rgD i (i - j).toNat (-1), env) else none), fun _ _ => rfl, fun _ _ _ => rfl, fun _ _ _ _ => rfl⟩⟩
noncomputable def rngG : Int → Env → Option (List D × Env) := rngS.1.1
noncomputable def rngG2 : Int → Int → Env → Option (List D × Env) := rngS.1.2.1
noncomputable def rngG3 : Int → Int → Int → Env → Option (List D × Env) := rngS.1.2.2
theorem rngG_eq (j : Int) (env : Env) : rngG j env = if rgOk j = true ∧ j ≤ 16777216 then some (rgD 0 j.toNat 1, env) else none := rngS.2.1 j env
theorem rngG2_eq (i j : Int) (env : Env) : rngG2 i j env = if (rgOk i = true ∧ rgOk j = true) ∧ j - i ≤ 16777216 then some (rgD i (j - i).toNat 1, env) else none := rngS.2.2.1 i j env
theorem rngG3_eq (i j k : Int) (env : Env) : rngG3 i j k env = if ((rgOk i = true ∧ rgOk j = true) ∧ k = -1) ∧ i - j ≤ 16777216 then some (rgD i (i - j).toNat (-1), env) else none := rngS.2.2.2 i j k env
@[simp] theorem evI_rng1 : evI Φ (.rng1 a) env = (fw (ev Φ a env)).bind fun x => (intOf x.1).bind fun j => rngG j x.2 := by
  rw [evI]
  simp only [rngG_eq]
@[simp] theorem evI_rng2 : evI Φ (.rng2 a c) env = (fw (ev Φ a env)).bind fun x => (fw (ev Φ c x.2)).bind fun y => (intOf x.1).bind fun i => (intOf y.1).bind fun j => rngG2 i j y.2 := by
  rw [evI]
  simp only [rngG2_eq]
@[simp] theorem evI_rng3 : evI Φ (.rng3 a c e) env = (fw (ev Φ a env)).bind fun x => (fw (ev Φ c x.2)).bind fun y => (fw (ev Φ e y.2)).bind fun z => (intOf x.1).bind fun i => (intOf y.1).bind fun j => (intOf z.1).bind fun k => rngG3 i j k z.2 := by
  rw [evI]
  simp only [rngG3_eq]
@[simp] theorem intOf_int (i : Int) : intOf (.int i) = some i := rfl
@[simp] theorem evI_enum : evI Φ (.enum a) env = (fw (ev Φ a env)).bind fun x => (seqK false x.1).map fun xs => (enumD 0 xs, x.2) := id rfl
@[simp] theorem evI_zip : evI Φ (.zip a c) env = (fw (ev Φ a env)).bind fun x => (fw (ev Φ c x.2)).bind fun y => (seqOf x.1).bind fun xs => (seqOf y.1).map fun ys => (pairsD xs ys, y.2) := id rfl
/-! statements -/
variable {s s2 : MS}
@[simp] theorem evS_skip' : evS Φ fuel .skip env = some (.nx env) := id rfl
@[simp] theorem evS_seq' : evS Φ fuel (.seq s s2) env = andThen (evS Φ fuel s env) (evS Φ fuel s2) := id rfl
@[simp] theorem andThen_nx {f : Env → Option Out} : andThen (some (.nx env)) f = f env := id rfl
@[simp] theorem andThen_rt {f : Env → Option Out} : andThen (some (.rt d k env)) f = some (.rt d k env) := id rfl
@[simp] theorem andThen_none {f : Env → Option Out} : andThen none f = none := id rfl
@[simp] theorem evS_expr' : evS Φ fuel (.expr a) env = (ev Φ a env).map fun x => .nx x.2.2 := id rfl
@[simp] theorem evS_set' : evS Φ fuel (.set i a) env = (ev Φ a env).bind fun x => (setR i x.1 x.2.1 x.2.2).map .nx := id rfl
@[simp] theorem evS_unp' {t : MT} : evS Φ fuel (.unp t a) env = (fw (ev Φ a env)).bind fun x => (asgT t x.1 x.2).map .nx := id rfl
@[simp] theorem evS_par2' : evS Φ fuel (.par2 i j a c) env = (keepR (ev Φ a env)).bind fun x => (keepR (ev Φ c x.2.2)).bind fun y => if i < env.length ∧ j < env.length ∧ i ≠ j then some (.nx (setK j y.1 y.2.1 (setK i x.1 x.2.1 y.2.2))) else none := id rfl
@[simp] theorem evS_par3' {l : Nat} : evS Φ fuel (.par3 i j l a c e) env = (keepR (ev Φ a env)).bind fun x => (keepR (ev Φ c x.2.2)).bind fun y => (keepR (ev Φ e y.2.2)).bind fun z =>
      if (i < env.length ∧ j < env.length ∧ l < env.length) ∧ i ≠ j ∧ i ≠ l ∧ j ≠ l then some (.nx (setK l z.1 z.2.1 (setK j y.1 y.2.1 (setK i x.1 x.2.1 z.2.2)))) else none := id rfl
@[simp] theorem evS_setIx' : evS Φ fuel (.setIx i a c) env = (fw (ev Φ c env)).bind fun x => (owL x.2 i).bind fun _ => (fw (ev Φ a x.2)).bind fun y => (intOf y.1).bind fun k => (owL y.2 i).bind fun xs => (ixN xs.length k).map fun j => .nx (slotSet i y.2 (.lst (xs.set j x.1))) := id rfl
@[simp] theorem evS_setKey' : evS Φ fuel (.setKey i a c) env = (fw (ev Φ c env)).bind fun x => (owK x.2 i).bind fun _ => (fw (ev Φ a x.2)).bind fun y => (keyD y.1).bind fun k => (owK y.2 i).bind fun kvs => if kvs.length < sizeLine then some (.nx (slotSet i y.2 (.dic (putD kvs k x.1)))) else none := id rfl
@[simp] theorem evS_app' : evS Φ fuel (.app i a) env = (owL env i).bind fun _ => (fw (ev Φ a env)).bind fun x => (owL x.2 i).bind fun xs => if xs.length < sizeLine then some (.nx (slotSet i x.2 (.lst (xs ++ [x.1])))) else none := id rfl
@[simp] theorem evS_ext' : evS Φ fuel (.ext i a) env = (owL env i).bind fun _ => (fw (ev Φ a env)).bind fun x => match x.1 with
    | .lst ys => (owL x.2 i).bind fun xs => if xs.length + ys.length ≤ sizeLine then some (.nx (slotSet i x.2 (.lst (xs ++ ys)))) else none
    | _ => none := id rfl
@[simp] theorem evS_ret' : evS Φ fuel (.ret a) env = (ev Φ a env).map fun x => .rt x.1 x.2.1 x.2.2 := id rfl
@[simp] theorem evS_retN' : evS Φ fuel .retN env = some (.rt .non .fz env) := id rfl
@[simp] theorem evS_ite' : evS Φ fuel (.ite a s s2) env = (blOf (ev Φ a env)).bind fun x => match x.1 with
    | true => evS Φ fuel s x.2
    | false => evS Φ fuel s2 x.2 := id rfl
/-- the turns of a while, by its text -/
def whileE (Φ : Nat → FS) (fuel : Nat) (c : ME) (b : MS) (n : Nat) (env : Env) : Option Out := whileGo (fun e => blOf (ev Φ c e)) (evS Φ fuel b) n env
@[simp] theorem evS_whl' : evS Φ fuel (.whl a s) env = whileE Φ fuel a s fuel env := id rfl
theorem whileE_succ {n : Nat} : whileE Φ fuel a s (n + 1) env = (blOf (ev Φ a env)).bind fun t => match t.1 with
    | true => (evS Φ fuel s t.2).bind fun o => match o with
      | .nx e => whileE Φ fuel a s n e
      | .ct e => whileE Φ fuel a s n e
      | .bk e => some (.nx e)
      | .rt d k e => some (.rt d k e)
    | false => some (.nx t.2) := id rfl
/-- the turns of a for, by its text -/
def forE (Φ : Nat → FS) (fuel : Nat) (t : MT) (b : MS) (ds : List D) (env : Env) : Option Out := forGo (asgT t) (evS Φ fuel b) ds env
@[simp] theorem evS_forr' {t : MT} {it : MI} : evS Φ fuel (.forr t it s) env = (evI Φ it env).bind fun r => forE Φ fuel t s r.1 r.2 := id rfl
@[simp] theorem evS_forD' {t : MT} : evS Φ fuel (.forD i t s) env = (owK env i).bind fun kvs => forE Φ fuel t s (kvs.map fun p => .tup [keyOfD p.1, p.2]) (env.set i .un) := id rfl
theorem forE_nil {t : MT} : forE Φ fuel t s [] env = some (.nx env) := id rfl
theorem forE_cons {t : MT} {ds : List D} : forE Φ fuel t s (d :: ds) env = (asgT t d env).bind fun env1 => (evS Φ fuel s env1).bind fun o => match o with
    | .nx e => forE Φ fuel t s ds e
    | .ct e => forE Φ fuel t s ds e
    | .bk e => some (.nx e)
    | .rt d k e => some (.rt d k e) := id rfl
@[simp] theorem evS_brk' : evS Φ fuel .brk env = some (.bk env) := id rfl
@[simp] theorem evS_cont' : evS Φ fuel .cont env = some (.ct env) := id rfl
@[simp] theorem evS_kill' {is : List Nat} : evS Φ fuel (.kill is) env = some (.nx (wipeE env is)) := id rfl
theorem evS_mov' : evS Φ fuel (.mov i j) env = match getS env j with
    | .ow d => if i < env.length then some (.nx ((env.set j .un).set i (.ow d))) else none
    | _ => none := id rfl
@[simp] theorem wipeE_nil : wipeE env [] = env := rfl
@[simp] theorem wipeE_cons {is : List Nat} : wipeE env (i :: is) = (wipeE env is).set i .un := rfl
@[simp] theorem backE_nil {now : Env} : backE env now [] = now := rfl
@[simp] theorem backE_cons {now : Env} {is : List Nat} : backE env now (i :: is) = (backE env now is).set i (getS env i) := rfl
@[simp] theorem noOwn_nil : noOwn env [] = true := rfl
theorem noOwn_cons {is : List Nat} : noOwn env (i :: is) = ((match getS env i with
  | .ow _ => false
  | _ => true) && noOwn env is) := rfl
@[simp] theorem asgT_nm : asgT (.nm i) d env = if i < env.length then some (env.set i (.im d)) else none := rfl
@[simp] theorem asgT_tp {ts : MTs} {ds : List D} : asgT (.tp ts) (.tup ds) env = asgTs ts ds env := rfl
@[simp] theorem asgTs_nil : asgTs .nil [] env = some env := rfl
@[simp] theorem asgTs_cons {t : MT} {ts : MTs} {ds : List D} : asgTs (.cons t ts) (d :: ds) env = (asgT t d env).bind fun env' => asgTs ts ds env' := rfl
@[simp] theorem keepR_fz : keepR (some (d, .fz, env)) = some (d, false, env) := rfl
@[simp] theorem keepR_nw : keepR (some (d, .nw, env)) = some (d, true, env) := rfl
@[simp] theorem keepR_sl : keepR (some (d, .sl i, env)) = some (d, false, env.set i (.im d)) := rfl
@[simp] theorem setK_t : setK i d true env = env.set i (.ow d) := rfl
@[simp] theorem setK_f : setK i d false env = env.set i (.im d) := rfl
@[simp] theorem setR_fz : setR i d .fz env = if i < env.length then some (env.set i (.im d)) else none := rfl
@[simp] theorem setR_nw : setR i d .nw env = if i < env.length then some (env.set i (.ow d)) else none := rfl
@[simp] theorem setR_sl : setR i d (.sl j) env = if i < env.length then some ((env.set j (.im d)).set i (.im d)) else none := rfl
theorem owL_of {xs : List D} (h : getS env i = .ow (.lst xs)) : owL env i = some xs := by
  unfold owL owD
  rw [h]
  rfl
theorem owK_of {xs : List (Key × D)} (h : getS env i = .ow (.dic xs)) : owK env i = some xs := by
  unfold owK owD
  rw [h]
  rfl
end
/-! ### plain numbers -/
abbrev I (ns : List Int) : List D := ns.map .int
@[simp] theorem intsD_map : ∀ ns : List Int, intsD (ns.map .int) = some ns
  | [] => rfl
  | n :: ns => by rw [List.map_cons, intsD, intsD_map ns]; rfl
@[simp] theorem blsD_map : ∀ ns : List Bool, blsD (ns.map .bl) = some ns
  | [] => rfl
  | n :: ns => by rw [List.map_cons, blsD, blsD_map ns]; rfl
theorem line_big {n : Nat} (h : n ≤ 16777216) : n ≤ sizeLine := Nat.le_trans h line24

/-! ### comprehensions of plain steps -/
section
variable {Φ : Nat → FS} {own : List Nat} {t : MT} {c elt : ME} {E : Env} {α : Type}
theorem compE_fm (cv : α → D) (f : α → Option D) : ∀ (xs : List α), (∀ x ∈ xs, ∃ E1, asgT t (cv x) E = some E1 ∧ ((∃ E2 y E3, blOf (ev Φ c E1) = some (true, E2) ∧ fw (ev Φ elt E2) = some (y, E3) ∧ wipeE E3 own = E ∧ f x = some y) ∨ (∃ E2, blOf (ev Φ c E1) = some (false, E2) ∧ wipeE E2 own = E ∧ f x = none))) →
    compE Φ own t c elt (xs.map cv) E = some (xs.filterMap f, E)
  | [], _ => rfl
  | x :: xs, h => by
    have ih := compE_fm cv f xs fun y hy => h y (List.mem_cons_of_mem _ hy)
    unfold compE at ih ⊢
    rw [List.map_cons, compGo]
    obtain ⟨E1, e1, ⟨E2, y, E3, e2, e3, e4, e5⟩ | ⟨E2, e2, e3, e4⟩⟩ := h x List.mem_cons_self
    · rw [e1]
      show (blOf (ev Φ c E1)).bind _ = _
      rw [e2]
      show (fw (ev Φ elt E2)).bind _ = _
      rw [e3]
      show (compGo _ _ _ own (xs.map cv) (wipeE E3 own)).map _ = _
      rw [e4, ih, List.filterMap_cons, e5]
      rfl
    · rw [e1]
      show (blOf (ev Φ c E1)).bind _ = _
      rw [e2]
      show compGo _ _ _ own (xs.map cv) (wipeE E2 own) = _
      rw [e3, ih, List.filterMap_cons, e4]
theorem compE_m (cv g : α → D) (xs : List α) (hc : c = .lit (.bl true)) (h : ∀ x ∈ xs, ∃ E1 E3, asgT t (cv x) E = some E1 ∧ fw (ev Φ elt E1) = some (g x, E3) ∧ wipeE E3 own = E) : compE Φ own t c elt (xs.map cv) E = some (xs.map g, E) := by
  have := compE_fm (Φ := Φ) (own := own) (t := t) (c := c) (elt := elt) (E := E) cv (fun x => some (g x)) xs fun x hx => by
    obtain ⟨E1, E3, e1, e2, e3⟩ := h x hx
    exact ⟨E1, e1, .inl ⟨E1, g x, E3, by rw [hc]; rfl, e2, e3, rfl⟩⟩
  rw [this, List.filterMap_eq_map']
end
/-! ### a for of plain steps -/
section
variable {Φ : Nat → FS} {fuel : Nat} {t : MT} {b : MS} {α S : Type}
theorem forE_fold (cv : α → D) (Ef : S → Env) (step : S → α → S) (J : S → Prop) : ∀ (xs : List α) (s : S), J s → (∀ s x, J s → x ∈ xs → J (step s x) ∧ ∃ E1, asgT t (cv x) (Ef s) = some E1 ∧ evS Φ fuel b E1 = some (.nx (Ef (step s x)))) →
    forE Φ fuel t b (xs.map cv) (Ef s) = some (.nx (Ef (xs.foldl step s))) ∧ J (xs.foldl step s)
  | [], s, hs, _ => ⟨rfl, hs⟩
  | x :: xs, s, hs, h => by
    obtain ⟨h1, E1, e1, e2⟩ := h s x hs List.mem_cons_self
    obtain ⟨i1, i2⟩ := forE_fold cv Ef step J xs (step s x) h1 fun s y hs hy => h s y hs (List.mem_cons_of_mem _ hy)
    refine ⟨?_, i2⟩
    rw [List.map_cons, forE_cons, e1]
    show (evS Φ fuel b E1).bind _ = _
    rw [e2]
    exact i1
end
/-! ### operators on numbers -/
def B64 : Int := 2 ^ 64
theorem B64_eq : B64 = 18446744073709551616 := by decide
@[simp] theorem bin_add (i j : Int) : binF .add (.int i) (.int j) = some (.int (i + j), false) := rfl
@[simp] theorem bin_sub (i j : Int) : binF .sub (.int i) (.int j) = some (.int (i - j), false) := rfl
theorem bin_mul {i j : Int} (h : mulOk i j = true) : binF .mul (.int i) (.int j) = some (.int (i * j), false) := if_pos h
theorem bin_fdiv {i j : Int} (h : 0 < j) (h2 : j < B64) : binF .fdiv (.int i) (.int j) = some (.int (i / j), false) := if_pos ⟨h, h2⟩
theorem bin_mod {i j : Int} (h : 0 < j) : binF .mod (.int i) (.int j) = some (.int (i % j), false) := if_pos h
theorem bin_pow {i j : Int} (h : 0 ≤ j) (h2 : j ≤ 1000000) (h3 : i.natAbs < 2 ^ 64) : binF .pow (.int i) (.int j) = some (.int (i ^ j.toNat), false) := if_pos ⟨h, h2, h3⟩
theorem bin_shl {i j : Int} (h : 0 ≤ j) (h2 : j ≤ 1000000) (h3 : i.natAbs < 2 ^ 64) : binF .shl (.int i) (.int j) = some (.int (i * 2 ^ j.toNat), false) := if_pos ⟨h, h2, h3⟩
theorem bin_shr {i j : Int} (h : 0 ≤ j) : binF .shr (.int i) (.int j) = some (.int (i / 2 ^ j.toNat), false) := if_pos h
theorem bin_band (i j : Int) : binF .band (.int i) (.int j) = some (.int (Builtin.bitAnd i j), false) := rfl
theorem bin_bor (i j : Int) : binF .bor (.int i) (.int j) = some (.int (Builtin.bitOr i j), false) := rfl
theorem bin_bxor (i j : Int) : binF .bxor (.int i) (.int j) = some (.int (Builtin.bitXor i j), false) := rfl
def sml (i : Int) : Bool := decide (-B64 < i ∧ i < B64)
theorem sml_iff {i : Int} : sml i = true ↔ -B64 < i ∧ i < B64 := decide_eq_true_iff
theorem sml_of {i : Int} (h1 : -18446744073709551616 < i) (h2 : i < 18446744073709551616) : sml i = true := by
  rw [sml_iff, B64_eq]
  exact ⟨h1, h2⟩
theorem sml_mul {i j : Int} (h : sml i = true) : mulOk i j = true := by
  have := sml_iff.mp h
  unfold mulOk
  rw [Bool.or_eq_true]
  exact .inl (decide_eq_true this)
theorem sml_mul2 {i j : Int} (h : sml j = true) : mulOk i j = true := by
  have := sml_iff.mp h
  unfold mulOk
  rw [Bool.or_eq_true]
  exact .inr (decide_eq_true this)
@[simp] theorem intsD_comp {α : Type} (f : α → Int) (l : List α) : intsD (l.map (D.int ∘ f)) = some (l.map f) := by rw [← List.map_map, intsD_map]
@[simp] theorem intsD_fun {α : Type} (f : α → Int) (l : List α) : intsD (l.map fun x => D.int (f x)) = some (l.map f) := intsD_comp f l
@[simp] theorem blsD_comp {α : Type} (f : α → Bool) (l : List α) : blsD (l.map (D.bl ∘ f)) = some (l.map f) := by rw [← List.map_map, blsD_map]
@[simp] theorem blsD_fun {α : Type} (f : α → Bool) (l : List α) : blsD (l.map fun x => D.bl (f x)) = some (l.map f) := blsD_comp f l
theorem eqF_int (i j : Int) : eqF (.int i) (.int j) = some (decide (i = j)) := by
  unfold eqF
  rw [if_pos ⟨rfl, rfl⟩]
  show some (PyData.eqv (.int i) (.int j)) = _
  rw [PyData.eqv]
  congr 1
@[simp] theorem cmpF_eq_int (i j : Int) : cmpF .eq (.int i) (.int j) = some (decide (i = j)) := eqF_int i j
@[simp] theorem cmpF_ne_int (i j : Int) : cmpF .ne (.int i) (.int j) = some (!decide (i = j)) := by
  show (eqF (.int i) (.int j)).map (!·) = _
  rw [eqF_int]
  rfl
@[simp] theorem cmpF_lt_int (i j : Int) : cmpF .lt (.int i) (.int j) = some (decide (i < j)) := rfl
@[simp] theorem cmpF_le_int (i j : Int) : cmpF .le (.int i) (.int j) = some (decide (i ≤ j)) := rfl
@[simp] theorem cmpF_gt_int (i j : Int) : cmpF .gt (.int i) (.int j) = some (decide (j < i)) := rfl
@[simp] theorem cmpF_ge_int (i j : Int) : cmpF .ge (.int i) (.int j) = some (decide (j ≤ i)) := rfl
@[simp] theorem endF_rt {d : D} {k : RK} {e : PL.Env} : endF false (.rt d k e) = some (d, .non) := by cases k <;> rfl
@[simp] theorem endF_nx {e : PL.Env} : endF false (.nx e) = some (.non, .non) := rfl
@[simp] theorem bi_len_l (xs : List D) : biF .len [.lst xs] = some (.int xs.length, false) := rfl
@[simp] theorem bi_len_t (xs : List D) : biF .len [.tup xs] = some (.int xs.length, false) := rfl
@[simp] theorem bi_len_s (xs : List Int) : biF .len [.scr xs] = some (.int xs.length, false) := rfl
@[simp] theorem bi_abs (i : Int) : biF .abs [.int i] = some (.int (if i < 0 then -i else i), false) := rfl
@[simp] theorem bi_int (i : Int) : biF .int [.int i] = some (.int i, false) := rfl
@[simp] theorem bi_gcd (a b : Int) : biF .gcd [.int a, .int b] = some (.int ((Nat.gcd a.natAbs b.natAbs : Nat) : Int), false) := rfl
@[simp] theorem bi_max2 (i j : Int) : biF .max [.int i, .int j] = some (.int (if j > i then j else i), false) := rfl
@[simp] theorem bi_min2 (i j : Int) : biF .min [.int i, .int j] = some (.int (if j < i then j else i), false) := rfl
@[simp] theorem bi_tuple_l (xs : List D) : biF .tuple [.lst xs] = some (.tup xs, false) := rfl
theorem bi_sum {x : D} {ns : List Int} (h : (seqOf x).bind intsD = some ns) : biF .sum [x] = some (.int ns.sum, false) := by
  obtain ⟨xs, h1, h2⟩ := bind_inv h
  show (seqOf x).bind (fun xs => (intsD xs).map fun is => (D.int is.sum, false)) = _
  rw [h1]
  show (intsD xs).map _ = _
  rw [h2]
  rfl
theorem bi_all {xs : List D} {bs : List Bool} (h : blsD xs = some bs) : biF .all [.lst xs] = some (.bl (bs.all id), false) := by
  show (blsD xs).map _ = _
  rw [h]
  rfl
theorem bi_any {xs : List D} {bs : List Bool} (h : blsD xs = some bs) : biF .any [.lst xs] = some (.bl (bs.any id), false) := by
  show (blsD xs).map _ = _
  rw [h]
  rfl
end PL
namespace PL
open PySem L2
section
variable {Φ : Nat → FS} {fuel : Nat} {t : MT} {b : MS} {α S : Type}
/-- .. with an invariant of what is left -/
theorem forE_foldR (cv : α → D) (Ef : S → Env) (step : S → α → S) (J : List α → S → Prop) (h : ∀ x xs s, J (x :: xs) s → J xs (step s x) ∧ ∃ E1, asgT t (cv x) (Ef s) = some E1 ∧ evS Φ fuel b E1 = some (.nx (Ef (step s x)))) :
    ∀ (xs : List α) (s : S), J xs s → forE Φ fuel t b (xs.map cv) (Ef s) = some (.nx (Ef (xs.foldl step s))) ∧ J [] (xs.foldl step s)
  | [], s, hs => ⟨rfl, hs⟩
  | x :: xs, s, hs => by
    obtain ⟨h1, E1, e1, e2⟩ := h x xs s hs
    obtain ⟨i1, i2⟩ := forE_foldR cv Ef step J h xs (step s x) h1
    refine ⟨?_, i2⟩
    rw [List.map_cons, forE_cons, e1]
    show (evS Φ fuel b E1).bind _ = _
    rw [e2]
    exact i1
end
theorem foldl_filter {α β : Type} (p : α → Bool) (g : α → β) : ∀ (l : List α) (acc : List β), l.foldl (fun acc k => if p k = true then acc ++ [g k] else acc) acc = acc ++ (l.filter p).map g
  | [], acc => by simp
  | x :: l, acc => by
    rw [List.foldl_cons, foldl_filter p g l, List.filter_cons]
    by_cases h : p x = true
    · rw [if_pos h, if_pos h, List.map_cons, List.append_assoc]
      rfl
    · rw [if_neg h, if_neg h]
theorem foldl_flat {α β : Type} (g : α → List β) : ∀ (l : List α) (acc : List β), l.foldl (fun acc k => acc ++ g k) acc = acc ++ l.flatMap g
  | [], acc => by simp
  | x :: l, acc => by rw [List.foldl_cons, foldl_flat g l, List.flatMap_cons, List.append_assoc]
/-- the k-th, 0 behind the end -/
def ati (ws : List Int) (k : Nat) : Int := ws.getD k 0
theorem atI_I {ws : List Int} {k : Nat} (h : k < ws.length) : atI (ws.map D.int) (k : Int) = some (.int (ati ws k)) := by
  refine atI_nat ?_
  rw [List.getElem?_map, ati, List.getD_eq_getElem?_getD, List.getElem?_eq_getElem h]
  rfl
theorem enumD_I (ws : List Int) : enumD 0 (ws.map D.int) = (List.range ws.length).map fun k => .tup [.int (k : Int), .int (ati ws k)] := by
  refine List.ext_getElem? fun i => ?_
  rcases Nat.lt_or_ge i ws.length with h | h
  · have h1 : (ws.map D.int)[i]? = some (.int (ati ws i)) := by
      rw [List.getElem?_map, ati, List.getD_eq_getElem?_getD, List.getElem?_eq_getElem h]
      rfl
    rw [enumD_get 0 _ i _ h1, List.getElem?_map, List.getElem?_range h, Nat.zero_add]
    rfl
  · rw [List.getElem?_eq_none (by rw [enumD_length, List.length_map]; exact h), List.getElem?_eq_none (by rw [List.length_map, List.length_range]; exact h)]
theorem rgD_nat (n : Nat) : rgD 0 n 1 = (List.range n).map fun k => .int (k : Int) := by
  unfold rgD
  refine List.map_congr_left fun k _ => ?_
  rw [Int.zero_add, Int.mul_one]
theorem rgOk_of {i : Int} (h1 : -1000000 ≤ i) (h2 : i ≤ 1000000) : rgOk i = true := decide_eq_true (by omega)
theorem rngG_nat {n : Nat} {env : Env} (h : n ≤ 1000000) : rngG (n : Int) env = some ((List.range n).map fun k : Nat => .int (k : Int), env) := by
  rw [rngG_eq, if_pos ⟨rgOk_of (by omega) (by omega), by omega⟩, Int.toNat_natCast, rgD_nat]
theorem rngG3_of {i j : Int} {env : Env} (h1 : -1000000 ≤ j) (h2 : j ≤ i) (h3 : i ≤ 1000000) : rngG3 i j (-1) env = some (rgD i (i - j).toNat (-1), env) := by
  rw [rngG3_eq, if_pos ⟨⟨⟨rgOk_of (by omega) h3, rgOk_of h1 (by omega)⟩, rfl⟩, by omega⟩]
end PL
set_option maxHeartbeats 4000000
namespace W
open PySem PySem.Spec PyProof.Rows L2 PL
structure Mg (mg : Str → Option Value) : Prop where
  b_abs : mg "abs" = none
  b_all : mg "all" = none
  b_any : mg "any" = none
  b_bool : mg "bool" = none
  b_dict : mg "dict" = none
  b_enumerate : mg "enumerate" = none
  b_int : mg "int" = none
  b_isinstance : mg "isinstance" = none
  b_len : mg "len" = none
  b_list : mg "list" = none
  b_max : mg "max" = none
  b_min : mg "min" = none
  b_range : mg "range" = none
  b_set : mg "set" = none
  b_sorted : mg "sorted" = none
  b_str : mg "str" = none
  b_sum : mg "sum" = none
  b_tuple : mg "tuple" = none
  b_zip : mg "zip" = none
  c_MOST_PLACES : ∃ t, mg "MOST_PLACES" = some (.int 8 t)
  c_MOST_POSITION : ∃ t, mg "MOST_POSITION" = some (.int 20 t)
  c_MOST_LOAD : ∃ t, mg "MOST_LOAD" = some (.int 100 t)
  c_MOST_LIMIT : ∃ t, mg "MOST_LIMIT" = some (.int 1000 t)
  c_MOST_SLACK : ∃ t, mg "MOST_SLACK" = some (.int 20000 t)
  g_gcd : mg "gcd" = some (.builtin "math.gcd")
theorem Mg.bb_isinstance {mg : Str → Option Value} (_ : Mg mg) : bootBuiltins "isinstance" = some (.builtin "isinstance") := by decide +kernel
theorem Mg.ty_int {X : Cx} (M : Mg X.mg) : TyNm X "int" .int := ⟨M.b_int, by decide +kernel, by decide, by decide⟩
theorem Mg.ty_bool {X : Cx} (M : Mg X.mg) : TyNm X "bool" .bool := ⟨M.b_bool, by decide +kernel, by decide, by decide⟩
theorem Mg.ty_str {X : Cx} (M : Mg X.mg) : TyNm X "str" .str := ⟨M.b_str, by decide +kernel, by decide, by decide⟩
theorem Mg.ty_tuple {X : Cx} (M : Mg X.mg) : TyNm X "tuple" .tuple := ⟨M.b_tuple, by decide +kernel, by decide, by decide⟩
theorem Mg.ty_list {X : Cx} (M : Mg X.mg) : TyNm X "list" .list := ⟨M.b_list, by decide +kernel, by decide, by decide⟩
theorem Mg.ty_dict {X : Cx} (M : Mg X.mg) : TyNm X "dict" .dict := ⟨M.b_dict, by decide +kernel, by decide, by decide⟩
/-! ### is_integer -/
def m_is_integer : MS := .ret (.and (.isi [.int] (.var 0)) (.not (.isi [.bool] (.var 0))))
theorem sc_is_integer : FnScope ["value"] ["value"] (defScope Hd.s_is_integer) := ⟨rfl, rfl, rfl, by decide +kernel, rfl, by decide +kernel, by decide +kernel⟩
theorem ok_is_integer {P : Program} {w : World} {K : PySem.W.Frag} {mg : Str → Option Value} {base : Heap} {f : Addr} {fd : FuncData} {fuel : List D → Nat} (M : Mg mg) (F : FunD K "is_integer" "is_integer" (defArgs Hd.s_is_integer) (defBody Hd.s_is_integer) (defScope Hd.s_is_integer) [] [] f fd)  :
    FnOk P w K mg base CX0 1 f fd ["value"] (spFS K (fsOf (tbl []) fuel m_is_integer 1 1 false false)) := by
  have sc := sc_is_integer
  refine fn_pure (N := ["value"]) (k := 0) F sc (by decide) fun cdv A outer s H E n hr => ?_
  exact css_one (cs_ret (ce_and (ce_isi M.b_isinstance M.bb_isinstance M.ty_int (ce_var 0)) (ce_one (ce_not (ce_isi M.b_isinstance M.bb_isinstance M.ty_bool (ce_var 0))))))
theorem g_is_integer {P : Program} {w : World} {K : PySem.W.Frag} {mg : Str → Option Value} {base : Heap} {f : Addr} {fd : FuncData} {fs : FS} {k : Nat} (F : FunD K "is_integer" "is_integer" (defArgs Hd.s_is_integer) (defBody Hd.s_is_integer) (defScope Hd.s_is_integer) [] [] f fd) (hm : mg "is_integer" = some (.ref f)) (ok : FnOk P w K mg base CX0 k f fd ["value"] (spFS K fs)) :
    FnG P w K mg base "is_integer" ["value"] fs k := .of F hm ok fun _ _ _ _ _ _ us hl => match us, hl with | [_], _ => rfl
/-! ### is_between -/
def m_is_between : MS := .ret (.and (.call 0 (.cons (.var 0) (.nil))) (.chain .le .le (.var 1) (.var 0) (.var 2)))
theorem sc_is_between : FnScope ["value", "least", "most"] ["value", "least", "most"] (defScope Hd.s_is_between) := ⟨rfl, rfl, rfl, by decide +kernel, rfl, by decide +kernel, by decide +kernel⟩
theorem ok_is_between {P : Program} {w : World} {K : PySem.W.Frag} {mg : Str → Option Value} {base : Heap} {f : Addr} {fd : FuncData} {fuel : List D → Nat} {f0 : FS} (M : Mg mg) (F : FunD K "is_between" "is_between" (defArgs Hd.s_is_between) (defBody Hd.s_is_between) (defScope Hd.s_is_between) [] [] f fd) (h0 : FnG P w K mg base "is_integer" ["value"] f0 1) :
    FnOk P w K mg base CX0 2 f fd ["value", "least", "most"] (spFS K (fsOf (tbl [f0]) fuel m_is_between 3 3 false false)) := by
  have sc := sc_is_between
  refine fn_pure (N := ["value", "least", "most"]) (k := 1) F sc (by decide) fun cdv A outer s H E n hr => ?_
  exact css_one (cs_ret (ce_and (ce_call 0 h0.at hr (ca_cons (ce_var 0) (ca_nil)) (by decide)) (ce_one (ce_chain c_le c_le (ce_var 1) (ce_var 0) (ce_var 2)))))
theorem g_is_between {P : Program} {w : World} {K : PySem.W.Frag} {mg : Str → Option Value} {base : Heap} {f : Addr} {fd : FuncData} {fs : FS} {k : Nat} (F : FunD K "is_between" "is_between" (defArgs Hd.s_is_between) (defBody Hd.s_is_between) (defScope Hd.s_is_between) [] [] f fd) (hm : mg "is_between" = some (.ref f)) (ok : FnOk P w K mg base CX0 k f fd ["value", "least", "most"] (spFS K fs)) :
    FnG P w K mg base "is_between" ["value", "least", "most"] fs k := .of F hm ok fun _ _ _ _ _ _ us hl => match us, hl with | [_, _, _], _ => rfl
/-! ### is_tuple_of -/
def m_is_tuple_of : MS := .ret (.and (.isi [.tuple] (.var 0)) (.cmp .eq (.bi .len (.cons (.var 0) (.nil))) (.var 1)))
theorem sc_is_tuple_of : FnScope ["value", "many"] ["value", "many"] (defScope Hd.s_is_tuple_of) := ⟨rfl, rfl, rfl, by decide +kernel, rfl, by decide +kernel, by decide +kernel⟩
theorem ok_is_tuple_of {P : Program} {w : World} {K : PySem.W.Frag} {mg : Str → Option Value} {base : Heap} {f : Addr} {fd : FuncData} {fuel : List D → Nat} (M : Mg mg) (F : FunD K "is_tuple_of" "is_tuple_of" (defArgs Hd.s_is_tuple_of) (defBody Hd.s_is_tuple_of) (defScope Hd.s_is_tuple_of) [] [] f fd)  :
    FnOk P w K mg base CX0 1 f fd ["value", "many"] (spFS K (fsOf (tbl []) fuel m_is_tuple_of 2 2 false false)) := by
  have sc := sc_is_tuple_of
  refine fn_pure (N := ["value", "many"]) (k := 0) F sc (by decide) fun cdv A outer s H E n hr => ?_
  exact css_one (cs_ret (ce_and (ce_isi M.b_isinstance M.bb_isinstance M.ty_tuple (ce_var 0)) (ce_one (ce_cmp (c_eq (rm64 hr)) (ce_bi (b_len M.b_len) (cab_cons (ce_var 0) (cab_nil))) (ce_var 1)))))
theorem g_is_tuple_of {P : Program} {w : World} {K : PySem.W.Frag} {mg : Str → Option Value} {base : Heap} {f : Addr} {fd : FuncData} {fs : FS} {k : Nat} (F : FunD K "is_tuple_of" "is_tuple_of" (defArgs Hd.s_is_tuple_of) (defBody Hd.s_is_tuple_of) (defScope Hd.s_is_tuple_of) [] [] f fd) (hm : mg "is_tuple_of" = some (.ref f)) (ok : FnOk P w K mg base CX0 k f fd ["value", "many"] (spFS K fs)) :
    FnG P w K mg base "is_tuple_of" ["value", "many"] fs k := .of F hm ok fun _ _ _ _ _ _ us hl => match us, hl with | [_, _], _ => rfl
/-! ### is_row -/
def m_is_row : MS := .ret (.and (.call 0 (.cons (.var 0) (.cons (.var 1) (.nil)))) (.bi .all (.cons (.comp [4] (.nm 4) (.seq true (.var 0)) (.lit (.bl true)) (.call 1 (.cons (.var 4) (.cons (.var 2) (.cons (.var 3) (.nil)))))) (.nil))))
theorem sc_is_row : FnScope ["value", "many", "least", "most", "item"] ["value", "many", "least", "most"] (defScope Hd.s_is_row) := ⟨rfl, rfl, rfl, by decide +kernel, rfl, by decide +kernel, by decide +kernel⟩
theorem ok_is_row {P : Program} {w : World} {K : PySem.W.Frag} {mg : Str → Option Value} {base : Heap} {f : Addr} {fd : FuncData} {fuel : List D → Nat} {f0 f1 : FS} (M : Mg mg) (F : FunD K "is_row" "is_row" (defArgs Hd.s_is_row) (defBody Hd.s_is_row) (defScope Hd.s_is_row) [] [] f fd) (h0 : FnG P w K mg base "is_tuple_of" ["value", "many"] f0 1) (h1 : FnG P w K mg base "is_between" ["value", "least", "most"] f1 2) :
    FnOk P w K mg base CX0 3 f fd ["value", "many", "least", "most"] (spFS K (fsOf (tbl [f0, f1]) fuel m_is_row 5 4 false false)) := by
  have sc := sc_is_row
  refine fn_pure (N := ["value", "many", "least", "most", "item"]) (k := 2) F sc (by decide) fun cdv A outer s H E n hr => ?_
  exact css_one (cs_ret (ce_and (ce_call 0 h0.at hr (ca_cons (ce_var 0) (ca_cons (ce_var 1) (ca_nil))) (by decide)) (ce_one (ce_bi (b_all rfl M.b_all) (cab_cons (ce_lc rfl sc.nd (ci_tup (ce_var 0)) (blkOk_by (own := [("item", 4)]) (by rfl)) (cblk (fun _ _ _ _ _ => cg_name 4 sc.nd) (fun _ _ _ _ _ => cts_nil) (fun _ _ _ _ _ => ce_call 1 h1.at hr (ca_cons (ce_var 4) (ca_cons (ce_var 2) (ca_cons (ce_var 3) (ca_nil)))) (by decide)))) (cab_nil))))))
theorem g_is_row {P : Program} {w : World} {K : PySem.W.Frag} {mg : Str → Option Value} {base : Heap} {f : Addr} {fd : FuncData} {fs : FS} {k : Nat} (F : FunD K "is_row" "is_row" (defArgs Hd.s_is_row) (defBody Hd.s_is_row) (defScope Hd.s_is_row) [] [] f fd) (hm : mg "is_row" = some (.ref f)) (ok : FnOk P w K mg base CX0 k f fd ["value", "many", "least", "most"] (spFS K fs)) :
    FnG P w K mg base "is_row" ["value", "many", "least", "most"] fs k := .of F hm ok fun _ _ _ _ _ _ us hl => match us, hl with | [_, _, _, _], _ => rfl
/-! ### are_numbers -/
def m_are_numbers : MS := .ret (.and (.isi [.tuple] (.var 0)) (.and (.chain .le .le (.var 1) (.bi .len (.cons (.var 0) (.nil))) (.var 2)) (.call 0 (.cons (.var 0) (.cons (.bi .len (.cons (.var 0) (.nil))) (.cons (.var 3) (.cons (.var 4) (.nil))))))))
theorem sc_are_numbers : FnScope ["value", "fewest", "most_many", "least", "most"] ["value", "fewest", "most_many", "least", "most"] (defScope Hd.s_are_numbers) := ⟨rfl, rfl, rfl, by decide +kernel, rfl, by decide +kernel, by decide +kernel⟩
theorem ok_are_numbers {P : Program} {w : World} {K : PySem.W.Frag} {mg : Str → Option Value} {base : Heap} {f : Addr} {fd : FuncData} {fuel : List D → Nat} {f0 : FS} (M : Mg mg) (F : FunD K "are_numbers" "are_numbers" (defArgs Hd.s_are_numbers) (defBody Hd.s_are_numbers) (defScope Hd.s_are_numbers) [] [] f fd) (h0 : FnG P w K mg base "is_row" ["value", "many", "least", "most"] f0 3) :
    FnOk P w K mg base CX0 4 f fd ["value", "fewest", "most_many", "least", "most"] (spFS K (fsOf (tbl [f0]) fuel m_are_numbers 5 5 false false)) := by
  have sc := sc_are_numbers
  refine fn_pure (N := ["value", "fewest", "most_many", "least", "most"]) (k := 3) F sc (by decide) fun cdv A outer s H E n hr => ?_
  exact css_one (cs_ret (ce_and (ce_isi M.b_isinstance M.bb_isinstance M.ty_tuple (ce_var 0)) (ce_and (ce_chain c_le c_le (ce_var 1) (ce_bi (b_len M.b_len) (cab_cons (ce_var 0) (cab_nil))) (ce_var 2)) (ce_one (ce_call 0 h0.at hr (ca_cons (ce_var 0) (ca_cons (ce_bi (b_len M.b_len) (cab_cons (ce_var 0) (cab_nil))) (ca_cons (ce_var 3) (ca_cons (ce_var 4) (ca_nil))))) (by decide))))))
theorem g_are_numbers {P : Program} {w : World} {K : PySem.W.Frag} {mg : Str → Option Value} {base : Heap} {f : Addr} {fd : FuncData} {fs : FS} {k : Nat} (F : FunD K "are_numbers" "are_numbers" (defArgs Hd.s_are_numbers) (defBody Hd.s_are_numbers) (defScope Hd.s_are_numbers) [] [] f fd) (hm : mg "are_numbers" = some (.ref f)) (ok : FnOk P w K mg base CX0 k f fd ["value", "fewest", "most_many", "least", "most"] (spFS K fs)) :
    FnG P w K mg base "are_numbers" ["value", "fewest", "most_many", "least", "most"] fs k := .of F hm ok fun _ _ _ _ _ _ us hl => match us, hl with | [_, _, _, _, _], _ => rfl
/-! ### is_rising -/
def m_is_rising : MS := .ret (.bi .all (.cons (.comp [1, 2] (.tp (.cons (.nm 1) (.cons (.nm 2) (.nil)))) (.zip (.var 0) (.slice (.var 0) (.asInt (.lit (.int 1))) (.lit .non))) (.lit (.bl true)) (.cmp .lt (.var 1) (.var 2))) (.nil)))
theorem sc_is_rising : FnScope ["items", "one", "other"] ["items"] (defScope Hd.s_is_rising) := ⟨rfl, rfl, rfl, by decide +kernel, rfl, by decide +kernel, by decide +kernel⟩
theorem ok_is_rising {P : Program} {w : World} {K : PySem.W.Frag} {mg : Str → Option Value} {base : Heap} {f : Addr} {fd : FuncData} {fuel : List D → Nat} (M : Mg mg) (F : FunD K "is_rising" "is_rising" (defArgs Hd.s_is_rising) (defBody Hd.s_is_rising) (defScope Hd.s_is_rising) [] [] f fd)  :
    FnOk P w K mg base CX0 1 f fd ["items"] (spFS K (fsOf (tbl []) fuel m_is_rising 3 1 false false)) := by
  have sc := sc_is_rising
  refine fn_pure (N := ["items", "one", "other"]) (k := 0) F sc (by decide) fun cdv A outer s H E n hr => ?_
  exact css_one (cs_ret (ce_bi (b_all rfl M.b_all) (cab_cons (ce_lc rfl sc.nd (ci_zip M.b_zip (ce_var 0) (ce_slice (ce_var 0) (cp_some (ce_int)) (cp_none))) (blkOk_by (own := [("one", 1), ("other", 2)]) (by rfl)) (cblk (fun _ _ _ _ _ => cg_tup rfl (cgs_cons (cg_name 1 sc.nd) (cgs_cons (cg_name 2 sc.nd) (cgs_nil)))) (fun _ _ _ _ _ => cts_nil) (fun _ _ _ _ _ => ce_cmp c_lt (ce_var 1) (ce_var 2)))) (cab_nil))))
theorem g_is_rising {P : Program} {w : World} {K : PySem.W.Frag} {mg : Str → Option Value} {base : Heap} {f : Addr} {fd : FuncData} {fs : FS} {k : Nat} (F : FunD K "is_rising" "is_rising" (defArgs Hd.s_is_rising) (defBody Hd.s_is_rising) (defScope Hd.s_is_rising) [] [] f fd) (hm : mg "is_rising" = some (.ref f)) (ok : FnOk P w K mg base CX0 k f fd ["items"] (spFS K fs)) :
    FnG P w K mg base "is_rising" ["items"] fs k := .of F hm ok fun _ _ _ _ _ _ us hl => match us, hl with | [_], _ => rfl
/-! ### lowest -/
def m_lowest : MS := .seq (.set 2 (.bi .gcd (.cons (.var 0) (.cons (.var 1) (.nil))))) (.seq (.ite (.cmp .lt (.var 1) (.lit (.int 0))) (.set 2 (.neg (.var 2))) (.skip)) (.ret (.tupD (.cons (.bin .fdiv (.var 0) (.var 2)) (.cons (.bin .fdiv (.var 1) (.var 2)) (.nil))))))
theorem sc_lowest : FnScope ["numerator", "denominator", "common"] ["numerator", "denominator"] (defScope Hd.s_lowest) := ⟨rfl, rfl, rfl, by decide +kernel, rfl, by decide +kernel, by decide +kernel⟩
theorem ok_lowest {P : Program} {w : World} {K : PySem.W.Frag} {mg : Str → Option Value} {base : Heap} {f : Addr} {fd : FuncData} {fuel : List D → Nat} (M : Mg mg) (F : FunD K "lowest" "lowest" (defArgs Hd.s_lowest) (defBody Hd.s_lowest) (defScope Hd.s_lowest) [] [] f fd)  :
    FnOk P w K mg base CX0 1 f fd ["numerator", "denominator"] (spFS K (fsOf (tbl []) fuel m_lowest 3 2 false false)) := by
  have sc := sc_lowest
  refine fn_pure (N := ["numerator", "denominator", "common"]) (k := 0) F sc (by decide) fun cdv A outer s H E n hr => ?_
  exact css_cons (cs_set 2 sc.nd (ce_gcd M.g_gcd (cab_cons (ce_var 0) (cab_cons (ce_var 1) (cab_nil))))) (css_cons (cs_if (ct_cmp c_lt (ce_var 1) (ce_int)) (css_one (cs_set 2 sc.nd (ce_neg (ce_var 2)))) (css_nil)) (css_one (cs_ret (ce_tup (ca_cons (ce_bin o_fdiv (ce_var 0) (ce_var 2)) (ca_cons (ce_bin o_fdiv (ce_var 1) (ce_var 2)) (ca_nil)))))))
theorem g_lowest {P : Program} {w : World} {K : PySem.W.Frag} {mg : Str → Option Value} {base : Heap} {f : Addr} {fd : FuncData} {fs : FS} {k : Nat} (F : FunD K "lowest" "lowest" (defArgs Hd.s_lowest) (defBody Hd.s_lowest) (defScope Hd.s_lowest) [] [] f fd) (hm : mg "lowest" = some (.ref f)) (ok : FnOk P w K mg base CX0 k f fd ["numerator", "denominator"] (spFS K fs)) :
    FnG P w K mg base "lowest" ["numerator", "denominator"] fs k := .of F hm ok fun _ _ _ _ _ _ us hl => match us, hl with | [_, _], _ => rfl
/-! ### whole -/
def m_whole : MS := .ret (.tupD (.cons (.var 0) (.cons (.lit (.int 1)) (.nil))))
theorem sc_whole : FnScope ["number"] ["number"] (defScope Hd.s_whole) := ⟨rfl, rfl, rfl, by decide +kernel, rfl, by decide +kernel, by decide +kernel⟩
theorem ok_whole {P : Program} {w : World} {K : PySem.W.Frag} {mg : Str → Option Value} {base : Heap} {f : Addr} {fd : FuncData} {fuel : List D → Nat} (M : Mg mg) (F : FunD K "whole" "whole" (defArgs Hd.s_whole) (defBody Hd.s_whole) (defScope Hd.s_whole) [] [] f fd)  :
    FnOk P w K mg base CX0 1 f fd ["number"] (spFS K (fsOf (tbl []) fuel m_whole 1 1 false false)) := by
  have sc := sc_whole
  refine fn_pure (N := ["number"]) (k := 0) F sc (by decide) fun cdv A outer s H E n hr => ?_
  exact css_one (cs_ret (ce_tup (ca_cons (ce_var 0) (ca_cons (ce_int) (ca_nil)))))
theorem g_whole {P : Program} {w : World} {K : PySem.W.Frag} {mg : Str → Option Value} {base : Heap} {f : Addr} {fd : FuncData} {fs : FS} {k : Nat} (F : FunD K "whole" "whole" (defArgs Hd.s_whole) (defBody Hd.s_whole) (defScope Hd.s_whole) [] [] f fd) (hm : mg "whole" = some (.ref f)) (ok : FnOk P w K mg base CX0 k f fd ["number"] (spFS K fs)) :
    FnG P w K mg base "whole" ["number"] fs k := .of F hm ok fun _ _ _ _ _ _ us hl => match us, hl with | [_], _ => rfl
/-! ### subtract -/
def m_subtract : MS := .ret (.call 0 (.cons (.bin .sub (.bin .mul (.sub (.var 0) (.lit (.int 0))) (.sub (.var 1) (.lit (.int 1)))) (.bin .mul (.sub (.var 1) (.lit (.int 0))) (.sub (.var 0) (.lit (.int 1))))) (.cons (.bin .mul (.sub (.var 0) (.lit (.int 1))) (.sub (.var 1) (.lit (.int 1)))) (.nil))))
theorem sc_subtract : FnScope ["one", "other"] ["one", "other"] (defScope Hd.s_subtract) := ⟨rfl, rfl, rfl, by decide +kernel, rfl, by decide +kernel, by decide +kernel⟩
theorem ok_subtract {P : Program} {w : World} {K : PySem.W.Frag} {mg : Str → Option Value} {base : Heap} {f : Addr} {fd : FuncData} {fuel : List D → Nat} {f0 : FS} (M : Mg mg) (F : FunD K "subtract" "subtract" (defArgs Hd.s_subtract) (defBody Hd.s_subtract) (defScope Hd.s_subtract) [] [] f fd) (h0 : FnG P w K mg base "lowest" ["numerator", "denominator"] f0 1) :
    FnOk P w K mg base CX0 2 f fd ["one", "other"] (spFS K (fsOf (tbl [f0]) fuel m_subtract 2 2 false false)) := by
  have sc := sc_subtract
  refine fn_pure (N := ["one", "other"]) (k := 1) F sc (by decide) fun cdv A outer s H E n hr => ?_
  exact css_one (cs_ret (ce_call 0 h0.at hr (ca_cons (ce_bin o_sub (ce_bin o_mul (ce_sub (ce_var 0) (ce_int)) (ce_sub (ce_var 1) (ce_int))) (ce_bin o_mul (ce_sub (ce_var 1) (ce_int)) (ce_sub (ce_var 0) (ce_int)))) (ca_cons (ce_bin o_mul (ce_sub (ce_var 0) (ce_int)) (ce_sub (ce_var 1) (ce_int))) (ca_nil))) (by decide)))
theorem g_subtract {P : Program} {w : World} {K : PySem.W.Frag} {mg : Str → Option Value} {base : Heap} {f : Addr} {fd : FuncData} {fs : FS} {k : Nat} (F : FunD K "subtract" "subtract" (defArgs Hd.s_subtract) (defBody Hd.s_subtract) (defScope Hd.s_subtract) [] [] f fd) (hm : mg "subtract" = some (.ref f)) (ok : FnOk P w K mg base CX0 k f fd ["one", "other"] (spFS K fs)) :
    FnG P w K mg base "subtract" ["one", "other"] fs k := .of F hm ok fun _ _ _ _ _ _ us hl => match us, hl with | [_, _], _ => rfl
/-! ### check_number -/
def m_check_number : MS := .ite (.not (.call 0 (.cons (.var 0) (.cons (.var 1) (.cons (.var 2) (.nil)))))) (.never) (.skip)
theorem sc_check_number : FnScope ["number", "least", "most"] ["number", "least", "most"] (defScope Hd.s_check_number) := ⟨rfl, rfl, rfl, by decide +kernel, rfl, by decide +kernel, by decide +kernel⟩
theorem ok_check_number {P : Program} {w : World} {K : PySem.W.Frag} {mg : Str → Option Value} {base : Heap} {f : Addr} {fd : FuncData} {fuel : List D → Nat} {f0 : FS} (M : Mg mg) (F : FunD K "check_number" "check_number" (defArgs Hd.s_check_number) (defBody Hd.s_check_number) (defScope Hd.s_check_number) [] [] f fd) (h0 : FnG P w K mg base "is_between" ["value", "least", "most"] f0 2) :
    FnOk P w K mg base CX0 3 f fd ["number", "least", "most"] (spFS K (fsOf (tbl [f0]) fuel m_check_number 3 3 false false)) := by
  have sc := sc_check_number
  refine fn_pure (N := ["number", "least", "most"]) (k := 2) F sc (by decide) fun cdv A outer s H E n hr => ?_
  exact css_one (cs_if (ct_not (ct_val (ce_call 0 h0.at hr (ca_cons (ce_var 0) (ca_cons (ce_var 1) (ca_cons (ce_var 2) (ca_nil)))) (by decide)))) (css_one (cs_never)) (css_nil))
theorem g_check_number {P : Program} {w : World} {K : PySem.W.Frag} {mg : Str → Option Value} {base : Heap} {f : Addr} {fd : FuncData} {fs : FS} {k : Nat} (F : FunD K "check_number" "check_number" (defArgs Hd.s_check_number) (defBody Hd.s_check_number) (defScope Hd.s_check_number) [] [] f fd) (hm : mg "check_number" = some (.ref f)) (ok : FnOk P w K mg base CX0 k f fd ["number", "least", "most"] (spFS K fs)) :
    FnG P w K mg base "check_number" ["number", "least", "most"] fs k := .of F hm ok fun _ _ _ _ _ _ us hl => match us, hl with | [_, _, _], _ => rfl
/-! ### check_positions -/
def m_check_positions : MS := .ite (.or (.not (.call 0 (.cons (.var 0) (.cons (.lit (.int 1)) (.cons (.lit (.int 8)) (.cons (.neg (.lit (.int 20))) (.cons (.lit (.int 20)) (.nil)))))))) (.not (.call 1 (.cons (.var 0) (.nil))))) (.never) (.skip)
theorem sc_check_positions : FnScope ["positions"] ["positions"] (defScope Hd.s_check_positions) := ⟨rfl, rfl, rfl, by decide +kernel, rfl, by decide +kernel, by decide +kernel⟩
theorem ok_check_positions {P : Program} {w : World} {K : PySem.W.Frag} {mg : Str → Option Value} {base : Heap} {f : Addr} {fd : FuncData} {fuel : List D → Nat} {f0 f1 : FS} (M : Mg mg) (F : FunD K "check_positions" "check_positions" (defArgs Hd.s_check_positions) (defBody Hd.s_check_positions) (defScope Hd.s_check_positions) [] [] f fd) (h0 : FnG P w K mg base "are_numbers" ["value", "fewest", "most_many", "least", "most"] f0 4) (h1 : FnG P w K mg base "is_rising" ["items"] f1 1) :
    FnOk P w K mg base CX0 5 f fd ["positions"] (spFS K (fsOf (tbl [f0, f1]) fuel m_check_positions 1 1 false false)) := by
  have sc := sc_check_positions
  refine fn_pure (N := ["positions"]) (k := 4) F sc (by decide) fun cdv A outer s H E n hr => ?_
  exact css_one (cs_if (CW.ct (cw_or (ct_not (ct_val (ce_call 0 h0.at hr (ca_cons (ce_var 0) (ca_cons (ce_int) (ca_cons (ce_glob M.c_MOST_PLACES) (ca_cons (ce_neg (ce_glob M.c_MOST_POSITION)) (ca_cons (ce_glob M.c_MOST_POSITION) (ca_nil)))))) (by decide)))) (cw_or1 (ct_not (ct_val (ce_call 1 h1.at hr (ca_cons (ce_var 0) (ca_nil)) (by decide))))))) (css_one (cs_never)) (css_nil))
theorem g_check_positions {P : Program} {w : World} {K : PySem.W.Frag} {mg : Str → Option Value} {base : Heap} {f : Addr} {fd : FuncData} {fs : FS} {k : Nat} (F : FunD K "check_positions" "check_positions" (defArgs Hd.s_check_positions) (defBody Hd.s_check_positions) (defScope Hd.s_check_positions) [] [] f fd) (hm : mg "check_positions" = some (.ref f)) (ok : FnOk P w K mg base CX0 k f fd ["positions"] (spFS K fs)) :
    FnG P w K mg base "check_positions" ["positions"] fs k := .of F hm ok fun _ _ _ _ _ _ us hl => match us, hl with | [_], _ => rfl
/-! ### check_loads -/
def m_check_loads : MS := .ite (.not (.call 0 (.cons (.var 1) (.cons (.bi .len (.cons (.var 0) (.nil))) (.cons (.lit (.int 0)) (.cons (.lit (.int 100)) (.nil))))))) (.never) (.skip)
theorem sc_check_loads : FnScope ["positions", "loads"] ["positions", "loads"] (defScope Hd.s_check_loads) := ⟨rfl, rfl, rfl, by decide +kernel, rfl, by decide +kernel, by decide +kernel⟩
theorem ok_check_loads {P : Program} {w : World} {K : PySem.W.Frag} {mg : Str → Option Value} {base : Heap} {f : Addr} {fd : FuncData} {fuel : List D → Nat} {f0 : FS} (M : Mg mg) (F : FunD K "check_loads" "check_loads" (defArgs Hd.s_check_loads) (defBody Hd.s_check_loads) (defScope Hd.s_check_loads) [] [] f fd) (h0 : FnG P w K mg base "is_row" ["value", "many", "least", "most"] f0 3) :
    FnOk P w K mg base CX0 4 f fd ["positions", "loads"] (spFS K (fsOf (tbl [f0]) fuel m_check_loads 2 2 false false)) := by
  have sc := sc_check_loads
  refine fn_pure (N := ["positions", "loads"]) (k := 3) F sc (by decide) fun cdv A outer s H E n hr => ?_
  exact css_one (cs_if (ct_not (ct_val (ce_call 0 h0.at hr (ca_cons (ce_var 1) (ca_cons (ce_bi (b_len M.b_len) (cab_cons (ce_var 0) (cab_nil))) (ca_cons (ce_int) (ca_cons (ce_glob M.c_MOST_LOAD) (ca_nil))))) (by decide)))) (css_one (cs_never)) (css_nil))
theorem g_check_loads {P : Program} {w : World} {K : PySem.W.Frag} {mg : Str → Option Value} {base : Heap} {f : Addr} {fd : FuncData} {fs : FS} {k : Nat} (F : FunD K "check_loads" "check_loads" (defArgs Hd.s_check_loads) (defBody Hd.s_check_loads) (defScope Hd.s_check_loads) [] [] f fd) (hm : mg "check_loads" = some (.ref f)) (ok : FnOk P w K mg base CX0 k f fd ["positions", "loads"] (spFS K fs)) :
    FnG P w K mg base "check_loads" ["positions", "loads"] fs k := .of F hm ok fun _ _ _ _ _ _ us hl => match us, hl with | [_, _], _ => rfl
/-! ### check_weights -/
def m_check_weights : MS := .ite (.not (.call 0 (.cons (.var 1) (.cons (.bi .len (.cons (.var 0) (.nil))) (.cons (.lit (.int 0)) (.cons (.lit (.int 100)) (.nil))))))) (.never) (.skip)
theorem sc_check_weights : FnScope ["positions", "weights"] ["positions", "weights"] (defScope Hd.s_check_weights) := ⟨rfl, rfl, rfl, by decide +kernel, rfl, by decide +kernel, by decide +kernel⟩
theorem ok_check_weights {P : Program} {w : World} {K : PySem.W.Frag} {mg : Str → Option Value} {base : Heap} {f : Addr} {fd : FuncData} {fuel : List D → Nat} {f0 : FS} (M : Mg mg) (F : FunD K "check_weights" "check_weights" (defArgs Hd.s_check_weights) (defBody Hd.s_check_weights) (defScope Hd.s_check_weights) [] [] f fd) (h0 : FnG P w K mg base "is_row" ["value", "many", "least", "most"] f0 3) :
    FnOk P w K mg base CX0 4 f fd ["positions", "weights"] (spFS K (fsOf (tbl [f0]) fuel m_check_weights 2 2 false false)) := by
  have sc := sc_check_weights
  refine fn_pure (N := ["positions", "weights"]) (k := 3) F sc (by decide) fun cdv A outer s H E n hr => ?_
  exact css_one (cs_if (ct_not (ct_val (ce_call 0 h0.at hr (ca_cons (ce_var 1) (ca_cons (ce_bi (b_len M.b_len) (cab_cons (ce_var 0) (cab_nil))) (ca_cons (ce_int) (ca_cons (ce_glob M.c_MOST_LOAD) (ca_nil))))) (by decide)))) (css_one (cs_never)) (css_nil))
theorem g_check_weights {P : Program} {w : World} {K : PySem.W.Frag} {mg : Str → Option Value} {base : Heap} {f : Addr} {fd : FuncData} {fs : FS} {k : Nat} (F : FunD K "check_weights" "check_weights" (defArgs Hd.s_check_weights) (defBody Hd.s_check_weights) (defScope Hd.s_check_weights) [] [] f fd) (hm : mg "check_weights" = some (.ref f)) (ok : FnOk P w K mg base CX0 k f fd ["positions", "weights"] (spFS K fs)) :
    FnG P w K mg base "check_weights" ["positions", "weights"] fs k := .of F hm ok fun _ _ _ _ _ _ us hl => match us, hl with | [_, _], _ => rfl
/-! ### check_slack -/
def m_check_slack : MS := .expr (.call 0 (.cons (.var 0) (.cons (.lit (.int 0)) (.cons (.lit (.int 20000)) (.nil)))))
theorem sc_check_slack : FnScope ["slack"] ["slack"] (defScope Hd.s_check_slack) := ⟨rfl, rfl, rfl, by decide +kernel, rfl, by decide +kernel, by decide +kernel⟩
theorem ok_check_slack {P : Program} {w : World} {K : PySem.W.Frag} {mg : Str → Option Value} {base : Heap} {f : Addr} {fd : FuncData} {fuel : List D → Nat} {f0 : FS} (M : Mg mg) (F : FunD K "check_slack" "check_slack" (defArgs Hd.s_check_slack) (defBody Hd.s_check_slack) (defScope Hd.s_check_slack) [] [] f fd) (h0 : FnG P w K mg base "check_number" ["number", "least", "most"] f0 3) :
    FnOk P w K mg base CX0 4 f fd ["slack"] (spFS K (fsOf (tbl [f0]) fuel m_check_slack 1 1 false false)) := by
  have sc := sc_check_slack
  refine fn_pure (N := ["slack"]) (k := 3) F sc (by decide) fun cdv A outer s H E n hr => ?_
  exact css_one (cs_expr (ce_call 0 h0.at hr (ca_cons (ce_var 0) (ca_cons (ce_int) (ca_cons (ce_glob M.c_MOST_SLACK) (ca_nil)))) (by decide)))
theorem g_check_slack {P : Program} {w : World} {K : PySem.W.Frag} {mg : Str → Option Value} {base : Heap} {f : Addr} {fd : FuncData} {fs : FS} {k : Nat} (F : FunD K "check_slack" "check_slack" (defArgs Hd.s_check_slack) (defBody Hd.s_check_slack) (defScope Hd.s_check_slack) [] [] f fd) (hm : mg "check_slack" = some (.ref f)) (ok : FnOk P w K mg base CX0 k f fd ["slack"] (spFS K fs)) :
    FnG P w K mg base "check_slack" ["slack"] fs k := .of F hm ok fun _ _ _ _ _ _ us hl => match us, hl with | [_], _ => rfl
/-! ### product_sum -/
def m_product_sum : MS := .ret (.bi .sum (.cons (.comp [2, 3] (.tp (.cons (.nm 2) (.cons (.nm 3) (.nil)))) (.zip (.var 0) (.var 1)) (.lit (.bl true)) (.bin .mul (.var 2) (.var 3))) (.nil)))
theorem sc_product_sum : FnScope ["factors", "loads", "factor", "load"] ["factors", "loads"] (defScope Hd.s_product_sum) := ⟨rfl, rfl, rfl, by decide +kernel, rfl, by decide +kernel, by decide +kernel⟩
theorem ok_product_sum {P : Program} {w : World} {K : PySem.W.Frag} {mg : Str → Option Value} {base : Heap} {f : Addr} {fd : FuncData} {fuel : List D → Nat} (M : Mg mg) (F : FunD K "product_sum" "product_sum" (defArgs Hd.s_product_sum) (defBody Hd.s_product_sum) (defScope Hd.s_product_sum) [] [] f fd)  :
    FnOk P w K mg base CX0 1 f fd ["factors", "loads"] (spFS K (fsOf (tbl []) fuel m_product_sum 4 2 false false)) := by
  have sc := sc_product_sum
  refine fn_pure (N := ["factors", "loads", "factor", "load"]) (k := 0) F sc (by decide) fun cdv A outer s H E n hr => ?_
  exact css_one (cs_ret (ce_bi (b_sum rfl M.b_sum) (cab_cons (ce_lc rfl sc.nd (ci_zip M.b_zip (ce_var 0) (ce_var 1)) (blkOk_by (own := [("factor", 2), ("load", 3)]) (by rfl)) (cblk (fun _ _ _ _ _ => cg_tup rfl (cgs_cons (cg_name 2 sc.nd) (cgs_cons (cg_name 3 sc.nd) (cgs_nil)))) (fun _ _ _ _ _ => cts_nil) (fun _ _ _ _ _ => ce_bin o_mul (ce_var 2) (ce_var 3)))) (cab_nil))))
theorem g_product_sum {P : Program} {w : World} {K : PySem.W.Frag} {mg : Str → Option Value} {base : Heap} {f : Addr} {fd : FuncData} {fs : FS} {k : Nat} (F : FunD K "product_sum" "product_sum" (defArgs Hd.s_product_sum) (defBody Hd.s_product_sum) (defScope Hd.s_product_sum) [] [] f fd) (hm : mg "product_sum" = some (.ref f)) (ok : FnOk P w K mg base CX0 k f fd ["factors", "loads"] (spFS K fs)) :
    FnG P w K mg base "product_sum" ["factors", "loads"] fs k := .of F hm ok fun _ _ _ _ _ _ us hl => match us, hl with | [_, _], _ => rfl
/-! ### moment -/
def m_moment : MS := .seq (.expr (.call 0 (.cons (.var 0) (.nil)))) (.seq (.expr (.call 1 (.cons (.var 0) (.cons (.var 1) (.nil))))) (.ret (.call 2 (.cons (.var 0) (.cons (.var 1) (.nil))))))
theorem sc_moment : FnScope ["positions", "loads"] ["positions", "loads"] (defScope Hd.s_moment) := ⟨rfl, rfl, rfl, by decide +kernel, rfl, by decide +kernel, by decide +kernel⟩
theorem ok_moment {P : Program} {w : World} {K : PySem.W.Frag} {mg : Str → Option Value} {base : Heap} {f : Addr} {fd : FuncData} {fuel : List D → Nat} {f0 f1 f2 : FS} (M : Mg mg) (F : FunD K "moment" "moment" (defArgs Hd.s_moment) (defBody Hd.s_moment) (defScope Hd.s_moment) [] [] f fd) (h0 : FnG P w K mg base "check_positions" ["positions"] f0 5) (h1 : FnG P w K mg base "check_loads" ["positions", "loads"] f1 4) (h2 : FnG P w K mg base "product_sum" ["factors", "loads"] f2 1) :
    FnOk P w K mg base CX0 6 f fd ["positions", "loads"] (spFS K (fsOf (tbl [f0, f1, f2]) fuel m_moment 2 2 false false)) := by
  have sc := sc_moment
  refine fn_pure (N := ["positions", "loads"]) (k := 5) F sc (by decide) fun cdv A outer s H E n hr => ?_
  exact css_cons (cs_expr (ce_call 0 h0.at hr (ca_cons (ce_var 0) (ca_nil)) (by decide))) (css_cons (cs_expr (ce_call 1 h1.at hr (ca_cons (ce_var 0) (ca_cons (ce_var 1) (ca_nil))) (by decide))) (css_one (cs_ret (ce_call 2 h2.at hr (ca_cons (ce_var 0) (ca_cons (ce_var 1) (ca_nil))) (by decide)))))
theorem g_moment {P : Program} {w : World} {K : PySem.W.Frag} {mg : Str → Option Value} {base : Heap} {f : Addr} {fd : FuncData} {fs : FS} {k : Nat} (F : FunD K "moment" "moment" (defArgs Hd.s_moment) (defBody Hd.s_moment) (defScope Hd.s_moment) [] [] f fd) (hm : mg "moment" = some (.ref f)) (ok : FnOk P w K mg base CX0 k f fd ["positions", "loads"] (spFS K fs)) :
    FnG P w K mg base "moment" ["positions", "loads"] fs k := .of F hm ok fun _ _ _ _ _ _ us hl => match us, hl with | [_, _], _ => rfl
theorem gk_moment {P : Program} {w : World} {K : PySem.W.Frag} {mg : Str → Option Value} {base : Heap} {f : Addr} {fd : FuncData} {fs : FS} {k : Nat} (F : FunD K "moment" "moment" (defArgs Hd.s_moment) (defBody Hd.s_moment) (defScope Hd.s_moment) [] [] f fd) (hm : mg "moment" = some (.ref f)) (ok : FnOk P w K mg base CX0 k f fd ["positions", "loads"] (spFS K fs)) :
    FnGK P w K mg base "moment" ["positions", "loads"] fs k ["loads", "positions"] [1, 0] := ⟨f, fd, ok, hm, F.kp, kbn_of F ["loads", "positions"] [1, 0] fun _ _ _ _ _ _ ws hl => match ws, hl with | [_, _], _ => rfl⟩
/-! ### tail_sums -/
def m_tail_sums : MS := .seq (.set 3 (.dicD (.cons (.lit (.int 0)) .nil) (.cons (.lstD (.cons (.lit (.int 0)) (.nil))) .nil))) (.seq (.seq (.kill [4, 5, 6, 7, 8, 9, 10]) (.forr (.nm 4) (.rng3 (.bin .sub (.bi .len (.cons (.var 0) (.nil))) (.lit (.int 1))) (.bin .sub (.var 2) (.lit (.int 1))) (.neg (.lit (.int 1)))) (.seq (.set 5 (.dicD .nil .nil)) (.seq (.seq (.kill [6, 7, 8, 9, 10]) (.forD 3 (.tp (.cons (.nm 6) (.cons (.nm 7) (.nil)))) (.seq (.seq (.kill [8, 9, 10]) (.forr (.tp (.cons (.nm 8) (.cons (.nm 9) (.nil)))) (.enum (.var 1)) (.seq (.ite (.cmp .eq (.bin .band (.bin .shr (.var 6) (.var 8)) (.lit (.int 1))) (.lit (.int 0))) (.seq (.set 10 (.comp [11] (.nm 11) (.seq false (.var 7)) (.lit (.bl true)) (.bin .add (.var 11) (.bin .mul (.sub (.var 0) (.var 4)) (.var 9))))) (.setKey 5 (.bin .bor (.var 6) (.bin .shl (.lit (.int 1)) (.var 8))) (.bin .add (.get2 (.var 5) (.bin .bor (.var 6) (.bin .shl (.lit (.int 1)) (.var 8))) (.lstD (.nil))) (.var 10)))) (.skip)) (.seq (.kill [8, 9, 10]) .skip)))) (.seq (.kill [6, 7, 8, 9, 10]) .skip)))) (.seq (.mov 3 5) (.seq (.kill [4, 5, 6, 7, 8, 9, 10]) .skip)))))) (.ret (.var 3)))
theorem sc_tail_sums : FnScope ["factors", "weights", "start", "found", "place", "longer", "mask", "sums", "item", "weight", "more", "here"] ["factors", "weights", "start"] (defScope Hd.s_tail_sums) := ⟨rfl, rfl, rfl, by decide +kernel, rfl, by decide +kernel, by decide +kernel⟩
theorem ok_tail_sums {P : Program} {w : World} {K : PySem.W.Frag} {mg : Str → Option Value} {base : Heap} {f : Addr} {fd : FuncData} {fuel : List D → Nat} (M : Mg mg) (F : FunD K "tail_sums" "tail_sums" (defArgs Hd.s_tail_sums) (defBody Hd.s_tail_sums) (defScope Hd.s_tail_sums) [] [] f fd)  :
    FnOk P w K mg base CX0 1 f fd ["factors", "weights", "start"] (spFS K (fsOf (tbl []) fuel m_tail_sums 12 3 false false)) := by
  have sc := sc_tail_sums
  refine fn_pure (N := ["factors", "weights", "start", "found", "place", "longer", "mask", "sums", "item", "weight", "more", "here"]) (k := 0) F sc (by decide) fun cdv A outer s H E n hr => ?_
  exact css_cons (cs_set 3 sc.nd (ce_dic1 (ce_int) (ce_lst (ca_cons (ce_int) (ca_nil))))) (css_cons (cs_kill [4, 5, 6, 7, 8, 9, 10] (cs_for PassesOwn.never rfl (ci_down M.b_range (ce_bin o_sub (ce_bi (b_len M.b_len) (cab_cons (ce_var 0) (cab_nil))) (ce_int)) (ce_bin o_sub (ce_var 2) (ce_int)) (ce_neg (ce_int))) (cg_name 4 sc.nd) (css_cons (cs_set 5 sc.nd (ce_dic0)) (css_cons (cs_kill [6, 7, 8, 9, 10] (cs_forD 3 PassesOwn.never rfl (cg_tup rfl (cgs_cons (cg_name 6 sc.nd) (cgs_cons (cg_name 7 sc.nd) (cgs_nil)))) (css_cons (cs_kill [8, 9, 10] (cs_for PassesOwn.never rfl (ci_enum M.b_enumerate (ce_var 1)) (cg_tup rfl (cgs_cons (cg_name 8 sc.nd) (cgs_cons (cg_name 9 sc.nd) (cgs_nil)))) (css_cons (cs_if (ct_cmp (c_eq (rm64 hr)) (ce_bin o_band (ce_bin o_shr (ce_var 6) (ce_var 8)) (ce_int)) (ce_int)) (css_cons (cs_setLc 10 rfl sc.nd (ci_list (ce_var 7)) (blkOk_by (own := [("here", 11)]) (by rfl)) (cblk (fun _ _ _ _ _ => cg_name 11 sc.nd) (fun _ _ _ _ _ => cts_nil) (fun _ _ _ _ _ => ce_bin o_add (ce_var 11) (ce_bin o_mul (ce_sub (ce_var 0) (ce_var 4)) (ce_var 9))))) (css_one (cs_setKey (rm1 hr) 5 (ce_bin o_add (ce_get2 (rm1 hr) (ce_var 5) (ce_bin o_bor (ce_var 6) (ce_bin o_shl (ce_int) (ce_var 8))) (ce_lst (ca_nil))) (ce_var 10)) (ce_bin o_bor (ce_var 6) (ce_bin o_shl (ce_int) (ce_var 8)))))) (css_nil)) (css_kill [8, 9, 10] css_nil)))) (css_kill [6, 7, 8, 9, 10] css_nil)))) (css_cons (cs_mov 3 5 sc.nd) (css_kill [4, 5, 6, 7, 8, 9, 10] css_nil)))))) (css_one (cs_ret (ce_var 3))))
theorem g_tail_sums {P : Program} {w : World} {K : PySem.W.Frag} {mg : Str → Option Value} {base : Heap} {f : Addr} {fd : FuncData} {fs : FS} {k : Nat} (F : FunD K "tail_sums" "tail_sums" (defArgs Hd.s_tail_sums) (defBody Hd.s_tail_sums) (defScope Hd.s_tail_sums) [] [] f fd) (hm : mg "tail_sums" = some (.ref f)) (ok : FnOk P w K mg base CX0 k f fd ["factors", "weights", "start"] (spFS K fs)) :
    FnG P w K mg base "tail_sums" ["factors", "weights", "start"] fs k := .of F hm ok fun _ _ _ _ _ _ us hl => match us, hl with | [_, _, _], _ => rfl
/-! ### is_next -/
def m_is_next : MS := .seq (.ite (.cmp .eq (.bin .band (.bin .shr (.var 1) (.var 2)) (.lit (.int 1))) (.lit (.int 1))) (.ret (.lit (.bl false))) (.skip)) (.ret (.or (.cmp .eq (.var 2) (.lit (.int 0))) (.or (.cmp .ne (.sub (.var 0) (.bin .sub (.var 2) (.lit (.int 1)))) (.sub (.var 0) (.var 2))) (.cmp .eq (.bin .band (.bin .shr (.var 1) (.bin .sub (.var 2) (.lit (.int 1)))) (.lit (.int 1))) (.lit (.int 1))))))
theorem sc_is_next : FnScope ["weights", "mask", "item"] ["weights", "mask", "item"] (defScope Hd.s_is_next) := ⟨rfl, rfl, rfl, by decide +kernel, rfl, by decide +kernel, by decide +kernel⟩
theorem ok_is_next {P : Program} {w : World} {K : PySem.W.Frag} {mg : Str → Option Value} {base : Heap} {f : Addr} {fd : FuncData} {fuel : List D → Nat} (M : Mg mg) (F : FunD K "is_next" "is_next" (defArgs Hd.s_is_next) (defBody Hd.s_is_next) (defScope Hd.s_is_next) [] [] f fd)  :
    FnOk P w K mg base CX0 1 f fd ["weights", "mask", "item"] (spFS K (fsOf (tbl []) fuel m_is_next 3 3 false false)) := by
  have sc := sc_is_next
  refine fn_pure (N := ["weights", "mask", "item"]) (k := 0) F sc (by decide) fun cdv A outer s H E n hr => ?_
  exact css_cons (cs_if (ct_cmp (c_eq (rm64 hr)) (ce_bin o_band (ce_bin o_shr (ce_var 1) (ce_var 2)) (ce_int)) (ce_int)) (css_one (cs_ret (ce_bl))) (css_nil)) (css_one (cs_ret (ce_or (ce_cmp (c_eq (rm64 hr)) (ce_var 2) (ce_int)) (ce_or (ce_cmp (c_ne (rm64 hr)) (ce_sub (ce_var 0) (ce_bin o_sub (ce_var 2) (ce_int))) (ce_sub (ce_var 0) (ce_var 2))) (ce_one (ce_cmp (c_eq (rm64 hr)) (ce_bin o_band (ce_bin o_shr (ce_var 1) (ce_bin o_sub (ce_var 2) (ce_int))) (ce_int)) (ce_int)))))))
theorem g_is_next {P : Program} {w : World} {K : PySem.W.Frag} {mg : Str → Option Value} {base : Heap} {f : Addr} {fd : FuncData} {fs : FS} {k : Nat} (F : FunD K "is_next" "is_next" (defArgs Hd.s_is_next) (defBody Hd.s_is_next) (defScope Hd.s_is_next) [] [] f fd) (hm : mg "is_next" = some (.ref f)) (ok : FnOk P w K mg base CX0 k f fd ["weights", "mask", "item"] (spFS K fs)) :
    FnG P w K mg base "is_next" ["weights", "mask", "item"] fs k := .of F hm ok fun _ _ _ _ _ _ us hl => match us, hl with | [_, _, _], _ => rfl
/-! ### head_rows -/
def m_head_rows : MS := .seq (.set 3 (.lstD (.cons (.tupD (.cons (.tupD (.nil)) (.cons (.lit (.int 0)) (.cons (.lit (.int 0)) (.nil))))) (.nil)))) (.seq (.seq (.kill [4, 5, 6, 7, 8, 9, 10]) (.forr (.nm 4) (.rng1 (.var 2)) (.seq (.set 5 (.lstD (.nil))) (.seq (.seq (.kill [6, 7, 8, 9, 10]) (.forr (.tp (.cons (.nm 6) (.cons (.nm 7) (.cons (.nm 8) (.nil))))) (.seq false (.var 3)) (.seq (.seq (.kill [9, 10]) (.forr (.tp (.cons (.nm 9) (.cons (.nm 10) (.nil)))) (.enum (.var 1)) (.seq (.ite (.call 0 (.cons (.var 1) (.cons (.var 7) (.cons (.var 9) (.nil))))) (.app 5 (.tupD (.cons (.tupD (.star (.var 6) (.cons (.var 10) (.nil)))) (.cons (.bin .bor (.var 7) (.bin .shl (.lit (.int 1)) (.var 9))) (.cons (.bin .add (.var 8) (.bin .mul (.sub (.var 0) (.var 4)) (.var 10))) (.nil)))))) (.skip)) (.seq (.kill [9, 10]) .skip)))) (.seq (.kill [6, 7, 8, 9, 10]) .skip)))) (.seq (.mov 3 5) (.seq (.kill [4, 5, 6, 7, 8, 9, 10]) .skip)))))) (.ret (.var 3)))
theorem sc_head_rows : FnScope ["factors", "weights", "many", "found", "place", "longer", "row", "mask", "here", "item", "weight"] ["factors", "weights", "many"] (defScope Hd.s_head_rows) := ⟨rfl, rfl, rfl, by decide +kernel, rfl, by decide +kernel, by decide +kernel⟩
theorem ok_head_rows {P : Program} {w : World} {K : PySem.W.Frag} {mg : Str → Option Value} {base : Heap} {f : Addr} {fd : FuncData} {fuel : List D → Nat} {f0 : FS} (M : Mg mg) (F : FunD K "head_rows" "head_rows" (defArgs Hd.s_head_rows) (defBody Hd.s_head_rows) (defScope Hd.s_head_rows) [] [] f fd) (h0 : FnG P w K mg base "is_next" ["weights", "mask", "item"] f0 1) :
    FnOk P w K mg base CX0 2 f fd ["factors", "weights", "many"] (spFS K (fsOf (tbl [f0]) fuel m_head_rows 11 3 false false)) := by
  have sc := sc_head_rows
  refine fn_pure (N := ["factors", "weights", "many", "found", "place", "longer", "row", "mask", "here", "item", "weight"]) (k := 1) F sc (by decide) fun cdv A outer s H E n hr => ?_
  exact css_cons (cs_set 3 sc.nd (ce_lst (ca_cons (ce_tup (ca_cons (ce_tup (ca_nil)) (ca_cons (ce_int) (ca_cons (ce_int) (ca_nil))))) (ca_nil)))) (css_cons (cs_kill [4, 5, 6, 7, 8, 9, 10] (cs_for PassesOwn.never rfl (ci_rng1 M.b_range (ce_var 2)) (cg_name 4 sc.nd) (css_cons (cs_set 5 sc.nd (ce_lst (ca_nil))) (css_cons (cs_kill [6, 7, 8, 9, 10] (cs_for PassesOwn.never rfl (ci_list (ce_var 3)) (cg_tup rfl (cgs_cons (cg_name 6 sc.nd) (cgs_cons (cg_name 7 sc.nd) (cgs_cons (cg_name 8 sc.nd) (cgs_nil))))) (css_cons (cs_kill [9, 10] (cs_for PassesOwn.never rfl (ci_enum M.b_enumerate (ce_var 1)) (cg_tup rfl (cgs_cons (cg_name 9 sc.nd) (cgs_cons (cg_name 10 sc.nd) (cgs_nil)))) (css_cons (cs_if (ct_val (ce_call 0 h0.at hr (ca_cons (ce_var 1) (ca_cons (ce_var 7) (ca_cons (ce_var 9) (ca_nil)))) (by decide))) (css_one (cs_app 5 (ce_tup (ca_cons (ce_tup (ca_star (ce_var 6) (ca_cons (ce_var 10) (ca_nil)))) (ca_cons (ce_bin o_bor (ce_var 7) (ce_bin o_shl (ce_int) (ce_var 9))) (ca_cons (ce_bin o_add (ce_var 8) (ce_bin o_mul (ce_sub (ce_var 0) (ce_var 4)) (ce_var 10))) (ca_nil))))))) (css_nil)) (css_kill [9, 10] css_nil)))) (css_kill [6, 7, 8, 9, 10] css_nil)))) (css_cons (cs_mov 3 5 sc.nd) (css_kill [4, 5, 6, 7, 8, 9, 10] css_nil)))))) (css_one (cs_ret (ce_var 3))))
theorem g_head_rows {P : Program} {w : World} {K : PySem.W.Frag} {mg : Str → Option Value} {base : Heap} {f : Addr} {fd : FuncData} {fs : FS} {k : Nat} (F : FunD K "head_rows" "head_rows" (defArgs Hd.s_head_rows) (defBody Hd.s_head_rows) (defScope Hd.s_head_rows) [] [] f fd) (hm : mg "head_rows" = some (.ref f)) (ok : FnOk P w K mg base CX0 k f fd ["factors", "weights", "many"] (spFS K fs)) :
    FnG P w K mg base "head_rows" ["factors", "weights", "many"] fs k := .of F hm ok fun _ _ _ _ _ _ us hl => match us, hl with | [_, _, _], _ => rfl
/-! ### first_row -/
def m_first_row : MS := .seq (.par2 4 5 (.bin .fdiv (.bi .len (.cons (.var 0) (.nil))) (.lit (.int 2))) (.bi .sorted (.cons (.var 1) (.nil)))) (.seq (.par2 6 7 (.call 0 (.cons (.var 0) (.cons (.var 5) (.cons (.var 4) (.nil))))) (.bin .sub (.bin .shl (.lit (.int 1)) (.bi .len (.cons (.var 5) (.nil)))) (.lit (.int 1)))) (.seq (.seq (.kill [8, 9, 10, 11, 12]) (.forr (.tp (.cons (.nm 8) (.cons (.nm 9) (.cons (.nm 10) (.nil))))) (.seq false (.call 1 (.cons (.var 0) (.cons (.var 5) (.cons (.var 4) (.nil)))))) (.seq (.ite (.bi .any (.cons (.comp [13] (.nm 13) (.seq false (.subD (.var 6) (.bin .bxor (.var 7) (.var 9)))) (.lit (.bl true)) (.chain .le .le (.var 2) (.bin .add (.var 10) (.var 13)) (.var 3))) (.nil))) (.seq (.set 11 (.comp [14, 15] (.tp (.cons (.nm 14) (.cons (.nm 15) (.nil)))) (.enum (.var 5)) (.cmp .eq (.bin .band (.bin .shr (.var 9) (.var 14)) (.lit (.int 1))) (.lit (.int 0))) (.var 15))) (.seq (.set 12 (.call 1 (.cons (.slice (.var 0) (.asInt (.var 4)) (.lit .non)) (.cons (.var 11) (.cons (.bi .len (.cons (.var 11) (.nil))) (.nil)))))) (.ret (.bin .add (.var 8) (.sub (.comp [16, 17, 13] (.tp (.cons (.nm 16) (.cons (.nm 17) (.cons (.nm 13) (.nil))))) (.seq false (.var 12)) (.chain .le .le (.var 2) (.bin .add (.var 10) (.var 13)) (.var 3)) (.var 16)) (.lit (.int 0))))))) (.skip)) (.seq (.kill [8, 9, 10, 11, 12]) .skip)))) (.ret (.lit .non))))
theorem sc_first_row : FnScope ["factors", "weights", "low", "high", "start", "items", "tails", "full", "row", "mask", "here", "rest", "ends", "more", "item", "weight", "end", "_"] ["factors", "weights", "low", "high"] (defScope Hd.s_first_row) := ⟨rfl, rfl, rfl, by decide +kernel, rfl, by decide +kernel, by decide +kernel⟩
theorem ok_first_row {P : Program} {w : World} {K : PySem.W.Frag} {mg : Str → Option Value} {base : Heap} {f : Addr} {fd : FuncData} {fuel : List D → Nat} {f0 f1 : FS} (M : Mg mg) (F : FunD K "first_row" "first_row" (defArgs Hd.s_first_row) (defBody Hd.s_first_row) (defScope Hd.s_first_row) [] [] f fd) (h0 : FnG P w K mg base "tail_sums" ["factors", "weights", "start"] f0 1) (h1 : FnG P w K mg base "head_rows" ["factors", "weights", "many"] f1 2) :
    FnOk P w K mg base CX0 3 f fd ["factors", "weights", "low", "high"] (spFS K (fsOf (tbl [f0, f1]) fuel m_first_row 18 4 false false)) := by
  have sc := sc_first_row
  refine fn_pure (N := ["factors", "weights", "low", "high", "start", "items", "tails", "full", "row", "mask", "here", "rest", "ends", "more", "item", "weight", "end", "_"]) (k := 2) F sc (by decide) fun cdv A outer s H E n hr => ?_
  exact css_cons (cs_par2 4 5 rfl sc.nd (ce_bin o_fdiv (ce_bi (b_len M.b_len) (cab_cons (ce_var 0) (cab_nil))) (ce_int)) (ce_bi (b_sorted (rm70 hr) M.b_sorted) (cab_cons (ce_var 1) (cab_nil)))) (css_cons (cs_par2 6 7 rfl sc.nd (ce_call 0 h0.at hr (ca_cons (ce_var 0) (ca_cons (ce_var 5) (ca_cons (ce_var 4) (ca_nil)))) (by decide)) (ce_bin o_sub (ce_bin o_shl (ce_int) (ce_bi (b_len M.b_len) (cab_cons (ce_var 5) (cab_nil)))) (ce_int))) (css_cons (cs_kill [8, 9, 10, 11, 12] (cs_for PassesOwn.never rfl (ci_list (ce_call 1 h1.at hr (ca_cons (ce_var 0) (ca_cons (ce_var 5) (ca_cons (ce_var 4) (ca_nil)))) (by decide))) (cg_tup rfl (cgs_cons (cg_name 8 sc.nd) (cgs_cons (cg_name 9 sc.nd) (cgs_cons (cg_name 10 sc.nd) (cgs_nil))))) (css_cons (cs_if (ct_val (ce_bi (b_any rfl M.b_any) (cab_cons (ce_lc rfl sc.nd (ci_list (ce_subD (rm1 hr) (ce_var 6) (ce_bin o_bxor (ce_var 7) (ce_var 9)))) (blkOk_by (own := [("more", 13)]) (by rfl)) (cblk (fun _ _ _ _ _ => cg_name 13 sc.nd) (fun _ _ _ _ _ => cts_nil) (fun _ _ _ _ _ => ce_chain c_le c_le (ce_var 2) (ce_bin o_add (ce_var 10) (ce_var 13)) (ce_var 3)))) (cab_nil)))) (css_cons (cs_setLc 11 rfl sc.nd (ci_enum M.b_enumerate (ce_var 5)) (blkOk_by (own := [("item", 14), ("weight", 15)]) (by rfl)) (cblk (fun _ _ _ _ _ => cg_tup rfl (cgs_cons (cg_name 14 sc.nd) (cgs_cons (cg_name 15 sc.nd) (cgs_nil)))) (fun _ _ _ _ _ => cts_one (ct_cmp (c_eq (rm64 hr)) (ce_bin o_band (ce_bin o_shr (ce_var 9) (ce_var 14)) (ce_int)) (ce_int))) (fun _ _ _ _ _ => ce_var 15))) (css_cons (cs_set 12 sc.nd (ce_call 1 h1.at hr (ca_cons (ce_slice (ce_var 0) (cp_some (ce_var 4)) (cp_none)) (ca_cons (ce_var 11) (ca_cons (ce_bi (b_len M.b_len) (cab_cons (ce_var 11) (cab_nil))) (ca_nil)))) (by decide))) (css_one (cs_ret (ce_bin o_add (ce_var 8) (ce_sub (ce_lc rfl sc.nd (ci_list (ce_var 12)) (blkOk_by (own := [("end", 16), ("_", 17), ("more", 13)]) (by rfl)) (cblk (fun _ _ _ _ _ => cg_tup rfl (cgs_cons (cg_name 16 sc.nd) (cgs_cons (cg_name 17 sc.nd) (cgs_cons (cg_name 13 sc.nd) (cgs_nil))))) (fun _ _ _ _ _ => cts_one (ct_chain c_le c_le (ce_var 2) (ce_bin o_add (ce_var 10) (ce_var 13)) (ce_var 3))) (fun _ _ _ _ _ => ce_var 16))) (ce_int))))))) (css_nil)) (css_kill [8, 9, 10, 11, 12] css_nil)))) (css_one (cs_ret (ce_non)))))
theorem g_first_row {P : Program} {w : World} {K : PySem.W.Frag} {mg : Str → Option Value} {base : Heap} {f : Addr} {fd : FuncData} {fs : FS} {k : Nat} (F : FunD K "first_row" "first_row" (defArgs Hd.s_first_row) (defBody Hd.s_first_row) (defScope Hd.s_first_row) [] [] f fd) (hm : mg "first_row" = some (.ref f)) (ok : FnOk P w K mg base CX0 k f fd ["factors", "weights", "low", "high"] (spFS K fs)) :
    FnG P w K mg base "first_row" ["factors", "weights", "low", "high"] fs k := .of F hm ok fun _ _ _ _ _ _ us hl => match us, hl with | [_, _, _, _], _ => rfl
/-! ### least_sum -/
def m_least_sum : MS := .seq (.par2 2 3 (.bin .fdiv (.bi .len (.cons (.var 0) (.nil))) (.lit (.int 2))) (.bi .sorted (.cons (.var 1) (.nil)))) (.seq (.par3 4 5 6 (.call 0 (.cons (.var 0) (.cons (.var 3) (.cons (.var 2) (.nil))))) (.bin .sub (.bin .shl (.lit (.int 1)) (.bi .len (.cons (.var 3) (.nil)))) (.lit (.int 1))) (.lstD (.nil))) (.seq (.seq (.kill [7, 8, 9]) (.forr (.tp (.cons (.nm 7) (.cons (.nm 8) (.cons (.nm 9) (.nil))))) (.seq false (.call 1 (.cons (.var 0) (.cons (.var 3) (.cons (.var 2) (.nil)))))) (.seq (.app 6 (.bi .min (.cons (.comp [10] (.nm 10) (.seq false (.subD (.var 4) (.bin .bxor (.var 5) (.var 8)))) (.lit (.bl true)) (.bi .abs (.cons (.bin .add (.var 9) (.var 10)) (.nil)))) (.nil)))) (.seq (.kill [7, 8, 9]) .skip)))) (.ret (.bi .min (.cons (.var 6) (.nil))))))
theorem sc_least_sum : FnScope ["factors", "weights", "start", "items", "tails", "full", "found", "_", "mask", "here", "more"] ["factors", "weights"] (defScope Hd.s_least_sum) := ⟨rfl, rfl, rfl, by decide +kernel, rfl, by decide +kernel, by decide +kernel⟩
theorem ok_least_sum {P : Program} {w : World} {K : PySem.W.Frag} {mg : Str → Option Value} {base : Heap} {f : Addr} {fd : FuncData} {fuel : List D → Nat} {f0 f1 : FS} (M : Mg mg) (F : FunD K "least_sum" "least_sum" (defArgs Hd.s_least_sum) (defBody Hd.s_least_sum) (defScope Hd.s_least_sum) [] [] f fd) (h0 : FnG P w K mg base "tail_sums" ["factors", "weights", "start"] f0 1) (h1 : FnG P w K mg base "head_rows" ["factors", "weights", "many"] f1 2) :
    FnOk P w K mg base CX0 3 f fd ["factors", "weights"] (spFS K (fsOf (tbl [f0, f1]) fuel m_least_sum 11 2 false false)) := by
  have sc := sc_least_sum
  refine fn_pure (N := ["factors", "weights", "start", "items", "tails", "full", "found", "_", "mask", "here", "more"]) (k := 2) F sc (by decide) fun cdv A outer s H E n hr => ?_
  exact css_cons (cs_par2 2 3 rfl sc.nd (ce_bin o_fdiv (ce_bi (b_len M.b_len) (cab_cons (ce_var 0) (cab_nil))) (ce_int)) (ce_bi (b_sorted (rm70 hr) M.b_sorted) (cab_cons (ce_var 1) (cab_nil)))) (css_cons (cs_par3 4 5 6 rfl sc.nd (ce_call 0 h0.at hr (ca_cons (ce_var 0) (ca_cons (ce_var 3) (ca_cons (ce_var 2) (ca_nil)))) (by decide)) (ce_bin o_sub (ce_bin o_shl (ce_int) (ce_bi (b_len M.b_len) (cab_cons (ce_var 3) (cab_nil)))) (ce_int)) (ce_lst (ca_nil))) (css_cons (cs_kill [7, 8, 9] (cs_for PassesOwn.never rfl (ci_list (ce_call 1 h1.at hr (ca_cons (ce_var 0) (ca_cons (ce_var 3) (ca_cons (ce_var 2) (ca_nil)))) (by decide))) (cg_tup rfl (cgs_cons (cg_name 7 sc.nd) (cgs_cons (cg_name 8 sc.nd) (cgs_cons (cg_name 9 sc.nd) (cgs_nil))))) (css_cons (cs_app 6 (ce_bi (b_min rfl (rm70 hr) M.b_min) (cab_cons (ce_lc rfl sc.nd (ci_list (ce_subD (rm1 hr) (ce_var 4) (ce_bin o_bxor (ce_var 5) (ce_var 8)))) (blkOk_by (own := [("more", 10)]) (by rfl)) (cblk (fun _ _ _ _ _ => cg_name 10 sc.nd) (fun _ _ _ _ _ => cts_nil) (fun _ _ _ _ _ => ce_bi (b_abs M.b_abs) (cab_cons (ce_bin o_add (ce_var 9) (ce_var 10)) (cab_nil))))) (cab_nil)))) (css_kill [7, 8, 9] css_nil)))) (css_one (cs_ret (ce_bi (b_min rfl (rm70 hr) M.b_min) (cab_cons (ce_var 6) (cab_nil)))))))
theorem g_least_sum {P : Program} {w : World} {K : PySem.W.Frag} {mg : Str → Option Value} {base : Heap} {f : Addr} {fd : FuncData} {fs : FS} {k : Nat} (F : FunD K "least_sum" "least_sum" (defArgs Hd.s_least_sum) (defBody Hd.s_least_sum) (defScope Hd.s_least_sum) [] [] f fd) (hm : mg "least_sum" = some (.ref f)) (ok : FnOk P w K mg base CX0 k f fd ["factors", "weights"] (spFS K fs)) :
    FnG P w K mg base "least_sum" ["factors", "weights"] fs k := .of F hm ok fun _ _ _ _ _ _ us hl => match us, hl with | [_, _], _ => rfl
/-! ### balanced -/
def m_balanced : MS := .seq (.expr (.call 0 (.cons (.var 0) (.nil)))) (.seq (.expr (.call 1 (.cons (.var 0) (.cons (.var 1) (.nil))))) (.seq (.expr (.call 2 (.cons (.var 2) (.nil)))) (.ret (.call 3 (.cons (.var 0) (.cons (.var 1) (.cons (.neg (.var 2)) (.cons (.var 2) (.nil)))))))))
theorem sc_balanced : FnScope ["positions", "weights", "slack"] ["positions", "weights", "slack"] (defScope Hd.s_balanced) := ⟨rfl, rfl, rfl, by decide +kernel, rfl, by decide +kernel, by decide +kernel⟩
theorem ok_balanced {P : Program} {w : World} {K : PySem.W.Frag} {mg : Str → Option Value} {base : Heap} {f : Addr} {fd : FuncData} {fuel : List D → Nat} {f0 f1 f2 f3 : FS} (M : Mg mg) (F : FunD K "balanced" "balanced" (defArgs Hd.s_balanced) (defBody Hd.s_balanced) (defScope Hd.s_balanced) [] [] f fd) (h0 : FnG P w K mg base "check_positions" ["positions"] f0 5) (h1 : FnG P w K mg base "check_weights" ["positions", "weights"] f1 4) (h2 : FnG P w K mg base "check_slack" ["slack"] f2 4) (h3 : FnG P w K mg base "first_row" ["factors", "weights", "low", "high"] f3 3) :
    FnOk P w K mg base CX0 6 f fd ["positions", "weights", "slack"] (spFS K (fsOf (tbl [f0, f1, f2, f3]) fuel m_balanced 3 3 false false)) := by
  have sc := sc_balanced
  refine fn_pure (N := ["positions", "weights", "slack"]) (k := 5) F sc (by decide) fun cdv A outer s H E n hr => ?_
  exact css_cons (cs_expr (ce_call 0 h0.at hr (ca_cons (ce_var 0) (ca_nil)) (by decide))) (css_cons (cs_expr (ce_call 1 h1.at hr (ca_cons (ce_var 0) (ca_cons (ce_var 1) (ca_nil))) (by decide))) (css_cons (cs_expr (ce_call 2 h2.at hr (ca_cons (ce_var 2) (ca_nil)) (by decide))) (css_one (cs_ret (ce_call 3 h3.at hr (ca_cons (ce_var 0) (ca_cons (ce_var 1) (ca_cons (ce_neg (ce_var 2)) (ca_cons (ce_var 2) (ca_nil))))) (by decide))))))
theorem g_balanced {P : Program} {w : World} {K : PySem.W.Frag} {mg : Str → Option Value} {base : Heap} {f : Addr} {fd : FuncData} {fs : FS} {k : Nat} (F : FunD K "balanced" "balanced" (defArgs Hd.s_balanced) (defBody Hd.s_balanced) (defScope Hd.s_balanced) [] [] f fd) (hm : mg "balanced" = some (.ref f)) (ok : FnOk P w K mg base CX0 k f fd ["positions", "weights", "slack"] (spFS K fs)) :
    FnG P w K mg base "balanced" ["positions", "weights", "slack"] fs k := .of F hm ok fun _ _ _ _ _ _ us hl => match us, hl with | [_, _, _], _ => rfl
theorem gk_balanced {P : Program} {w : World} {K : PySem.W.Frag} {mg : Str → Option Value} {base : Heap} {f : Addr} {fd : FuncData} {fs : FS} {k : Nat} (F : FunD K "balanced" "balanced" (defArgs Hd.s_balanced) (defBody Hd.s_balanced) (defScope Hd.s_balanced) [] [] f fd) (hm : mg "balanced" = some (.ref f)) (ok : FnOk P w K mg base CX0 k f fd ["positions", "weights", "slack"] (spFS K fs)) :
    FnGK P w K mg base "balanced" ["positions", "weights", "slack"] fs k ["slack", "weights", "positions"] [2, 1, 0] := ⟨f, fd, ok, hm, F.kp, kbn_of F ["slack", "weights", "positions"] [2, 1, 0] fun _ _ _ _ _ _ ws hl => match ws, hl with | [_, _, _], _ => rfl⟩
/-! ### least_moment -/
def m_least_moment : MS := .seq (.expr (.call 0 (.cons (.var 0) (.nil)))) (.seq (.expr (.call 1 (.cons (.var 0) (.cons (.var 1) (.nil))))) (.seq (.set 2 (.call 2 (.cons (.var 0) (.cons (.var 1) (.nil))))) (.ret (.tupD (.cons (.var 2) (.cons (.call 3 (.cons (.var 0) (.cons (.var 1) (.cons (.neg (.var 2)) (.cons (.var 2) (.nil)))))) (.nil)))))))
theorem sc_least_moment : FnScope ["positions", "weights", "least"] ["positions", "weights"] (defScope Hd.s_least_moment) := ⟨rfl, rfl, rfl, by decide +kernel, rfl, by decide +kernel, by decide +kernel⟩
theorem ok_least_moment {P : Program} {w : World} {K : PySem.W.Frag} {mg : Str → Option Value} {base : Heap} {f : Addr} {fd : FuncData} {fuel : List D → Nat} {f0 f1 f2 f3 : FS} (M : Mg mg) (F : FunD K "least_moment" "least_moment" (defArgs Hd.s_least_moment) (defBody Hd.s_least_moment) (defScope Hd.s_least_moment) [] [] f fd) (h0 : FnG P w K mg base "check_positions" ["positions"] f0 5) (h1 : FnG P w K mg base "check_weights" ["positions", "weights"] f1 4) (h2 : FnG P w K mg base "least_sum" ["factors", "weights"] f2 3) (h3 : FnG P w K mg base "first_row" ["factors", "weights", "low", "high"] f3 3) :
    FnOk P w K mg base CX0 6 f fd ["positions", "weights"] (spFS K (fsOf (tbl [f0, f1, f2, f3]) fuel m_least_moment 3 2 false false)) := by
  have sc := sc_least_moment
  refine fn_pure (N := ["positions", "weights", "least"]) (k := 5) F sc (by decide) fun cdv A outer s H E n hr => ?_
  exact css_cons (cs_expr (ce_call 0 h0.at hr (ca_cons (ce_var 0) (ca_nil)) (by decide))) (css_cons (cs_expr (ce_call 1 h1.at hr (ca_cons (ce_var 0) (ca_cons (ce_var 1) (ca_nil))) (by decide))) (css_cons (cs_set 2 sc.nd (ce_call 2 h2.at hr (ca_cons (ce_var 0) (ca_cons (ce_var 1) (ca_nil))) (by decide))) (css_one (cs_ret (ce_tup (ca_cons (ce_var 2) (ca_cons (ce_call 3 h3.at hr (ca_cons (ce_var 0) (ca_cons (ce_var 1) (ca_cons (ce_neg (ce_var 2)) (ca_cons (ce_var 2) (ca_nil))))) (by decide)) (ca_nil))))))))
theorem g_least_moment {P : Program} {w : World} {K : PySem.W.Frag} {mg : Str → Option Value} {base : Heap} {f : Addr} {fd : FuncData} {fs : FS} {k : Nat} (F : FunD K "least_moment" "least_moment" (defArgs Hd.s_least_moment) (defBody Hd.s_least_moment) (defScope Hd.s_least_moment) [] [] f fd) (hm : mg "least_moment" = some (.ref f)) (ok : FnOk P w K mg base CX0 k f fd ["positions", "weights"] (spFS K fs)) :
    FnG P w K mg base "least_moment" ["positions", "weights"] fs k := .of F hm ok fun _ _ _ _ _ _ us hl => match us, hl with | [_, _], _ => rfl
theorem gk_least_moment {P : Program} {w : World} {K : PySem.W.Frag} {mg : Str → Option Value} {base : Heap} {f : Addr} {fd : FuncData} {fs : FS} {k : Nat} (F : FunD K "least_moment" "least_moment" (defArgs Hd.s_least_moment) (defBody Hd.s_least_moment) (defScope Hd.s_least_moment) [] [] f fd) (hm : mg "least_moment" = some (.ref f)) (ok : FnOk P w K mg base CX0 k f fd ["positions", "weights"] (spFS K fs)) :
    FnGK P w K mg base "least_moment" ["positions", "weights"] fs k ["weights", "positions"] [1, 0] := ⟨f, fd, ok, hm, F.kp, kbn_of F ["weights", "positions"] [1, 0] fun _ _ _ _ _ _ ws hl => match ws, hl with | [_, _], _ => rfl⟩
/-! ### check_axles -/
def m_check_axles : MS := .seq (.expr (.call 0 (.cons (.var 0) (.cons (.neg (.lit (.int 20))) (.cons (.lit (.int 20)) (.nil)))))) (.ite (.not (.call 1 (.cons (.var 1) (.cons (.bin .add (.var 0) (.lit (.int 1))) (.cons (.lit (.int 20)) (.nil)))))) (.never) (.skip))
theorem sc_check_axles : FnScope ["left", "right"] ["left", "right"] (defScope Hd.s_check_axles) := ⟨rfl, rfl, rfl, by decide +kernel, rfl, by decide +kernel, by decide +kernel⟩
theorem ok_check_axles {P : Program} {w : World} {K : PySem.W.Frag} {mg : Str → Option Value} {base : Heap} {f : Addr} {fd : FuncData} {fuel : List D → Nat} {f0 f1 : FS} (M : Mg mg) (F : FunD K "check_axles" "check_axles" (defArgs Hd.s_check_axles) (defBody Hd.s_check_axles) (defScope Hd.s_check_axles) [] [] f fd) (h0 : FnG P w K mg base "check_number" ["number", "least", "most"] f0 3) (h1 : FnG P w K mg base "is_between" ["value", "least", "most"] f1 2) :
    FnOk P w K mg base CX0 4 f fd ["left", "right"] (spFS K (fsOf (tbl [f0, f1]) fuel m_check_axles 2 2 false false)) := by
  have sc := sc_check_axles
  refine fn_pure (N := ["left", "right"]) (k := 3) F sc (by decide) fun cdv A outer s H E n hr => ?_
  exact css_cons (cs_expr (ce_call 0 h0.at hr (ca_cons (ce_var 0) (ca_cons (ce_neg (ce_glob M.c_MOST_POSITION)) (ca_cons (ce_glob M.c_MOST_POSITION) (ca_nil)))) (by decide))) (css_one (cs_if (ct_not (ct_val (ce_call 1 h1.at hr (ca_cons (ce_var 1) (ca_cons (ce_bin o_add (ce_var 0) (ce_int)) (ca_cons (ce_glob M.c_MOST_POSITION) (ca_nil)))) (by decide)))) (css_one (cs_never)) (css_nil)))
theorem g_check_axles {P : Program} {w : World} {K : PySem.W.Frag} {mg : Str → Option Value} {base : Heap} {f : Addr} {fd : FuncData} {fs : FS} {k : Nat} (F : FunD K "check_axles" "check_axles" (defArgs Hd.s_check_axles) (defBody Hd.s_check_axles) (defScope Hd.s_check_axles) [] [] f fd) (hm : mg "check_axles" = some (.ref f)) (ok : FnOk P w K mg base CX0 k f fd ["left", "right"] (spFS K fs)) :
    FnG P w K mg base "check_axles" ["left", "right"] fs k := .of F hm ok fun _ _ _ _ _ _ us hl => match us, hl with | [_, _], _ => rfl
/-! ### axle_loads -/
def m_axle_loads : MS := .seq (.expr (.call 0 (.cons (.var 0) (.cons (.var 1) (.nil))))) (.seq (.expr (.call 1 (.cons (.var 2) (.nil)))) (.seq (.expr (.call 2 (.cons (.var 2) (.cons (.var 3) (.nil))))) (.seq (.set 4 (.call 3 (.cons (.call 4 (.cons (.comp [5] (.nm 5) (.seq true (.var 2)) (.lit (.bl true)) (.bin .sub (.var 1) (.var 5))) (.cons (.var 3) (.nil)))) (.cons (.bin .sub (.var 1) (.var 0)) (.nil))))) (.ret (.tupD (.cons (.var 4) (.cons (.call 5 (.cons (.call 6 (.cons (.bi .sum (.cons (.var 3) (.nil))) (.nil))) (.cons (.var 4) (.nil)))) (.nil))))))))
theorem sc_axle_loads : FnScope ["left", "right", "positions", "loads", "first", "position"] ["left", "right", "positions", "loads"] (defScope Hd.s_axle_loads) := ⟨rfl, rfl, rfl, by decide +kernel, rfl, by decide +kernel, by decide +kernel⟩
theorem ok_axle_loads {P : Program} {w : World} {K : PySem.W.Frag} {mg : Str → Option Value} {base : Heap} {f : Addr} {fd : FuncData} {fuel : List D → Nat} {f0 f1 f2 f3 f4 f5 f6 : FS} (M : Mg mg) (F : FunD K "axle_loads" "axle_loads" (defArgs Hd.s_axle_loads) (defBody Hd.s_axle_loads) (defScope Hd.s_axle_loads) [] [] f fd) (h0 : FnG P w K mg base "check_axles" ["left", "right"] f0 4) (h1 : FnG P w K mg base "check_positions" ["positions"] f1 5) (h2 : FnG P w K mg base "check_loads" ["positions", "loads"] f2 4) (h3 : FnG P w K mg base "lowest" ["numerator", "denominator"] f3 1) (h4 : FnG P w K mg base "product_sum" ["factors", "loads"] f4 1) (h5 : FnG P w K mg base "subtract" ["one", "other"] f5 2) (h6 : FnG P w K mg base "whole" ["number"] f6 1) :
    FnOk P w K mg base CX0 6 f fd ["left", "right", "positions", "loads"] (spFS K (fsOf (tbl [f0, f1, f2, f3, f4, f5, f6]) fuel m_axle_loads 6 4 false false)) := by
  have sc := sc_axle_loads
  refine fn_pure (N := ["left", "right", "positions", "loads", "first", "position"]) (k := 5) F sc (by decide) fun cdv A outer s H E n hr => ?_
  exact css_cons (cs_expr (ce_call 0 h0.at hr (ca_cons (ce_var 0) (ca_cons (ce_var 1) (ca_nil))) (by decide))) (css_cons (cs_expr (ce_call 1 h1.at hr (ca_cons (ce_var 2) (ca_nil)) (by decide))) (css_cons (cs_expr (ce_call 2 h2.at hr (ca_cons (ce_var 2) (ca_cons (ce_var 3) (ca_nil))) (by decide))) (css_cons (cs_set 4 sc.nd (ce_call 3 h3.at hr (ca_cons (ce_call 4 h4.at hr (ca_cons (ce_lc rfl sc.nd (ci_tup (ce_var 2)) (blkOk_by (own := [("position", 5)]) (by rfl)) (cblk (fun _ _ _ _ _ => cg_name 5 sc.nd) (fun _ _ _ _ _ => cts_nil) (fun _ _ _ _ _ => ce_bin o_sub (ce_var 1) (ce_var 5)))) (ca_cons (ce_var 3) (ca_nil))) (by decide)) (ca_cons (ce_bin o_sub (ce_var 1) (ce_var 0)) (ca_nil))) (by decide))) (css_one (cs_ret (ce_tup (ca_cons (ce_var 4) (ca_cons (ce_call 5 h5.at hr (ca_cons (ce_call 6 h6.at hr (ca_cons (ce_bi (b_sum rfl M.b_sum) (cab_cons (ce_var 3) (cab_nil))) (ca_nil)) (by decide)) (ca_cons (ce_var 4) (ca_nil))) (by decide)) (ca_nil)))))))))
theorem g_axle_loads {P : Program} {w : World} {K : PySem.W.Frag} {mg : Str → Option Value} {base : Heap} {f : Addr} {fd : FuncData} {fs : FS} {k : Nat} (F : FunD K "axle_loads" "axle_loads" (defArgs Hd.s_axle_loads) (defBody Hd.s_axle_loads) (defScope Hd.s_axle_loads) [] [] f fd) (hm : mg "axle_loads" = some (.ref f)) (ok : FnOk P w K mg base CX0 k f fd ["left", "right", "positions", "loads"] (spFS K fs)) :
    FnG P w K mg base "axle_loads" ["left", "right", "positions", "loads"] fs k := .of F hm ok fun _ _ _ _ _ _ us hl => match us, hl with | [_, _, _, _], _ => rfl
theorem gk_axle_loads {P : Program} {w : World} {K : PySem.W.Frag} {mg : Str → Option Value} {base : Heap} {f : Addr} {fd : FuncData} {fs : FS} {k : Nat} (F : FunD K "axle_loads" "axle_loads" (defArgs Hd.s_axle_loads) (defBody Hd.s_axle_loads) (defScope Hd.s_axle_loads) [] [] f fd) (hm : mg "axle_loads" = some (.ref f)) (ok : FnOk P w K mg base CX0 k f fd ["left", "right", "positions", "loads"] (spFS K fs)) :
    FnGK P w K mg base "axle_loads" ["left", "right", "positions", "loads"] fs k ["loads", "positions", "right", "left"] [3, 2, 1, 0] := ⟨f, fd, ok, hm, F.kp, kbn_of F ["loads", "positions", "right", "left"] [3, 2, 1, 0] fun _ _ _ _ _ _ ws hl => match ws, hl with | [_, _, _, _], _ => rfl⟩
/-! ### within_axles -/
def m_within_axles : MS := .seq (.expr (.call 0 (.cons (.var 0) (.cons (.var 1) (.nil))))) (.seq (.expr (.call 1 (.cons (.var 2) (.nil)))) (.seq (.expr (.call 2 (.cons (.var 2) (.cons (.var 3) (.nil))))) (.seq (.ite (.not (.call 3 (.cons (.var 4) (.cons (.lit (.int 2)) (.cons (.lit (.int 0)) (.cons (.lit (.int 1000)) (.nil))))))) (.never) (.skip)) (.seq (.par2 5 6 (.bin .sub (.var 1) (.var 0)) (.bi .sum (.cons (.var 3) (.nil)))) (.seq (.par2 7 8 (.bin .mul (.bi .max (.cons (.lit (.int 0)) (.cons (.bin .sub (.var 6) (.sub (.var 4) (.lit (.int 1)))) (.nil)))) (.var 5)) (.bin .mul (.bi .min (.cons (.var 6) (.cons (.sub (.var 4) (.lit (.int 0))) (.nil)))) (.var 5))) (.ret (.call 4 (.cons (.comp [9] (.nm 9) (.seq true (.var 2)) (.lit (.bl true)) (.bin .sub (.var 1) (.var 9))) (.cons (.var 3) (.cons (.var 7) (.cons (.var 8) (.nil))))))))))))
theorem sc_within_axles : FnScope ["left", "right", "positions", "weights", "limits", "wide", "total", "low", "high", "position"] ["left", "right", "positions", "weights", "limits"] (defScope Hd.s_within_axles) := ⟨rfl, rfl, rfl, by decide +kernel, rfl, by decide +kernel, by decide +kernel⟩
theorem ok_within_axles {P : Program} {w : World} {K : PySem.W.Frag} {mg : Str → Option Value} {base : Heap} {f : Addr} {fd : FuncData} {fuel : List D → Nat} {f0 f1 f2 f3 f4 : FS} (M : Mg mg) (F : FunD K "within_axles" "within_axles" (defArgs Hd.s_within_axles) (defBody Hd.s_within_axles) (defScope Hd.s_within_axles) [] [] f fd) (h0 : FnG P w K mg base "check_axles" ["left", "right"] f0 4) (h1 : FnG P w K mg base "check_positions" ["positions"] f1 5) (h2 : FnG P w K mg base "check_weights" ["positions", "weights"] f2 4) (h3 : FnG P w K mg base "is_row" ["value", "many", "least", "most"] f3 3) (h4 : FnG P w K mg base "first_row" ["factors", "weights", "low", "high"] f4 3) :
    FnOk P w K mg base CX0 6 f fd ["left", "right", "positions", "weights", "limits"] (spFS K (fsOf (tbl [f0, f1, f2, f3, f4]) fuel m_within_axles 10 5 false false)) := by
  have sc := sc_within_axles
  refine fn_pure (N := ["left", "right", "positions", "weights", "limits", "wide", "total", "low", "high", "position"]) (k := 5) F sc (by decide) fun cdv A outer s H E n hr => ?_
  exact css_cons (cs_expr (ce_call 0 h0.at hr (ca_cons (ce_var 0) (ca_cons (ce_var 1) (ca_nil))) (by decide))) (css_cons (cs_expr (ce_call 1 h1.at hr (ca_cons (ce_var 2) (ca_nil)) (by decide))) (css_cons (cs_expr (ce_call 2 h2.at hr (ca_cons (ce_var 2) (ca_cons (ce_var 3) (ca_nil))) (by decide))) (css_cons (cs_if (ct_not (ct_val (ce_call 3 h3.at hr (ca_cons (ce_var 4) (ca_cons (ce_int) (ca_cons (ce_int) (ca_cons (ce_glob M.c_MOST_LIMIT) (ca_nil))))) (by decide)))) (css_one (cs_never)) (css_nil)) (css_cons (cs_par2 5 6 rfl sc.nd (ce_bin o_sub (ce_var 1) (ce_var 0)) (ce_bi (b_sum rfl M.b_sum) (cab_cons (ce_var 3) (cab_nil)))) (css_cons (cs_par2 7 8 rfl sc.nd (ce_bin o_mul (ce_bi (b_max rfl (rm70 hr) M.b_max) (cab_cons (ce_int) (cab_cons (ce_bin o_sub (ce_var 6) (ce_sub (ce_var 4) (ce_int))) (cab_nil)))) (ce_var 5)) (ce_bin o_mul (ce_bi (b_min rfl (rm70 hr) M.b_min) (cab_cons (ce_var 6) (cab_cons (ce_sub (ce_var 4) (ce_int)) (cab_nil)))) (ce_var 5))) (css_one (cs_ret (ce_call 4 h4.at hr (ca_cons (ce_lc rfl sc.nd (ci_tup (ce_var 2)) (blkOk_by (own := [("position", 9)]) (by rfl)) (cblk (fun _ _ _ _ _ => cg_name 9 sc.nd) (fun _ _ _ _ _ => cts_nil) (fun _ _ _ _ _ => ce_bin o_sub (ce_var 1) (ce_var 9)))) (ca_cons (ce_var 3) (ca_cons (ce_var 7) (ca_cons (ce_var 8) (ca_nil))))) (by decide)))))))))
theorem g_within_axles {P : Program} {w : World} {K : PySem.W.Frag} {mg : Str → Option Value} {base : Heap} {f : Addr} {fd : FuncData} {fs : FS} {k : Nat} (F : FunD K "within_axles" "within_axles" (defArgs Hd.s_within_axles) (defBody Hd.s_within_axles) (defScope Hd.s_within_axles) [] [] f fd) (hm : mg "within_axles" = some (.ref f)) (ok : FnOk P w K mg base CX0 k f fd ["left", "right", "positions", "weights", "limits"] (spFS K fs)) :
    FnG P w K mg base "within_axles" ["left", "right", "positions", "weights", "limits"] fs k := .of F hm ok fun _ _ _ _ _ _ us hl => match us, hl with | [_, _, _, _, _], _ => rfl
theorem gk_within_axles {P : Program} {w : World} {K : PySem.W.Frag} {mg : Str → Option Value} {base : Heap} {f : Addr} {fd : FuncData} {fs : FS} {k : Nat} (F : FunD K "within_axles" "within_axles" (defArgs Hd.s_within_axles) (defBody Hd.s_within_axles) (defScope Hd.s_within_axles) [] [] f fd) (hm : mg "within_axles" = some (.ref f)) (ok : FnOk P w K mg base CX0 k f fd ["left", "right", "positions", "weights", "limits"] (spFS K fs)) :
    FnGK P w K mg base "within_axles" ["left", "right", "positions", "weights", "limits"] fs k ["limits", "weights", "positions", "right", "left"] [4, 3, 2, 1, 0] := ⟨f, fd, ok, hm, F.kp, kbn_of F ["limits", "weights", "positions", "right", "left"] [4, 3, 2, 1, 0] fun _ _ _ _ _ _ ws hl => match ws, hl with | [_, _, _, _, _], _ => rfl⟩
/-! ### mask_sum -/
def m_mask_sum : MS := .ret (.bi .sum (.cons (.comp [2, 3] (.tp (.cons (.nm 2) (.cons (.nm 3) (.nil)))) (.enum (.var 0)) (.cmp .eq (.bin .band (.bin .shr (.var 1) (.var 2)) (.lit (.int 1))) (.lit (.int 1))) (.var 3)) (.nil)))
theorem sc_mask_sum : FnScope ["parts", "mask", "place", "part"] ["parts", "mask"] (defScope Hd.s_mask_sum) := ⟨rfl, rfl, rfl, by decide +kernel, rfl, by decide +kernel, by decide +kernel⟩
theorem ok_mask_sum {P : Program} {w : World} {K : PySem.W.Frag} {mg : Str → Option Value} {base : Heap} {f : Addr} {fd : FuncData} {fuel : List D → Nat} (M : Mg mg) (F : FunD K "mask_sum" "mask_sum" (defArgs Hd.s_mask_sum) (defBody Hd.s_mask_sum) (defScope Hd.s_mask_sum) [] [] f fd)  :
    FnOk P w K mg base CX0 1 f fd ["parts", "mask"] (spFS K (fsOf (tbl []) fuel m_mask_sum 4 2 false false)) := by
  have sc := sc_mask_sum
  refine fn_pure (N := ["parts", "mask", "place", "part"]) (k := 0) F sc (by decide) fun cdv A outer s H E n hr => ?_
  exact css_one (cs_ret (ce_bi (b_sum rfl M.b_sum) (cab_cons (ce_lc rfl sc.nd (ci_enum M.b_enumerate (ce_var 0)) (blkOk_by (own := [("place", 2), ("part", 3)]) (by rfl)) (cblk (fun _ _ _ _ _ => cg_tup rfl (cgs_cons (cg_name 2 sc.nd) (cgs_cons (cg_name 3 sc.nd) (cgs_nil)))) (fun _ _ _ _ _ => cts_one (ct_cmp (c_eq (rm64 hr)) (ce_bin o_band (ce_bin o_shr (ce_var 1) (ce_var 2)) (ce_int)) (ce_int))) (fun _ _ _ _ _ => ce_var 3))) (cab_nil))))
theorem g_mask_sum {P : Program} {w : World} {K : PySem.W.Frag} {mg : Str → Option Value} {base : Heap} {f : Addr} {fd : FuncData} {fs : FS} {k : Nat} (F : FunD K "mask_sum" "mask_sum" (defArgs Hd.s_mask_sum) (defBody Hd.s_mask_sum) (defScope Hd.s_mask_sum) [] [] f fd) (hm : mg "mask_sum" = some (.ref f)) (ok : FnOk P w K mg base CX0 k f fd ["parts", "mask"] (spFS K fs)) :
    FnG P w K mg base "mask_sum" ["parts", "mask"] fs k := .of F hm ok fun _ _ _ _ _ _ us hl => match us, hl with | [_, _], _ => rfl
/-! ### loading_order -/
def m_loading_order : MS := .seq (.expr (.call 0 (.cons (.var 0) (.nil)))) (.seq (.expr (.call 1 (.cons (.var 0) (.cons (.var 1) (.nil))))) (.seq (.expr (.call 2 (.cons (.var 2) (.nil)))) (.seq (.set 3 (.comp [10, 11] (.tp (.cons (.nm 10) (.cons (.nm 11) (.nil)))) (.zip (.var 0) (.var 1)) (.lit (.bl true)) (.bin .mul (.var 10) (.var 11)))) (.seq (.par2 4 5 (.bi .len (.cons (.var 3) (.nil))) (.bin .sub (.bin .shl (.lit (.int 1)) (.bi .len (.cons (.var 3) (.nil)))) (.lit (.int 1)))) (.seq (.set 6 (.dicD .nil .nil)) (.seq (.seq (.kill [7]) (.forr (.nm 7) (.rng3 (.var 5) (.neg (.lit (.int 1))) (.neg (.lit (.int 1)))) (.seq (.ite (.cmp .le (.bi .abs (.cons (.call 3 (.cons (.var 3) (.cons (.var 7) (.nil)))) (.nil))) (.var 2)) (.ite (.or (.cmp .eq (.var 7) (.var 5)) (.bi .any (.cons (.comp [12] (.nm 12) (.rng1 (.var 4)) (.lit (.bl true)) (.and (.cmp .eq (.bin .band (.bin .shr (.var 7) (.var 12)) (.lit (.int 1))) (.lit (.int 0))) (.inD false (.bin .bor (.var 7) (.bin .shl (.lit (.int 1)) (.var 12))) (.var 6)))) (.nil)))) (.setKey 6 (.var 7) (.lit (.bl true))) (.skip)) (.skip)) (.seq (.kill [7]) .skip)))) (.seq (.ite (.inD true (.lit (.int 0)) (.var 6)) (.ret (.lit .non)) (.skip)) (.seq (.par2 8 7 (.lstD (.nil)) (.lit (.int 0))) (.seq (.whl (.cmp .ne (.var 7) (.var 5)) (.seq (.set 9 (.comp [12] (.nm 12) (.rng1 (.var 4)) (.and (.cmp .eq (.bin .band (.bin .shr (.var 7) (.var 12)) (.lit (.int 1))) (.lit (.int 0))) (.inD false (.bin .bor (.var 7) (.bin .shl (.lit (.int 1)) (.var 12))) (.var 6))) (.var 12))) (.seq (.app 8 (.sub (.var 9) (.lit (.int 0)))) (.seq (.set 7 (.bin .bor (.var 7) (.bin .shl (.lit (.int 1)) (.sub (.var 9) (.lit (.int 0)))))) (.seq (.kill [9]) .skip))))) (.ret (.bi .tuple (.cons (.var 8) (.nil)))))))))))))
theorem sc_loading_order : FnScope ["positions", "loads", "slack", "parts", "many", "full", "good", "mask", "order", "some", "position", "load", "place"] ["positions", "loads", "slack"] (defScope Hd.s_loading_order) := ⟨rfl, rfl, rfl, by decide +kernel, rfl, by decide +kernel, by decide +kernel⟩
theorem ok_loading_order {P : Program} {w : World} {K : PySem.W.Frag} {mg : Str → Option Value} {base : Heap} {f : Addr} {fd : FuncData} {fuel : List D → Nat} {f0 f1 f2 f3 : FS} (M : Mg mg) (F : FunD K "loading_order" "loading_order" (defArgs Hd.s_loading_order) (defBody Hd.s_loading_order) (defScope Hd.s_loading_order) [] [] f fd) (h0 : FnG P w K mg base "check_positions" ["positions"] f0 5) (h1 : FnG P w K mg base "check_loads" ["positions", "loads"] f1 4) (h2 : FnG P w K mg base "check_slack" ["slack"] f2 4) (h3 : FnG P w K mg base "mask_sum" ["parts", "mask"] f3 1) :
    FnOk P w K mg base CX0 6 f fd ["positions", "loads", "slack"] (spFS K (fsOf (tbl [f0, f1, f2, f3]) fuel m_loading_order 13 3 false false)) := by
  have sc := sc_loading_order
  refine fn_pure (N := ["positions", "loads", "slack", "parts", "many", "full", "good", "mask", "order", "some", "position", "load", "place"]) (k := 5) F sc (by decide) fun cdv A outer s H E n hr => ?_
  exact css_cons (cs_expr (ce_call 0 h0.at hr (ca_cons (ce_var 0) (ca_nil)) (by decide))) (css_cons (cs_expr (ce_call 1 h1.at hr (ca_cons (ce_var 0) (ca_cons (ce_var 1) (ca_nil))) (by decide))) (css_cons (cs_expr (ce_call 2 h2.at hr (ca_cons (ce_var 2) (ca_nil)) (by decide))) (css_cons (cs_setLc 3 rfl sc.nd (ci_zip M.b_zip (ce_var 0) (ce_var 1)) (blkOk_by (own := [("position", 10), ("load", 11)]) (by rfl)) (cblk (fun _ _ _ _ _ => cg_tup rfl (cgs_cons (cg_name 10 sc.nd) (cgs_cons (cg_name 11 sc.nd) (cgs_nil)))) (fun _ _ _ _ _ => cts_nil) (fun _ _ _ _ _ => ce_bin o_mul (ce_var 10) (ce_var 11)))) (css_cons (cs_par2 4 5 rfl sc.nd (ce_bi (b_len M.b_len) (cab_cons (ce_var 3) (cab_nil))) (ce_bin o_sub (ce_bin o_shl (ce_int) (ce_bi (b_len M.b_len) (cab_cons (ce_var 3) (cab_nil)))) (ce_int))) (css_cons (cs_set 6 sc.nd (ce_dic0)) (css_cons (cs_kill [7] (cs_for PassesOwn.never rfl (ci_down M.b_range (ce_var 5) (ce_neg (ce_int)) (ce_neg (ce_int))) (cg_name 7 sc.nd) (css_cons (cs_if (ct_cmp c_le (ce_bi (b_abs M.b_abs) (cab_cons (ce_call 3 h3.at hr (ca_cons (ce_var 3) (ca_cons (ce_var 7) (ca_nil))) (by decide)) (cab_nil))) (ce_var 2)) (css_one (cs_if (CW.ct (cw_or (ct_cmp (c_eq (rm64 hr)) (ce_var 7) (ce_var 5)) (cw_or1 (ct_val (ce_bi (b_any rfl M.b_any) (cab_cons (ce_lc rfl sc.nd (ci_rng1 M.b_range (ce_var 4)) (blkOk_by (own := [("place", 12)]) (by rfl)) (cblk (fun _ _ _ _ _ => cg_name 12 sc.nd) (fun _ _ _ _ _ => cts_nil) (fun _ _ _ _ _ => ce_and (ce_cmp (c_eq (rm64 hr)) (ce_bin o_band (ce_bin o_shr (ce_var 7) (ce_var 12)) (ce_int)) (ce_int)) (ce_one (ce_inD (rm1 hr) (ce_bin o_bor (ce_var 7) (ce_bin o_shl (ce_int) (ce_var 12))) (ce_var 6)))))) (cab_nil))))))) (css_one (cs_setKey (rm1 hr) 6 (ce_bl) (ce_var 7))) (css_nil))) (css_nil)) (css_kill [7] css_nil)))) (css_cons (cs_if (ct_ninD (rm1 hr) (ce_int) (ce_var 6)) (css_one (cs_ret (ce_non))) (css_nil)) (css_cons (cs_par2c 8 7 rfl sc.nd (ce_lst (ca_nil)) (ce_int)) (css_cons (cs_while PassesOwn.never (ct_cmp (c_ne (rm64 hr)) (ce_var 7) (ce_var 5)) (css_cons (cs_setLc 9 rfl sc.nd (ci_rng1 M.b_range (ce_var 4)) (blkOk_by (own := [("place", 12)]) (by rfl)) (cblk (fun _ _ _ _ _ => cg_name 12 sc.nd) (fun _ _ _ _ _ => cts_one (CW.ct (cw_and (ct_cmp (c_eq (rm64 hr)) (ce_bin o_band (ce_bin o_shr (ce_var 7) (ce_var 12)) (ce_int)) (ce_int)) (cw_and1 (ct_inD (rm1 hr) (ce_bin o_bor (ce_var 7) (ce_bin o_shl (ce_int) (ce_var 12))) (ce_var 6)))))) (fun _ _ _ _ _ => ce_var 12))) (css_cons (cs_app 8 (ce_sub (ce_var 9) (ce_int))) (css_cons (cs_set 7 sc.nd (ce_bin o_bor (ce_var 7) (ce_bin o_shl (ce_int) (ce_sub (ce_var 9) (ce_int))))) (css_kill [9] css_nil))))) (css_one (cs_ret (ce_bi (b_tuple M.b_tuple) (cab_cons (ce_var 8) (cab_nil))))))))))))))
theorem g_loading_order {P : Program} {w : World} {K : PySem.W.Frag} {mg : Str → Option Value} {base : Heap} {f : Addr} {fd : FuncData} {fs : FS} {k : Nat} (F : FunD K "loading_order" "loading_order" (defArgs Hd.s_loading_order) (defBody Hd.s_loading_order) (defScope Hd.s_loading_order) [] [] f fd) (hm : mg "loading_order" = some (.ref f)) (ok : FnOk P w K mg base CX0 k f fd ["positions", "loads", "slack"] (spFS K fs)) :
    FnG P w K mg base "loading_order" ["positions", "loads", "slack"] fs k := .of F hm ok fun _ _ _ _ _ _ us hl => match us, hl with | [_, _, _], _ => rfl
theorem gk_loading_order {P : Program} {w : World} {K : PySem.W.Frag} {mg : Str → Option Value} {base : Heap} {f : Addr} {fd : FuncData} {fs : FS} {k : Nat} (F : FunD K "loading_order" "loading_order" (defArgs Hd.s_loading_order) (defBody Hd.s_loading_order) (defScope Hd.s_loading_order) [] [] f fd) (hm : mg "loading_order" = some (.ref f)) (ok : FnOk P w K mg base CX0 k f fd ["positions", "loads", "slack"] (spFS K fs)) :
    FnGK P w K mg base "loading_order" ["positions", "loads", "slack"] fs k ["slack", "loads", "positions"] [2, 1, 0] := ⟨f, fd, ok, hm, F.kp, kbn_of F ["slack", "loads", "positions"] [2, 1, 0] fun _ _ _ _ _ _ ws hl => match ws, hl with | [_, _, _], _ => rfl⟩
/-! ### _law_cell -/
def m__law_cell : MS := .ret (.ife (.cmp .lt (.var 1) (.bi .len (.cons (.var 0) (.nil)))) (.sub (.var 0) (.var 1)) (.bin .add (.bin .mul (.lit (.int 6007)) (.var 1)) (.bin .mod (.bi .int (.cons (.bi .sum (.cons (.slice (.var 0) (.lit .non) (.asInt (.lit (.int 1)))) (.nil))) (.nil))) (.lit (.int 1000033)))))
theorem sc__law_cell : FnScope ["script", "k"] ["script", "k"] (defScope Hd.s__law_cell) := ⟨rfl, rfl, rfl, by decide +kernel, rfl, by decide +kernel, by decide +kernel⟩
theorem ok__law_cell {P : Program} {w : World} {K : PySem.W.Frag} {mg : Str → Option Value} {base : Heap} {f : Addr} {fd : FuncData} {fuel : List D → Nat} (M : Mg mg) (F : FunD K "_law_cell" "_law_cell" (defArgs Hd.s__law_cell) (defBody Hd.s__law_cell) (defScope Hd.s__law_cell) [] [] f fd)  :
    FnOk P w K mg base CX0 1 f fd ["script", "k"] (spFS K (fsOf (tbl []) fuel m__law_cell 2 2 false false)) := by
  have sc := sc__law_cell
  refine fn_pure (N := ["script", "k"]) (k := 0) F sc (by decide) fun cdv A outer s H E n hr => ?_
  exact css_one (cs_ret (ce_ife (ct_cmp c_lt (ce_var 1) (ce_bi (b_len M.b_len) (cab_cons (ce_var 0) (cab_nil)))) (ce_sub (ce_var 0) (ce_var 1)) (ce_bin o_add (ce_bin o_mul (ce_int) (ce_var 1)) (ce_bin o_mod (ce_bi (b_int M.b_int) (cab_cons (ce_bi (b_sum rfl M.b_sum) (cab_cons (ce_slice (ce_var 0) (cp_none) (cp_some (ce_int))) (cab_nil))) (cab_nil))) (ce_int)))))
theorem g__law_cell {P : Program} {w : World} {K : PySem.W.Frag} {mg : Str → Option Value} {base : Heap} {f : Addr} {fd : FuncData} {fs : FS} {k : Nat} (F : FunD K "_law_cell" "_law_cell" (defArgs Hd.s__law_cell) (defBody Hd.s__law_cell) (defScope Hd.s__law_cell) [] [] f fd) (hm : mg "_law_cell" = some (.ref f)) (ok : FnOk P w K mg base CX0 k f fd ["script", "k"] (spFS K fs)) :
    FnG P w K mg base "_law_cell" ["script", "k"] fs k := .of F hm ok fun _ _ _ _ _ _ us hl => match us, hl with | [_, _], _ => rfl
/-! ### _law_box -/
def m__law_box : MS := .ret (.lstD (.cons (.bi .abs (.cons (.var 0) (.nil))) (.cons (.cmp .ge (.bi .abs (.cons (.var 0) (.nil))) (.bin .pow (.lit (.int 10)) (.lit (.int 18)))) (.cons (.bin .mod (.bi .int (.cons (.bi .abs (.cons (.var 0) (.nil))) (.nil))) (.lit (.int 2147483629))) (.cons (.lit (.int 0)) (.nil))))))
theorem sc__law_box : FnScope ["great"] ["great"] (defScope Hd.s__law_box) := ⟨rfl, rfl, rfl, by decide +kernel, rfl, by decide +kernel, by decide +kernel⟩
theorem ok__law_box {P : Program} {w : World} {K : PySem.W.Frag} {mg : Str → Option Value} {base : Heap} {f : Addr} {fd : FuncData} {fuel : List D → Nat} (M : Mg mg) (F : FunD K "_law_box" "_law_box" (defArgs Hd.s__law_box) (defBody Hd.s__law_box) (defScope Hd.s__law_box) [] [] f fd)  :
    FnOk P w K mg base CX0 1 f fd ["great"] (spFS K (fsOf (tbl []) fuel m__law_box 1 1 false true)) := by
  have sc := sc__law_box
  refine fn_pure (N := ["great"]) (k := 0) F sc (by decide) fun cdv A outer s H E n hr => ?_
  exact css_one (cs_ret (ce_lst (ca_cons (ce_bi (b_abs M.b_abs) (cab_cons (ce_var 0) (cab_nil))) (ca_cons (ce_cmp c_ge (ce_bi (b_abs M.b_abs) (cab_cons (ce_var 0) (cab_nil))) (ce_bin o_pow (ce_int) (ce_int))) (ca_cons (ce_bin o_mod (ce_bi (b_int M.b_int) (cab_cons (ce_bi (b_abs M.b_abs) (cab_cons (ce_var 0) (cab_nil))) (cab_nil))) (ce_int)) (ca_cons (ce_int) (ca_nil)))))))
theorem g__law_box {P : Program} {w : World} {K : PySem.W.Frag} {mg : Str → Option Value} {base : Heap} {f : Addr} {fd : FuncData} {fs : FS} {k : Nat} (F : FunD K "_law_box" "_law_box" (defArgs Hd.s__law_box) (defBody Hd.s__law_box) (defScope Hd.s__law_box) [] [] f fd) (hm : mg "_law_box" = some (.ref f)) (ok : FnOk P w K mg base CX0 k f fd ["great"] (spFS K fs)) :
    FnG P w K mg base "_law_box" ["great"] fs k := .of F hm ok fun _ _ _ _ _ _ us hl => match us, hl with | [_], _ => rfl
/-! ### _law_take -/
def m__law_take : MS := .seq (.ite (.and (.sub (.var 0) (.lit (.int 1))) (.cmp .gt (.sub (.var 0) (.lit (.int 0))) (.lit (.int 0)))) (.seq (.set 3 (.bin .mod (.bi .int (.cons (.sub (.var 0) (.lit (.int 0))) (.nil))) (.var 1))) (.seq (.setIx 0 (.lit (.int 0)) (.bin .fdiv (.sub (.var 0) (.lit (.int 0))) (.var 1))) (.ret (.var 3)))) (.skip)) (.seq (.setIx 0 (.lit (.int 3)) (.bin .add (.sub (.var 0) (.lit (.int 3))) (.lit (.int 1)))) (.seq (.set 2 (.bin .mod (.bi .int (.cons (.bin .pow (.bin .add (.bin .add (.sub (.var 0) (.lit (.int 2))) (.bin .mul (.lit (.int 15485863)) (.sub (.var 0) (.lit (.int 3))))) (.lit (.int 179424673))) (.lit (.int 5))) (.nil))) (.lit (.int 2147483647)))) (.ret (.bin .mod (.bi .int (.cons (.bin .fdiv (.bin .mod (.bi .int (.cons (.bin .pow (.bin .add (.bin .mul (.var 2) (.lit (.int 48271))) (.bin .mul (.lit (.int 104729)) (.sub (.var 0) (.lit (.int 3))))) (.lit (.int 3))) (.nil))) (.lit (.int 2147483587))) (.lit (.int 64))) (.nil))) (.var 1)))))
theorem sc__law_take : FnScope ["box", "many", "mixed", "digit"] ["box", "many"] (defScope Hd.s__law_take) := ⟨rfl, rfl, rfl, by decide +kernel, rfl, by decide +kernel, by decide +kernel⟩
theorem ok__law_take {P : Program} {w : World} {K : PySem.W.Frag} {mg : Str → Option Value} {base : Heap} {f : Addr} {fd : FuncData} {fuel : List D → Nat} (M : Mg mg) (F : FunD K "_law_take" "_law_take" (defArgs Hd.s__law_take) (defBody Hd.s__law_take) (defScope Hd.s__law_take) [] [] f fd)  :
    FnOk P w K mg base CX0 1 f fd ["box", "many"] (spFS K (fsOf (tbl []) fuel m__law_take 4 2 true false)) := by
  have sc := sc__law_take
  refine fn_io (N := ["box", "many", "mixed", "digit"]) (k := 0) F sc (by decide) (by decide +kernel) fun cdv A outer s H E n hr => ?_
  exact css_cons (cs_if (CW.ct (cw_and (ct_val (ce_sub (ce_var 0) (ce_int))) (cw_and1 (ct_cmp c_gt (ce_sub (ce_var 0) (ce_int)) (ce_int))))) (css_cons (cs_set 3 sc.nd (ce_bin o_mod (ce_bi (b_int M.b_int) (cab_cons (ce_sub (ce_var 0) (ce_int)) (cab_nil))) (ce_var 1))) (css_cons (cs_setIx 0 (ce_bin o_fdiv (ce_sub (ce_var 0) (ce_int)) (ce_var 1)) (ce_int)) (css_one (cs_ret (ce_var 3))))) (css_nil)) (css_cons (cs_setIx 0 (ce_bin o_add (ce_sub (ce_var 0) (ce_int)) (ce_int)) (ce_int)) (css_cons (cs_set 2 sc.nd (ce_bin o_mod (ce_bi (b_int M.b_int) (cab_cons (ce_bin o_pow (ce_bin o_add (ce_bin o_add (ce_sub (ce_var 0) (ce_int)) (ce_bin o_mul (ce_int) (ce_sub (ce_var 0) (ce_int)))) (ce_int)) (ce_int)) (cab_nil))) (ce_int))) (css_one (cs_ret (ce_bin o_mod (ce_bi (b_int M.b_int) (cab_cons (ce_bin o_fdiv (ce_bin o_mod (ce_bi (b_int M.b_int) (cab_cons (ce_bin o_pow (ce_bin o_add (ce_bin o_mul (ce_var 2) (ce_int)) (ce_bin o_mul (ce_int) (ce_sub (ce_var 0) (ce_int)))) (ce_int)) (cab_nil))) (ce_int)) (ce_int)) (cab_nil))) (ce_var 1))))))
theorem g__law_take {P : Program} {w : World} {K : PySem.W.Frag} {mg : Str → Option Value} {base : Heap} {f : Addr} {fd : FuncData} {fs : FS} {k : Nat} (F : FunD K "_law_take" "_law_take" (defArgs Hd.s__law_take) (defBody Hd.s__law_take) (defScope Hd.s__law_take) [] [] f fd) (hm : mg "_law_take" = some (.ref f)) (ok : FnOk P w K mg base CX0 k f fd ["box", "many"] (spFS K fs)) :
    FnG P w K mg base "_law_take" ["box", "many"] fs k := .of F hm ok fun _ _ _ _ _ _ us hl => match us, hl with | [_, _], _ => rfl
/-! ### _law_same -/
def m__law_same : MS := .seq (.ite (.or (.cmp .is_ (.var 1) (.lit .non)) (.isi [.bool] (.var 1))) (.ret (.ife (.cmp .is_ (.var 1) (.lit .non)) (.cmp .is_ (.var 0) (.lit .non)) (.and (.isi [.bool] (.var 0)) (.cmp .eq (.cmp .is_ (.var 0) (.lit (.bl true))) (.cmp .is_ (.var 1) (.lit (.bl true))))))) (.skip)) (.seq (.ite (.isi [.int] (.var 1)) (.ret (.and (.isi [.int] (.var 0)) (.and (.not (.isi [.bool] (.var 0))) (.cmp .eq (.bin .sub (.bi .int (.cons (.var 0) (.nil))) (.var 1)) (.lit (.int 0)))))) (.skip)) (.seq (.ite (.isi [.str] (.var 1)) (.never) (.skip)) (.seq (.ite (.isi [.dict] (.var 1)) (.never) (.skip)) (.seq (.ite (.or (.not (.isi [.list, .tuple] (.var 0))) (.cmp .ne (.isi [.list] (.var 0)) (.isi [.list] (.var 1)))) (.ret (.lit (.bl false))) (.skip)) (.ret (.and (.cmp .eq (.bi .len (.cons (.var 0) (.nil))) (.bi .len (.cons (.var 1) (.nil)))) (.cmp .eq (.comp [2] (.nm 2) (.rng1 (.bi .len (.cons (.var 1) (.nil)))) (.not (.call 0 (.cons (.sub (.var 0) (.var 2)) (.cons (.sub (.var 1) (.var 2)) (.nil))))) (.var 2)) (.lstD (.nil)))))))))
theorem sc__law_same : FnScope ["told", "due", "k", "key"] ["told", "due"] (defScope Hd.s__law_same) := ⟨rfl, rfl, rfl, by decide +kernel, rfl, by decide +kernel, by decide +kernel⟩
theorem ok__law_same {P : Program} {w : World} {K : PySem.W.Frag} {mg : Str → Option Value} {base : Heap} {f : Addr} {fd : FuncData} {fuel : List D → Nat} {f0 : FS} {k0 : Nat} (M : Mg mg) (F : FunD K "_law_same" "_law_same" (defArgs Hd.s__law_same) (defBody Hd.s__law_same) (defScope Hd.s__law_same) [] [] f fd) (h0 : FnG P w K mg base "_law_same" ["told", "due"] f0 k0) :
    FnOk P w K mg base CX0 (k0 + 1) f fd ["told", "due"] (spFS K (fsOf (tbl [f0]) fuel m__law_same 4 2 false false)) := by
  have sc := sc__law_same
  refine fn_pure (N := ["told", "due", "k", "key"]) (k := k0) F sc (by decide) fun cdv A outer s H E n hr => ?_
  exact css_cons (cs_if (CW.ct (cw_or (ct_cmp c_is (ce_var 1) (ce_non)) (cw_or1 (ct_val (ce_isi M.b_isinstance M.bb_isinstance M.ty_bool (ce_var 1)))))) (css_one (cs_ret (ce_ife (ct_cmp c_is (ce_var 1) (ce_non)) (ce_cmp c_is (ce_var 0) (ce_non)) (ce_and (ce_isi M.b_isinstance M.bb_isinstance M.ty_bool (ce_var 0)) (ce_one (ce_cmp (c_eq (rm64 hr)) (ce_cmp c_is (ce_var 0) (ce_bl)) (ce_cmp c_is (ce_var 1) (ce_bl)))))))) (css_nil)) (css_cons (cs_if (ct_val (ce_isi M.b_isinstance M.bb_isinstance M.ty_int (ce_var 1))) (css_one (cs_ret (ce_and (ce_isi M.b_isinstance M.bb_isinstance M.ty_int (ce_var 0)) (ce_and (ce_not (ce_isi M.b_isinstance M.bb_isinstance M.ty_bool (ce_var 0))) (ce_one (ce_cmp (c_eq (rm64 hr)) (ce_bin o_sub (ce_bi (b_int M.b_int) (cab_cons (ce_var 0) (cab_nil))) (ce_var 1)) (ce_int))))))) (css_nil)) (css_cons (cs_if (ct_val (ce_isi M.b_isinstance M.bb_isinstance M.ty_str (ce_var 1))) (css_one (cs_never)) (css_nil)) (css_cons (cs_if (ct_val (ce_isi M.b_isinstance M.bb_isinstance M.ty_dict (ce_var 1))) (css_one (cs_never)) (css_nil)) (css_cons (cs_if (CW.ct (cw_or (ct_not (ct_val (ce_isi2 M.b_isinstance M.bb_isinstance M.ty_list M.ty_tuple (ce_var 0)))) (cw_or1 (ct_cmp (c_ne (rm64 hr)) (ce_isi M.b_isinstance M.bb_isinstance M.ty_list (ce_var 0)) (ce_isi M.b_isinstance M.bb_isinstance M.ty_list (ce_var 1)))))) (css_one (cs_ret (ce_bl))) (css_nil)) (css_one (cs_ret (ce_and (ce_cmp (c_eq (rm64 hr)) (ce_bi (b_len M.b_len) (cab_cons (ce_var 0) (cab_nil))) (ce_bi (b_len M.b_len) (cab_cons (ce_var 1) (cab_nil)))) (ce_one (ce_cmp (c_eq (rm64 hr)) (ce_lc rfl sc.nd (ci_rng1 M.b_range (ce_bi (b_len M.b_len) (cab_cons (ce_var 1) (cab_nil)))) (blkOk_by (own := [("k", 2)]) (by rfl)) (cblk (fun _ _ _ _ _ => cg_name 2 sc.nd) (fun _ _ _ _ _ => cts_one (ct_not (ct_val (ce_call 0 h0.at hr (ca_cons (ce_sub (ce_var 0) (ce_var 2)) (ca_cons (ce_sub (ce_var 1) (ce_var 2)) (ca_nil))) (Nat.le_refl _))))) (fun _ _ _ _ _ => ce_var 2))) (ce_lst (ca_nil)))))))))))
theorem g__law_same {P : Program} {w : World} {K : PySem.W.Frag} {mg : Str → Option Value} {base : Heap} {f : Addr} {fd : FuncData} {fs : FS} {k : Nat} (F : FunD K "_law_same" "_law_same" (defArgs Hd.s__law_same) (defBody Hd.s__law_same) (defScope Hd.s__law_same) [] [] f fd) (hm : mg "_law_same" = some (.ref f)) (ok : FnOk P w K mg base CX0 k f fd ["told", "due"] (spFS K fs)) :
    FnG P w K mg base "_law_same" ["told", "due"] fs k := .of F hm ok fun _ _ _ _ _ _ us hl => match us, hl with | [_, _], _ => rfl
/-! ### _law_mixed -/
def m__law_mixed : MS := .seq (.par2 2 3 (.range false (.rng1 (.var 1))) (.lstD (.nil))) (.seq (.whl (.cmp .ne (.var 2) (.lstD (.nil))) (.seq (.app 3 (.popAt 2 (.callIO 0 0 (.cons (.bi .len (.cons (.var 2) (.nil))) (.nil))))) (.skip))) (.ret (.var 3)))
theorem sc__law_mixed : FnScope ["box", "many", "left", "found"] ["box", "many"] (defScope Hd.s__law_mixed) := ⟨rfl, rfl, rfl, by decide +kernel, rfl, by decide +kernel, by decide +kernel⟩
theorem ok__law_mixed {P : Program} {w : World} {K : PySem.W.Frag} {mg : Str → Option Value} {base : Heap} {f : Addr} {fd : FuncData} {fuel : List D → Nat} {f0 : FS} (M : Mg mg) (F : FunD K "_law_mixed" "_law_mixed" (defArgs Hd.s__law_mixed) (defBody Hd.s__law_mixed) (defScope Hd.s__law_mixed) [] [] f fd) (h0 : FnG P w K mg base "_law_take" ["box", "many"] f0 1) :
    FnOk P w K mg base CX0 2 f fd ["box", "many"] (spFS K (fsOf (tbl [f0]) fuel m__law_mixed 4 2 true false)) := by
  have sc := sc__law_mixed
  refine fn_io (N := ["box", "many", "left", "found"]) (k := 1) F sc (by decide) (by decide +kernel) fun cdv A outer s H E n hr => ?_
  exact css_cons (cs_par2 2 3 rfl sc.nd (ce_listRg1 rfl M.b_list M.b_range (ce_var 1)) (ce_lst (ca_nil))) (css_cons (cs_while PassesOwn.never (ct_cmp (c_ne (rm64 hr)) (ce_var 2) (ce_lst (ca_nil))) (css_cons (cs_app 3 (ce_popAt 2 (ce_callIO 0 0 h0.at hr (ca_cons (ce_bi (b_len M.b_len) (cab_cons (ce_var 2) (cab_nil))) (ca_nil)) (by decide)))) (css_nil))) (css_one (cs_ret (ce_var 3))))
theorem g__law_mixed {P : Program} {w : World} {K : PySem.W.Frag} {mg : Str → Option Value} {base : Heap} {f : Addr} {fd : FuncData} {fs : FS} {k : Nat} (F : FunD K "_law_mixed" "_law_mixed" (defArgs Hd.s__law_mixed) (defBody Hd.s__law_mixed) (defScope Hd.s__law_mixed) [] [] f fd) (hm : mg "_law_mixed" = some (.ref f)) (ok : FnOk P w K mg base CX0 k f fd ["box", "many"] (spFS K fs)) :
    FnG P w K mg base "_law_mixed" ["box", "many"] fs k := .of F hm ok fun _ _ _ _ _ _ us hl => match us, hl with | [_, _], _ => rfl
/-! ### _law_gcd -/
def m__law_gcd : MS := .seq (.par2 0 1 (.bi .abs (.cons (.var 0) (.nil))) (.bi .abs (.cons (.var 1) (.nil)))) (.seq (.whl (.cmp .ne (.var 1) (.lit (.int 0))) (.seq (.par2 0 1 (.var 1) (.bin .mod (.var 0) (.var 1))) (.skip))) (.ret (.var 0)))
theorem sc__law_gcd : FnScope ["a", "b"] ["a", "b"] (defScope Hd.s__law_gcd) := ⟨rfl, rfl, rfl, by decide +kernel, rfl, by decide +kernel, by decide +kernel⟩
theorem ok__law_gcd {P : Program} {w : World} {K : PySem.W.Frag} {mg : Str → Option Value} {base : Heap} {f : Addr} {fd : FuncData} {fuel : List D → Nat} (M : Mg mg) (F : FunD K "_law_gcd" "_law_gcd" (defArgs Hd.s__law_gcd) (defBody Hd.s__law_gcd) (defScope Hd.s__law_gcd) [] [] f fd)  :
    FnOk P w K mg base CX0 1 f fd ["a", "b"] (spFS K (fsOf (tbl []) fuel m__law_gcd 2 2 false false)) := by
  have sc := sc__law_gcd
  refine fn_pure (N := ["a", "b"]) (k := 0) F sc (by decide) fun cdv A outer s H E n hr => ?_
  exact css_cons (cs_par2 0 1 rfl sc.nd (ce_bi (b_abs M.b_abs) (cab_cons (ce_var 0) (cab_nil))) (ce_bi (b_abs M.b_abs) (cab_cons (ce_var 1) (cab_nil)))) (css_cons (cs_while PassesOwn.never (ct_cmp (c_ne (rm64 hr)) (ce_var 1) (ce_int)) (css_cons (cs_par2 0 1 rfl sc.nd (ce_var 1) (ce_bin o_mod (ce_var 0) (ce_var 1))) (css_nil))) (css_one (cs_ret (ce_var 0))))
theorem g__law_gcd {P : Program} {w : World} {K : PySem.W.Frag} {mg : Str → Option Value} {base : Heap} {f : Addr} {fd : FuncData} {fs : FS} {k : Nat} (F : FunD K "_law_gcd" "_law_gcd" (defArgs Hd.s__law_gcd) (defBody Hd.s__law_gcd) (defScope Hd.s__law_gcd) [] [] f fd) (hm : mg "_law_gcd" = some (.ref f)) (ok : FnOk P w K mg base CX0 k f fd ["a", "b"] (spFS K fs)) :
    FnG P w K mg base "_law_gcd" ["a", "b"] fs k := .of F hm ok fun _ _ _ _ _ _ us hl => match us, hl with | [_, _], _ => rfl
/-! ### _law_low -/
def m__law_low : MS := .seq (.ite (.cmp .lt (.var 1) (.lit (.int 0))) (.par2 0 1 (.neg (.var 0)) (.neg (.var 1))) (.skip)) (.seq (.set 2 (.call 0 (.cons (.var 0) (.cons (.var 1) (.nil))))) (.ret (.tupD (.cons (.bin .fdiv (.var 0) (.var 2)) (.cons (.bin .fdiv (.var 1) (.var 2)) (.nil))))))
theorem sc__law_low : FnScope ["top", "bottom", "by"] ["top", "bottom"] (defScope Hd.s__law_low) := ⟨rfl, rfl, rfl, by decide +kernel, rfl, by decide +kernel, by decide +kernel⟩
theorem ok__law_low {P : Program} {w : World} {K : PySem.W.Frag} {mg : Str → Option Value} {base : Heap} {f : Addr} {fd : FuncData} {fuel : List D → Nat} {f0 : FS} (M : Mg mg) (F : FunD K "_law_low" "_law_low" (defArgs Hd.s__law_low) (defBody Hd.s__law_low) (defScope Hd.s__law_low) [] [] f fd) (h0 : FnG P w K mg base "_law_gcd" ["a", "b"] f0 1) :
    FnOk P w K mg base CX0 2 f fd ["top", "bottom"] (spFS K (fsOf (tbl [f0]) fuel m__law_low 3 2 false false)) := by
  have sc := sc__law_low
  refine fn_pure (N := ["top", "bottom", "by"]) (k := 1) F sc (by decide) fun cdv A outer s H E n hr => ?_
  exact css_cons (cs_if (ct_cmp c_lt (ce_var 1) (ce_int)) (css_one (cs_par2 0 1 rfl sc.nd (ce_neg (ce_var 0)) (ce_neg (ce_var 1)))) (css_nil)) (css_cons (cs_set 2 sc.nd (ce_call 0 h0.at hr (ca_cons (ce_var 0) (ca_cons (ce_var 1) (ca_nil))) (by decide))) (css_one (cs_ret (ce_tup (ca_cons (ce_bin o_fdiv (ce_var 0) (ce_var 2)) (ca_cons (ce_bin o_fdiv (ce_var 1) (ce_var 2)) (ca_nil)))))))
theorem g__law_low {P : Program} {w : World} {K : PySem.W.Frag} {mg : Str → Option Value} {base : Heap} {f : Addr} {fd : FuncData} {fs : FS} {k : Nat} (F : FunD K "_law_low" "_law_low" (defArgs Hd.s__law_low) (defBody Hd.s__law_low) (defScope Hd.s__law_low) [] [] f fd) (hm : mg "_law_low" = some (.ref f)) (ok : FnOk P w K mg base CX0 k f fd ["top", "bottom"] (spFS K fs)) :
    FnG P w K mg base "_law_low" ["top", "bottom"] fs k := .of F hm ok fun _ _ _ _ _ _ us hl => match us, hl with | [_, _], _ => rfl
/-! ### _law_add -/
def m__law_add : MS := .ret (.call 0 (.cons (.bin .add (.bin .mul (.sub (.var 0) (.lit (.int 0))) (.sub (.var 1) (.lit (.int 1)))) (.bin .mul (.sub (.var 1) (.lit (.int 0))) (.sub (.var 0) (.lit (.int 1))))) (.cons (.bin .mul (.sub (.var 0) (.lit (.int 1))) (.sub (.var 1) (.lit (.int 1)))) (.nil))))
theorem sc__law_add : FnScope ["one", "other"] ["one", "other"] (defScope Hd.s__law_add) := ⟨rfl, rfl, rfl, by decide +kernel, rfl, by decide +kernel, by decide +kernel⟩
theorem ok__law_add {P : Program} {w : World} {K : PySem.W.Frag} {mg : Str → Option Value} {base : Heap} {f : Addr} {fd : FuncData} {fuel : List D → Nat} {f0 : FS} (M : Mg mg) (F : FunD K "_law_add" "_law_add" (defArgs Hd.s__law_add) (defBody Hd.s__law_add) (defScope Hd.s__law_add) [] [] f fd) (h0 : FnG P w K mg base "_law_low" ["top", "bottom"] f0 2) :
    FnOk P w K mg base CX0 3 f fd ["one", "other"] (spFS K (fsOf (tbl [f0]) fuel m__law_add 2 2 false false)) := by
  have sc := sc__law_add
  refine fn_pure (N := ["one", "other"]) (k := 2) F sc (by decide) fun cdv A outer s H E n hr => ?_
  exact css_one (cs_ret (ce_call 0 h0.at hr (ca_cons (ce_bin o_add (ce_bin o_mul (ce_sub (ce_var 0) (ce_int)) (ce_sub (ce_var 1) (ce_int))) (ce_bin o_mul (ce_sub (ce_var 1) (ce_int)) (ce_sub (ce_var 0) (ce_int)))) (ca_cons (ce_bin o_mul (ce_sub (ce_var 0) (ce_int)) (ce_sub (ce_var 1) (ce_int))) (ca_nil))) (by decide)))
theorem g__law_add {P : Program} {w : World} {K : PySem.W.Frag} {mg : Str → Option Value} {base : Heap} {f : Addr} {fd : FuncData} {fs : FS} {k : Nat} (F : FunD K "_law_add" "_law_add" (defArgs Hd.s__law_add) (defBody Hd.s__law_add) (defScope Hd.s__law_add) [] [] f fd) (hm : mg "_law_add" = some (.ref f)) (ok : FnOk P w K mg base CX0 k f fd ["one", "other"] (spFS K fs)) :
    FnG P w K mg base "_law_add" ["one", "other"] fs k := .of F hm ok fun _ _ _ _ _ _ us hl => match us, hl with | [_, _], _ => rfl
/-! ### _law_mul -/
def m__law_mul : MS := .ret (.call 0 (.cons (.bin .mul (.sub (.var 0) (.lit (.int 0))) (.sub (.var 1) (.lit (.int 0)))) (.cons (.bin .mul (.sub (.var 0) (.lit (.int 1))) (.sub (.var 1) (.lit (.int 1)))) (.nil))))
theorem sc__law_mul : FnScope ["one", "other"] ["one", "other"] (defScope Hd.s__law_mul) := ⟨rfl, rfl, rfl, by decide +kernel, rfl, by decide +kernel, by decide +kernel⟩
theorem ok__law_mul {P : Program} {w : World} {K : PySem.W.Frag} {mg : Str → Option Value} {base : Heap} {f : Addr} {fd : FuncData} {fuel : List D → Nat} {f0 : FS} (M : Mg mg) (F : FunD K "_law_mul" "_law_mul" (defArgs Hd.s__law_mul) (defBody Hd.s__law_mul) (defScope Hd.s__law_mul) [] [] f fd) (h0 : FnG P w K mg base "_law_low" ["top", "bottom"] f0 2) :
    FnOk P w K mg base CX0 3 f fd ["one", "other"] (spFS K (fsOf (tbl [f0]) fuel m__law_mul 2 2 false false)) := by
  have sc := sc__law_mul
  refine fn_pure (N := ["one", "other"]) (k := 2) F sc (by decide) fun cdv A outer s H E n hr => ?_
  exact css_one (cs_ret (ce_call 0 h0.at hr (ca_cons (ce_bin o_mul (ce_sub (ce_var 0) (ce_int)) (ce_sub (ce_var 1) (ce_int))) (ca_cons (ce_bin o_mul (ce_sub (ce_var 0) (ce_int)) (ce_sub (ce_var 1) (ce_int))) (ca_nil))) (by decide)))
theorem g__law_mul {P : Program} {w : World} {K : PySem.W.Frag} {mg : Str → Option Value} {base : Heap} {f : Addr} {fd : FuncData} {fs : FS} {k : Nat} (F : FunD K "_law_mul" "_law_mul" (defArgs Hd.s__law_mul) (defBody Hd.s__law_mul) (defScope Hd.s__law_mul) [] [] f fd) (hm : mg "_law_mul" = some (.ref f)) (ok : FnOk P w K mg base CX0 k f fd ["one", "other"] (spFS K fs)) :
    FnG P w K mg base "_law_mul" ["one", "other"] fs k := .of F hm ok fun _ _ _ _ _ _ us hl => match us, hl with | [_, _], _ => rfl
/-! ### _law_below -/
def m__law_below : MS := .ret (.cmp .lt (.bin .mul (.sub (.var 0) (.lit (.int 0))) (.sub (.var 1) (.lit (.int 1)))) (.bin .mul (.sub (.var 1) (.lit (.int 0))) (.sub (.var 0) (.lit (.int 1)))))
theorem sc__law_below : FnScope ["one", "other"] ["one", "other"] (defScope Hd.s__law_below) := ⟨rfl, rfl, rfl, by decide +kernel, rfl, by decide +kernel, by decide +kernel⟩
theorem ok__law_below {P : Program} {w : World} {K : PySem.W.Frag} {mg : Str → Option Value} {base : Heap} {f : Addr} {fd : FuncData} {fuel : List D → Nat} (M : Mg mg) (F : FunD K "_law_below" "_law_below" (defArgs Hd.s__law_below) (defBody Hd.s__law_below) (defScope Hd.s__law_below) [] [] f fd)  :
    FnOk P w K mg base CX0 1 f fd ["one", "other"] (spFS K (fsOf (tbl []) fuel m__law_below 2 2 false false)) := by
  have sc := sc__law_below
  refine fn_pure (N := ["one", "other"]) (k := 0) F sc (by decide) fun cdv A outer s H E n hr => ?_
  exact css_one (cs_ret (ce_cmp c_lt (ce_bin o_mul (ce_sub (ce_var 0) (ce_int)) (ce_sub (ce_var 1) (ce_int))) (ce_bin o_mul (ce_sub (ce_var 1) (ce_int)) (ce_sub (ce_var 0) (ce_int)))))
theorem g__law_below {P : Program} {w : World} {K : PySem.W.Frag} {mg : Str → Option Value} {base : Heap} {f : Addr} {fd : FuncData} {fs : FS} {k : Nat} (F : FunD K "_law_below" "_law_below" (defArgs Hd.s__law_below) (defBody Hd.s__law_below) (defScope Hd.s__law_below) [] [] f fd) (hm : mg "_law_below" = some (.ref f)) (ok : FnOk P w K mg base CX0 k f fd ["one", "other"] (spFS K fs)) :
    FnG P w K mg base "_law_below" ["one", "other"] fs k := .of F hm ok fun _ _ _ _ _ _ us hl => match us, hl with | [_, _], _ => rfl
/-! ### _law_orders -/
def m__law_orders : MS := .seq (.set 1 (.lstD (.cons (.tupD (.nil)) (.nil)))) (.seq (.seq (.kill [2, 3, 4]) (.forr (.nm 2) (.rng1 (.var 0)) (.seq (.set 3 (.lstD (.nil))) (.seq (.seq (.kill [4]) (.forr (.nm 4) (.seq false (.var 1)) (.seq (.ext 3 (.comp [5] (.nm 5) (.rng1 (.var 0)) (.cmp .notin (.var 5) (.var 4)) (.bin .add (.var 4) (.tupD (.cons (.var 5) (.nil)))))) (.seq (.kill [4]) .skip)))) (.seq (.mov 1 3) (.seq (.kill [2, 3, 4]) .skip)))))) (.ret (.var 1)))
theorem sc__law_orders : FnScope ["many", "found", "turn", "longer", "row", "k"] ["many"] (defScope Hd.s__law_orders) := ⟨rfl, rfl, rfl, by decide +kernel, rfl, by decide +kernel, by decide +kernel⟩
theorem ok__law_orders {P : Program} {w : World} {K : PySem.W.Frag} {mg : Str → Option Value} {base : Heap} {f : Addr} {fd : FuncData} {fuel : List D → Nat} (M : Mg mg) (F : FunD K "_law_orders" "_law_orders" (defArgs Hd.s__law_orders) (defBody Hd.s__law_orders) (defScope Hd.s__law_orders) [] [] f fd)  :
    FnOk P w K mg base CX0 1 f fd ["many"] (spFS K (fsOf (tbl []) fuel m__law_orders 6 1 false false)) := by
  have sc := sc__law_orders
  refine fn_pure (N := ["many", "found", "turn", "longer", "row", "k"]) (k := 0) F sc (by decide) fun cdv A outer s H E n hr => ?_
  exact css_cons (cs_set 1 sc.nd (ce_lst (ca_cons (ce_tup (ca_nil)) (ca_nil)))) (css_cons (cs_kill [2, 3, 4] (cs_for PassesOwn.never rfl (ci_rng1 M.b_range (ce_var 0)) (cg_name 2 sc.nd) (css_cons (cs_set 3 sc.nd (ce_lst (ca_nil))) (css_cons (cs_kill [4] (cs_for PassesOwn.never rfl (ci_list (ce_var 1)) (cg_name 4 sc.nd) (css_cons (cs_ext 3 (ce_lc rfl sc.nd (ci_rng1 M.b_range (ce_var 0)) (blkOk_by (own := [("k", 5)]) (by rfl)) (cblk (fun _ _ _ _ _ => cg_name 5 sc.nd) (fun _ _ _ _ _ => cts_one (ct_cmp c_notin (ce_var 5) (ce_var 4))) (fun _ _ _ _ _ => ce_bin o_add (ce_var 4) (ce_tup (ca_cons (ce_var 5) (ca_nil))))))) (css_kill [4] css_nil)))) (css_cons (cs_mov 1 3 sc.nd) (css_kill [2, 3, 4] css_nil)))))) (css_one (cs_ret (ce_var 1))))
theorem g__law_orders {P : Program} {w : World} {K : PySem.W.Frag} {mg : Str → Option Value} {base : Heap} {f : Addr} {fd : FuncData} {fs : FS} {k : Nat} (F : FunD K "_law_orders" "_law_orders" (defArgs Hd.s__law_orders) (defBody Hd.s__law_orders) (defScope Hd.s__law_orders) [] [] f fd) (hm : mg "_law_orders" = some (.ref f)) (ok : FnOk P w K mg base CX0 k f fd ["many"] (spFS K fs)) :
    FnG P w K mg base "_law_orders" ["many"] fs k := .of F hm ok fun _ _ _ _ _ _ us hl => match us, hl with | [_], _ => rfl
/-! ### _law_moment -/
def m__law_moment : MS := .ret (.bi .sum (.cons (.comp [2, 3] (.tp (.cons (.nm 2) (.cons (.nm 3) (.nil)))) (.zip (.var 0) (.var 1)) (.lit (.bl true)) (.bin .mul (.var 2) (.var 3))) (.nil)))
theorem sc__law_moment : FnScope ["positions", "loads", "p", "x"] ["positions", "loads"] (defScope Hd.s__law_moment) := ⟨rfl, rfl, rfl, by decide +kernel, rfl, by decide +kernel, by decide +kernel⟩
theorem ok__law_moment {P : Program} {w : World} {K : PySem.W.Frag} {mg : Str → Option Value} {base : Heap} {f : Addr} {fd : FuncData} {fuel : List D → Nat} (M : Mg mg) (F : FunD K "_law_moment" "_law_moment" (defArgs Hd.s__law_moment) (defBody Hd.s__law_moment) (defScope Hd.s__law_moment) [] [] f fd)  :
    FnOk P w K mg base CX0 1 f fd ["positions", "loads"] (spFS K (fsOf (tbl []) fuel m__law_moment 4 2 false false)) := by
  have sc := sc__law_moment
  refine fn_pure (N := ["positions", "loads", "p", "x"]) (k := 0) F sc (by decide) fun cdv A outer s H E n hr => ?_
  exact css_one (cs_ret (ce_bi (b_sum rfl M.b_sum) (cab_cons (ce_lc rfl sc.nd (ci_zip M.b_zip (ce_var 0) (ce_var 1)) (blkOk_by (own := [("p", 2), ("x", 3)]) (by rfl)) (cblk (fun _ _ _ _ _ => cg_tup rfl (cgs_cons (cg_name 2 sc.nd) (cgs_cons (cg_name 3 sc.nd) (cgs_nil)))) (fun _ _ _ _ _ => cts_nil) (fun _ _ _ _ _ => ce_bin o_mul (ce_var 2) (ce_var 3)))) (cab_nil))))
theorem g__law_moment {P : Program} {w : World} {K : PySem.W.Frag} {mg : Str → Option Value} {base : Heap} {f : Addr} {fd : FuncData} {fs : FS} {k : Nat} (F : FunD K "_law_moment" "_law_moment" (defArgs Hd.s__law_moment) (defBody Hd.s__law_moment) (defScope Hd.s__law_moment) [] [] f fd) (hm : mg "_law_moment" = some (.ref f)) (ok : FnOk P w K mg base CX0 k f fd ["positions", "loads"] (spFS K fs)) :
    FnG P w K mg base "_law_moment" ["positions", "loads"] fs k := .of F hm ok fun _ _ _ _ _ _ us hl => match us, hl with | [_, _], _ => rfl
/-! ### _law_axles -/
def m__law_axles : MS := .seq (.set 4 (.call 0 (.cons (.bi .sum (.cons (.comp [5, 6] (.tp (.cons (.nm 5) (.cons (.nm 6) (.nil)))) (.zip (.var 2) (.var 3)) (.lit (.bl true)) (.bin .mul (.var 6) (.bin .sub (.var 1) (.var 5)))) (.nil))) (.cons (.bin .sub (.var 1) (.var 0)) (.nil))))) (.ret (.tupD (.cons (.var 4) (.cons (.call 0 (.cons (.bin .sub (.bin .mul (.bi .sum (.cons (.var 3) (.nil))) (.sub (.var 4) (.lit (.int 1)))) (.sub (.var 4) (.lit (.int 0)))) (.cons (.sub (.var 4) (.lit (.int 1))) (.nil)))) (.nil)))))
theorem sc__law_axles : FnScope ["left", "right", "positions", "loads", "one", "p", "x"] ["left", "right", "positions", "loads"] (defScope Hd.s__law_axles) := ⟨rfl, rfl, rfl, by decide +kernel, rfl, by decide +kernel, by decide +kernel⟩
theorem ok__law_axles {P : Program} {w : World} {K : PySem.W.Frag} {mg : Str → Option Value} {base : Heap} {f : Addr} {fd : FuncData} {fuel : List D → Nat} {f0 : FS} (M : Mg mg) (F : FunD K "_law_axles" "_law_axles" (defArgs Hd.s__law_axles) (defBody Hd.s__law_axles) (defScope Hd.s__law_axles) [] [] f fd) (h0 : FnG P w K mg base "_law_low" ["top", "bottom"] f0 2) :
    FnOk P w K mg base CX0 3 f fd ["left", "right", "positions", "loads"] (spFS K (fsOf (tbl [f0]) fuel m__law_axles 7 4 false false)) := by
  have sc := sc__law_axles
  refine fn_pure (N := ["left", "right", "positions", "loads", "one", "p", "x"]) (k := 2) F sc (by decide) fun cdv A outer s H E n hr => ?_
  exact css_cons (cs_set 4 sc.nd (ce_call 0 h0.at hr (ca_cons (ce_bi (b_sum rfl M.b_sum) (cab_cons (ce_lc rfl sc.nd (ci_zip M.b_zip (ce_var 2) (ce_var 3)) (blkOk_by (own := [("p", 5), ("x", 6)]) (by rfl)) (cblk (fun _ _ _ _ _ => cg_tup rfl (cgs_cons (cg_name 5 sc.nd) (cgs_cons (cg_name 6 sc.nd) (cgs_nil)))) (fun _ _ _ _ _ => cts_nil) (fun _ _ _ _ _ => ce_bin o_mul (ce_var 6) (ce_bin o_sub (ce_var 1) (ce_var 5))))) (cab_nil))) (ca_cons (ce_bin o_sub (ce_var 1) (ce_var 0)) (ca_nil))) (by decide))) (css_one (cs_ret (ce_tup (ca_cons (ce_var 4) (ca_cons (ce_call 0 h0.at hr (ca_cons (ce_bin o_sub (ce_bin o_mul (ce_bi (b_sum rfl M.b_sum) (cab_cons (ce_var 3) (cab_nil))) (ce_sub (ce_var 4) (ce_int))) (ce_sub (ce_var 4) (ce_int))) (ca_cons (ce_sub (ce_var 4) (ce_int)) (ca_nil))) (by decide)) (ca_nil))))))
theorem g__law_axles {P : Program} {w : World} {K : PySem.W.Frag} {mg : Str → Option Value} {base : Heap} {f : Addr} {fd : FuncData} {fs : FS} {k : Nat} (F : FunD K "_law_axles" "_law_axles" (defArgs Hd.s__law_axles) (defBody Hd.s__law_axles) (defScope Hd.s__law_axles) [] [] f fd) (hm : mg "_law_axles" = some (.ref f)) (ok : FnOk P w K mg base CX0 k f fd ["left", "right", "positions", "loads"] (spFS K fs)) :
    FnG P w K mg base "_law_axles" ["left", "right", "positions", "loads"] fs k := .of F hm ok fun _ _ _ _ _ _ us hl => match us, hl with | [_, _, _, _], _ => rfl
/-! ### _law_loading -/
def m__law_loading : MS := .seq (.set 3 (.lstD (.cons (.tupD (.cons (.tupD (.nil)) (.cons (.lit (.int 0)) (.nil)))) (.nil)))) (.seq (.seq (.kill [4, 5, 6, 7, 8]) (.forr (.nm 4) (.rng1 (.bi .len (.cons (.var 0) (.nil)))) (.seq (.set 5 (.lstD (.nil))) (.seq (.seq (.kill [6, 7, 8]) (.forr (.tp (.cons (.nm 6) (.cons (.nm 7) (.nil)))) (.seq false (.var 3)) (.seq (.seq (.kill [8]) (.forr (.nm 8) (.rng1 (.bi .len (.cons (.var 0) (.nil)))) (.seq (.ite (.and (.cmp .notin (.var 8) (.var 6)) (.cmp .le (.bi .abs (.cons (.bin .add (.var 7) (.bin .mul (.sub (.var 0) (.var 8)) (.sub (.var 1) (.var 8)))) (.nil))) (.var 2))) (.app 5 (.tupD (.cons (.bin .add (.var 6) (.tupD (.cons (.var 8) (.nil)))) (.cons (.bin .add (.var 7) (.bin .mul (.sub (.var 0) (.var 8)) (.sub (.var 1) (.var 8)))) (.nil))))) (.skip)) (.seq (.kill [8]) .skip)))) (.seq (.kill [6, 7, 8]) .skip)))) (.seq (.mov 3 5) (.seq (.kill [4, 5, 6, 7, 8]) .skip)))))) (.ret (.ife (.cmp .ne (.var 3) (.lstD (.nil))) (.bi .min (.cons (.comp [6, 7] (.tp (.cons (.nm 6) (.cons (.nm 7) (.nil)))) (.seq false (.var 3)) (.lit (.bl true)) (.var 6)) (.nil))) (.lit .non))))
theorem sc__law_loading : FnScope ["positions", "loads", "slack", "found", "turn", "longer", "order", "now", "k"] ["positions", "loads", "slack"] (defScope Hd.s__law_loading) := ⟨rfl, rfl, rfl, by decide +kernel, rfl, by decide +kernel, by decide +kernel⟩
theorem ok__law_loading {P : Program} {w : World} {K : PySem.W.Frag} {mg : Str → Option Value} {base : Heap} {f : Addr} {fd : FuncData} {fuel : List D → Nat} (M : Mg mg) (F : FunD K "_law_loading" "_law_loading" (defArgs Hd.s__law_loading) (defBody Hd.s__law_loading) (defScope Hd.s__law_loading) [] [] f fd)  :
    FnOk P w K mg base CX0 1 f fd ["positions", "loads", "slack"] (spFS K (fsOf (tbl []) fuel m__law_loading 9 3 false false)) := by
  have sc := sc__law_loading
  refine fn_pure (N := ["positions", "loads", "slack", "found", "turn", "longer", "order", "now", "k"]) (k := 0) F sc (by decide) fun cdv A outer s H E n hr => ?_
  exact css_cons (cs_set 3 sc.nd (ce_lst (ca_cons (ce_tup (ca_cons (ce_tup (ca_nil)) (ca_cons (ce_int) (ca_nil)))) (ca_nil)))) (css_cons (cs_kill [4, 5, 6, 7, 8] (cs_for PassesOwn.never rfl (ci_rng1 M.b_range (ce_bi (b_len M.b_len) (cab_cons (ce_var 0) (cab_nil)))) (cg_name 4 sc.nd) (css_cons (cs_set 5 sc.nd (ce_lst (ca_nil))) (css_cons (cs_kill [6, 7, 8] (cs_for PassesOwn.never rfl (ci_list (ce_var 3)) (cg_tup rfl (cgs_cons (cg_name 6 sc.nd) (cgs_cons (cg_name 7 sc.nd) (cgs_nil)))) (css_cons (cs_kill [8] (cs_for PassesOwn.never rfl (ci_rng1 M.b_range (ce_bi (b_len M.b_len) (cab_cons (ce_var 0) (cab_nil)))) (cg_name 8 sc.nd) (css_cons (cs_if (CW.ct (cw_and (ct_cmp c_notin (ce_var 8) (ce_var 6)) (cw_and1 (ct_cmp c_le (ce_bi (b_abs M.b_abs) (cab_cons (ce_bin o_add (ce_var 7) (ce_bin o_mul (ce_sub (ce_var 0) (ce_var 8)) (ce_sub (ce_var 1) (ce_var 8)))) (cab_nil))) (ce_var 2))))) (css_one (cs_app 5 (ce_tup (ca_cons (ce_bin o_add (ce_var 6) (ce_tup (ca_cons (ce_var 8) (ca_nil)))) (ca_cons (ce_bin o_add (ce_var 7) (ce_bin o_mul (ce_sub (ce_var 0) (ce_var 8)) (ce_sub (ce_var 1) (ce_var 8)))) (ca_nil)))))) (css_nil)) (css_kill [8] css_nil)))) (css_kill [6, 7, 8] css_nil)))) (css_cons (cs_mov 3 5 sc.nd) (css_kill [4, 5, 6, 7, 8] css_nil)))))) (css_one (cs_ret (ce_ife (ct_cmp (c_ne (rm64 hr)) (ce_var 3) (ce_lst (ca_nil))) (ce_bi (b_min rfl (rm70 hr) M.b_min) (cab_cons (ce_lc rfl sc.nd (ci_list (ce_var 3)) (blkOk_by (own := [("order", 6), ("now", 7)]) (by rfl)) (cblk (fun _ _ _ _ _ => cg_tup rfl (cgs_cons (cg_name 6 sc.nd) (cgs_cons (cg_name 7 sc.nd) (cgs_nil)))) (fun _ _ _ _ _ => cts_nil) (fun _ _ _ _ _ => ce_var 6))) (cab_nil))) (ce_non)))))
theorem g__law_loading {P : Program} {w : World} {K : PySem.W.Frag} {mg : Str → Option Value} {base : Heap} {f : Addr} {fd : FuncData} {fs : FS} {k : Nat} (F : FunD K "_law_loading" "_law_loading" (defArgs Hd.s__law_loading) (defBody Hd.s__law_loading) (defScope Hd.s__law_loading) [] [] f fd) (hm : mg "_law_loading" = some (.ref f)) (ok : FnOk P w K mg base CX0 k f fd ["positions", "loads", "slack"] (spFS K fs)) :
    FnG P w K mg base "_law_loading" ["positions", "loads", "slack"] fs k := .of F hm ok fun _ _ _ _ _ _ us hl => match us, hl with | [_, _, _], _ => rfl
/-! ### _law_right -/
def m__law_right : MS := .seq (.set 2 (.ife (.and (.var 1) (.cmp .eq (.callIO 0 0 (.cons (.lit (.int 4)) (.nil))) (.lit (.int 0)))) (.lit (.int 5)) (.bin .add (.lit (.int 1)) (.callIO 0 0 (.cons (.lit (.int 4)) (.nil)))))) (.seq (.set 3 (.ife (.cmp .eq (.callIO 0 0 (.cons (.lit (.int 2)) (.nil))) (.lit (.int 0))) (.bi .tuple (.cons (.bi .sorted (.cons (.comp [12] (.nm 12) (.seq false (.slice (.callIO 1 0 (.cons (.lit (.int 41)) (.nil))) (.lit .non) (.asInt (.var 2)))) (.lit (.bl true)) (.bi .int (.cons (.bin .sub (.var 12) (.lit (.int 20))) (.nil)))) (.nil))) (.nil))) (.bi .tuple (.cons (.comp [12] (.nm 12) (.rng1 (.var 2)) (.lit (.bl true)) (.bi .int (.cons (.bin .sub (.var 12) (.bin .fdiv (.var 2) (.lit (.int 2)))) (.nil)))) (.nil))))) (.seq (.set 4 (.bi .tuple (.cons (.comp [12] (.nm 12) (.rng1 (.var 2)) (.lit (.bl true)) (.sub (.lstD (.cons (.callIO 0 0 (.cons (.lit (.int 9)) (.nil))) (.cons (.callIO 0 0 (.cons (.lit (.int 101)) (.nil))) (.cons (.lit (.int 5)) (.nil))))) (.callIO 0 0 (.cons (.lit (.int 3)) (.nil))))) (.nil)))) (.seq (.set 5 (.bi .sortedSet (.cons (.comp [11] (.nm 11) (.seq false (.call 2 (.cons (.var 2) (.nil)))) (.lit (.bl true)) (.bi .tuple (.cons (.comp [12] (.nm 12) (.seq true (.var 11)) (.lit (.bl true)) (.sub (.var 4) (.var 12))) (.nil)))) .nil))) (.seq (.set 6 (.bi .min (.cons (.comp [13] (.nm 13) (.seq false (.var 5)) (.lit (.bl true)) (.bi .abs (.cons (.call 3 (.cons (.var 3) (.cons (.var 13) (.nil)))) (.nil)))) (.nil)))) (.seq (.set 7 (.bi .min (.cons (.comp [13] (.nm 13) (.seq false (.var 5)) (.cmp .eq (.bi .abs (.cons (.call 3 (.cons (.var 3) (.cons (.var 13) (.nil)))) (.nil))) (.var 6)) (.var 13)) (.nil)))) (.seq (.ite (.not (.call 4 (.cons (.lstD (.cons (.call 6 (.cons (.var 3) (.cons (.var 4) (.nil)))) (.cons (.callP 5 [1, 0] (.cons (.var 4) (.cons (.var 3) (.nil)))) (.nil)))) (.cons (.lstD (.cons (.tupD (.cons (.var 6) (.cons (.var 7) (.nil)))) (.cons (.tupD (.cons (.var 6) (.cons (.var 7) (.nil)))) (.nil)))) (.nil))))) (.ret (.lit (.bl false))) (.skip)) (.seq (.seq (.kill [8, 9, 10, 11]) (.forr (.nm 8) (.seq false (.lstD (.cons (.var 6) (.cons (.bi .max (.cons (.lit (.int 0)) (.cons (.bin .sub (.var 6) (.lit (.int 1))) (.nil)))) (.cons (.callIO 0 0 (.cons (.lit (.int 60)) (.nil))) (.cons (.lit (.int 20000)) (.nil))))))) (.seq (.set 9 (.comp [13] (.nm 13) (.seq false (.var 5)) (.cmp .le (.bi .abs (.cons (.call 3 (.cons (.var 3) (.cons (.var 13) (.nil)))) (.nil))) (.var 8)) (.var 13))) (.seq (.set 10 (.ife (.cmp .ne (.var 9) (.lstD (.nil))) (.sub (.var 9) (.lit (.int 0))) (.lit .non))) (.seq (.ite (.or (.not (.call 4 (.cons (.lstD (.cons (.call 8 (.cons (.var 3) (.cons (.var 4) (.cons (.var 8) (.nil))))) (.cons (.callP 7 [2, 1, 0] (.cons (.var 8) (.cons (.var 4) (.cons (.var 3) (.nil))))) (.nil)))) (.cons (.lstD (.cons (.var 10) (.cons (.var 10) (.nil)))) (.nil))))) (.cmp .ne (.cmp .is_ (.var 10) (.lit .non)) (.cmp .lt (.var 8) (.var 6)))) (.ret (.lit (.bl false))) (.skip)) (.seq (.set 11 (.call 9 (.cons (.var 3) (.cons (.var 4) (.cons (.var 8) (.nil)))))) (.seq (.ite (.not (.call 4 (.cons (.lstD (.cons (.call 11 (.cons (.var 3) (.cons (.var 4) (.cons (.var 8) (.nil))))) (.cons (.callP 10 [2, 1, 0] (.cons (.var 8) (.cons (.var 4) (.cons (.var 3) (.nil))))) (.nil)))) (.cons (.lstD (.cons (.var 11) (.cons (.var 11) (.nil)))) (.nil))))) (.ret (.lit (.bl false))) (.skip)) (.seq (.ite (.and (.cmp .isnot (.var 11) (.lit .non)) (.cmp .gt (.bi .abs (.cons (.call 3 (.cons (.var 3) (.cons (.var 4) (.nil)))) (.nil))) (.var 8))) (.ret (.lit (.bl false))) (.skip)) (.seq (.kill [8, 9, 10, 11]) .skip))))))))) (.ret (.callIO 12 0 (.cons (.var 3) (.cons (.var 4) (.cons (.var 5) (.cons (.var 6) (.nil))))))))))))))
theorem sc__law_right : FnScope ["box", "great", "many", "positions", "weights", "rows", "least", "first", "slack", "good", "due", "order", "k", "row"] ["box", "great"] (defScope Hd.s__law_right) := ⟨rfl, rfl, rfl, by decide +kernel, rfl, by decide +kernel, by decide +kernel⟩
theorem ok__law_right {P : Program} {w : World} {K : PySem.W.Frag} {mg : Str → Option Value} {base : Heap} {f : Addr} {fd : FuncData} {fuel : List D → Nat} {f0 f1 f2 f3 f4 f5 f6 f7 f8 f9 f10 f11 f12 : FS} (M : Mg mg) (F : FunD K "_law_right" "_law_right" (defArgs Hd.s__law_right) (defBody Hd.s__law_right) (defScope Hd.s__law_right) [] [] f fd) (h0 : FnG P w K mg base "_law_take" ["box", "many"] f0 1) (h1 : FnG P w K mg base "_law_mixed" ["box", "many"] f1 2) (h2 : FnG P w K mg base "_law_orders" ["many"] f2 1) (h3 : FnG P w K mg base "_law_moment" ["positions", "loads"] f3 1) (h4 : FnG P w K mg base "_law_same" ["told", "due"] f4 5) (h5 : FnGK P w K mg base "least_moment" ["positions", "weights"] f5 6 ["weights", "positions"] [1, 0]) (h6 : FnG P w K mg base "least_moment" ["positions", "weights"] f6 6) (h7 : FnGK P w K mg base "balanced" ["positions", "weights", "slack"] f7 6 ["slack", "weights", "positions"] [2, 1, 0]) (h8 : FnG P w K mg base "balanced" ["positions", "weights", "slack"] f8 6) (h9 : FnG P w K mg base "_law_loading" ["positions", "loads", "slack"] f9 1) (h10 : FnGK P w K mg base "loading_order" ["positions", "loads", "slack"] f10 6 ["slack", "loads", "positions"] [2, 1, 0]) (h11 : FnG P w K mg base "loading_order" ["positions", "loads", "slack"] f11 6) (h12 : FnG P w K mg base "_law_mirrored_right" ["box", "positions", "weights", "rows", "least"] f12 7) :
    FnOk P w K mg base CX0 8 f fd ["box", "great"] (spFS K (fsOf (tbl [f0, f1, f2, f3, f4, f5, f6, f7, f8, f9, f10, f11, f12]) fuel m__law_right 14 2 true false)) := by
  have sc := sc__law_right
  refine fn_io (N := ["box", "great", "many", "positions", "weights", "rows", "least", "first", "slack", "good", "due", "order", "k", "row"]) (k := 7) F sc (by decide) (by decide +kernel) fun cdv A outer s H E n hr => ?_
  exact css_cons (cs_set 2 sc.nd (ce_ife (CW.ct (cw_and (ct_val (ce_var 1)) (cw_and1 (ct_cmp (c_eq (rm64 hr)) (ce_callIO 0 0 h0.at hr (ca_cons (ce_int) (ca_nil)) (by decide)) (ce_int))))) (ce_int) (ce_bin o_add (ce_int) (ce_callIO 0 0 h0.at hr (ca_cons (ce_int) (ca_nil)) (by decide))))) (css_cons (cs_set 3 sc.nd (ce_ife (ct_cmp (c_eq (rm64 hr)) (ce_callIO 0 0 h0.at hr (ca_cons (ce_int) (ca_nil)) (by decide)) (ce_int)) (ce_bi (b_tuple M.b_tuple) (cab_cons (ce_bi (b_sorted (rm70 hr) M.b_sorted) (cab_cons (ce_lc rfl sc.nd (ci_list (ce_slice (ce_callIO 1 0 h1.at hr (ca_cons (ce_int) (ca_nil)) (by decide)) (cp_none) (cp_some (ce_var 2)))) (blkOk_by (own := [("k", 12)]) (by rfl)) (cblk (fun _ _ _ _ _ => cg_name 12 sc.nd) (fun _ _ _ _ _ => cts_nil) (fun _ _ _ _ _ => ce_bi (b_int M.b_int) (cab_cons (ce_bin o_sub (ce_var 12) (ce_int)) (cab_nil))))) (cab_nil))) (cab_nil))) (ce_bi (b_tuple M.b_tuple) (cab_cons (ce_lc rfl sc.nd (ci_rng1 M.b_range (ce_var 2)) (blkOk_by (own := [("k", 12)]) (by rfl)) (cblk (fun _ _ _ _ _ => cg_name 12 sc.nd) (fun _ _ _ _ _ => cts_nil) (fun _ _ _ _ _ => ce_bi (b_int M.b_int) (cab_cons (ce_bin o_sub (ce_var 12) (ce_bin o_fdiv (ce_var 2) (ce_int))) (cab_nil))))) (cab_nil))))) (css_cons (cs_set 4 sc.nd (ce_bi (b_tuple M.b_tuple) (cab_cons (ce_lc rfl sc.nd (ci_rng1 M.b_range (ce_var 2)) (blkOk_by (own := [("k", 12)]) (by rfl)) (cblk (fun _ _ _ _ _ => cg_name 12 sc.nd) (fun _ _ _ _ _ => cts_nil) (fun _ _ _ _ _ => ce_sub (ce_lst (ca_cons (ce_callIO 0 0 h0.at hr (ca_cons (ce_int) (ca_nil)) (by decide)) (ca_cons (ce_callIO 0 0 h0.at hr (ca_cons (ce_int) (ca_nil)) (by decide)) (ca_cons (ce_int) (ca_nil))))) (ce_callIO 0 0 h0.at hr (ca_cons (ce_int) (ca_nil)) (by decide))))) (cab_nil)))) (css_cons (cs_set 5 sc.nd (ce_sortedSet rfl (rm70 hr) M.b_sorted M.b_set (ce_lc rfl sc.nd (ci_list (ce_call 2 h2.at hr (ca_cons (ce_var 2) (ca_nil)) (by decide))) (blkOk_by (own := [("order", 11)]) (by rfl)) (cblk (fun _ _ _ _ _ => cg_name 11 sc.nd) (fun _ _ _ _ _ => cts_nil) (fun _ _ _ _ _ => ce_bi (b_tuple M.b_tuple) (cab_cons (ce_lc rfl sc.nd (ci_tup (ce_var 11)) (blkOk_by (own := [("k", 12)]) (by rfl)) (cblk (fun _ _ _ _ _ => cg_name 12 sc.nd) (fun _ _ _ _ _ => cts_nil) (fun _ _ _ _ _ => ce_sub (ce_var 4) (ce_var 12)))) (cab_nil))))))) (css_cons (cs_set 6 sc.nd (ce_bi (b_min rfl (rm70 hr) M.b_min) (cab_cons (ce_lc rfl sc.nd (ci_list (ce_var 5)) (blkOk_by (own := [("row", 13)]) (by rfl)) (cblk (fun _ _ _ _ _ => cg_name 13 sc.nd) (fun _ _ _ _ _ => cts_nil) (fun _ _ _ _ _ => ce_bi (b_abs M.b_abs) (cab_cons (ce_call 3 h3.at hr (ca_cons (ce_var 3) (ca_cons (ce_var 13) (ca_nil))) (by decide)) (cab_nil))))) (cab_nil)))) (css_cons (cs_set 7 sc.nd (ce_bi (b_min rfl (rm70 hr) M.b_min) (cab_cons (ce_lc rfl sc.nd (ci_list (ce_var 5)) (blkOk_by (own := [("row", 13)]) (by rfl)) (cblk (fun _ _ _ _ _ => cg_name 13 sc.nd) (fun _ _ _ _ _ => cts_one (ct_cmp (c_eq (rm64 hr)) (ce_bi (b_abs M.b_abs) (cab_cons (ce_call 3 h3.at hr (ca_cons (ce_var 3) (ca_cons (ce_var 13) (ca_nil))) (by decide)) (cab_nil))) (ce_var 6))) (fun _ _ _ _ _ => ce_var 13))) (cab_nil)))) (css_cons (cs_if (ct_not (ct_val (ce_call 4 h4.at hr (ca_cons (ce_lst (ca_cons (ce_call 6 h6.at hr (ca_cons (ce_var 3) (ca_cons (ce_var 4) (ca_nil))) (by decide)) (ca_cons (ce_callK 5 h5.at hr (ck_cons (ce_var 4) (ck_cons (ce_var 3) (ck_nil))) (by decide)) (ca_nil)))) (ca_cons (ce_lst (ca_cons (ce_tup (ca_cons (ce_var 6) (ca_cons (ce_var 7) (ca_nil)))) (ca_cons (ce_tup (ca_cons (ce_var 6) (ca_cons (ce_var 7) (ca_nil)))) (ca_nil)))) (ca_nil))) (by decide)))) (css_one (cs_ret (ce_bl))) (css_nil)) (css_cons (cs_kill [8, 9, 10, 11] (cs_for PassesOwn.never rfl (ci_list (ce_lst (ca_cons (ce_var 6) (ca_cons (ce_bi (b_max rfl (rm70 hr) M.b_max) (cab_cons (ce_int) (cab_cons (ce_bin o_sub (ce_var 6) (ce_int)) (cab_nil)))) (ca_cons (ce_callIO 0 0 h0.at hr (ca_cons (ce_int) (ca_nil)) (by decide)) (ca_cons (ce_int) (ca_nil))))))) (cg_name 8 sc.nd) (css_cons (cs_setLc 9 rfl sc.nd (ci_list (ce_var 5)) (blkOk_by (own := [("row", 13)]) (by rfl)) (cblk (fun _ _ _ _ _ => cg_name 13 sc.nd) (fun _ _ _ _ _ => cts_one (ct_cmp c_le (ce_bi (b_abs M.b_abs) (cab_cons (ce_call 3 h3.at hr (ca_cons (ce_var 3) (ca_cons (ce_var 13) (ca_nil))) (by decide)) (cab_nil))) (ce_var 8))) (fun _ _ _ _ _ => ce_var 13))) (css_cons (cs_set 10 sc.nd (ce_ife (ct_cmp (c_ne (rm64 hr)) (ce_var 9) (ce_lst (ca_nil))) (ce_sub (ce_var 9) (ce_int)) (ce_non))) (css_cons (cs_if (CW.ct (cw_or (ct_not (ct_val (ce_call 4 h4.at hr (ca_cons (ce_lst (ca_cons (ce_call 8 h8.at hr (ca_cons (ce_var 3) (ca_cons (ce_var 4) (ca_cons (ce_var 8) (ca_nil)))) (by decide)) (ca_cons (ce_callK 7 h7.at hr (ck_cons (ce_var 8) (ck_cons (ce_var 4) (ck_cons (ce_var 3) (ck_nil)))) (by decide)) (ca_nil)))) (ca_cons (ce_lst (ca_cons (ce_var 10) (ca_cons (ce_var 10) (ca_nil)))) (ca_nil))) (by decide)))) (cw_or1 (ct_cmp (c_ne (rm64 hr)) (ce_cmp c_is (ce_var 10) (ce_non)) (ce_cmp c_lt (ce_var 8) (ce_var 6)))))) (css_one (cs_ret (ce_bl))) (css_nil)) (css_cons (cs_set 11 sc.nd (ce_call 9 h9.at hr (ca_cons (ce_var 3) (ca_cons (ce_var 4) (ca_cons (ce_var 8) (ca_nil)))) (by decide))) (css_cons (cs_if (ct_not (ct_val (ce_call 4 h4.at hr (ca_cons (ce_lst (ca_cons (ce_call 11 h11.at hr (ca_cons (ce_var 3) (ca_cons (ce_var 4) (ca_cons (ce_var 8) (ca_nil)))) (by decide)) (ca_cons (ce_callK 10 h10.at hr (ck_cons (ce_var 8) (ck_cons (ce_var 4) (ck_cons (ce_var 3) (ck_nil)))) (by decide)) (ca_nil)))) (ca_cons (ce_lst (ca_cons (ce_var 11) (ca_cons (ce_var 11) (ca_nil)))) (ca_nil))) (by decide)))) (css_one (cs_ret (ce_bl))) (css_nil)) (css_cons (cs_if (CW.ct (cw_and (ct_cmp c_isnot (ce_var 11) (ce_non)) (cw_and1 (ct_cmp c_gt (ce_bi (b_abs M.b_abs) (cab_cons (ce_call 3 h3.at hr (ca_cons (ce_var 3) (ca_cons (ce_var 4) (ca_nil))) (by decide)) (cab_nil))) (ce_var 8))))) (css_one (cs_ret (ce_bl))) (css_nil)) (css_kill [8, 9, 10, 11] css_nil))))))))) (css_one (cs_ret (ce_callIO 12 0 h12.at hr (ca_cons (ce_var 3) (ca_cons (ce_var 4) (ca_cons (ce_var 5) (ca_cons (ce_var 6) (ca_nil))))) (by decide)))))))))))
theorem g__law_right {P : Program} {w : World} {K : PySem.W.Frag} {mg : Str → Option Value} {base : Heap} {f : Addr} {fd : FuncData} {fs : FS} {k : Nat} (F : FunD K "_law_right" "_law_right" (defArgs Hd.s__law_right) (defBody Hd.s__law_right) (defScope Hd.s__law_right) [] [] f fd) (hm : mg "_law_right" = some (.ref f)) (ok : FnOk P w K mg base CX0 k f fd ["box", "great"] (spFS K fs)) :
    FnG P w K mg base "_law_right" ["box", "great"] fs k := .of F hm ok fun _ _ _ _ _ _ us hl => match us, hl with | [_, _], _ => rfl
/-! ### _law_mirrored_right -/
def m__law_mirrored_right : MS := .seq (.set 5 (.bi .len (.cons (.var 1) (.nil)))) (.seq (.par2 6 7 (.bi .tuple (.cons (.comp [21] (.nm 21) (.seq true (.rev true (.var 1))) (.lit (.bl true)) (.neg (.var 21))) (.nil))) (.rev true (.var 2))) (.seq (.par2 8 9 (.call 0 (.cons (.var 6) (.cons (.var 2) (.nil)))) (.call 1 (.cons (.var 1) (.cons (.var 2) (.nil))))) (.seq (.ite (.or (.not (.isi [.tuple] (.var 8))) (.or (.cmp .ne (.bi .len (.cons (.var 8) (.nil))) (.lit (.int 2))) (.not (.call 2 (.cons (.sub (.var 8) (.lit (.int 0))) (.cons (.var 4) (.nil))))))) (.ret (.lit (.bl false))) (.skip)) (.seq (.ite (.not (.call 2 (.cons (.lstD (.cons (.call 4 (.cons (.var 1) (.cons (.var 2) (.nil)))) (.cons (.callP 3 [1, 0] (.cons (.var 7) (.cons (.var 6) (.nil)))) (.nil)))) (.cons (.lstD (.cons (.var 9) (.cons (.neg (.var 9)) (.nil)))) (.nil))))) (.ret (.lit (.bl false))) (.skip)) (.seq (.set 10 (.bin .sub (.callIO 5 0 (.cons (.lit (.int 40)) (.nil))) (.lit (.int 20)))) (.seq (.set 11 (.bin .add (.bin .add (.var 10) (.lit (.int 1))) (.callIO 5 0 (.cons (.bin .sub (.lit (.int 20)) (.var 10)) (.nil))))) (.seq (.set 12 (.call 6 (.cons (.var 10) (.cons (.var 11) (.cons (.var 1) (.cons (.var 2) (.nil))))))) (.seq (.ite (.not (.call 2 (.cons (.lstD (.cons (.call 8 (.cons (.var 10) (.cons (.var 11) (.cons (.var 1) (.cons (.var 2) (.nil)))))) (.cons (.callP 7 [3, 2, 1, 0] (.cons (.var 2) (.cons (.var 1) (.cons (.var 11) (.cons (.var 10) (.nil)))))) (.nil)))) (.cons (.lstD (.cons (.var 12) (.cons (.var 12) (.nil)))) (.nil))))) (.ret (.lit (.bl false))) (.skip)) (.seq (.ite (.not (.call 2 (.cons (.call 8 (.cons (.neg (.var 11)) (.cons (.neg (.var 10)) (.cons (.var 6) (.cons (.var 7) (.nil)))))) (.cons (.tupD (.cons (.sub (.var 12) (.lit (.int 1))) (.cons (.sub (.var 12) (.lit (.int 0))) (.nil)))) (.nil))))) (.ret (.lit (.bl false))) (.skip)) (.seq (.ite (.or (.cmp .ne (.call 9 (.cons (.sub (.var 12) (.lit (.int 0))) (.cons (.sub (.var 12) (.lit (.int 1))) (.nil)))) (.tupD (.cons (.bi .sum (.cons (.var 2) (.nil))) (.cons (.lit (.int 1)) (.nil))))) (.cmp .ne (.call 9 (.cons (.call 10 (.cons (.tupD (.cons (.var 10) (.cons (.lit (.int 1)) (.nil)))) (.cons (.sub (.var 12) (.lit (.int 0))) (.nil)))) (.cons (.call 10 (.cons (.tupD (.cons (.var 11) (.cons (.lit (.int 1)) (.nil)))) (.cons (.sub (.var 12) (.lit (.int 1))) (.nil)))) (.nil)))) (.tupD (.cons (.var 9) (.cons (.lit (.int 1)) (.nil)))))) (.ret (.lit (.bl false))) (.skip)) (.seq (.set 13 (.lstD (.nil))) (.seq (.seq (.kill [14, 17, 18]) (.forr (.nm 14) (.seq false (.var 3)) (.seq (.unp (.tp (.cons (.nm 17) (.cons (.nm 18) (.nil)))) (.call 6 (.cons (.var 10) (.cons (.var 11) (.cons (.var 1) (.cons (.var 14) (.nil))))))) (.seq (.app 13 (.tupD (.cons (.var 14) (.cons (.bi .max (.cons (.lit (.int 0)) (.cons (.neg (.bin .fdiv (.neg (.sub (.var 17) (.lit (.int 0)))) (.sub (.var 17) (.lit (.int 1))))) (.nil)))) (.cons (.bi .max (.cons (.lit (.int 0)) (.cons (.neg (.bin .fdiv (.neg (.sub (.var 18) (.lit (.int 0)))) (.sub (.var 18) (.lit (.int 1))))) (.nil)))) (.cons (.and (.cmp .ge (.sub (.var 17) (.lit (.int 0))) (.lit (.int 0))) (.cmp .ge (.sub (.var 18) (.lit (.int 0))) (.lit (.int 0)))) (.nil))))))) (.seq (.kill [14, 17, 18]) .skip))))) (.seq (.set 15 (.sub (.var 13) (.callIO 5 0 (.cons (.bi .len (.cons (.var 13) (.nil))) (.nil))))) (.seq (.seq (.kill [16, 19, 12]) (.forr (.nm 16) (.seq false (.lstD (.cons (.tupD (.cons (.bi .min (.cons (.lit (.int 1000)) (.cons (.sub (.var 15) (.lit (.int 1))) (.nil)))) (.cons (.bi .min (.cons (.lit (.int 1000)) (.cons (.sub (.var 15) (.lit (.int 2))) (.nil)))) (.nil)))) (.cons (.tupD (.cons (.lit (.int 1000)) (.cons (.lit (.int 1000)) (.nil)))) (.cons (.tupD (.cons (.callIO 5 0 (.cons (.lit (.int 120)) (.nil))) (.cons (.callIO 5 0 (.cons (.lit (.int 120)) (.nil))) (.nil)))) (.nil)))))) (.seq (.set 19 (.comp [14, 17, 18, 20] (.tp (.cons (.nm 14) (.cons (.nm 17) (.cons (.nm 18) (.cons (.nm 20) (.nil)))))) (.seq false (.var 13)) (.and (.var 20) (.and (.cmp .le (.var 17) (.sub (.var 16) (.lit (.int 0)))) (.cmp .le (.var 18) (.sub (.var 16) (.lit (.int 1)))))) (.var 14))) (.seq (.set 12 (.ife (.cmp .ne (.var 19) (.lstD (.nil))) (.sub (.var 19) (.lit (.int 0))) (.lit .non))) (.seq (.ite (.not (.call 2 (.cons (.lstD (.cons (.call 12 (.cons (.var 10) (.cons (.var 11) (.cons (.var 1) (.cons (.var 2) (.cons (.var 16) (.nil))))))) (.cons (.callP 11 [4, 3, 2, 1, 0] (.cons (.var 16) (.cons (.var 2) (.cons (.var 1) (.cons (.var 11) (.cons (.var 10) (.nil))))))) (.nil)))) (.cons (.lstD (.cons (.var 12) (.cons (.var 12) (.nil)))) (.nil))))) (.ret (.lit (.bl false))) (.skip)) (.seq (.kill [16, 19, 12]) .skip)))))) (.ret (.lit (.bl true)))))))))))))))))
theorem sc__law_mirrored_right : FnScope ["box", "positions", "weights", "rows", "least", "many", "back", "turned", "told", "now", "left", "right", "due", "bearable", "row", "some", "limits", "one", "two", "good", "stands", "p"] ["box", "positions", "weights", "rows", "least"] (defScope Hd.s__law_mirrored_right) := ⟨rfl, rfl, rfl, by decide +kernel, rfl, by decide +kernel, by decide +kernel⟩
theorem ok__law_mirrored_right {P : Program} {w : World} {K : PySem.W.Frag} {mg : Str → Option Value} {base : Heap} {f : Addr} {fd : FuncData} {fuel : List D → Nat} {f0 f1 f2 f3 f4 f5 f6 f7 f8 f9 f10 f11 f12 : FS} (M : Mg mg) (F : FunD K "_law_mirrored_right" "_law_mirrored_right" (defArgs Hd.s__law_mirrored_right) (defBody Hd.s__law_mirrored_right) (defScope Hd.s__law_mirrored_right) [] [] f fd) (h0 : FnG P w K mg base "least_moment" ["positions", "weights"] f0 6) (h1 : FnG P w K mg base "_law_moment" ["positions", "loads"] f1 1) (h2 : FnG P w K mg base "_law_same" ["told", "due"] f2 5) (h3 : FnGK P w K mg base "moment" ["positions", "loads"] f3 6 ["loads", "positions"] [1, 0]) (h4 : FnG P w K mg base "moment" ["positions", "loads"] f4 6) (h5 : FnG P w K mg base "_law_take" ["box", "many"] f5 1) (h6 : FnG P w K mg base "_law_axles" ["left", "right", "positions", "loads"] f6 3) (h7 : FnGK P w K mg base "axle_loads" ["left", "right", "positions", "loads"] f7 6 ["loads", "positions", "right", "left"] [3, 2, 1, 0]) (h8 : FnG P w K mg base "axle_loads" ["left", "right", "positions", "loads"] f8 6) (h9 : FnG P w K mg base "_law_add" ["one", "other"] f9 3) (h10 : FnG P w K mg base "_law_mul" ["one", "other"] f10 3) (h11 : FnGK P w K mg base "within_axles" ["left", "right", "positions", "weights", "limits"] f11 6 ["limits", "weights", "positions", "right", "left"] [4, 3, 2, 1, 0]) (h12 : FnG P w K mg base "within_axles" ["left", "right", "positions", "weights", "limits"] f12 6) :
    FnOk P w K mg base CX0 7 f fd ["box", "positions", "weights", "rows", "least"] (spFS K (fsOf (tbl [f0, f1, f2, f3, f4, f5, f6, f7, f8, f9, f10, f11, f12]) fuel m__law_mirrored_right 22 5 true false)) := by
  have sc := sc__law_mirrored_right
  refine fn_io (N := ["box", "positions", "weights", "rows", "least", "many", "back", "turned", "told", "now", "left", "right", "due", "bearable", "row", "some", "limits", "one", "two", "good", "stands", "p"]) (k := 6) F sc (by decide) (by decide +kernel) fun cdv A outer s H E n hr => ?_
  exact css_cons (cs_set 5 sc.nd (ce_bi (b_len M.b_len) (cab_cons (ce_var 1) (cab_nil)))) (css_cons (cs_par2 6 7 rfl sc.nd (ce_bi (b_tuple M.b_tuple) (cab_cons (ce_lc rfl sc.nd (ci_tup (ce_revT (ce_var 1))) (blkOk_by (own := [("p", 21)]) (by rfl)) (cblk (fun _ _ _ _ _ => cg_name 21 sc.nd) (fun _ _ _ _ _ => cts_nil) (fun _ _ _ _ _ => ce_neg (ce_var 21)))) (cab_nil))) (ce_revT (ce_var 2))) (css_cons (cs_par2 8 9 rfl sc.nd (ce_call 0 h0.at hr (ca_cons (ce_var 6) (ca_cons (ce_var 2) (ca_nil))) (by decide)) (ce_call 1 h1.at hr (ca_cons (ce_var 1) (ca_cons (ce_var 2) (ca_nil))) (by decide))) (css_cons (cs_if (CW.ct (cw_or (ct_not (ct_val (ce_isi M.b_isinstance M.bb_isinstance M.ty_tuple (ce_var 8)))) (cw_or (ct_cmp (c_ne (rm64 hr)) (ce_bi (b_len M.b_len) (cab_cons (ce_var 8) (cab_nil))) (ce_int)) (cw_or1 (ct_not (ct_val (ce_call 2 h2.at hr (ca_cons (ce_sub (ce_var 8) (ce_int)) (ca_cons (ce_var 4) (ca_nil))) (by decide)))))))) (css_one (cs_ret (ce_bl))) (css_nil)) (css_cons (cs_if (ct_not (ct_val (ce_call 2 h2.at hr (ca_cons (ce_lst (ca_cons (ce_call 4 h4.at hr (ca_cons (ce_var 1) (ca_cons (ce_var 2) (ca_nil))) (by decide)) (ca_cons (ce_callK 3 h3.at hr (ck_cons (ce_var 7) (ck_cons (ce_var 6) (ck_nil))) (by decide)) (ca_nil)))) (ca_cons (ce_lst (ca_cons (ce_var 9) (ca_cons (ce_neg (ce_var 9)) (ca_nil)))) (ca_nil))) (by decide)))) (css_one (cs_ret (ce_bl))) (css_nil)) (css_cons (cs_set 10 sc.nd (ce_bin o_sub (ce_callIO 5 0 h5.at hr (ca_cons (ce_int) (ca_nil)) (by decide)) (ce_int))) (css_cons (cs_set 11 sc.nd (ce_bin o_add (ce_bin o_add (ce_var 10) (ce_int)) (ce_callIO 5 0 h5.at hr (ca_cons (ce_bin o_sub (ce_int) (ce_var 10)) (ca_nil)) (by decide)))) (css_cons (cs_set 12 sc.nd (ce_call 6 h6.at hr (ca_cons (ce_var 10) (ca_cons (ce_var 11) (ca_cons (ce_var 1) (ca_cons (ce_var 2) (ca_nil))))) (by decide))) (css_cons (cs_if (ct_not (ct_val (ce_call 2 h2.at hr (ca_cons (ce_lst (ca_cons (ce_call 8 h8.at hr (ca_cons (ce_var 10) (ca_cons (ce_var 11) (ca_cons (ce_var 1) (ca_cons (ce_var 2) (ca_nil))))) (by decide)) (ca_cons (ce_callK 7 h7.at hr (ck_cons (ce_var 2) (ck_cons (ce_var 1) (ck_cons (ce_var 11) (ck_cons (ce_var 10) (ck_nil))))) (by decide)) (ca_nil)))) (ca_cons (ce_lst (ca_cons (ce_var 12) (ca_cons (ce_var 12) (ca_nil)))) (ca_nil))) (by decide)))) (css_one (cs_ret (ce_bl))) (css_nil)) (css_cons (cs_if (ct_not (ct_val (ce_call 2 h2.at hr (ca_cons (ce_call 8 h8.at hr (ca_cons (ce_neg (ce_var 11)) (ca_cons (ce_neg (ce_var 10)) (ca_cons (ce_var 6) (ca_cons (ce_var 7) (ca_nil))))) (by decide)) (ca_cons (ce_tup (ca_cons (ce_sub (ce_var 12) (ce_int)) (ca_cons (ce_sub (ce_var 12) (ce_int)) (ca_nil)))) (ca_nil))) (by decide)))) (css_one (cs_ret (ce_bl))) (css_nil)) (css_cons (cs_if (CW.ct (cw_or (ct_cmp (c_ne (rm64 hr)) (ce_call 9 h9.at hr (ca_cons (ce_sub (ce_var 12) (ce_int)) (ca_cons (ce_sub (ce_var 12) (ce_int)) (ca_nil))) (by decide)) (ce_tup (ca_cons (ce_bi (b_sum rfl M.b_sum) (cab_cons (ce_var 2) (cab_nil))) (ca_cons (ce_int) (ca_nil))))) (cw_or1 (ct_cmp (c_ne (rm64 hr)) (ce_call 9 h9.at hr (ca_cons (ce_call 10 h10.at hr (ca_cons (ce_tup (ca_cons (ce_var 10) (ca_cons (ce_int) (ca_nil)))) (ca_cons (ce_sub (ce_var 12) (ce_int)) (ca_nil))) (by decide)) (ca_cons (ce_call 10 h10.at hr (ca_cons (ce_tup (ca_cons (ce_var 11) (ca_cons (ce_int) (ca_nil)))) (ca_cons (ce_sub (ce_var 12) (ce_int)) (ca_nil))) (by decide)) (ca_nil))) (by decide)) (ce_tup (ca_cons (ce_var 9) (ca_cons (ce_int) (ca_nil)))))))) (css_one (cs_ret (ce_bl))) (css_nil)) (css_cons (cs_set 13 sc.nd (ce_lst (ca_nil))) (css_cons (cs_kill [14, 17, 18] (cs_for PassesOwn.never rfl (ci_list (ce_var 3)) (cg_name 14 sc.nd) (css_cons (cs_unp (ce_call 6 h6.at hr (ca_cons (ce_var 10) (ca_cons (ce_var 11) (ca_cons (ce_var 1) (ca_cons (ce_var 14) (ca_nil))))) (by decide)) (cg_tup rfl (cgs_cons (cg_name 17 sc.nd) (cgs_cons (cg_name 18 sc.nd) (cgs_nil))))) (css_cons (cs_app 13 (ce_tup (ca_cons (ce_var 14) (ca_cons (ce_bi (b_max rfl (rm70 hr) M.b_max) (cab_cons (ce_int) (cab_cons (ce_neg (ce_bin o_fdiv (ce_neg (ce_sub (ce_var 17) (ce_int))) (ce_sub (ce_var 17) (ce_int)))) (cab_nil)))) (ca_cons (ce_bi (b_max rfl (rm70 hr) M.b_max) (cab_cons (ce_int) (cab_cons (ce_neg (ce_bin o_fdiv (ce_neg (ce_sub (ce_var 18) (ce_int))) (ce_sub (ce_var 18) (ce_int)))) (cab_nil)))) (ca_cons (ce_and (ce_cmp c_ge (ce_sub (ce_var 17) (ce_int)) (ce_int)) (ce_one (ce_cmp c_ge (ce_sub (ce_var 18) (ce_int)) (ce_int)))) (ca_nil))))))) (css_kill [14, 17, 18] css_nil))))) (css_cons (cs_set 15 sc.nd (ce_sub (ce_var 13) (ce_callIO 5 0 h5.at hr (ca_cons (ce_bi (b_len M.b_len) (cab_cons (ce_var 13) (cab_nil))) (ca_nil)) (by decide)))) (css_cons (cs_kill [16, 19, 12] (cs_for PassesOwn.never rfl (ci_list (ce_lst (ca_cons (ce_tup (ca_cons (ce_bi (b_min rfl (rm70 hr) M.b_min) (cab_cons (ce_int) (cab_cons (ce_sub (ce_var 15) (ce_int)) (cab_nil)))) (ca_cons (ce_bi (b_min rfl (rm70 hr) M.b_min) (cab_cons (ce_int) (cab_cons (ce_sub (ce_var 15) (ce_int)) (cab_nil)))) (ca_nil)))) (ca_cons (ce_tup (ca_cons (ce_int) (ca_cons (ce_int) (ca_nil)))) (ca_cons (ce_tup (ca_cons (ce_callIO 5 0 h5.at hr (ca_cons (ce_int) (ca_nil)) (by decide)) (ca_cons (ce_callIO 5 0 h5.at hr (ca_cons (ce_int) (ca_nil)) (by decide)) (ca_nil)))) (ca_nil)))))) (cg_name 16 sc.nd) (css_cons (cs_setLc 19 rfl sc.nd (ci_list (ce_var 13)) (blkOk_by (own := [("row", 14), ("one", 17), ("two", 18), ("stands", 20)]) (by rfl)) (cblk (fun _ _ _ _ _ => cg_tup rfl (cgs_cons (cg_name 14 sc.nd) (cgs_cons (cg_name 17 sc.nd) (cgs_cons (cg_name 18 sc.nd) (cgs_cons (cg_name 20 sc.nd) (cgs_nil)))))) (fun _ _ _ _ _ => cts_one (CW.ct (cw_and (ct_val (ce_var 20)) (cw_and (ct_cmp c_le (ce_var 17) (ce_sub (ce_var 16) (ce_int))) (cw_and1 (ct_cmp c_le (ce_var 18) (ce_sub (ce_var 16) (ce_int)))))))) (fun _ _ _ _ _ => ce_var 14))) (css_cons (cs_set 12 sc.nd (ce_ife (ct_cmp (c_ne (rm64 hr)) (ce_var 19) (ce_lst (ca_nil))) (ce_sub (ce_var 19) (ce_int)) (ce_non))) (css_cons (cs_if (ct_not (ct_val (ce_call 2 h2.at hr (ca_cons (ce_lst (ca_cons (ce_call 12 h12.at hr (ca_cons (ce_var 10) (ca_cons (ce_var 11) (ca_cons (ce_var 1) (ca_cons (ce_var 2) (ca_cons (ce_var 16) (ca_nil)))))) (by decide)) (ca_cons (ce_callK 11 h11.at hr (ck_cons (ce_var 16) (ck_cons (ce_var 2) (ck_cons (ce_var 1) (ck_cons (ce_var 11) (ck_cons (ce_var 10) (ck_nil)))))) (by decide)) (ca_nil)))) (ca_cons (ce_lst (ca_cons (ce_var 12) (ca_cons (ce_var 12) (ca_nil)))) (ca_nil))) (by decide)))) (css_one (cs_ret (ce_bl))) (css_nil)) (css_kill [16, 19, 12] css_nil)))))) (css_one (cs_ret (ce_bl)))))))))))))))))
theorem g__law_mirrored_right {P : Program} {w : World} {K : PySem.W.Frag} {mg : Str → Option Value} {base : Heap} {f : Addr} {fd : FuncData} {fs : FS} {k : Nat} (F : FunD K "_law_mirrored_right" "_law_mirrored_right" (defArgs Hd.s__law_mirrored_right) (defBody Hd.s__law_mirrored_right) (defScope Hd.s__law_mirrored_right) [] [] f fd) (hm : mg "_law_mirrored_right" = some (.ref f)) (ok : FnOk P w K mg base CX0 k f fd ["box", "positions", "weights", "rows", "least"] (spFS K fs)) :
    FnG P w K mg base "_law_mirrored_right" ["box", "positions", "weights", "rows", "least"] fs k := .of F hm ok fun _ _ _ _ _ _ us hl => match us, hl with | [_, _, _, _, _], _ => rfl
/-! ### law -/
def m_law : MS := .seq (.seq (.kill [1, 2]) (.forr (.nm 1) (.rng1 (.lit (.int 3))) (.seq (.set 2 (.call 0 (.cons (.call 1 (.cons (.var 0) (.cons (.var 1) (.nil)))) (.nil)))) (.seq (.ite (.or (.not (.callIO 2 2 (.cons (.cmp .eq (.var 1) (.lit (.int 0))) (.nil)))) (.not (.callIO 2 2 (.cons (.lit (.bl false)) (.nil))))) (.ret (.lit (.bl false))) (.skip)) (.seq (.kill [1, 2]) .skip))))) (.ret (.lit (.bl true)))
theorem sc_law : FnScope ["script", "k", "box"] ["script"] (defScope Hd.s_law) := ⟨rfl, rfl, rfl, by decide +kernel, rfl, by decide +kernel, by decide +kernel⟩
theorem ok_law {P : Program} {w : World} {K : PySem.W.Frag} {mg : Str → Option Value} {base : Heap} {f : Addr} {fd : FuncData} {fuel : List D → Nat} {f0 f1 f2 : FS} (M : Mg mg) (F : FunD K "law" "law" (defArgs Hd.s_law) (defBody Hd.s_law) (defScope Hd.s_law) [] [] f fd) (h0 : FnG P w K mg base "_law_box" ["great"] f0 1) (h1 : FnG P w K mg base "_law_cell" ["script", "k"] f1 1) (h2 : FnG P w K mg base "_law_right" ["box", "great"] f2 8) :
    FnOk P w K mg base CX0 9 f fd ["script"] (spFS K (fsOf (tbl [f0, f1, f2]) fuel m_law 3 1 false false)) := by
  have sc := sc_law
  refine fn_pure (N := ["script", "k", "box"]) (k := 8) F sc (by decide) fun cdv A outer s H E n hr => ?_
  exact css_cons (cs_kill [1, 2] (cs_for PassesOwn.never rfl (ci_rng1 M.b_range (ce_int)) (cg_name 1 sc.nd) (css_cons (cs_set 2 sc.nd (ce_call 0 h0.at hr (ca_cons (ce_call 1 h1.at hr (ca_cons (ce_var 0) (ca_cons (ce_var 1) (ca_nil))) (by decide)) (ca_nil)) (by decide))) (css_cons (cs_if (CW.ct (cw_or (ct_not (ct_val (ce_callIO 2 2 h2.at hr (ca_cons (ce_cmp (c_eq (rm64 hr)) (ce_var 1) (ce_int)) (ca_nil)) (by decide)))) (cw_or1 (ct_not (ct_val (ce_callIO 2 2 h2.at hr (ca_cons (ce_bl) (ca_nil)) (by decide))))))) (css_one (cs_ret (ce_bl))) (css_nil)) (css_kill [1, 2] css_nil))))) (css_one (cs_ret (ce_bl)))
theorem g_law {P : Program} {w : World} {K : PySem.W.Frag} {mg : Str → Option Value} {base : Heap} {f : Addr} {fd : FuncData} {fs : FS} {k : Nat} (F : FunD K "law" "law" (defArgs Hd.s_law) (defBody Hd.s_law) (defScope Hd.s_law) [] [] f fd) (hm : mg "law" = some (.ref f)) (ok : FnOk P w K mg base CX0 k f fd ["script"] (spFS K fs)) :
    FnG P w K mg base "law" ["script"] fs k := .of F hm ok fun _ _ _ _ _ _ us hl => match us, hl with | [_], _ => rfl
end W
set_option maxHeartbeats 4000000
/-! The worth of the checks. -/
namespace W
open PySem PySem.Spec PyProof.Rows L2 PL
/-- a plain worth -/
def fsR (ar : Nat) (run : List D → Option D) : FS := ⟨ar, false, false, fun ds => (run ds).map fun d => (d, .non)⟩
@[simp] theorem fsR_io {ar : Nat} {run : List D → Option D} : (fsR ar run).io = false := rfl
@[simp] theorem fsR_ar {ar : Nat} {run : List D → Option D} : (fsR ar run).ar = ar := rfl
@[simp] theorem fsR_fresh {ar : Nat} {run : List D → Option D} : (fsR ar run).fresh = false := rfl
@[simp] theorem fsR_run {ar : Nat} {run : List D → Option D} {ds : List D} : (fsR ar run).run ds = (run ds).map fun d => (d, D.non) := rfl
@[simp] theorem tbl_z {f : FS} {r : List FS} : tbl (f :: r) 0 = f := rfl
@[simp] theorem tbl_s {f : FS} {r : List FS} {n : Nat} : tbl (f :: r) (n + 1) = tbl r n := rfl
/-- the def's own worth gives the plain one -/
theorem imp_of {Φ : Nat → FS} {fuel : List D → Nat} {m : MS} {n ar : Nat} {run : List D → Option D} (h : ∀ ds d, run ds = some d → ∃ d2, runF Φ fuel m n false false ds = some (d, d2)) :
    ∀ ds d d1, (fsR ar run).run ds = some (d, d1) → ∃ d2, (fsOf Φ fuel m n ar false false).run ds = some (d, d2) ∧ ((fsOf Φ fuel m n ar false false).io = true → d2 = d1) := by
  intro ds d d1 e
  obtain ⟨d', e1, e2⟩ := map_inv (show (run ds).map (fun d => (d, D.non)) = some (d, d1) from e)
  cases e2
  obtain ⟨d2, h2⟩ := h ds _ e1
  exact ⟨d2, h2, fun z => nomatch z⟩
def betw (a b i : Int) : Bool := decide (a ≤ i ∧ i ≤ b)
def u_is_integer : List D → Option D
  | [.int _] => some (.bl true)
  | _ => none
def u_is_between : List D → Option D
  | [.int i, .int a, .int b] => some (.bl (betw a b i))
  | _ => none
def u_is_tuple_of : List D → Option D
  | [.tup xs, .int n] => some (.bl (decide ((xs.length : Int) = n)))
  | _ => none
def u_is_row : List D → Option D
  | [.tup xs, .int n, .int a, .int b] => (intsD xs).map fun ns => .bl (decide ((ns.length : Int) = n) && ns.all (betw a b))
  | _ => none
theorem r_is_integer : ∀ ds d, u_is_integer ds = some d → ∃ d2, runF (tbl []) (fun _ => 0) m_is_integer 1 false false ds = some (d, d2) := by
  intro ds d e
  unfold u_is_integer at e
  split at e
  · cases e
    exact ⟨_, rfl⟩
  · cases e
theorem r_is_between : ∀ ds d, u_is_between ds = some d → ∃ d2, runF (tbl [fsR 1 u_is_integer]) (fun _ => 0) m_is_between 3 false false ds = some (d, d2) := by
  intro ds d e
  unfold u_is_between at e
  split at e
  · cases e
    rename_i i a b
    refine ⟨.non, ?_⟩
    simp [runF, m_is_between, env0, getS, ev_var_eq, u_is_integer]
    by_cases h1 : a ≤ i <;> simp [h1, betw]
  · cases e
theorem r_is_tuple_of : ∀ ds d, u_is_tuple_of ds = some d → ∃ d2, runF (tbl []) (fun _ => 0) m_is_tuple_of 2 false false ds = some (d, d2) := by
  intro ds d e
  unfold u_is_tuple_of at e
  split at e
  · cases e
    rename_i xs n
    refine ⟨.non, ?_⟩
    simp [runF, m_is_tuple_of, env0, getS, ev_var_eq, tyB]
  · cases e
theorem r_is_row : ∀ ds d, u_is_row ds = some d → ∃ d2, runF (tbl [fsR 2 u_is_tuple_of, fsR 3 u_is_between]) (fun _ => 0) m_is_row 5 false false ds = some (d, d2) := by
  intro ds d e
  unfold u_is_row at e
  split at e
  · rename_i xs n a b
    obtain ⟨ns, e1, e2⟩ := map_inv e
    cases e2
    have := intsD_inv e1
    subst this
    refine ⟨.non, ?_⟩
    have hc : compE (tbl [fsR 2 u_is_tuple_of, fsR 3 u_is_between]) [4] (.nm 4) (.lit (.bl true)) (.call 1 (.cons (.var 4) (.cons (.var 2) (.cons (.var 3) (.nil))))) (ns.map .int) [.im (.tup (ns.map .int)), .im (.int n), .im (.int a), .im (.int b), .un] = some ((ns.map (betw a b)).map .bl, [.im (.tup (ns.map .int)), .im (.int n), .im (.int a), .im (.int b), .un]) := by
      rw [List.map_map]
      refine compE_m .int _ ns rfl fun x _ => ?_
      simp [getS, ev_var_eq, u_is_between]
    by_cases hl : (ns.length : Int) = n
    · simp [runF, m_is_row, env0, getS, ev_var_eq, u_is_tuple_of, seqK, noOwn_cons, hl, hc, bi_all (blsD_comp _ _), List.all_map]
    · simp [runF, m_is_row, env0, getS, ev_var_eq, u_is_tuple_of, hl]
  · cases e
def u_are_numbers : List D → Option D
  | [.tup xs, .int f, .int m, .int a, .int b] => (intsD xs).map fun ns => .bl ((betw f m ns.length) && ns.all (betw a b))
  | _ => none
theorem r_are_numbers : ∀ ds d, u_are_numbers ds = some d → ∃ d2, runF (tbl [fsR 4 u_is_row]) (fun _ => 0) m_are_numbers 5 false false ds = some (d, d2) := by
  intro ds d e
  unfold u_are_numbers at e
  split at e
  · rename_i xs f m a b
    obtain ⟨ns, e1, e2⟩ := map_inv e
    cases e2
    have := intsD_inv e1
    subst this
    refine ⟨.non, ?_⟩
    by_cases h1 : f ≤ ns.length <;> by_cases h2 : (ns.length : Int) ≤ m <;> simp [runF, m_are_numbers, env0, getS, ev_var_eq, tyB, u_is_row, betw, h1, h2]
  · cases e
def rising (ns : List Int) : Bool := (ns.zip ns.tail).all fun p => decide (p.1 < p.2)
theorem pairsD_ints : ∀ (xs ys : List Int), pairsD (xs.map .int) (ys.map .int) = (xs.zip ys).map fun p => .tup [.int p.1, .int p.2]
  | [], _ => by simp [pairsD]
  | _ :: _, [] => by simp [pairsD]
  | x :: xs, y :: ys => by simp [pairsD, pairsD_ints xs ys]
theorem cutD_tail (xs : List D) : PL.cutD xs (some 1) none = xs.tail := by
  unfold PL.cutD
  rw [HT.sIx_none]
  cases xs with
  | nil => rfl
  | cons x xs =>
    have : HT.sIx (x :: xs).length 0 (some 1) = 1 := by
      rw [show (1 : Int) = ((1 : Nat) : Int) from rfl, HT.sIx_nat]
      simp
    rw [this]
    simp
def u_is_rising : List D → Option D
  | [.tup xs] => (intsD xs).map fun ns => .bl (rising ns)
  | _ => none
theorem r_is_rising : ∀ ds d, u_is_rising ds = some d → ∃ d2, runF (tbl []) (fun _ => 0) m_is_rising 3 false false ds = some (d, d2) := by
  intro ds d e
  unfold u_is_rising at e
  split at e
  · rename_i xs
    obtain ⟨ns, e1, e2⟩ := map_inv e
    cases e2
    have := intsD_inv e1
    subst this
    refine ⟨.non, ?_⟩
    have hc : compE (tbl []) [1, 2] (.tp (.cons (.nm 1) (.cons (.nm 2) (.nil)))) (.lit (.bl true)) (.cmp .lt (.var 1) (.var 2)) ((ns.zip ns.tail).map fun p => .tup [.int p.1, .int p.2]) [.im (.tup (ns.map .int)), .un, .un] = some (((ns.zip ns.tail).map fun p => decide (p.1 < p.2)).map .bl, [.im (.tup (ns.map .int)), .un, .un]) := by
      rw [List.map_map]
      refine compE_m _ _ _ rfl fun x _ => ?_
      simp [getS, ev_var_eq]
    have hp : pairsD (ns.map D.int) (ns.map D.int).tail = (ns.zip ns.tail).map fun p => .tup [.int p.1, .int p.2] := by
      rw [← List.map_tail, pairsD_ints]
    simp [runF, m_is_rising, env0, getS, ev_var_eq, seqOf, noOwn_cons, intOf, partD, sliceF, cutD_tail, hp, hc, bi_all (blsD_comp _ _), List.all_map, rising]
  · cases e
def lowT (n d : Int) : D := .tup [.int (n / ((Nat.gcd n.natAbs d.natAbs : Nat) : Int)), .int (d / ((Nat.gcd n.natAbs d.natAbs : Nat) : Int))]
def u_lowest : List D → Option D
  | [.int n, .int d] => if 0 < d ∧ d < B64 then some (lowT n d) else none
  | _ => none
theorem gcd_bd {n d : Int} (h : 0 < d) (h2 : d < B64) : 0 < ((Nat.gcd n.natAbs d.natAbs : Nat) : Int) ∧ ((Nat.gcd n.natAbs d.natAbs : Nat) : Int) < B64 := by
  have h1 : Nat.gcd n.natAbs d.natAbs ≤ d.natAbs := Nat.gcd_le_right _ (by omega)
  have h3 : 0 < Nat.gcd n.natAbs d.natAbs := Nat.gcd_pos_of_pos_right _ (by omega)
  omega
theorem r_lowest : ∀ ds d, u_lowest ds = some d → ∃ d2, runF (tbl []) (fun _ => 0) m_lowest 3 false false ds = some (d, d2) := by
  intro ds d e
  unfold u_lowest at e
  split at e
  · rename_i n d'
    obtain ⟨⟨h1, h2⟩, e2⟩ := ite_inv e
    cases e2
    obtain ⟨g1, g2⟩ := gcd_bd (n := n) h1 h2
    refine ⟨.non, ?_⟩
    have hn : ¬ d' < 0 := by omega
    have hl : 2 ≤ sizeLine := by decide
    simp [runF, m_lowest, env0, getS, ev_var_eq, hn, bin_fdiv g1 g2, hl, lowT]
  · cases e
def u_whole : List D → Option D
  | [.int n] => some (.tup [.int n, .int 1])
  | _ => none
theorem r_whole : ∀ ds d, u_whole ds = some d → ∃ d2, runF (tbl []) (fun _ => 0) m_whole 1 false false ds = some (d, d2) := by
  intro ds d e
  unfold u_whole at e
  split at e
  · cases e
    have hl : 2 ≤ sizeLine := by decide
    exact ⟨.non, by simp [runF, m_whole, env0, getS, ev_var_eq, hl]⟩
  · cases e
def u_subtract : List D → Option D
  | [.tup [.int a, .int b], .tup [.int c, .int d]] => if (sml a = true ∧ sml b = true) ∧ sml c = true ∧ 0 < b * d ∧ b * d < B64 then some (lowT (a * d - c * b) (b * d)) else none
  | _ => none
theorem r_subtract : ∀ ds d, u_subtract ds = some d → ∃ d2, runF (tbl [fsR 2 u_lowest]) (fun _ => 0) m_subtract 2 false false ds = some (d, d2) := by
  intro ds d e
  unfold u_subtract at e
  split at e
  · rename_i a b c d'
    obtain ⟨⟨⟨h1, h2⟩, h3, h4, h5⟩, e2⟩ := ite_inv e
    cases e2
    refine ⟨.non, ?_⟩
    have q0 : ∀ x y : D, atI [x, y] 0 = some x := fun x y => rfl
    have q1 : ∀ x y : D, atI [x, y] 1 = some y := fun x y => rfl
    simp [runF, m_subtract, env0, getS, ev_var_eq, ixF, q0, q1, bin_mul (sml_mul h1), bin_mul (sml_mul h2), bin_mul (sml_mul h3), u_lowest, h4, h5]
  · cases e
def u_check_number : List D → Option D
  | [.int i, .int a, .int b] => if betw a b i = true then some .non else none
  | _ => none
theorem r_check_number : ∀ ds d, u_check_number ds = some d → ∃ d2, runF (tbl [fsR 3 u_is_between]) (fun _ => 0) m_check_number 3 false false ds = some (d, d2) := by
  intro ds d e
  unfold u_check_number at e
  split at e
  · obtain ⟨h, e2⟩ := ite_inv e
    cases e2
    exact ⟨.non, by simp [runF, m_check_number, env0, getS, ev_var_eq, u_is_between, h]⟩
  · cases e
def okP (ns : List Int) : Bool := (betw 1 8 ns.length && ns.all (betw (-20) 20)) && rising ns
def okW (n : Nat) (ws : List Int) : Bool := decide ((ws.length : Int) = n) && ws.all (betw 0 100)
def u_check_positions : List D → Option D
  | [.tup xs] => (intsD xs).bind fun ns => if okP ns = true then some .non else none
  | _ => none
theorem r_check_positions : ∀ ds d, u_check_positions ds = some d → ∃ d2, runF (tbl [fsR 5 u_are_numbers, fsR 1 u_is_rising]) (fun _ => 0) m_check_positions 1 false false ds = some (d, d2) := by
  intro ds d e
  unfold u_check_positions at e
  split at e
  · rename_i xs
    obtain ⟨ns, e1, e2⟩ := bind_inv e
    obtain ⟨h, e2⟩ := ite_inv e2
    cases e2
    have := intsD_inv e1
    subst this
    unfold okP at h
    rw [Bool.and_eq_true, Bool.and_eq_true] at h
    exact ⟨.non, by simp [runF, m_check_positions, env0, getS, ev_var_eq, u_are_numbers, u_is_rising, h]⟩
  · cases e
def u_check_loads : List D → Option D
  | [.tup ps, .tup xs] => (intsD xs).bind fun ws => if okW ps.length ws = true then some .non else none
  | _ => none
theorem r_check_loads : ∀ ds d, u_check_loads ds = some d → ∃ d2, runF (tbl [fsR 4 u_is_row]) (fun _ => 0) m_check_loads 2 false false ds = some (d, d2) := by
  intro ds d e
  unfold u_check_loads at e
  split at e
  · rename_i ps xs
    obtain ⟨ns, e1, e2⟩ := bind_inv e
    obtain ⟨h, e2⟩ := ite_inv e2
    cases e2
    have := intsD_inv e1
    subst this
    unfold okW at h
    rw [Bool.and_eq_true] at h
    exact ⟨.non, by simp [runF, m_check_loads, env0, getS, ev_var_eq, u_is_row, h]⟩
  · cases e
theorem r_check_weights : ∀ ds d, u_check_loads ds = some d → ∃ d2, runF (tbl [fsR 4 u_is_row]) (fun _ => 0) m_check_weights 2 false false ds = some (d, d2) := by
  intro ds d e
  unfold u_check_loads at e
  split at e
  · rename_i ps xs
    obtain ⟨ns, e1, e2⟩ := bind_inv e
    obtain ⟨h, e2⟩ := ite_inv e2
    cases e2
    have := intsD_inv e1
    subst this
    unfold okW at h
    rw [Bool.and_eq_true] at h
    exact ⟨.non, by simp [runF, m_check_weights, env0, getS, ev_var_eq, u_is_row, h]⟩
  · cases e
def u_check_slack : List D → Option D
  | [.int i] => if betw 0 20000 i = true then some .non else none
  | _ => none
theorem r_check_slack : ∀ ds d, u_check_slack ds = some d → ∃ d2, runF (tbl [fsR 3 u_check_number]) (fun _ => 0) m_check_slack 1 false false ds = some (d, d2) := by
  intro ds d e
  unfold u_check_slack at e
  split at e
  · obtain ⟨h, e2⟩ := ite_inv e
    cases e2
    exact ⟨.non, by simp [runF, m_check_slack, env0, getS, ev_var_eq, u_check_number, h]⟩
  · cases e
end W
set_option maxHeartbeats 4000000
/-! The worth of the sums, the fractions, the masks. -/
namespace W
open PySem PySem.Spec PyProof.Rows L2 PL
/-! ### masks -/
theorem bor_nat (a b : Nat) : Builtin.bitOr (a : Int) (b : Int) = ((a ||| b : Nat) : Int) := by
  have e1 : Builtin.bitNot (a : Int) < 0 := by
    show -(a : Int) - 1 < 0
    omega
  have e2 : Builtin.bitNot (b : Int) < 0 := by
    show -(b : Int) - 1 < 0
    omega
  have n1 : Builtin.bitNot (Builtin.bitNot (a : Int)) = a := by
    show -(-(a : Int) - 1) - 1 = a
    omega
  have n2 : Builtin.bitNot (Builtin.bitNot (b : Int)) = b := by
    show -(-(b : Int) - 1) - 1 = b
    omega
  unfold Builtin.bitOr Builtin.bitAnd
  rw [decide_eq_false (by omega), decide_eq_false (by omega)]
  show Builtin.bitNot (Builtin.bitNot (((Builtin.bitNot (Builtin.bitNot (a : Int))).toNat ||| (Builtin.bitNot (Builtin.bitNot (b : Int))).toNat : Nat) : Int)) = _
  rw [n1, n2, Int.toNat_natCast, Int.toNat_natCast]
  show -(-((a ||| b : Nat) : Int) - 1) - 1 = _
  omega
theorem bit_of (M i : Nat) : Builtin.bitAnd ((M : Int) / 2 ^ i) 1 = if M.testBit i = true then 1 else 0 := by
  rw [bitAnd_m1]
  have e : ((M : Int) / 2 ^ i) % 2 = ((M / 2 ^ i % 2 : Nat) : Int) := by
    have e2 : ((2 : Int) ^ i) = ((2 ^ i : Nat) : Int) := by rw [Int.natCast_pow]; rfl
    rw [e2]
    rfl
  rw [e]
  have h := Nat.testBit_eq_decide_div_mod_eq (x := M) (i := i)
  have h2 := Nat.mod_two_eq_zero_or_one (M / 2 ^ i)
  rw [h]
  rcases h2 with h2 | h2 <;> simp [h2]
theorem shl_one (i : Nat) : (1 : Int) * 2 ^ i = ((2 ^ i : Nat) : Int) := by
  rw [Int.one_mul, Int.natCast_pow]
  rfl
theorem dec_bit0 (M i : Nat) : decide ((if M.testBit i = true then (1 : Int) else 0) = 0) = !M.testBit i := by
  cases M.testBit i <;> rfl
theorem dec_bit1 (M i : Nat) : decide ((if M.testBit i = true then (1 : Int) else 0) = 1) = M.testBit i := by
  cases M.testBit i <;> rfl
theorem bin_shr_nat (M i : Nat) : binF .shr (.int M) (.int i) = some (.int ((M : Int) / 2 ^ i), false) := by
  rw [bin_shr (by omega), Int.toNat_natCast]
/-- the number of one bit -/
def bt (i : Nat) : Nat := 2 ^ i
theorem bt_test (i j : Nat) : (bt i).testBit j = decide (i = j) := by
  unfold bt
  rw [Nat.testBit_two_pow]
theorem bin_shl_nat {i : Nat} (h : i ≤ 1000000) : binF .shl (.int 1) (.int i) = some (.int (bt i : Nat), false) := by
  rw [bin_shl (by omega) (by omega) (by decide), Int.toNat_natCast, shl_one]
  rfl
theorem bin_bor_nat (a b : Nat) : binF .bor (.int a) (.int b) = some (.int ((a ||| b : Nat) : Int), false) := by
  rw [bin_bor, bor_nat]
theorem bin_bit (M i : Nat) : binF .band (.int ((M : Int) / 2 ^ i)) (.int 1) = some (.int (if M.testBit i = true then 1 else 0), false) := by
  rw [bin_band, bit_of]
/-! ### sums -/
def allS (fs : List Int) : Bool := fs.all sml
theorem allS_mem {fs : List Int} (h : allS fs = true) : ∀ x ∈ fs, sml x = true := List.all_eq_true.mp h
theorem allS_of {fs : List Int} (h : ∀ x ∈ fs, sml x = true) : allS fs = true := List.all_eq_true.mpr h
def dot (ps ws : List Int) : Int := ((ps.zip ws).map fun p => p.1 * p.2).sum
def u_product_sum : List D → Option D
  | [x, y] => ((seqOf x).bind intsD).bind fun fs => ((seqOf y).bind intsD).bind fun ws => if allS fs = true then some (.int (dot fs ws)) else none
  | _ => none
theorem ints_seq {x : D} {fs : List Int} (h : (seqOf x).bind intsD = some fs) : seqOf x = some (fs.map .int) := by
  obtain ⟨xs, h1, h2⟩ := bind_inv h
  rw [h1, intsD_inv h2]
theorem r_product_sum : ∀ ds d, u_product_sum ds = some d → ∃ d2, runF (tbl []) (fun _ => 0) m_product_sum 4 false false ds = some (d, d2) := by
  intro ds d e
  unfold u_product_sum at e
  split at e
  · rename_i x y
    obtain ⟨fs, e1, e⟩ := bind_inv e
    obtain ⟨ws, e2, e⟩ := bind_inv e
    obtain ⟨h, e⟩ := ite_inv e
    cases e
    have s1 := ints_seq e1
    have s2 := ints_seq e2
    refine ⟨.non, ?_⟩
    have hc : compE (tbl []) [2, 3] (.tp (.cons (.nm 2) (.cons (.nm 3) (.nil)))) (.lit (.bl true)) (.bin .mul (.var 2) (.var 3)) ((fs.zip ws).map fun p => .tup [.int p.1, .int p.2]) [.im x, .im y, .un, .un] = some ((fs.zip ws).map fun p => .int (p.1 * p.2), [.im x, .im y, .un, .un]) := by
      refine compE_m _ _ _ rfl fun p hp => ?_
      have hm : sml p.1 = true := allS_mem h p.1 (List.of_mem_zip hp).1
      simp [getS, ev_var_eq, bin_mul (sml_mul hm)]
    have hs : biF .sum [.lst ((fs.zip ws).map fun p => .int (p.1 * p.2))] = some (.int (dot fs ws), false) := bi_sum (by
      show intsD _ = _
      rw [intsD_fun]
      try rfl)
    simp [runF, m_product_sum, env0, getS, ev_var_eq, s1, s2, pairsD_ints, noOwn_cons, hc, hs]
  · cases e
theorem sml_small {i : Int} (h1 : -1000000 ≤ i) (h2 : i ≤ 1000000) : sml i = true := sml_of (by omega) (by omega)
theorem okP_sml {ps : List Int} (h : okP ps = true) : allS ps = true := by
  unfold okP at h
  rw [Bool.and_eq_true, Bool.and_eq_true] at h
  refine allS_of fun p hp => ?_
  have := of_decide_eq_true (List.all_eq_true.mp h.1.2 p hp)
  exact sml_small (by omega) (by omega)
def u_moment : List D → Option D
  | [.tup xs, .tup ys] => (intsD xs).bind fun ps => (intsD ys).bind fun ws => if okP ps = true ∧ okW ps.length ws = true then some (.int (dot ps ws)) else none
  | _ => none
theorem r_moment : ∀ ds d, u_moment ds = some d → ∃ d2, runF (tbl [fsR 1 u_check_positions, fsR 2 u_check_loads, fsR 2 u_product_sum]) (fun _ => 0) m_moment 2 false false ds = some (d, d2) := by
  intro ds d e
  unfold u_moment at e
  split at e
  · obtain ⟨ps, e1, e⟩ := bind_inv e
    obtain ⟨ws, e2, e⟩ := bind_inv e
    obtain ⟨⟨h1, h2⟩, e⟩ := ite_inv e
    cases e
    cases intsD_inv e1
    cases intsD_inv e2
    exact ⟨.non, by simp [runF, m_moment, env0, getS, ev_var_eq, u_check_positions, u_check_loads, u_product_sum, seqOf, h1, h2, okP_sml h1]⟩
  · cases e
def u_check_axles : List D → Option D
  | [.int l, .int r] => if betw (-20) 20 l = true ∧ betw (l + 1) 20 r = true then some .non else none
  | _ => none
theorem r_check_axles : ∀ ds d, u_check_axles ds = some d → ∃ d2, runF (tbl [fsR 3 u_check_number, fsR 3 u_is_between]) (fun _ => 0) m_check_axles 2 false false ds = some (d, d2) := by
  intro ds d e
  unfold u_check_axles at e
  split at e
  · obtain ⟨⟨h1, h2⟩, e⟩ := ite_inv e
    cases e
    exact ⟨.non, by simp [runF, m_check_axles, env0, getS, ev_var_eq, u_check_number, u_is_between, h1, h2]⟩
  · cases e
/-! ### the law's own -/
def u_law_moment : List D → Option D
  | [.tup xs, .tup ys] => (intsD xs).bind fun ps => (intsD ys).bind fun ws => if allS ps = true then some (.int (dot ps ws)) else none
  | _ => none
theorem r_law_moment : ∀ ds d, u_law_moment ds = some d → ∃ d2, runF (tbl []) (fun _ => 0) m__law_moment 4 false false ds = some (d, d2) := by
  intro ds d e
  unfold u_law_moment at e
  split at e
  · rename_i xs ys
    obtain ⟨fs, e1, e⟩ := bind_inv e
    obtain ⟨ws, e2, e⟩ := bind_inv e
    obtain ⟨h, e⟩ := ite_inv e
    cases e
    refine r_product_sum [.tup xs, .tup ys] _ ?_
    simp [u_product_sum, seqOf, e1, e2, h]
  · cases e
def gcdI (a b : Int) : Int := ((Nat.gcd a.natAbs b.natAbs : Nat) : Int)
def u_law_gcd : List D → Option D
  | [.int a, .int b] => some (.int (gcdI a b))
  | _ => none
theorem while_gcd (a b : Nat) : ∀ n, b < n → whileE (tbl []) n (.cmp .ne (.var 1) (.lit (.int 0))) (.seq (.par2 0 1 (.var 1) (.bin .mod (.var 0) (.var 1))) (.skip)) n [.im (.int a), .im (.int b)] = some (.nx [.im (.int (Nat.gcd a b : Nat)), .im (.int 0)]) := by
  suffices h : ∀ N n, b < n → whileE (tbl []) N (.cmp .ne (.var 1) (.lit (.int 0))) (.seq (.par2 0 1 (.var 1) (.bin .mod (.var 0) (.var 1))) (.skip)) n [.im (.int a), .im (.int b)] = some (.nx [.im (.int (Nat.gcd a b : Nat)), .im (.int 0)]) from fun n hn => h n n hn
  intro N
  induction b using Nat.strongRecOn generalizing a with
  | ind b ih =>
    intro n hn
    cases n with
    | zero => omega
    | succ n =>
      rw [whileE_succ]
      by_cases hb : b = 0
      · subst hb
        simp [getS, ev_var_eq]
      · have h0 : (b : Int) ≠ 0 := by omega
        have hm : a % b < b := Nat.mod_lt _ (by omega)
        have e : ((a : Int) % (b : Int)) = ((a % b : Nat) : Int) := rfl
        have := ih (a % b) hm b n (by omega)
        rw [Nat.gcd_comm a b, Nat.gcd_rec b a, Nat.gcd_comm]
        simp [getS, ev_var_eq, hb, h0, bin_mod (show (0 : Int) < b by omega)]
        rw [e]
        exact this
theorem abs_nat (a : Int) : (if a < 0 then -a else a) = (a.natAbs : Int) := by split <;> omega
theorem r_law_gcd : ∀ ds d, u_law_gcd ds = some d → ∃ d2, runF (tbl []) (fun ds => match ds with
    | [_, .int b] => b.natAbs + 1
    | _ => 0) m__law_gcd 2 false false ds = some (d, d2) := by
  intro ds d e
  unfold u_law_gcd at e
  split at e
  · rename_i a b
    cases e
    refine ⟨.non, ?_⟩
    simp [runF, m__law_gcd, env0, getS, ev_var_eq, abs_nat, while_gcd, gcdI]
  · cases e
def u_law_low : List D → Option D
  | [.int n, .int d] => if 0 < d ∧ d < B64 then some (lowT n d) else none
  | _ => none
theorem r_law_low : ∀ ds d, u_law_low ds = some d → ∃ d2, runF (tbl [fsR 2 u_law_gcd]) (fun _ => 0) m__law_low 3 false false ds = some (d, d2) := by
  intro ds d e
  unfold u_law_low at e
  split at e
  · rename_i n d'
    obtain ⟨⟨h1, h2⟩, e2⟩ := ite_inv e
    cases e2
    obtain ⟨g1, g2⟩ := gcd_bd (n := n) h1 h2
    refine ⟨.non, ?_⟩
    have hn : ¬ d' < 0 := by omega
    have hl : 2 ≤ sizeLine := by decide
    simp [runF, m__law_low, env0, getS, ev_var_eq, hn, u_law_gcd, gcdI, bin_fdiv g1 g2, hl, lowT]
  · cases e
end W
set_option maxHeartbeats 4000000
/-! The worth of head_rows. -/
namespace W
open PySem PySem.Spec PyProof.Rows L2 PL
def nextOk (ws : List Int) (M k : Nat) : Bool := !M.testBit k && (k == 0 || (decide (ati ws (k - 1) ≠ ati ws k) || M.testBit (k - 1)))
def u_is_next : List D → Option D
  | [.lst xs, .int M, .int i] => (intsD xs).bind fun ws => if 0 ≤ M ∧ 0 ≤ i ∧ i < ws.length then some (.bl (nextOk ws M.toNat i.toNat)) else none
  | _ => none
theorem u_is_next_nat {ws : List Int} {M k : Nat} (h : k < ws.length) : u_is_next [.lst (ws.map .int), .int M, .int k] = some (.bl (nextOk ws M k)) := by
  simp [u_is_next, h]
theorem r_is_next : ∀ ds d, u_is_next ds = some d → ∃ d2, runF (tbl []) (fun _ => 0) m_is_next 3 false false ds = some (d, d2) := by
  intro ds d e
  unfold u_is_next at e
  split at e
  · rename_i xs M i
    obtain ⟨ws, e1, e⟩ := bind_inv e
    obtain ⟨⟨h1, h2, h3⟩, e⟩ := ite_inv e
    cases e
    cases intsD_inv e1
    obtain ⟨m, rfl⟩ := Int.eq_ofNat_of_zero_le h1
    obtain ⟨k, rfl⟩ := Int.eq_ofNat_of_zero_le h2
    have hk : k < ws.length := by omega
    refine ⟨.non, ?_⟩
    rw [Int.toNat_natCast, Int.toNat_natCast]
    have hno : nextOk ws m k = (!m.testBit k && (k == 0 || (decide (ati ws (k - 1) ≠ ati ws k) || m.testBit (k - 1)))) := rfl
    rw [hno]
    have ix : ixF (.lst (ws.map .int)) (.int k) = some (.int (ati ws k)) := atI_I hk
    cases hb : m.testBit k with
    | true => simp [runF, m_is_next, env0, getS, ev_var_eq, bin_shr_nat, bin_bit, hb, nextOk]
    | false =>
      by_cases h0 : k = 0
      · subst h0
        have hz : ((0 : Nat) : Int) = 0 := rfl
        simp only [runF, m_is_next, env0, evS_seq', evS_ite', ev_cmp, ev_bin, ev_var_eq, getS, List.map_cons, List.map_nil, List.length_cons, List.length_nil, Nat.sub_self, List.replicate_zero, List.append_nil, bw_fz, Option.bind_some, Option.map_some, rd_l, bin_shr_nat, out_some, ev_lit, bin_bit, hb, cmpF_eq_int, blOf_bl, evS_skip', andThen_nx, evS_ret', ev_or, Bool.false_eq_true, if_false]
        simp [getS, ev_var_eq, hb]
      · have hij : (k : Int) - 1 = ((k - 1 : Nat) : Int) := by omega
        have hj : k - 1 < ws.length := by omega
        have hn : ¬ (k : Int) = 0 := by omega
        generalize k - 1 = j at hij hj
        have ix2 : ixF (.lst (ws.map .int)) (.int j) = some (.int (ati ws j)) := atI_I hj
        cases hd : decide (ati ws j = ati ws k) <;> cases hb2 : m.testBit j <;> simp [runF, m_is_next, env0, getS, ev_var_eq, bin_shr_nat, bin_bit, hb, h0, hn, hij, ix, ix2, hd, hb2]
  · cases e
abbrev Hd3 := List Int × Nat × Int
def hD (h : Hd3) : D := .tup [.tup (h.1.map .int), .int h.2.1, .int h.2.2]
def stepH (fs ws : List Int) (place : Nat) (h : Hd3) : List Hd3 := ((List.range ws.length).filter (nextOk ws h.2.1)).map fun k => (h.1 ++ [ati ws k], h.2.1 ||| bt k, h.2.2 + ati fs place * ati ws k)
def heads (fs ws : List Int) : Nat → List Hd3
  | 0 => [([], 0, 0)]
  | m + 1 => (heads fs ws m).flatMap (stepH fs ws m)
def seqD (x : D) : Option (List Int) := (seqOf x).bind intsD
def u_head_rows : List D → Option D
  | [x, .lst ys, .int m] => (seqD x).bind fun fs => (intsD ys).bind fun ws => if ((allS fs = true ∧ ws.length ≤ 5) ∧ 0 ≤ m ∧ m ≤ 5) ∧ m ≤ fs.length then some (.lst ((heads fs ws m.toNat).map hD)) else none
  | _ => none
theorem ixF_seq {x : D} {fs : List Int} (h : seqD x = some fs) {k : Nat} (hk : k < fs.length) : ixF x (.int k) = some (.int (ati fs k)) := by
  obtain ⟨xs, h1, h2⟩ := bind_inv h
  cases intsD_inv h2
  cases x with
  | lst ys => cases h1; exact atI_I hk
  | tup ys => cases h1; exact atI_I hk
  | scr ns =>
    have : ns = fs := by
      have h1' : ns.map D.int = fs.map D.int := Option.some.inj h1
      have := congrArg intsD h1'
      rw [intsD_map, intsD_map] at this
      exact Option.some.inj this
    subst this
    show (atI ns (k : Int)).map D.int = _
    rw [atI_nat (j := k) (v := ati ns k) (by rw [ati, List.getD_eq_getElem?_getD, List.getElem?_eq_getElem hk]; rfl)]
    rfl
  | _ => cases h1
theorem getD_mem {fs : List Int} {k : Nat} (h : k < fs.length) : ati fs k ∈ fs := by
  rw [ati, List.getD_eq_getElem?_getD, List.getElem?_eq_getElem h]
  exact List.getElem_mem h
theorem line5 {n : Nat} (h : n ≤ 16777216) : n ≤ sizeLine := line_big h
theorem stepH_len (fs ws : List Int) (p : Nat) (h : Hd3) : (stepH fs ws p h).length ≤ ws.length := by
  unfold stepH
  rw [List.length_map]
  exact Nat.le_trans (List.length_filter_le _ _) (by rw [List.length_range]; exact Nat.le_refl _)
theorem flat_len {α β : Type} (g : α → List β) (n : Nat) (h : ∀ x, (g x).length ≤ n) : ∀ l : List α, (l.flatMap g).length ≤ l.length * n
  | [] => by simp
  | x :: l => by
    rw [List.flatMap_cons, List.length_append, List.length_cons, Nat.add_mul]
    have := h x
    have := flat_len g n h l
    omega
section
variable {fs ws : List Int} {x : D} {many place : Nat} {fnd : D}
abbrev bH1 : MS := .seq (.ite (.call 0 (.cons (.var 1) (.cons (.var 7) (.cons (.var 9) (.nil))))) (.app 5 (.tupD (.cons (.tupD (.star (.var 6) (.cons (.var 10) (.nil)))) (.cons (.bin .bor (.var 7) (.bin .shl (.lit (.int 1)) (.var 9))) (.cons (.bin .add (.var 8) (.bin .mul (.sub (.var 0) (.var 4)) (.var 10))) (.nil)))))) (.skip)) (.seq (.kill [9, 10]) .skip)
theorem inner (hx : seqD x = some fs) (hs : allS fs = true) (hw : ws.length ≤ 5) (hp : place < fs.length) (h : Hd3) (hr : h.1.length ≤ 5) (fuel : Nat) (acc : List Hd3) (ha : acc.length + 5 ≤ sizeLine) :
    forE (tbl [fsR 3 u_is_next]) fuel (.tp (.cons (.nm 9) (.cons (.nm 10) (.nil)))) bH1 (enumD 0 (ws.map .int)) [.im x, .im (.lst (ws.map .int)), .im (.int many), .im fnd, .im (.int place), .ow (.lst (acc.map hD)), .im (.tup (h.1.map .int)), .im (.int h.2.1), .im (.int h.2.2), .un, .un] =
      some (.nx [.im x, .im (.lst (ws.map .int)), .im (.int many), .im fnd, .im (.int place), .ow (.lst ((acc ++ stepH fs ws place h).map hD)), .im (.tup (h.1.map .int)), .im (.int h.2.1), .im (.int h.2.2), .un, .un]) := by
  rw [enumD_I]
  have key := forE_foldR (Φ := tbl [fsR 3 u_is_next]) (fuel := fuel) (t := .tp (.cons (.nm 9) (.cons (.nm 10) (.nil)))) (b := bH1) (fun k : Nat => .tup [.int (k : Int), .int (ati ws k)])
    (fun acc : List Hd3 => [.im x, .im (.lst (ws.map .int)), .im (.int many), .im fnd, .im (.int place), .ow (.lst (acc.map hD)), .im (.tup (h.1.map .int)), .im (.int h.2.1), .im (.int h.2.2), .un, .un])
    (fun acc k => if nextOk ws h.2.1 k = true then acc ++ [(h.1 ++ [ati ws k], h.2.1 ||| bt k, h.2.2 + ati fs place * ati ws k)] else acc) (fun rest acc => acc.length + rest.length ≤ sizeLine ∧ ∀ k ∈ rest, k < ws.length) (fun k rest acc hJ => ?_) (List.range ws.length) acc ⟨by rw [List.length_range]; omega, fun k hk => List.mem_range.mp hk⟩
  · rw [key.1, foldl_filter]
    rfl
  · obtain ⟨j1, j2⟩ := hJ
    have hk : k < ws.length := j2 k List.mem_cons_self
    rw [List.length_cons] at j1
    have fx : ixF x (.int place) = some (.int (ati fs place)) := ixF_seq hx hp
    have fm : mulOk (ati fs place) (ati ws k) = true := sml_mul (allS_mem hs _ (getD_mem hp))
    have l1 : h.1.length + 1 ≤ sizeLine := line5 (by omega)
    have l3 : 3 ≤ sizeLine := by decide
    have hal : acc.length < sizeLine := by omega
    refine ⟨⟨?_, fun k hk => j2 k (List.mem_cons_of_mem _ hk)⟩, _, rfl, ?_⟩
    · split
      · rw [List.length_append, List.length_singleton]; omega
      · omega
    · cases hn : nextOk ws h.2.1 k with
      | true => simp [bH1, getS, ev_var_eq, u_is_next_nat hk, hn, owL_of, bin_shl_nat (show k ≤ 1000000 by omega), bin_bor_nat, fx, bin_mul fm, seqOf, l1, l3, hal, slotSet, hD]
      | false => simp [bH1, getS, ev_var_eq, u_is_next_nat hk, hn]
abbrev bH2 : MS := .seq (.seq (.kill [9, 10]) (.forr (.tp (.cons (.nm 9) (.cons (.nm 10) (.nil)))) (.enum (.var 1)) bH1)) (.seq (.kill [6, 7, 8, 9, 10]) .skip)
theorem middle (hx : seqD x = some fs) (hs : allS fs = true) (hw : ws.length ≤ 5) (hp : place < fs.length) (fuel : Nat) (found acc : List Hd3) (hf : ∀ h ∈ found, h.1.length ≤ 4) (ha : acc.length + 5 * found.length ≤ sizeLine) :
    forE (tbl [fsR 3 u_is_next]) fuel (.tp (.cons (.nm 6) (.cons (.nm 7) (.cons (.nm 8) (.nil))))) bH2 (found.map hD) [.im x, .im (.lst (ws.map .int)), .im (.int many), .im fnd, .im (.int place), .ow (.lst (acc.map hD)), .un, .un, .un, .un, .un] =
      some (.nx [.im x, .im (.lst (ws.map .int)), .im (.int many), .im fnd, .im (.int place), .ow (.lst ((acc ++ found.flatMap (stepH fs ws place)).map hD)), .un, .un, .un, .un, .un]) := by
  have key := forE_foldR (Φ := tbl [fsR 3 u_is_next]) (fuel := fuel) (t := .tp (.cons (.nm 6) (.cons (.nm 7) (.cons (.nm 8) (.nil))))) (b := bH2) hD
    (fun acc : List Hd3 => [.im x, .im (.lst (ws.map .int)), .im (.int many), .im fnd, .im (.int place), .ow (.lst (acc.map hD)), .un, .un, .un, .un, .un])
    (fun acc h => acc ++ stepH fs ws place h) (fun rest acc => acc.length + 5 * rest.length ≤ sizeLine ∧ ∀ h ∈ rest, h.1.length ≤ 4) (fun h rest acc hJ => ?_) found acc ⟨ha, hf⟩
  · rw [key.1, foldl_flat]
  · obtain ⟨j1, j2⟩ := hJ
    rw [List.length_cons] at j1
    have l4 := j2 h List.mem_cons_self
    have ls := stepH_len fs ws place h
    refine ⟨⟨by rw [List.length_append]; omega, fun k hk => j2 k (List.mem_cons_of_mem _ hk)⟩, _, rfl, ?_⟩
    have hin := inner (fnd := fnd) (many := many) hx hs hw hp h (by omega) fuel acc (by omega)
    simp [bH2, getS, ev_var_eq, seqK, hD, hin]
abbrev bH3 : MS := .seq (.set 5 (.lstD (.nil))) (.seq (.seq (.kill [6, 7, 8, 9, 10]) (.forr (.tp (.cons (.nm 6) (.cons (.nm 7) (.cons (.nm 8) (.nil))))) (.seq false (.var 3)) bH2)) (.seq (.mov 3 5) (.seq (.kill [4, 5, 6, 7, 8, 9, 10]) .skip)))
theorem stepH_row {fs ws : List Int} {p : Nat} {h g : Hd3} (hg : g ∈ stepH fs ws p h) : g.1.length = h.1.length + 1 := by
  unfold stepH at hg
  obtain ⟨k, _, rfl⟩ := List.mem_map.mp hg
  simp
theorem heads_row {fs ws : List Int} : ∀ (m : Nat) {g : Hd3}, g ∈ heads fs ws m → g.1.length = m
  | 0, g, hg => by
    have : g = ([], 0, 0) := List.mem_singleton.mp hg
    rw [this]
    rfl
  | m + 1, g, hg => by
    obtain ⟨h, h1, h2⟩ := List.mem_flatMap.mp (show g ∈ (heads fs ws m).flatMap (stepH fs ws m) from hg)
    rw [stepH_row h2, heads_row m h1]
theorem heads_len {fs ws : List Int} (hw : ws.length ≤ 5) : ∀ m : Nat, (heads fs ws m).length ≤ 5 ^ m
  | 0 => Nat.le_refl _
  | m + 1 => by
    have h1 := flat_len (stepH fs ws m) 5 (fun x => Nat.le_trans (stepH_len fs ws m x) hw) (heads fs ws m)
    have h2 := heads_len (fs := fs) hw m
    show ((heads fs ws m).flatMap (stepH fs ws m)).length ≤ 5 ^ (m + 1)
    rw [Nat.pow_succ]
    omega
theorem outer (hx : seqD x = some fs) (hs : allS fs = true) (hw : ws.length ≤ 5) (hm : many ≤ 5) (hp : many ≤ fs.length) (fuel : Nat) :
    ∀ n, n ≤ many → forE (tbl [fsR 3 u_is_next]) fuel (.nm 4) bH3 ((List.range n).map fun k : Nat => .int (k : Int)) [.im x, .im (.lst (ws.map .int)), .im (.int many), .ow (.lst ((heads fs ws 0).map hD)), .un, .un, .un, .un, .un, .un, .un] =
      some (.nx [.im x, .im (.lst (ws.map .int)), .im (.int many), .ow (.lst ((heads fs ws n).map hD)), .un, .un, .un, .un, .un, .un, .un]) := by
  intro n hn
  have key := forE_foldR (Φ := tbl [fsR 3 u_is_next]) (fuel := fuel) (t := .nm 4) (b := bH3) (fun k : Nat => .int (k : Int))
    (fun i : Nat => [.im x, .im (.lst (ws.map .int)), .im (.int many), .ow (.lst ((heads fs ws i).map hD)), .un, .un, .un, .un, .un, .un, .un])
    (fun i _ => i + 1) (fun rest i => i + rest.length = n ∧ rest = List.range' i rest.length) (fun k rest i hJ => ?_) (List.range n) 0 ⟨by rw [List.length_range, Nat.zero_add], by rw [List.length_range, List.range_eq_range']⟩
  · have e : ∀ (l : List Nat) (i : Nat), l.foldl (fun i _ => i + 1) i = i + l.length := by
      intro l
      induction l with
      | nil => intro i; rfl
      | cons a l ih => intro i; rw [List.foldl_cons, ih, List.length_cons]; omega
    rw [key.1, e, List.length_range, Nat.zero_add]
  · obtain ⟨j1, j2⟩ := hJ
    rw [List.length_cons] at j1
    rw [List.length_cons, List.range'_succ] at j2
    injection j2 with j3 j4
    subst j3
    refine ⟨⟨by omega, j4⟩, _, rfl, ?_⟩
    have lh := heads_len (fs := fs) hw k
    have l5 : 5 ^ k ≤ 5 ^ 4 := Nat.pow_le_pow_right (by decide) (by omega)
    have hmid := middle (many := many) (fnd := .lst ((heads fs ws k).map hD)) hx hs hw (show k < fs.length by omega) fuel (heads fs ws k) [] (fun h hh => by rw [heads_row k hh]; omega) (by
      show 0 + _ ≤ _
      rw [sizeLine_eq]
      have : (5 : Nat) ^ 4 = 625 := by decide
      omega)
    have hh : heads fs ws (k + 1) = (heads fs ws k).flatMap (stepH fs ws k) := rfl
    have l0 : 0 ≤ sizeLine := Nat.zero_le _
    rw [List.map_nil, List.nil_append, ← hh] at hmid
    simp [bH3, getS, ev_var_eq, seqK, l0, hmid, evS_mov']
end
theorem hr_s1 {x : D} {fs ws : List Int} {n : Nat} : evS (tbl [fsR 3 u_is_next]) 0 (.set 3 (.lstD (.cons (.tupD (.cons (.tupD (.nil)) (.cons (.lit (.int 0)) (.cons (.lit (.int 0)) (.nil))))) (.nil)))) (env0 11 [x, .lst (ws.map .int), .int n]) =
        some (.nx [.im x, .im (.lst (ws.map .int)), .im (.int n), .ow (.lst ((heads fs ws 0).map hD)), .un, .un, .un, .un, .un, .un, .un]) := by
  have l1 : 1 ≤ sizeLine := by decide
  have l3 : 3 ≤ sizeLine := by decide
  simp [env0, l1, l3, heads, hD]
theorem r_head_rows : ∀ ds d, u_head_rows ds = some d → ∃ d2, runF (tbl [fsR 3 u_is_next]) (fun _ => 0) m_head_rows 11 false false ds = some (d, d2) := by
  intro ds d e
  unfold u_head_rows at e
  split at e
  · rename_i x ys m
    obtain ⟨fs, e1, e⟩ := bind_inv e
    obtain ⟨ws, e2, e⟩ := bind_inv e
    obtain ⟨⟨⟨⟨h1, h2⟩, h3, h4⟩, h5⟩, e⟩ := ite_inv e
    cases e
    cases intsD_inv e2
    obtain ⟨n, rfl⟩ := Int.eq_ofNat_of_zero_le h3
    have ho := outer (many := n) e1 h1 h2 (by omega) (by omega) 0 n (Nat.le_refl _)
    have hn : n ≤ 1000000 := by omega
    have s2 : evS (tbl [fsR 3 u_is_next]) 0 (.seq (.kill [4, 5, 6, 7, 8, 9, 10]) (.forr (.nm 4) (.rng1 (.var 2)) bH3)) [.im x, .im (.lst (ws.map .int)), .im (.int n), .ow (.lst ((heads fs ws 0).map hD)), .un, .un, .un, .un, .un, .un, .un] =
        some (.nx [.im x, .im (.lst (ws.map .int)), .im (.int n), .ow (.lst ((heads fs ws n).map hD)), .un, .un, .un, .un, .un, .un, .un]) := by
      simp [getS, ev_var_eq, rngG_nat hn, ho]
    refine ⟨.non, ?_⟩
    show (evS (tbl [fsR 3 u_is_next]) 0 (.seq (.set 3 (.lstD (.cons (.tupD (.cons (.tupD (.nil)) (.cons (.lit (.int 0)) (.cons (.lit (.int 0)) (.nil))))) (.nil)))) (.seq (.seq (.kill [4, 5, 6, 7, 8, 9, 10]) (.forr (.nm 4) (.rng1 (.var 2)) bH3)) (.ret (.var 3)))) (env0 11 [x, .lst (ws.map .int), .int n])).bind (endF false) = _
    rw [evS_seq', hr_s1, andThen_nx, evS_seq', s2, andThen_nx]
    simp [getS, ev_var_eq]
  · cases e
end W
set_option maxHeartbeats 4000000
/-! The worth of tail_sums. -/
namespace W
open PySem PySem.Spec PyProof.Rows L2 PL
abbrev Bk := List (Nat × List Int)
def encB (l : Bk) : List (Key × D) := l.map fun p => (.inl (p.1 : Int), .lst (p.2.map .int))
def lookN : Bk → Nat → Option (List Int)
  | [], _ => none
  | p :: r, k => if p.1 = k then some p.2 else lookN r k
def hasN : Bk → Nat → Bool
  | [], _ => false
  | p :: r, k => if p.1 = k then true else hasN r k
def putN (l : Bk) (k : Nat) (v : List Int) : Bk := if hasN l k = true then l.map fun p => if p.1 = k then (p.1, v) else p else l ++ [(k, v)]
def bump (l : Bk) (k : Nat) (v : List Int) : Bk := putN l k ((lookN l k).getD [] ++ v)
theorem key_nat (a b : Nat) : ((Sum.inl (a : Int) : Key) = .inl (b : Int)) ↔ a = b := by
  constructor
  · intro h
    injection h with h
    exact Int.ofNat.inj h
  · rintro rfl
    rfl
theorem look_enc : ∀ (l : Bk) (k : Nat), lookD (encB l) (.inl (k : Int)) = (lookN l k).map fun v => .lst (v.map .int)
  | [], _ => rfl
  | p :: r, k => by
    have ih := look_enc r k
    unfold lookD encB at *
    rw [List.map_cons, List.find?_cons, lookN]
    by_cases h : p.1 = k
    · rw [if_pos h, decide_eq_true ((key_nat _ _).mpr h)]
      rfl
    · rw [if_neg h, decide_eq_false (fun z => h ((key_nat _ _).mp z))]
      exact ih
theorem any_enc : ∀ (l : Bk) (k : Nat), ((encB l).any fun kv => decide (kv.1 = (.inl (k : Int) : Key))) = hasN l k
  | [], _ => rfl
  | p :: r, k => by
    have ih := any_enc r k
    unfold encB at *
    rw [List.map_cons, List.any_cons, ih, hasN]
    by_cases h : p.1 = k
    · rw [if_pos h, decide_eq_true ((key_nat _ _).mpr h), Bool.true_or]
    · rw [if_neg h, decide_eq_false (fun z => h ((key_nat _ _).mp z)), Bool.false_or]
theorem put_enc (l : Bk) (k : Nat) (v : List Int) : putD (encB l) (.inl (k : Int)) (.lst (v.map .int)) = encB (putN l k v) := by
  unfold putD putN
  rw [any_enc]
  by_cases h : hasN l k = true
  · rw [if_pos h, if_pos h]
    unfold encB
    rw [List.map_map, List.map_map]
    refine List.map_congr_left fun p _ => ?_
    by_cases e : p.1 = k
    · simp only [Function.comp]
      rw [if_pos ((key_nat _ _).mpr e), if_pos e]
    · simp only [Function.comp]
      rw [if_neg (fun z => e ((key_nat _ _).mp z)), if_neg e]
  · rw [if_neg h, if_neg h]
    unfold encB
    rw [List.map_append]
    rfl
/-- the room that it takes -/
def wt (l : Bk) : Nat := (l.map fun p => p.2.length + 1).sum
theorem wt_cons (p : Nat × List Int) (r : Bk) : wt (p :: r) = p.2.length + 1 + wt r := by
  unfold wt
  rw [List.map_cons, List.sum_cons]
theorem look_wt : ∀ (l : Bk) (k : Nat), ((lookN l k).getD []).length ≤ wt l
  | [], _ => Nat.zero_le _
  | p :: r, k => by
    rw [lookN, wt_cons]
    by_cases h : p.1 = k
    · rw [if_pos h]
      show p.2.length ≤ _
      omega
    · rw [if_neg h]
      have := look_wt r k
      omega
theorem len_wt : ∀ l : Bk, l.length ≤ wt l
  | [] => Nat.zero_le _
  | p :: r => by
    rw [wt_cons, List.length_cons]
    have := len_wt r
    omega
/-- keys once each -/
def NdK (l : Bk) : Prop := (l.map (·.1)).Nodup
theorem map_skip (v : List Int) : ∀ (l : Bk) (k : Nat), k ∉ l.map (·.1) → (l.map fun p => if p.1 = k then (p.1, v) else p) = l
  | [], _, _ => rfl
  | p :: r, k, h => by
    rw [List.map_cons, List.mem_cons, not_or] at h
    rw [List.map_cons, if_neg (fun e => h.1 e.symm), map_skip v r k h.2]
theorem hasN_mem : ∀ (l : Bk) (k : Nat), hasN l k = true ↔ k ∈ l.map (·.1)
  | [], _ => by simp [hasN]
  | p :: r, k => by
    rw [hasN, List.map_cons, List.mem_cons]
    by_cases h : p.1 = k
    · simp [h]
    · rw [if_neg h, hasN_mem r k]
      simp [Ne.symm h]
theorem nd_put {l : Bk} (h : NdK l) (k : Nat) (v : List Int) : NdK (putN l k v) := by
  unfold putN
  by_cases e : hasN l k = true
  · rw [if_pos e]
    have : (l.map fun p => if p.1 = k then (p.1, v) else p).map (·.1) = l.map (·.1) := by
      rw [List.map_map]
      refine List.map_congr_left fun p _ => ?_
      simp only [Function.comp]
      split <;> rfl
    unfold NdK
    rw [this]
    exact h
  · rw [if_neg e]
    unfold NdK
    rw [List.map_append]
    refine List.nodup_append.mpr ⟨h, by simp, fun a ha b hb => ?_⟩
    have hbk : b = k := by simpa using hb
    rw [hbk]
    rintro rfl
    exact e ((hasN_mem l _).mpr ha)
theorem wt_bump : ∀ {l : Bk}, NdK l → ∀ (k : Nat) (v : List Int), wt (bump l k v) ≤ wt l + v.length + 1
  | [], _, k, v => by
    show wt [(k, [] ++ v)] ≤ _
    rw [wt_cons]
    simp [wt]
  | p :: r, h, k, v => by
    have hn := List.nodup_cons.mp (show (p.1 :: r.map (·.1)).Nodup from h)
    unfold bump putN
    by_cases e : p.1 = k
    · have hl : lookN (p :: r) k = some p.2 := by rw [lookN, if_pos e]
      have hh : hasN (p :: r) k = true := by rw [hasN, if_pos e]
      rw [hh, if_pos rfl, hl, List.map_cons, if_pos e, map_skip _ r k (by rw [← e]; exact hn.1), wt_cons, wt_cons]
      show (p.2 ++ v).length + 1 + _ ≤ _
      rw [List.length_append]
      omega
    · have hl : lookN (p :: r) k = lookN r k := by rw [lookN, if_neg e]
      have hh : hasN (p :: r) k = hasN r k := by rw [hasN, if_neg e]
      have ih := wt_bump (l := r) hn.2 k v
      unfold bump putN at ih
      rw [hh, hl]
      by_cases e2 : hasN r k = true
      · rw [if_pos e2] at ih ⊢
        rw [List.map_cons, if_neg e, wt_cons, wt_cons]
        omega
      · rw [if_neg e2] at ih ⊢
        rw [List.cons_append, wt_cons, wt_cons]
        omega
/-! ### the steps -/
def addItem (f : Int) (ws : List Int) (M : Nat) (sums : List Int) (longer : Bk) (k : Nat) : Bk := if M.testBit k = true then longer else bump longer (M ||| bt k) (sums.map fun here => here + f * ati ws k)
def addAll (f : Int) (ws : List Int) (longer : Bk) (p : Nat × List Int) : Bk := (List.range ws.length).foldl (addItem f ws p.1 p.2) longer
def tailN (fs ws : List Int) : Nat → Bk
  | 0 => [(0, [0])]
  | t + 1 => (tailN fs ws t).foldl (addAll (ati fs (fs.length - 1 - t)) ws) []
theorem bin_add_l {xs ys : List D} (h : xs.length + ys.length ≤ sizeLine) : binF .add (.lst xs) (.lst ys) = some (.lst (xs ++ ys), true) := if_pos h
theorem nd_bump {l : Bk} (h : NdK l) (k : Nat) (v : List Int) : NdK (bump l k v) := nd_put h _ _
theorem nd_item {f : Int} {ws : List Int} {M : Nat} {sums : List Int} {l : Bk} {k : Nat} (h : NdK l) : NdK (addItem f ws M sums l k) := by
  unfold addItem
  split
  · exact h
  · exact nd_bump h _ _
theorem wt_item {f : Int} {ws : List Int} {M : Nat} {sums : List Int} {l : Bk} {k : Nat} (h : NdK l) : wt (addItem f ws M sums l k) ≤ wt l + sums.length + 1 := by
  unfold addItem
  split
  · omega
  · have := wt_bump h (M ||| bt k) (sums.map fun here => here + f * ati ws k)
    rw [List.length_map] at this
    exact this
section
variable {fs ws : List Int} {x : D} {start place : Nat}
abbrev bT1 : MS := .seq (.ite (.cmp .eq (.bin .band (.bin .shr (.var 6) (.var 8)) (.lit (.int 1))) (.lit (.int 0))) (.seq (.set 10 (.comp [11] (.nm 11) (.seq false (.var 7)) (.lit (.bl true)) (.bin .add (.var 11) (.bin .mul (.sub (.var 0) (.var 4)) (.var 9))))) (.setKey 5 (.bin .bor (.var 6) (.bin .shl (.lit (.int 1)) (.var 8))) (.bin .add (.get2 (.var 5) (.bin .bor (.var 6) (.bin .shl (.lit (.int 1)) (.var 8))) (.lstD (.nil))) (.var 10)))) (.skip)) (.seq (.kill [8, 9, 10]) .skip)
abbrev eT (x : D) (ws : List Int) (start place : Nat) (longer : Bk) (M : Nat) (sums : List Int) : PL.Env := [.im x, .im (.lst (ws.map .int)), .im (.int start), .un, .im (.int place), .ow (.dic (encB longer)), .im (.int M), .im (.lst (sums.map .int)), .un, .un, .un, .un]
theorem t_item (hx : seqD x = some fs) (hs : allS fs = true) (hp : place < fs.length) (fuel M k : Nat) (sums : List Int) (longer : Bk) (hk : k < ws.length) (hk5 : k ≤ 5) (hnd : NdK longer) (hw : wt longer + sums.length + 1 ≤ 1000000) :
    (asgT (.tp (.cons (.nm 8) (.cons (.nm 9) (.nil)))) (.tup [.int (k : Int), .int (ati ws k)]) (eT x ws start place longer M sums)).bind (evS (tbl []) fuel bT1) = some (.nx (eT x ws start place (addItem (ati fs place) ws M sums longer k) M sums)) := by
  have fx : ixF x (.int place) = some (.int (ati fs place)) := ixF_seq hx hp
  have fm : mulOk (ati fs place) (ati ws k) = true := sml_mul (allS_mem hs _ (getD_mem hp))
  cases hb : M.testBit k with
  | true =>
    simp [eT, bT1, getS, ev_var_eq, bin_shr_nat, bin_bit, hb, addItem]
  | false =>
    have hc : ∀ (E : PL.Env), E = [.im x, .im (.lst (ws.map .int)), .im (.int start), .un, .im (.int place), .ow (.dic (encB longer)), .im (.int M), .im (.lst (sums.map .int)), .im (.int k), .im (.int (ati ws k)), .un, .un] →
        compE (tbl []) [11] (.nm 11) (.lit (.bl true)) (.bin .add (.var 11) (.bin .mul (.sub (.var 0) (.var 4)) (.var 9))) (sums.map .int) E = some ((sums.map fun here => here + ati fs place * ati ws k).map .int, E) := by
      intro E hE
      rw [List.map_map]
      refine compE_m _ _ _ rfl fun s _ => ?_
      subst hE
      simp [getS, ev_var_eq, fx, bin_mul fm]
    have hl0 : 0 ≤ sizeLine := Nat.zero_le _
    have lk := look_enc longer (M ||| bt k)
    have lw := look_wt longer (M ||| bt k)
    have ll := len_wt longer
    have hsz : ((lookN longer (M ||| bt k)).getD []).length + sums.length ≤ sizeLine := line_big (by omega)
    have hlen : (encB longer).length < sizeLine := by
      unfold encB
      rw [List.length_map, sizeLine_eq]
      omega
    have hg : (lookD (encB longer) (.inl ((M ||| bt k : Nat) : Int))).getD (.lst []) = .lst (((lookN longer (M ||| bt k)).getD []).map .int) := by
      rw [lk]
      cases lookN longer (M ||| bt k) <;> rfl
    have hadd : binF .add (.lst (((lookN longer (M ||| bt k)).getD []).map .int)) (.lst ((sums.map fun here => here + ati fs place * ati ws k).map .int)) = some (.lst ((((lookN longer (M ||| bt k)).getD []) ++ sums.map fun here => here + ati fs place * ati ws k).map .int), true) := by
      rw [bin_add_l (by rw [List.length_map, List.length_map, List.length_map]; exact hsz), List.map_append]
    have hput := put_enc longer (M ||| bt k) (((lookN longer (M ||| bt k)).getD []) ++ sums.map fun here => here + ati fs place * ati ws k)
    generalize hZ : (((lookN longer (M ||| bt k)).getD []) ++ sums.map fun here => here + ati fs place * ati ws k) = Z at hadd hput
    generalize hY : (sums.map fun here => here + ati fs place * ati ws k).map D.int = Y at hc hadd
    have hai : addItem (ati fs place) ws M sums longer k = putN longer (M ||| bt k) Z := by
      unfold addItem bump
      rw [hb, if_neg Bool.false_ne_true, hZ]
    simp [eT, bT1, getS, ev_var_eq, bin_shr_nat, bin_bit, hb, seqK, noOwn_cons, hc _ rfl, isDicD, bin_shl_nat (show k ≤ 1000000 by omega), bin_bor_nat, hl0, keyD, hg, hadd, owK_of, hlen, hput, hai, slotSet]
theorem t_inner (hx : seqD x = some fs) (hs : allS fs = true) (hp : place < fs.length) (h5 : ws.length ≤ 5) (fuel M : Nat) (sums : List Int) (longer : Bk) (hnd : NdK longer) (hw : wt longer + 5 * (sums.length + 1) ≤ 1000000) :
    forE (tbl []) fuel (.tp (.cons (.nm 8) (.cons (.nm 9) (.nil)))) bT1 (enumD 0 (ws.map .int)) (eT x ws start place longer M sums) = some (.nx (eT x ws start place (addAll (ati fs place) ws longer (M, sums)) M sums)) ∧
      NdK (addAll (ati fs place) ws longer (M, sums)) ∧ wt (addAll (ati fs place) ws longer (M, sums)) ≤ wt longer + 5 * (sums.length + 1) := by
  rw [enumD_I]
  have key := forE_foldR (Φ := tbl []) (fuel := fuel) (t := .tp (.cons (.nm 8) (.cons (.nm 9) (.nil)))) (b := bT1) (fun k : Nat => .tup [.int (k : Int), .int (ati ws k)])
    (fun l : Bk => eT x ws start place l M sums) (addItem (ati fs place) ws M sums) (fun rest l => (NdK l ∧ wt l + rest.length * (sums.length + 1) ≤ wt longer + 5 * (sums.length + 1)) ∧ ∀ k ∈ rest, k < ws.length) (fun k rest l hJ => ?_) (List.range ws.length) longer
    ⟨⟨hnd, by rw [List.length_range]; have := Nat.mul_le_mul_right (sums.length + 1) h5; omega⟩, fun k hk => List.mem_range.mp hk⟩
  · refine ⟨key.1, key.2.1.1, ?_⟩
    have := key.2.1.2
    show wt ((List.range ws.length).foldl _ longer) ≤ _
    rw [List.length_nil, Nat.zero_mul] at this
    exact this
  · obtain ⟨⟨j1, j2⟩, j3⟩ := hJ
    have hk : k < ws.length := j3 k List.mem_cons_self
    rw [List.length_cons, Nat.add_mul, Nat.one_mul] at j2
    have wi := wt_item (f := ati fs place) (ws := ws) (M := M) (sums := sums) (k := k) j1
    obtain ⟨E1, e1, e2⟩ := bind_inv (t_item (start := start) hx hs hp fuel M k sums l hk (by omega) j1 (by omega))
    exact ⟨⟨⟨nd_item j1, by omega⟩, fun k' hk' => j3 k' (List.mem_cons_of_mem _ hk')⟩, E1, e1, e2⟩
abbrev bT2 : MS := .seq (.seq (.kill [8, 9, 10]) (.forr (.tp (.cons (.nm 8) (.cons (.nm 9) (.nil)))) (.enum (.var 1)) bT1)) (.seq (.kill [6, 7, 8, 9, 10]) .skip)
abbrev eU (x : D) (ws : List Int) (start place : Nat) (longer : Bk) : PL.Env := [.im x, .im (.lst (ws.map .int)), .im (.int start), .un, .im (.int place), .ow (.dic (encB longer)), .un, .un, .un, .un, .un, .un]
theorem t_middle (hx : seqD x = some fs) (hs : allS fs = true) (hp : place < fs.length) (h5 : ws.length ≤ 5) (fuel : Nat) (found : Bk) (hw : 5 * wt found ≤ 1000000) :
    forE (tbl []) fuel (.tp (.cons (.nm 6) (.cons (.nm 7) (.nil)))) bT2 ((encB found).map fun p => .tup [keyOfD p.1, p.2]) (eU x ws start place []) = some (.nx (eU x ws start place (found.foldl (addAll (ati fs place) ws) []))) ∧
      NdK (found.foldl (addAll (ati fs place) ws) []) ∧ wt (found.foldl (addAll (ati fs place) ws) []) ≤ 5 * wt found := by
  have hm : ((encB found).map fun p => D.tup [keyOfD p.1, p.2]) = found.map fun p => .tup [.int (p.1 : Int), .lst (p.2.map .int)] := by
    unfold encB
    rw [List.map_map]
    rfl
  rw [hm]
  have key := forE_foldR (Φ := tbl []) (fuel := fuel) (t := .tp (.cons (.nm 6) (.cons (.nm 7) (.nil)))) (b := bT2) (fun p : Nat × List Int => .tup [.int (p.1 : Int), .lst (p.2.map .int)])
    (fun l : Bk => eU x ws start place l) (addAll (ati fs place) ws) (fun rest l => NdK l ∧ wt l + 5 * wt rest ≤ 5 * wt found) (fun p rest l hJ => ?_) found [] ⟨List.nodup_nil, by show 0 + _ ≤ _; omega⟩
  · refine ⟨key.1, key.2.1, ?_⟩
    have h2 := key.2.2
    have : wt [] = 0 := rfl
    omega
  · obtain ⟨j1, j2⟩ := hJ
    rw [wt_cons] at j2
    obtain ⟨i1, i2, i3⟩ := t_inner (x := x) (start := start) hx hs hp h5 fuel p.1 p.2 l j1 (by omega)
    have i3 : wt (addAll (ati fs place) ws l p) ≤ wt l + 5 * (p.2.length + 1) := i3
    refine ⟨⟨i2, by omega⟩, _, rfl, ?_⟩
    simp only [eT] at i1
    simp [bT2, eU, getS, ev_var_eq, seqK, i1]
abbrev bT3 : MS := .seq (.set 5 (.dicD .nil .nil)) (.seq (.seq (.kill [6, 7, 8, 9, 10]) (.forD 3 (.tp (.cons (.nm 6) (.cons (.nm 7) (.nil)))) bT2)) (.seq (.mov 3 5) (.seq (.kill [4, 5, 6, 7, 8, 9, 10]) .skip)))
abbrev eV (x : D) (ws : List Int) (start : Nat) (found : Bk) : PL.Env := [.im x, .im (.lst (ws.map .int)), .im (.int start), .ow (.dic (encB found)), .un, .un, .un, .un, .un, .un, .un, .un]
theorem tail_wt (hf5 : fs.length ≤ 5) (hx : seqD x = some fs) (hs : allS fs = true) (h5 : ws.length ≤ 5) : ∀ t, t ≤ fs.length → wt (tailN fs ws t) ≤ 2 * 5 ^ t
  | 0, _ => Nat.le_refl _
  | t + 1, ht => by
    have ih := tail_wt hf5 hx hs h5 t (by omega)
    have hp : fs.length - 1 - t < fs.length := by omega
    have h4 : 5 ^ t ≤ 5 ^ 5 := Nat.pow_le_pow_right (by decide) (by omega)
    have e5 : (5 : Nat) ^ 5 = 3125 := by decide
    have := (t_middle (start := 0) hx hs hp h5 0 (tailN fs ws t) (by omega)).2.2
    show wt ((tailN fs ws t).foldl (addAll (ati fs (fs.length - 1 - t)) ws) []) ≤ 2 * 5 ^ (t + 1)
    rw [Nat.pow_succ]
    omega
theorem t_outer (hf5 : fs.length ≤ 5) (hx : seqD x = some fs) (hs : allS fs = true) (h5 : ws.length ≤ 5) (fuel n : Nat) (hn : n ≤ fs.length) :
    forE (tbl []) fuel (.nm 4) bT3 ((List.range n).map fun t : Nat => .int ((fs.length : Int) - 1 + (t : Int) * (-1))) (eV x ws start (tailN fs ws 0)) = some (.nx (eV x ws start (tailN fs ws n))) := by
  have key := forE_foldR (Φ := tbl []) (fuel := fuel) (t := .nm 4) (b := bT3) (fun t : Nat => .int ((fs.length : Int) - 1 + (t : Int) * (-1)))
    (fun i : Nat => eV x ws start (tailN fs ws i)) (fun i _ => i + 1) (fun rest i => i + rest.length = n ∧ rest = List.range' i rest.length) (fun k rest i hJ => ?_) (List.range n) 0 ⟨by rw [List.length_range, Nat.zero_add], by rw [List.length_range, List.range_eq_range']⟩
  · have e : ∀ (l : List Nat) (i : Nat), l.foldl (fun i _ => i + 1) i = i + l.length := by
      intro l
      induction l with
      | nil => intro i; rfl
      | cons a l ih => intro i; rw [List.foldl_cons, ih, List.length_cons]; omega
    rw [key.1, e, List.length_range, Nat.zero_add]
  · obtain ⟨j1, j2⟩ := hJ
    rw [List.length_cons] at j1
    rw [List.length_cons, List.range'_succ] at j2
    injection j2 with j3 j4
    subst j3
    have hp : fs.length - 1 - k < fs.length := by omega
    have hw := tail_wt hf5 hx hs h5 k (by omega)
    have h4 : 5 ^ k ≤ 5 ^ 5 := Nat.pow_le_pow_right (by decide) (by omega)
    have e5 : (5 : Nat) ^ 5 = 3125 := by decide
    have hmid := (t_middle (start := start) hx hs hp h5 fuel (tailN fs ws k) (by omega)).1
    have hpl : (fs.length : Int) - 1 + (k : Int) * (-1) = ((fs.length - 1 - k : Nat) : Int) := by omega
    have ht : tailN fs ws (k + 1) = (tailN fs ws k).foldl (addAll (ati fs (fs.length - 1 - k)) ws) [] := rfl
    rw [← ht] at hmid
    have he : ([] : List (Key × D)) = encB [] := rfl
    refine ⟨⟨by omega, j4⟩, _, rfl, ?_⟩
    simp only [eU] at hmid
    rw [hpl]
    generalize ((fs.length - 1 - k : Nat) : Int) = pl at hmid ⊢
    rw [show encB [] = [] from rfl] at hmid
    simp [bT3, eV, getS, ev_var_eq, owK_of, evS_mov', hmid]
def u_tail_sums : List D → Option D
  | [x, .lst ys, .int m] => (seqD x).bind fun fs => (intsD ys).bind fun ws => if ((allS fs = true ∧ ws.length ≤ 5) ∧ 0 ≤ m ∧ fs.length ≤ 5) ∧ m ≤ fs.length then some (.dic (encB (tailN fs ws (fs.length - m.toNat)))) else none
  | _ => none
theorem len_seq {x : D} {fs : List Int} (h : seqD x = some fs) : biF .len [x] = some (.int fs.length, false) := by
  obtain ⟨xs, h1, h2⟩ := bind_inv h
  cases intsD_inv h2
  cases x with
  | lst ys => cases h1; rw [bi_len_l, List.length_map]
  | tup ys => cases h1; rw [bi_len_t, List.length_map]
  | scr ns =>
    have h1' : ns.map D.int = fs.map D.int := Option.some.inj h1
    have := congrArg List.length h1'
    rw [List.length_map, List.length_map] at this
    rw [bi_len_s, this]
  | _ => cases h1
theorem ts_s1 {x : D} {ws : List Int} {n : Nat} : evS (tbl []) 0 (.set 3 (.dicD (.cons (.lit (.int 0)) .nil) (.cons (.lstD (.cons (.lit (.int 0)) (.nil))) .nil))) (env0 12 [x, .lst (ws.map .int), .int n]) = some (.nx (eV x ws n [(0, [0])])) := by
  have l1 : 1 ≤ sizeLine := by decide
  simp [env0, l1, keyD, eV, encB]
theorem r_tail_sums : ∀ ds d, u_tail_sums ds = some d → ∃ d2, runF (tbl []) (fun _ => 0) m_tail_sums 12 false false ds = some (d, d2) := by
  intro ds d e
  unfold u_tail_sums at e
  split at e
  · rename_i x ys m
    obtain ⟨fs, e1, e⟩ := bind_inv e
    obtain ⟨ws, e2, e⟩ := bind_inv e
    obtain ⟨⟨⟨⟨h1, h2⟩, h3, h4⟩, h5⟩, e⟩ := ite_inv e
    cases e
    cases intsD_inv e2
    obtain ⟨n, rfl⟩ := Int.eq_ofNat_of_zero_le h3
    have hnl : n ≤ fs.length := by omega
    have ho := t_outer (start := n) h4 e1 h1 h2 0 (fs.length - n) (by omega)
    rw [Int.toNat_natCast]
    have hr : rngG3 ((fs.length : Int) - 1) ((n : Int) - 1) (-1) (eV x ws n [(0, [0])]) = some ((List.range (fs.length - n)).map fun t : Nat => .int ((fs.length : Int) - 1 + (t : Int) * (-1)), eV x ws n [(0, [0])]) := by
      rw [rngG3_of (by omega) (by omega) (by omega)]
      have e3 : ((fs.length : Int) - 1 - ((n : Int) - 1)).toNat = fs.length - n := by omega
      rw [e3]
      rfl
    have s2 : evS (tbl []) 0 (.seq (.kill [4, 5, 6, 7, 8, 9, 10]) (.forr (.nm 4) (.rng3 (.bin .sub (.bi .len (.cons (.var 0) (.nil))) (.lit (.int 1))) (.bin .sub (.var 2) (.lit (.int 1))) (.neg (.lit (.int 1)))) bT3)) (eV x ws n [(0, [0])]) = some (.nx (eV x ws n (tailN fs ws (fs.length - n)))) := by
      have ho' : forE (tbl []) 0 (.nm 4) bT3 ((List.range (fs.length - n)).map fun t : Nat => .int ((fs.length : Int) - 1 + (t : Int) * (-1))) (eV x ws n [(0, [0])]) = some (.nx (eV x ws n (tailN fs ws (fs.length - n)))) := ho
      simp only [eV] at hr ho' ⊢
      generalize encB [(0, [0])] = q0 at hr ho' ⊢
      generalize ((List.range (fs.length - n)).map fun t : Nat => D.int ((fs.length : Int) - 1 + (t : Int) * (-1))) = L at hr ho'
      simp [getS, ev_var_eq, len_seq e1, hr, ho']
    refine ⟨.non, ?_⟩
    show (evS (tbl []) 0 (.seq (.set 3 (.dicD (.cons (.lit (.int 0)) .nil) (.cons (.lstD (.cons (.lit (.int 0)) (.nil))) .nil))) (.seq (.seq (.kill [4, 5, 6, 7, 8, 9, 10]) (.forr (.nm 4) (.rng3 (.bin .sub (.bi .len (.cons (.var 0) (.nil))) (.lit (.int 1))) (.bin .sub (.var 2) (.lit (.int 1))) (.neg (.lit (.int 1)))) bT3)) (.ret (.var 3)))) (env0 12 [x, .lst (ws.map .int), .int n])).bind (endF false) = _
    rw [evS_seq', ts_s1, andThen_nx, evS_seq', s2, andThen_nx]
    simp [eV, getS, ev_var_eq]
  · cases e
end
end W
set_option maxHeartbeats 4000000
/-! What tail_sums holds. -/
namespace W
open PySem PySem.Spec PyProof.Rows L2 PL
theorem lookN_app : ∀ (l : Bk) (k : Nat) (v : List Int) (j : Nat), hasN l k = false → lookN (l ++ [(k, v)]) j = if j = k then some v else lookN l j
  | [], k, v, j, _ => by
    show (if k = j then some v else none) = _
    by_cases h : j = k
    · rw [if_pos h, if_pos h.symm]
    · rw [if_neg h, if_neg (Ne.symm h)]
      rfl
  | p :: r, k, v, j, h => by
    rw [hasN] at h
    by_cases hk : p.1 = k
    · rw [if_pos hk] at h
      cases h
    · rw [if_neg hk] at h
      rw [List.cons_append, lookN, lookN, lookN_app r k v j h]
      by_cases hj : p.1 = j
      · rw [if_pos hj, if_pos hj]
        rw [if_neg (fun e => hk (hj.trans e))]
      · rw [if_neg hj, if_neg hj]
theorem lookN_map : ∀ (l : Bk) (k : Nat) (v : List Int) (j : Nat), hasN l k = true → lookN (l.map fun p => if p.1 = k then (p.1, v) else p) j = if j = k then some v else lookN l j
  | [], _, _, _, h => by cases h
  | p :: r, k, v, j, h => by
    rw [hasN] at h
    rw [List.map_cons, lookN]
    by_cases hk : p.1 = k
    · rw [if_pos hk]
      show (if p.1 = j then some v else lookN (r.map _) j) = _
      by_cases hj : j = k
      · rw [if_pos hj, if_pos (hk.trans hj.symm)]
      · rw [if_neg hj, if_neg (fun e => hj (e.symm.trans hk))]
        have e1 : lookN (p :: r) j = lookN r j := by rw [lookN, if_neg (fun e => hj (e.symm.trans hk))]
        rw [e1]
        -- the rest is not looked at by another key
        clear h
        induction r with
        | nil => rfl
        | cons q r ih =>
          rw [List.map_cons, lookN, lookN]
          by_cases hq : q.1 = k
          · rw [if_pos hq]
            show (if q.1 = j then some v else _) = _
            rw [if_neg (fun e => hj (e.symm.trans hq)), if_neg (fun e => hj (e.symm.trans hq))]
            exact ih (by rw [lookN, if_neg (fun e => hj (e.symm.trans hk))])
          · rw [if_neg hq]
            by_cases hq2 : q.1 = j
            · rw [if_pos hq2, if_pos hq2]
            · rw [if_neg hq2, if_neg hq2]
              exact ih (by rw [lookN, if_neg (fun e => hj (e.symm.trans hk))])
    · rw [if_neg hk] at h ⊢
      rw [lookN_map r k v j h]
      by_cases hj : p.1 = j
      · rw [if_pos hj, if_neg (fun e => hk (hj.trans e)), lookN, if_pos hj]
      · rw [if_neg hj, lookN, if_neg hj]
theorem lookN_put (l : Bk) (k : Nat) (v : List Int) (j : Nat) : lookN (putN l k v) j = if j = k then some v else lookN l j := by
  unfold putN
  cases h : hasN l k with
  | true => rw [if_pos rfl]; exact lookN_map l k v j h
  | false => rw [if_neg Bool.false_ne_true]; exact lookN_app l k v j h
def Mem (l : Bk) (M : Nat) (x : Int) : Prop := ∃ L, lookN l M = some L ∧ x ∈ L
theorem mem_nil (M : Nat) (x : Int) : ¬ Mem [] M x := fun ⟨_, h, _⟩ => nomatch h
theorem mem_bump (l : Bk) (k : Nat) (v : List Int) (M : Nat) (x : Int) : Mem (bump l k v) M x ↔ Mem l M x ∨ (M = k ∧ x ∈ v) := by
  unfold Mem bump
  rw [lookN_put]
  by_cases h : M = k
  · subst h
    rw [if_pos rfl]
    constructor
    · rintro ⟨L, e, hx⟩
      cases e
      rcases List.mem_append.mp hx with z | z
      · cases hl : lookN l M with
        | none => rw [hl] at z; cases z
        | some L => rw [hl] at z; exact .inl ⟨L, rfl, z⟩
      · exact .inr ⟨rfl, z⟩
    · rintro (⟨L, e, hx⟩ | ⟨_, hx⟩)
      · exact ⟨_, rfl, List.mem_append_left _ (by rw [e]; exact hx)⟩
      · exact ⟨_, rfl, List.mem_append_right _ hx⟩
  · rw [if_neg h]
    constructor
    · exact .inl
    · rintro (z | ⟨z, _⟩)
      · exact z
      · exact absurd z h
theorem mem_items (f : Int) (ws : List Int) (M : Nat) (sums : List Int) (N : Nat) (x : Int) : ∀ (ks : List Nat) (l : Bk), Mem (ks.foldl (addItem f ws M sums) l) N x ↔ Mem l N x ∨ ∃ k ∈ ks, M.testBit k = false ∧ N = M ||| bt k ∧ ∃ here ∈ sums, x = here + f * ati ws k
  | [], l => by simp
  | k :: ks, l => by
    rw [List.foldl_cons, mem_items f ws M sums N x ks]
    have one : Mem (addItem f ws M sums l k) N x ↔ Mem l N x ∨ (M.testBit k = false ∧ N = M ||| bt k ∧ ∃ here ∈ sums, x = here + f * ati ws k) := by
      unfold addItem
      cases hb : M.testBit k with
      | true => simp
      | false =>
        rw [if_neg Bool.false_ne_true, mem_bump]
        constructor
        · rintro (z | ⟨z1, z2⟩)
          · exact .inl z
          · obtain ⟨here, h1, h2⟩ := List.mem_map.mp z2
            exact .inr ⟨rfl, z1, here, h1, h2.symm⟩
        · rintro (z | ⟨_, z1, here, h1, h2⟩)
          · exact .inl z
          · exact .inr ⟨z1, List.mem_map.mpr ⟨here, h1, h2.symm⟩⟩
    rw [one]
    constructor
    · rintro ((z | z) | ⟨k', hk, z⟩)
      · exact .inl z
      · exact .inr ⟨k, List.mem_cons_self, z⟩
      · exact .inr ⟨k', List.mem_cons_of_mem _ hk, z⟩
    · rintro (z | ⟨k', hk, z⟩)
      · exact .inl (.inl z)
      · rcases List.mem_cons.mp hk with rfl | hk
        · exact .inl (.inr z)
        · exact .inr ⟨k', hk, z⟩
theorem mem_all (f : Int) (ws : List Int) (N : Nat) (x : Int) : ∀ (found : Bk) (l : Bk), Mem (found.foldl (addAll f ws) l) N x ↔ Mem l N x ∨ ∃ p ∈ found, ∃ k, k < ws.length ∧ p.1.testBit k = false ∧ N = p.1 ||| bt k ∧ ∃ here ∈ p.2, x = here + f * ati ws k
  | [], l => by simp
  | p :: r, l => by
    rw [List.foldl_cons, mem_all f ws N x r]
    unfold addAll
    rw [mem_items]
    constructor
    · rintro ((z | ⟨k, hk, z⟩) | ⟨q, hq, z⟩)
      · exact .inl z
      · exact .inr ⟨p, List.mem_cons_self, k, List.mem_range.mp hk, z⟩
      · exact .inr ⟨q, List.mem_cons_of_mem _ hq, z⟩
    · rintro (z | ⟨q, hq, k, hk, z⟩)
      · exact .inl (.inl z)
      · rcases List.mem_cons.mp hq with rfl | hq
        · exact .inl (.inr ⟨k, List.mem_range.mpr hk, z⟩)
        · exact .inr ⟨q, hq, k, hk, z⟩
theorem mem_of_entry : ∀ {l : Bk}, NdK l → ∀ {p : Nat × List Int} {x : Int}, p ∈ l → x ∈ p.2 → Mem l p.1 x
  | [], _, _, _, h, _ => by cases h
  | q :: r, hn, p, x, h, hx => by
    have hn' := List.nodup_cons.mp (show (q.1 :: r.map (·.1)).Nodup from hn)
    rcases List.mem_cons.mp h with rfl | h
    · exact ⟨p.2, by rw [lookN, if_pos rfl], hx⟩
    · obtain ⟨L, h1, h2⟩ := mem_of_entry (l := r) hn'.2 h hx
      refine ⟨L, ?_, h2⟩
      rw [lookN, if_neg]
      · exact h1
      · intro e
        exact hn'.1 (by rw [e]; exact List.mem_map.mpr ⟨p, h, rfl⟩)
theorem entry_of_mem : ∀ {l : Bk} {M : Nat} {x : Int}, Mem l M x → ∃ p ∈ l, p.1 = M ∧ x ∈ p.2
  | [], _, _, h => absurd h (mem_nil _ _)
  | q :: r, M, x, ⟨L, h1, h2⟩ => by
    rw [lookN] at h1
    by_cases e : q.1 = M
    · rw [if_pos e] at h1
      cases h1
      exact ⟨q, List.mem_cons_self, e, h2⟩
    · rw [if_neg e] at h1
      obtain ⟨p, a, b⟩ := entry_of_mem (l := r) ⟨L, h1, h2⟩
      exact ⟨p, List.mem_cons_of_mem _ a, b⟩
/-- t items are laid at the last places, those of M, with the sum x -/
def Arr (fs ws : List Int) : Nat → Nat → Int → Prop
  | 0, M, x => M = 0 ∧ x = 0
  | t + 1, M, x => ∃ M' k here, Arr fs ws t M' here ∧ k < ws.length ∧ M'.testBit k = false ∧ M = M' ||| bt k ∧ x = here + ati fs (fs.length - 1 - t) * ati ws k
theorem nd_items {f : Int} {ws : List Int} {M : Nat} {sums : List Int} : ∀ (ks : List Nat) {l : Bk}, NdK l → NdK (ks.foldl (addItem f ws M sums) l)
  | [], _, h => h
  | k :: ks, l, h => by
    rw [List.foldl_cons]
    exact nd_items ks (nd_item h)
theorem nd_all {f : Int} {ws : List Int} : ∀ (found : Bk) {l : Bk}, NdK l → NdK (found.foldl (addAll f ws) l)
  | [], _, h => h
  | p :: r, l, h => by
    rw [List.foldl_cons]
    exact nd_all r (nd_items _ h)
theorem nd_tail (fs ws : List Int) : ∀ t, NdK (tailN fs ws t)
  | 0 => by
    show ([0] : List Nat).Nodup
    simp
  | t + 1 => nd_all _ List.nodup_nil
theorem tail_arr (fs ws : List Int) : ∀ (t M : Nat) (x : Int), Mem (tailN fs ws t) M x ↔ Arr fs ws t M x
  | 0, M, x => by
    constructor
    · rintro ⟨L, h1, h2⟩
      rw [show tailN fs ws 0 = [(0, [0])] from rfl, lookN] at h1
      by_cases e : 0 = M
      · rw [if_pos e] at h1
        cases h1
        exact ⟨e.symm, List.mem_singleton.mp h2⟩
      · rw [if_neg e] at h1
        cases h1
    · rintro ⟨rfl, rfl⟩
      exact ⟨[0], rfl, List.mem_singleton.mpr rfl⟩
  | t + 1, M, x => by
    show Mem ((tailN fs ws t).foldl (addAll (ati fs (fs.length - 1 - t)) ws) []) M x ↔ _
    rw [mem_all]
    constructor
    · rintro (z | ⟨p, hp, k, hk, hb, hM, here, hh, hx⟩)
      · exact absurd z (mem_nil _ _)
      · exact ⟨p.1, k, here, (tail_arr fs ws t p.1 here).mp (mem_of_entry (nd_tail fs ws t) hp hh), hk, hb, hM, hx⟩
    · rintro ⟨M', k, here, ha, hk, hb, hM, hx⟩
      obtain ⟨p, hp, rfl, hh⟩ := entry_of_mem ((tail_arr fs ws t M' here).mpr ha)
      exact .inr ⟨p, hp, k, hk, hb, hM, here, hh, hx⟩
end W
set_option maxHeartbeats 4000000
/-! The tree of head_rows: the rows of what is left, by distinct values in rising order. -/
namespace W
open PySem PySem.Spec PyProof.Rows L2 PL
theorem least_nat {p : Nat → Prop} : ∀ n, p n → ∃ k, k ≤ n ∧ p k ∧ ∀ i, i < k → ¬ p i := by
  intro n
  induction n using Nat.strongRecOn with
  | ind n ih =>
    intro h
    by_cases c : ∃ i, i < n ∧ p i
    · obtain ⟨i, h1, h2⟩ := c
      obtain ⟨k, a, b, d⟩ := ih i h1 h2
      exact ⟨k, by omega, b, d⟩
    · exact ⟨n, Nat.le_refl _, h, fun i hi hp => c ⟨i, hi, hp⟩⟩
theorem flatMap_cong {α β : Type} {f g : α → List β} : ∀ {l : List α}, (∀ x ∈ l, f x = g x) → l.flatMap f = l.flatMap g
  | [], _ => rfl
  | x :: l, h => by rw [List.flatMap_cons, List.flatMap_cons, h x List.mem_cons_self, flatMap_cong fun y hy => h y (List.mem_cons_of_mem _ hy)]
def unused (n M : Nat) : List Nat := (List.range n).filter fun i => !M.testBit i
def rem (ws : List Int) (M : Nat) : List Int := (unused ws.length M).map (ati ws)
/-- each value once, as it first comes -/
def dd : List Int → List Int
  | [] => []
  | v :: r => v :: (dd r).filter fun x => decide (x ≠ v)
theorem mem_dd : ∀ (l : List Int) (x : Int), x ∈ dd l ↔ x ∈ l
  | [], _ => Iff.rfl
  | v :: r, x => by
    rw [dd, List.mem_cons, List.mem_cons, List.mem_filter, mem_dd r x]
    by_cases h : x = v
    · simp [h]
    · simp [h]
theorem dd_rising : ∀ {l : List Int}, l.Pairwise (· ≤ ·) → (dd l).Pairwise (· < ·)
  | [], _ => List.Pairwise.nil
  | v :: r, h => by
    obtain ⟨h1, h2⟩ := List.pairwise_cons.mp h
    rw [dd]
    refine List.pairwise_cons.mpr ⟨fun x hx => ?_, (dd_rising h2).filter _⟩
    obtain ⟨a, b⟩ := List.mem_filter.mp hx
    have := h1 x ((mem_dd r x).mp a)
    have hne : x ≠ v := of_decide_eq_true b
    omega
/-- rising lists of the same members are the same -/
theorem rising_ext : ∀ {l m : List Int}, l.Pairwise (· < ·) → m.Pairwise (· < ·) → (∀ x, x ∈ l ↔ x ∈ m) → l = m
  | [], [], _, _, _ => rfl
  | [], y :: m, _, _, h => absurd ((h y).mpr List.mem_cons_self) (by simp)
  | x :: l, [], _, _, h => absurd ((h x).mp List.mem_cons_self) (by simp)
  | x :: l, y :: m, hl, hm, h => by
    obtain ⟨l1, l2⟩ := List.pairwise_cons.mp hl
    obtain ⟨m1, m2⟩ := List.pairwise_cons.mp hm
    have e : x = y := by
      rcases List.mem_cons.mp ((h x).mp List.mem_cons_self) with e | e
      · exact e
      · rcases List.mem_cons.mp ((h y).mpr List.mem_cons_self) with e2 | e2
        · exact e2.symm
        · have := m1 x e
          have := l1 y e2
          omega
    subst e
    congr 1
    refine rising_ext l2 m2 fun z => ⟨fun hz => ?_, fun hz => ?_⟩
    · rcases List.mem_cons.mp ((h z).mp (List.mem_cons_of_mem _ hz)) with e | e
      · have := l1 z hz
        omega
      · exact e
    · rcases List.mem_cons.mp ((h z).mpr (List.mem_cons_of_mem _ hz)) with e | e
      · have := m1 z hz
        omega
      · exact e
/-- the weights do not fall -/
def Srt (ws : List Int) : Prop := ∀ i j, i < j → j < ws.length → ati ws i ≤ ati ws j
/-- of equal weights the first ones are used -/
def Cl (ws : List Int) (M : Nat) : Prop := ∀ i j, i < j → j < ws.length → ati ws i = ati ws j → M.testBit j = true → M.testBit i = true
theorem next_iff {ws : List Int} {M k : Nat} (hs : Srt ws) (hc : Cl ws M) (hk : k < ws.length) : nextOk ws M k = true ↔ M.testBit k = false ∧ ∀ j, j < k → M.testBit j = false → ati ws j ≠ ati ws k := by
  unfold nextOk
  rw [Bool.and_eq_true, Bool.or_eq_true, Bool.or_eq_true, Bool.not_eq_true', beq_iff_eq, decide_eq_true_iff]
  constructor
  · rintro ⟨h1, h2⟩
    refine ⟨h1, fun j hj hjm e => ?_⟩
    have a1 := hs j k hj hk
    rcases h2 with h2 | h2 | h2
    · omega
    · rcases Nat.lt_or_ge j (k - 1) with q | q
      · have := hs j (k - 1) q (by omega)
        have := hs (k - 1) k (by omega) hk
        omega
      · have : j = k - 1 := by omega
        rw [this] at e
        exact h2 e
    · rcases Nat.lt_or_ge j (k - 1) with q | q
      · have b1 := hs j (k - 1) q (by omega)
        have b2 := hs (k - 1) k (by omega) hk
        have := hc j (k - 1) q (by omega) (by omega) h2
        rw [hjm] at this
        cases this
      · have : j = k - 1 := by omega
        rw [this, h2] at hjm
        cases hjm
  · rintro ⟨h1, h2⟩
    refine ⟨h1, ?_⟩
    by_cases h0 : k = 0
    · exact .inl h0
    · by_cases he : ati ws (k - 1) = ati ws k
      · right; right
        cases hb : M.testBit (k - 1) with
        | true => rfl
        | false => exact absurd he (h2 (k - 1) (by omega) hb)
      · exact .inr (.inl he)
def elig (ws : List Int) (M : Nat) : List Nat := (List.range ws.length).filter (nextOk ws M)
theorem mem_elig {ws : List Int} {M k : Nat} : k ∈ elig ws M ↔ k < ws.length ∧ nextOk ws M k = true := by
  unfold elig
  rw [List.mem_filter, List.mem_range]
theorem mem_unused {n M i : Nat} : i ∈ unused n M ↔ i < n ∧ M.testBit i = false := by
  unfold unused
  rw [List.mem_filter, List.mem_range]
  simp
theorem unused_lt (n M : Nat) : (unused n M).Pairwise (· < ·) := List.pairwise_lt_range.filter _
theorem rem_sorted {ws : List Int} (hs : Srt ws) (M : Nat) : (rem ws M).Pairwise (· ≤ ·) := by
  unfold rem
  rw [List.pairwise_map]
  refine (unused_lt ws.length M).imp_of_mem fun {a b} ha hb h => hs a b h (mem_unused.mp hb).1
theorem elig_vals {ws : List Int} {M : Nat} (hs : Srt ws) (hc : Cl ws M) : (elig ws M).map (ati ws) = dd (rem ws M) := by
  refine rising_ext ?_ (dd_rising (rem_sorted hs M)) fun x => ?_
  · rw [List.pairwise_map]
    unfold elig
    refine (List.pairwise_lt_range.filter (nextOk ws M)).imp_of_mem fun {a b} ha hb h => ?_
    have ha' := mem_elig.mp ha
    have hb' := mem_elig.mp hb
    have h1 := hs a b h hb'.1
    have h2 := ((next_iff hs hc hb'.1).mp hb'.2).2 a h ((next_iff hs hc ha'.1).mp ha'.2).1
    omega
  · rw [mem_dd]
    unfold rem
    rw [List.mem_map, List.mem_map]
    constructor
    · rintro ⟨k, hk, rfl⟩
      have hk' := mem_elig.mp hk
      exact ⟨k, mem_unused.mpr ⟨hk'.1, ((next_iff hs hc hk'.1).mp hk'.2).1⟩, rfl⟩
    · rintro ⟨j, hj, rfl⟩
      have hj' := mem_unused.mp hj
      obtain ⟨k, k1, k2, k3⟩ := least_nat (p := fun i => M.testBit i = false ∧ ati ws i = ati ws j) j ⟨hj'.2, rfl⟩
      have hkl : k < ws.length := by omega
      refine ⟨k, mem_elig.mpr ⟨hkl, (next_iff hs hc hkl).mpr ⟨k2.1, fun i hi hb e => k3 i hi ⟨hb, e.trans k2.2⟩⟩⟩, k2.2⟩
theorem or_bt (M k i : Nat) : (M ||| bt k).testBit i = (M.testBit i || decide (k = i)) := by rw [Nat.testBit_or, bt_test]
theorem cl_step {ws : List Int} {M k : Nat} (hs : Srt ws) (hc : Cl ws M) (hk : k ∈ elig ws M) : Cl ws (M ||| bt k) := by
  have hk' := mem_elig.mp hk
  have hn := (next_iff hs hc hk'.1).mp hk'.2
  intro i j hij hj e hb
  rw [or_bt, Bool.or_eq_true] at hb ⊢
  rcases hb with hb | hb
  · exact .inl (hc i j hij hj e hb)
  · have : k = j := of_decide_eq_true hb
    subst this
    left
    cases hi : M.testBit i with
    | true => rfl
    | false => exact absurd e (hn.2 i hij hi)
theorem erase_map (f : Nat → Int) : ∀ {l : List Nat} {k : Nat}, l.Pairwise (· < ·) → k ∈ l → (∀ j ∈ l, j < k → f j ≠ f k) → (l.erase k).map f = (l.map f).erase (f k)
  | [], _, _, h, _ => by cases h
  | a :: l, k, hp, h, hf => by
    obtain ⟨p1, p2⟩ := List.pairwise_cons.mp hp
    by_cases e : a = k
    · subst e
      rw [List.erase_cons_head, List.map_cons, List.erase_cons_head]
    · have hk : k ∈ l := by
        rcases List.mem_cons.mp h with z | z
        · exact absurd z.symm e
        · exact z
      have hne : f a ≠ f k := hf a List.mem_cons_self (p1 k hk)
      rw [List.erase_cons_tail (by simpa using e), List.map_cons, List.map_cons, List.erase_cons_tail (by simpa using hne), erase_map f p2 hk fun j hj => hf j (List.mem_cons_of_mem _ hj)]
theorem rem_step {ws : List Int} {M k : Nat} (hs : Srt ws) (hc : Cl ws M) (hk : k ∈ elig ws M) : rem ws (M ||| bt k) = (rem ws M).erase (ati ws k) := by
  have hk' := mem_elig.mp hk
  have hn := (next_iff hs hc hk'.1).mp hk'.2
  unfold rem
  rw [← erase_map (ati ws) (unused_lt _ _) (mem_unused.mpr ⟨hk'.1, hn.1⟩) fun j hj hjk => hn.2 j hjk (mem_unused.mp hj).2]
  congr 1
  have nd : (unused ws.length M).Nodup := (unused_lt _ _).imp fun h => Nat.ne_of_lt h
  rw [nd.erase_eq_filter]
  unfold unused
  rw [List.filter_filter]
  refine List.filter_congr fun i _ => ?_
  rw [or_bt]
  by_cases e : k = i
  · simp [e]
  · have e' : (i != k) = true := by simpa using Ne.symm e
    rw [e', decide_eq_false e, Bool.or_false, Bool.true_and]
/-! ### the tree -/
def desc (fs ws : List Int) : Nat → Nat → Hd3 → List Hd3
  | 0, _, h => [h]
  | t + 1, p, h => (stepH fs ws p h).flatMap (desc fs ws t (p + 1))
theorem heads_desc (fs ws : List Int) : ∀ (t m : Nat), heads fs ws (m + t) = (heads fs ws m).flatMap (desc fs ws t m)
  | 0, m => by
    show heads fs ws m = (heads fs ws m).flatMap fun h => [h]
    rw [List.flatMap_singleton']
  | t + 1, m => by
    have e : m + (t + 1) = (m + 1) + t := by omega
    rw [e, heads_desc fs ws t (m + 1)]
    show ((heads fs ws m).flatMap (stepH fs ws m)).flatMap _ = _
    rw [List.flatMap_assoc]
    rfl
def arrV : Nat → List Int → List (List Int)
  | 0, _ => [[]]
  | t + 1, r => (dd r).flatMap fun v => (arrV t (r.erase v)).map (v :: ·)
def dotAt (fs : List Int) : Nat → List Int → Int
  | _, [] => 0
  | p, v :: r => ati fs p * v + dotAt fs (p + 1) r
theorem stepH_elig (fs ws : List Int) (p : Nat) (h : Hd3) : stepH fs ws p h = (elig ws h.2.1).map fun k => (h.1 ++ [ati ws k], h.2.1 ||| bt k, h.2.2 + ati fs p * ati ws k) := rfl
theorem desc_arr {fs ws : List Int} (hs : Srt ws) : ∀ (t p : Nat) (h : Hd3), Cl ws h.2.1 → (desc fs ws t p h).map (fun g => (g.1, g.2.2)) = (arrV t (rem ws h.2.1)).map fun r => (h.1 ++ r, h.2.2 + dotAt fs p r)
  | 0, p, h, _ => by
    show [(h.1, h.2.2)] = [(h.1 ++ [], h.2.2 + 0)]
    rw [List.append_nil, Int.add_zero]
  | t + 1, p, h, hc => by
    show ((stepH fs ws p h).flatMap (desc fs ws t (p + 1))).map _ = _
    rw [stepH_elig, List.map_flatMap, List.flatMap_map]
    show _ = ((dd (rem ws h.2.1)).flatMap _).map _
    rw [← elig_vals hs hc, List.map_flatMap, List.flatMap_map]
    refine flatMap_cong fun k hk => ?_
    rw [desc_arr hs t (p + 1) _ (cl_step hs hc hk), rem_step hs hc hk, List.map_map]
    refine List.map_congr_left fun r _ => ?_
    simp only [Function.comp, dotAt, List.append_assoc, List.singleton_append]
    rw [Int.add_assoc]
end W
set_option maxHeartbeats 4000000
/-! The rows: all orders, strictly rising; what tail_sums holds are the sums of the orders of what is left. -/
namespace W
open PySem PySem.Spec PyProof.Rows L2 PL
theorem arrV_mem : ∀ (t : Nat) (m r : List Int), m.length = t → (r ∈ arrV t m ↔ r.Perm m)
  | 0, m, r, h => by
    have hm : m = [] := List.length_eq_zero_iff.mp h
    subst hm
    show r ∈ [[]] ↔ _
    rw [List.mem_singleton, List.perm_nil]
  | t + 1, m, r, h => by
    show r ∈ (dd m).flatMap _ ↔ _
    rw [List.mem_flatMap]
    constructor
    · rintro ⟨v, hv, hr⟩
      obtain ⟨r', h1, rfl⟩ := List.mem_map.mp hr
      have hvm := (mem_dd m v).mp hv
      have hl : (m.erase v).length = t := by
        rw [List.length_erase_of_mem hvm, h]
        rfl
      exact (((arrV_mem t (m.erase v) r' hl).mp h1).cons v).trans (List.perm_cons_erase hvm).symm
    · intro hp
      cases r with
      | nil =>
        have := hp.length_eq
        rw [h] at this
        cases this
      | cons v r' =>
        have hvm : v ∈ m := hp.mem_iff.mp List.mem_cons_self
        have hl : (m.erase v).length = t := by
          rw [List.length_erase_of_mem hvm, h]
          rfl
        have hp' : r'.Perm (m.erase v) := (List.cons_perm_iff_perm_erase.mp hp).2
        exact ⟨v, (mem_dd m v).mpr hvm, List.mem_map.mpr ⟨r', (arrV_mem t _ r' hl).mpr hp', rfl⟩⟩
theorem arrV_rising : ∀ (t : Nat) {m : List Int}, m.Pairwise (· ≤ ·) → (arrV t m).Pairwise (· < ·)
  | 0, _, _ => List.pairwise_singleton _ _
  | t + 1, m, h => by
    show ((dd m).flatMap _).Pairwise _
    rw [List.pairwise_flatMap]
    refine ⟨fun v hv => ?_, (dd_rising h).imp fun {a b} hab x hx y hy => ?_⟩
    · rw [List.pairwise_map]
      refine (arrV_rising t (h.sublist List.erase_sublist)).imp fun {x y} hxy => ?_
      exact List.cons_lt_cons_iff.mpr (.inr ⟨rfl, hxy⟩)
    · obtain ⟨x', _, rfl⟩ := List.mem_map.mp hx
      obtain ⟨y', _, rfl⟩ := List.mem_map.mp hy
      exact List.cons_lt_cons_iff.mpr (.inl hab)
/-- orders of mapped things are mapped orders -/
theorem perm_map_back (f : Nat → Int) : ∀ (r : List Int) (l : List Nat), r.Perm (l.map f) → ∃ l' : List Nat, l'.Perm l ∧ r = l'.map f
  | [], l, h => by
    have : l = [] := List.map_eq_nil_iff.mp (List.nil_perm.mp h)
    subst this
    exact ⟨[], List.Perm.refl _, rfl⟩
  | v :: r, l, h => by
    obtain ⟨k, hk, rfl⟩ := List.mem_map.mp (h.mem_iff.mp List.mem_cons_self)
    have h1 : (f k :: r).Perm (f k :: (l.erase k).map f) := h.trans ((List.perm_cons_erase hk).map f)
    obtain ⟨l', p, e⟩ := perm_map_back f r (l.erase k) (List.perm_cons _ |>.mp h1)
    exact ⟨k :: l', (p.cons k).trans (List.perm_cons_erase hk).symm, by rw [List.map_cons, e]⟩
theorem xor_bt (M k i : Nat) : (M ^^^ bt k).testBit i = (M.testBit i != decide (k = i)) := by rw [Nat.testBit_xor, bt_test]
theorem arr_idx {fs ws : List Int} : ∀ (t M : Nat) (x : Int), t ≤ fs.length →
    (Arr fs ws t M x ↔ ∃ is : List Nat, is.length = t ∧ is.Nodup ∧ (∀ i, M.testBit i = true ↔ i ∈ is) ∧ (∀ i ∈ is, i < ws.length) ∧ x = dotAt fs (fs.length - t) (is.map (ati ws)))
  | 0, M, x, _ => by
    constructor
    · rintro ⟨rfl, rfl⟩
      exact ⟨[], rfl, List.nodup_nil, fun i => by simp, fun i h => (by cases h), rfl⟩
    · rintro ⟨is, h1, _, h3, _, h5⟩
      have : is = [] := List.length_eq_zero_iff.mp h1
      subst this
      refine ⟨Nat.eq_of_testBit_eq fun i => ?_, h5⟩
      rw [Nat.zero_testBit]
      cases hb : M.testBit i with
      | false => rfl
      | true => exact absurd ((h3 i).mp hb) (by simp)
  | t + 1, M, x, ht => by
    have hp : fs.length - (t + 1) + 1 = fs.length - t := by omega
    have hp2 : fs.length - 1 - t = fs.length - (t + 1) := by omega
    constructor
    · rintro ⟨M', k, here, ha, hk, hb, rfl, rfl⟩
      obtain ⟨is, h1, h2, h3, h4, h5⟩ := (arr_idx t M' here (by omega)).mp ha
      have hki : k ∉ is := fun z => by
        rw [(h3 k).mpr z] at hb
        cases hb
      refine ⟨k :: is, by rw [List.length_cons, h1], List.nodup_cons.mpr ⟨hki, h2⟩, fun i => ?_, fun i hi => ?_, ?_⟩
      · rw [or_bt, Bool.or_eq_true, decide_eq_true_iff, h3 i, List.mem_cons]
        constructor
        · rintro (z | z)
          · exact .inr z
          · exact .inl z.symm
        · rintro (z | z)
          · exact .inr z.symm
          · exact .inl z
      · rcases List.mem_cons.mp hi with rfl | hi
        · exact hk
        · exact h4 i hi
      · rw [List.map_cons, dotAt, hp, h5, hp2, Int.add_comm]
    · rintro ⟨is, h1, h2, h3, h4, h5⟩
      cases is with
      | nil => cases h1
      | cons k is =>
        obtain ⟨n1, n2⟩ := List.nodup_cons.mp h2
        have hkM : M.testBit k = true := (h3 k).mpr List.mem_cons_self
        refine ⟨M ^^^ bt k, k, dotAt fs (fs.length - t) (is.map (ati ws)), (arr_idx t _ _ (by omega)).mpr ⟨is, by simpa using h1, n2, fun i => ?_, fun i hi => h4 i (List.mem_cons_of_mem _ hi), rfl⟩, h4 k List.mem_cons_self, ?_, ?_, ?_⟩
        · rw [xor_bt]
          by_cases e : k = i
          · subst e
            rw [hkM, decide_eq_true rfl]
            simp [n1]
          · rw [decide_eq_false e]
            have := h3 i
            rw [List.mem_cons] at this
            simp only [Bool.bne_false]
            rw [this]
            constructor
            · rintro (z | z)
              · exact absurd z.symm e
              · exact z
            · exact .inr
        · rw [xor_bt, hkM, decide_eq_true rfl]
          rfl
        · refine Nat.eq_of_testBit_eq fun i => ?_
          rw [or_bt, xor_bt]
          by_cases e : k = i
          · subst e
            rw [hkM, decide_eq_true rfl]
            rfl
          · rw [decide_eq_false e]
            simp
        · rw [h5, List.map_cons, dotAt, hp, hp2, Int.add_comm]
/-- the mask of what is left -/
theorem left_bits {n M : Nat} (hM : ∀ i, M.testBit i = true → i < n) (i : Nat) : ((2 ^ n - 1) ^^^ M).testBit i = true ↔ i ∈ unused n M := by
  rw [Nat.testBit_xor, Nat.testBit_two_pow_sub_one, mem_unused]
  by_cases h : i < n
  · rw [decide_eq_true h]
    cases M.testBit i <;> simp [h]
  · rw [decide_eq_false h]
    cases hb : M.testBit i with
    | false => simp [h]
    | true => exact absurd (hM i hb) h
theorem nodup_perm {l m : List Nat} (h1 : l.Nodup) (h2 : m.Nodup) (h : ∀ i, i ∈ l ↔ i ∈ m) : l.Perm m := (List.perm_ext_iff_of_nodup h1 h2).mpr h
/-- tail_sums at what is left: the sums of its orders -/
theorem tail_left {fs ws : List Int} {M t : Nat} (hM : ∀ i, M.testBit i = true → i < ws.length) (ht : (unused ws.length M).length = t) (htl : t ≤ fs.length) (x : Int) :
    Mem (tailN fs ws t) ((2 ^ ws.length - 1) ^^^ M) x ↔ ∃ r ∈ arrV t (rem ws M), x = dotAt fs (fs.length - t) r := by
  have hrl : (rem ws M).length = t := by
    unfold rem
    rw [List.length_map, ht]
  have nd : (unused ws.length M).Nodup := (unused_lt _ _).imp fun h => Nat.ne_of_lt h
  rw [tail_arr, arr_idx t _ _ htl]
  constructor
  · rintro ⟨is, h1, h2, h3, h4, h5⟩
    have hp : is.Perm (unused ws.length M) := nodup_perm h2 nd fun i => by rw [← h3 i, left_bits hM]
    exact ⟨is.map (ati ws), (arrV_mem t _ _ hrl).mpr (hp.map _), h5⟩
  · rintro ⟨r, hr, hx⟩
    obtain ⟨is, hp, rfl⟩ := perm_map_back (ati ws) r (unused ws.length M) ((arrV_mem t _ _ hrl).mp hr)
    refine ⟨is, by rw [hp.length_eq, ht], hp.nodup_iff.mpr nd, fun i => ?_, fun i hi => (mem_unused.mp (hp.mem_iff.mp hi)).1, hx⟩
    rw [left_bits hM, hp.mem_iff]
/-! ### along head_rows -/
structure HOk (fs ws : List Int) (m : Nat) (h : Hd3) : Prop where
  cl : Cl ws h.2.1
  bd : ∀ i, h.2.1.testBit i = true → i < ws.length
  ln : (unused ws.length h.2.1).length + m = ws.length
theorem heads_ok {fs ws : List Int} (hs : Srt ws) : ∀ (m : Nat) {h : Hd3}, h ∈ heads fs ws m → HOk fs ws m h
  | 0, h, hh => by
    have : h = ([], 0, 0) := List.mem_singleton.mp hh
    subst this
    refine ⟨fun i j _ _ _ hb => ?_, fun i hb => ?_, ?_⟩
    · rw [Nat.zero_testBit] at hb; cases hb
    · rw [Nat.zero_testBit] at hb; cases hb
    · show (unused ws.length 0).length + 0 = _
      unfold unused
      rw [List.filter_eq_self.mpr (fun i _ => by simp), List.length_range]
      rfl
  | m + 1, h, hh => by
    obtain ⟨g, g1, g2⟩ := List.mem_flatMap.mp (show h ∈ (heads fs ws m).flatMap (stepH fs ws m) from hh)
    rw [stepH_elig] at g2
    obtain ⟨k, hk, rfl⟩ := List.mem_map.mp g2
    have ih := heads_ok hs m g1
    have hk' := mem_elig.mp hk
    have hn := (next_iff hs ih.cl hk'.1).mp hk'.2
    refine ⟨cl_step hs ih.cl hk, fun i hb => ?_, ?_⟩
    · have hb : (g.2.1 ||| bt k).testBit i = true := hb
      rw [or_bt, Bool.or_eq_true] at hb
      rcases hb with hb | hb
      · exact ih.bd i hb
      · rw [← of_decide_eq_true hb]
        exact hk'.1
    · have e := congrArg List.length (rem_step hs ih.cl hk)
      have hm : ati ws k ∈ rem ws g.2.1 := List.mem_map.mpr ⟨k, mem_unused.mpr ⟨hk'.1, hn.1⟩, rfl⟩
      rw [List.length_erase_of_mem hm] at e
      unfold rem at e hm
      rw [List.length_map, List.length_map] at e
      have hpos : 0 < (unused ws.length g.2.1).length := by
        rcases Nat.eq_zero_or_pos (unused ws.length g.2.1).length with z | z
        · rw [List.length_eq_zero_iff.mp z] at hm
          cases hm
        · exact z
      have := ih.ln
      show (unused ws.length (g.2.1 ||| bt k)).length + (m + 1) = _
      omega
end W
set_option maxHeartbeats 4000000
/-! first_row in plain words: the first order, in rising order, whose sum is in the range. -/
namespace W
open PySem PySem.Spec PyProof.Rows L2 PL
theorem rem_zero (ws : List Int) : rem ws 0 = ws := by
  unfold rem unused
  rw [List.filter_eq_self.mpr (fun i _ => by simp)]
  refine List.ext_getElem (by simp) fun i h1 h2 => ?_
  rw [List.getElem_map, List.getElem_range]
  simp [ati, h2]
theorem srt_of {ws : List Int} (h : ws.Pairwise (· ≤ ·)) : Srt ws := by
  intro i j hij hj
  have hi : i < ws.length := Nat.lt_trans hij hj
  have e := List.pairwise_iff_getElem.mp h i j hi hj hij
  simpa [ati, hi, hj] using e
theorem heads_arr {fs ws : List Int} (hs : Srt ws) (m : Nat) : (heads fs ws m).map (fun g => (g.1, g.2.2)) = (arrV m ws).map fun r => (r, dotAt fs 0 r) := by
  have e := heads_desc fs ws m 0
  rw [Nat.zero_add] at e
  rw [e]
  show (desc fs ws m 0 ([], 0, 0) ++ []).map _ = _
  rw [List.append_nil, desc_arr hs m 0 ([], 0, 0) (fun i j _ _ _ hb => by rw [Nat.zero_testBit] at hb; cases hb), rem_zero]
  refine List.map_congr_left fun r _ => ?_
  show ([] ++ r, 0 + dotAt fs 0 r) = _
  rw [List.nil_append, Int.zero_add]
theorem ati_drop (fs : List Int) (s p : Nat) : ati (fs.drop s) p = ati fs (s + p) := by
  simp [ati, List.getElem?_drop]
theorem dotAt_drop (fs : List Int) (s : Nat) : ∀ (r : List Int) (p : Nat), dotAt (fs.drop s) p r = dotAt fs (s + p) r
  | [], _ => rfl
  | v :: r, p => by
    show ati (fs.drop s) p * v + dotAt (fs.drop s) (p + 1) r = ati fs (s + p) * v + dotAt fs (s + p + 1) r
    rw [ati_drop, dotAt_drop fs s r (p + 1)]
    rfl
def inR (lo hi x : Int) : Bool := decide (lo ≤ x) && decide (x ≤ hi)
def atHead (fs ws : List Int) (s t : Nat) (lo hi : Int) (h : Hd3) : Option (List Int) :=
  if (((lookN (tailN fs ws t) ((2 ^ ws.length - 1) ^^^ h.2.1)).getD []).any fun more => inR lo hi (h.2.2 + more)) = true then
    some (h.1 ++ (((heads (fs.drop s) (rem ws h.2.1) t).filter fun e => inR lo hi (h.2.2 + e.2.2)).headD ([], 0, 0)).1)
  else none
def firstN (fs ws : List Int) (s t : Nat) (lo hi : Int) : Option (List Int) := (heads fs ws s).findSome? (atHead fs ws s t lo hi)
theorem findSome_congr {α β : Type} {f g : α → Option β} : ∀ {l : List α}, (∀ x ∈ l, f x = g x) → l.findSome? f = l.findSome? g
  | [], _ => rfl
  | x :: l, h => by
    rw [List.findSome?_cons, List.findSome?_cons, h x (List.mem_cons_self), findSome_congr fun y hy => h y (List.mem_cons_of_mem _ hy)]
theorem head_filter {α : Type} (p : α → Bool) (d : α) : ∀ l : List α, (l.filter p).headD d = (l.find? p).getD d
  | [] => rfl
  | x :: l => by
    cases h : p x
    · rw [List.filter_cons_of_neg (by simp [h]), List.find?_cons_of_neg (by simp [h]), head_filter p d l]
    · rw [List.filter_cons_of_pos h, List.find?_cons_of_pos h]
      rfl
theorem any_mem {l : Bk} {k : Nat} (p : Int → Bool) : ((lookN l k).getD []).any p = true ↔ ∃ x, Mem l k x ∧ p x = true := by
  rw [List.any_eq_true]
  constructor
  · rintro ⟨x, hx, hp⟩
    cases e : lookN l k with
    | none => rw [e] at hx; cases hx
    | some L => rw [e] at hx; exact ⟨x, ⟨L, e, hx⟩, hp⟩
  · rintro ⟨x, ⟨L, e, hx⟩, hp⟩
    exact ⟨x, by rw [e]; exact hx, hp⟩
theorem find_pair {α β γ : Type} (l : List α) (f : α → β × γ) (q : γ → Bool) : ((l.map f).find? fun x => q x.2).map (·.1) = (l.find? fun a => q (f a).2).map fun a => (f a).1 := by
  rw [List.find?_map, Option.map_map]
  rfl
theorem at_head {fs ws : List Int} {s t : Nat} {lo hi : Int} (hs : Srt ws) (hl : s + t = ws.length) (hf : fs.length = ws.length) {h : Hd3} (hh : h ∈ heads fs ws s) :
    atHead fs ws s t lo hi h = ((arrV t (rem ws h.2.1)).find? fun r => inR lo hi (h.2.2 + dotAt fs s r)).map (h.1 ++ ·) := by
  have ok := heads_ok hs s hh
  have hu : (unused ws.length h.2.1).length = t := by have := ok.ln; omega
  have hst : fs.length - t = s := by omega
  have tl := fun x => tail_left (fs := fs) ok.bd hu (by omega) x
  have c : ((((lookN (tailN fs ws t) ((2 ^ ws.length - 1) ^^^ h.2.1)).getD []).any fun more => inR lo hi (h.2.2 + more)) = true) ↔ ∃ r ∈ arrV t (rem ws h.2.1), inR lo hi (h.2.2 + dotAt fs s r) = true := by
    rw [any_mem]
    constructor
    · rintro ⟨x, hx, hp⟩
      obtain ⟨r, hr, e⟩ := (tl x).mp hx
      rw [hst] at e
      exact ⟨r, hr, by rw [← e]; exact hp⟩
    · rintro ⟨r, hr, hp⟩
      exact ⟨dotAt fs s r, (tl _).mpr ⟨r, hr, by rw [hst]⟩, hp⟩
  have hsr : Srt (rem ws h.2.1) := srt_of (rem_sorted hs _)
  have ha := heads_arr (fs := fs.drop s) hsr t
  have hfind : ((heads (fs.drop s) (rem ws h.2.1) t).find? fun e => inR lo hi (h.2.2 + e.2.2)).map (·.1) = (arrV t (rem ws h.2.1)).find? fun r => inR lo hi (h.2.2 + dotAt fs s r) := by
    have e1 := find_pair (heads (fs.drop s) (rem ws h.2.1) t) (fun g => (g.1, g.2.2)) (fun x => inR lo hi (h.2.2 + x))
    rw [ha] at e1
    have e3 := find_pair (arrV t (rem ws h.2.1)) (fun r => (r, dotAt (fs.drop s) 0 r)) (fun x => inR lo hi (h.2.2 + x))
    rw [e3] at e1
    have e2 : (fun a : List Int => inR lo hi (h.2.2 + (a, dotAt (fs.drop s) 0 a).2)) = fun r => inR lo hi (h.2.2 + dotAt fs s r) := by
      funext r
      show inR lo hi (h.2.2 + dotAt (fs.drop s) 0 r) = _
      rw [dotAt_drop, Nat.add_zero]
    rw [e2] at e1
    rw [← e1]
    exact congrFun Option.map_id _
  unfold atHead
  rw [head_filter]
  by_cases hc : ∃ r ∈ arrV t (rem ws h.2.1), inR lo hi (h.2.2 + dotAt fs s r) = true
  · rw [if_pos (c.mpr hc), ← hfind]
    cases e : (heads (fs.drop s) (rem ws h.2.1) t).find? fun e => inR lo hi (h.2.2 + e.2.2) with
    | some g => rfl
    | none =>
      rw [e] at hfind
      obtain ⟨r, hr, hp⟩ := hc
      exact absurd hp (List.find?_eq_none.mp hfind.symm r hr)
  · rw [if_neg (fun h => hc (c.mp h))]
    have : ((arrV t (rem ws h.2.1)).find? fun r => inR lo hi (h.2.2 + dotAt fs s r)) = none :=
      List.find?_eq_none.mpr fun r hr hp => hc ⟨r, hr, hp⟩
    rw [this]
    rfl
/-- first_row is the first order in rising order whose sum lies in the range -/
theorem first_find {fs ws : List Int} {s t : Nat} {lo hi : Int} (hs : Srt ws) (hl : s + t = ws.length) (hf : fs.length = ws.length) :
    firstN fs ws s t lo hi = (arrV (s + t) ws).find? fun r => inR lo hi (dotAt fs 0 r) := by
  have e1 := find_pair (heads fs ws (s + t)) (fun g => (g.1, g.2.2)) (inR lo hi)
  have e0 := find_pair (arrV (s + t) ws) (fun r => (r, dotAt fs 0 r)) (inR lo hi)
  rw [← heads_arr hs] at e0
  have e2 : ((arrV (s + t) ws).find? fun r => inR lo hi (dotAt fs 0 r)) = (((heads fs ws (s + t)).map fun g => (g.1, g.2.2)).find? fun x => inR lo hi x.2).map (·.1) := by
    rw [e0]
    exact (congrFun Option.map_id _).symm
  rw [e2, heads_desc, List.map_flatMap, List.find?_flatMap, List.map_findSome?]
  refine findSome_congr fun h hh => ?_
  rw [at_head hs hl hf hh]
  show _ = (((desc fs ws t s h).map fun g => (g.1, g.2.2)).find? fun x => inR lo hi x.2).map (·.1)
  rw [desc_arr hs t s h (heads_ok hs s hh).cl, find_pair]
end W
set_option maxHeartbeats 4000000
namespace W
open PySem PySem.Spec PyProof.Rows L2 PL
def srtI (ws : List Int) : List Int := ws.mergeSort fun a b => decide (a ≤ b)
theorem srtI_perm (ws : List Int) : (srtI ws).Perm ws := List.mergeSort_perm ..
theorem srtI_sorted (ws : List Int) : (srtI ws).Pairwise (· ≤ ·) := by
  have h := List.pairwise_mergeSort (le := fun a b : Int => decide (a ≤ b)) (fun a b c h1 h2 => by simp at *; omega) (fun a b => by simp; omega) ws
  exact h.imp fun h => of_decide_eq_true h
theorem mergeSort_int (ws : List Int) : (ws.map D.int).mergeSort (PySem.W.dataLe false toP) = (srtI ws).map .int := by
  unfold srtI
  rw [List.map_mergeSort]
  intro a _ b _
  have e := congrFun (congrFun (PySem.W.dataLe_int (β := Int) id) a) b
  exact e.symm
theorem okS_ints (ws : List Int) : okS (ws.map .int) = true := by
  unfold okS
  have a1 : ((ws.map D.int).all fun x => okN 60 x) = true := List.all_eq_true.mpr fun x hx => by
    obtain ⟨i, _, rfl⟩ := List.mem_map.mp hx
    simp [okN]
  have a2 : ((ws.map D.int).all fun x => (ws.map D.int).all fun y => PySem.W.alike (toP x) (toP y)) = true := List.all_eq_true.mpr fun x hx => List.all_eq_true.mpr fun y hy => by
    obtain ⟨i, _, rfl⟩ := List.mem_map.mp hx
    obtain ⟨j, _, rfl⟩ := List.mem_map.mp hy
    simp [toP, PySem.W.alike]
  rw [a1, a2, Bool.true_and, Bool.true_and, Bool.or_eq_true]
  right
  refine List.all_eq_true.mpr fun x hx => ?_
  obtain ⟨i, _, rfl⟩ := List.mem_map.mp hx
  rfl
theorem bi_sorted {x : D} {ws : List Int} (h : seqD x = some ws) (hl : ws.length ≤ 16777216) : biF .sorted [x] = some (.lst ((srtI ws).map .int), true) := by
  obtain ⟨xs, h1, h2⟩ := bind_inv h
  cases intsD_inv h2
  show (seqOf x).bind (fun xs => (sortD xs).map fun ys => (D.lst ys, true)) = _
  rw [h1]
  show (sortD (ws.map .int)).map _ = _
  unfold sortD
  rw [if_pos ⟨okS_ints ws, by rw [List.length_map]; exact line_big hl⟩, mergeSort_int]
  rfl
theorem xor_small : ∀ n, n ≤ 5 → ∀ M, M < 2 ^ n → ((((2 ^ n - 1) ||| M : Nat) : Int) - (((2 ^ n - 1) &&& M : Nat) : Int)) = (((2 ^ n - 1) ^^^ M : Nat) : Int) := by
  intro n hn
  have : n = 0 ∨ n = 1 ∨ n = 2 ∨ n = 3 ∨ n = 4 ∨ n = 5 := by omega
  rcases this with rfl | rfl | rfl | rfl | rfl | rfl <;> decide
theorem band_nat (a b : Nat) : Builtin.bitAnd (a : Int) (b : Int) = ((a &&& b : Nat) : Int) := by
  unfold Builtin.bitAnd
  rw [decide_eq_true (by omega : (0 : Int) ≤ a), decide_eq_true (by omega : (0 : Int) ≤ b)]
  rfl
theorem bxor_full {n M : Nat} (hn : n ≤ 5) (hM : M < 2 ^ n) : binF .bxor (.int ((2 ^ n - 1 : Nat) : Int)) (.int M) = some (.int (((2 ^ n - 1) ^^^ M : Nat) : Int), false) := by
  rw [bin_bxor]
  unfold Builtin.bitXor
  rw [bor_nat, band_nat, xor_small n hn M hM]
theorem lt_of_bits {n M : Nat} (h : ∀ i, M.testBit i = true → i < n) : M < 2 ^ n := Nat.lt_pow_two_of_testBit _ fun i hi => by
  cases e : M.testBit i with
  | false => rfl
  | true => exact absurd (h i e) (by omega)
theorem rem_fm (ws : List Int) (M : Nat) : ((List.range ws.length).filterMap fun k => if M.testBit k = true then none else some (D.int (ati ws k))) = (rem ws M).map .int := by
  unfold rem unused
  rw [List.map_map, ← List.filterMap_eq_filter, ← List.filterMap_eq_map, List.filterMap_filterMap]
  refine congrFun (congrArg List.filterMap (funext fun k => ?_)) _
  cases h : M.testBit k <;> simp [Option.guard, h]
theorem slice_seq {x : D} {fs : List Int} (h : seqD x = some fs) {s : Nat} (hs : s ≤ fs.length) : ∃ y b, sliceF x (some (s : Int)) none = some (y, b) ∧ seqD y = some (fs.drop s) := by
  obtain ⟨xs, h1, h2⟩ := bind_inv h
  cases intsD_inv h2
  have c : PL.cutD (fs.map D.int) (some (s : Int)) none = (fs.drop s).map .int := by
    unfold PL.cutD
    have e1 : HT.sIx (fs.map D.int).length 0 (some (s : Int)) = s := by
      rw [List.length_map, HT.sIx_nat]
      omega
    have e2 : HT.sIx (fs.map D.int).length (fs.map D.int).length none = fs.length := by simp [HT.sIx]
    rw [e1, e2, ← List.map_drop, ← List.map_take, List.take_of_length_le (by rw [List.length_drop]; omega)]
  cases x with
  | lst ys => cases h1; exact ⟨_, _, rfl, by rw [c]; exact intsD_map _⟩
  | tup ys => cases h1; exact ⟨_, _, rfl, by rw [c]; exact intsD_map _⟩
  | scr ns =>
    have h1' : ns.map D.int = fs.map D.int := Option.some.inj h1
    exact ⟨_, _, rfl, by rw [h1', c]; exact intsD_map _⟩
  | _ => cases h1
end W
set_option maxHeartbeats 4000000
namespace W
open PySem PySem.Spec PyProof.Rows L2 PL
abbrev FR : Nat → FS := tbl [fsR 3 u_tail_sums, fsR 3 u_head_rows]
abbrev cAny : ME := .comp [13] (.nm 13) (.seq false (.subD (.var 6) (.bin .bxor (.var 7) (.var 9)))) (.lit (.bl true)) (.chain .le .le (.var 2) (.bin .add (.var 10) (.var 13)) (.var 3))
abbrev cRest : ME := .comp [14, 15] (.tp (.cons (.nm 14) (.cons (.nm 15) (.nil)))) (.enum (.var 5)) (.cmp .eq (.bin .band (.bin .shr (.var 9) (.var 14)) (.lit (.int 1))) (.lit (.int 0))) (.var 15)
abbrev cEnds : ME := .comp [16, 17, 13] (.tp (.cons (.nm 16) (.cons (.nm 17) (.cons (.nm 13) (.nil))))) (.seq false (.var 12)) (.chain .le .le (.var 2) (.bin .add (.var 10) (.var 13)) (.var 3)) (.var 16)
abbrev eF (x y : D) (lo hi : Int) (s : Nat) (ws : List Int) (tl : Bk) (full : Nat) (row : List Int) (M : Nat) (here : Int) (p q : PL.Sl) : PL.Env := [.im x, .im y, .im (.int lo), .im (.int hi),   .im (.int s), .im (.lst (ws.map .int)), .im (.dic (encB tl)), .im (.int full), .im (.tup (row.map .int)), .im (.int M), .im (.int here), p, q, .un, .un, .un, .un, .un]
variable {x y : D} {lo hi : Int} {s : Nat} {ws : List Int} {tl : Bk} {full : Nat} {row : List Int} {M : Nat} {here : Int}
theorem f_any {N : Nat} {L : List Int} (hx : binF .bxor (.int (full : Int)) (.int (M : Int)) = some (.int (N : Int), false)) (hL : lookN tl N = some L) :
    ev FR (.bi .any (.cons cAny .nil)) (eF x y lo hi s ws tl full row M here .un .un) = some (.bl (L.any fun more => inR lo hi (here + more)), .fz, eF x y lo hi s ws tl full row M here .un .un) := by
  have hc : ∀ (E : PL.Env), E = eF x y lo hi s ws tl full row M here .un .un →
      compE FR [13] (.nm 13) (.lit (.bl true)) (.chain .le .le (.var 2) (.bin .add (.var 10) (.var 13)) (.var 3)) (L.map .int) E = some (L.map fun more => .bl (inR lo hi (here + more)), E) := by
    intro E hE
    refine compE_m _ _ _ rfl fun z _ => ?_
    subst hE
    cases h1 : decide (lo ≤ here + z) <;> simp [eF, getS, ev_var_eq, inR, h1]
  have hk := look_enc tl N
  rw [hL] at hk
  have ha : biF .any [.lst (L.map fun more => .bl (inR lo hi (here + more)))] = some (.bl ((L.map fun more => inR lo hi (here + more)).any id), false) := bi_any (blsD_fun _ _)
  have hh : (L.map fun more => inR lo hi (here + more)).any id = L.any fun more => inR lo hi (here + more) := by rw [List.any_map]; rfl
  rw [hh] at ha
  generalize (L.map fun more => D.bl (inR lo hi (here + more))) = Y at hc ha
  generalize hZ : L.map D.int = Z at hc hk
  simp [eF, getS, ev_var_eq, hx, keyD, hk, hZ, seqK, noOwn_cons, hc _ rfl, ha]
theorem f_rest : ev FR cRest (eF x y lo hi s ws tl full row M here .un .un) = some (.lst ((rem ws M).map .int), .nw, eF x y lo hi s ws tl full row M here .un .un) := by
  have hc : ∀ (E : PL.Env), E = eF x y lo hi s ws tl full row M here .un .un →
      compE FR [14, 15] (.tp (.cons (.nm 14) (.cons (.nm 15) (.nil)))) (.cmp .eq (.bin .band (.bin .shr (.var 9) (.var 14)) (.lit (.int 1))) (.lit (.int 0))) (.var 15) (enumD 0 (ws.map .int)) E = some ((rem ws M).map .int, E) := by
    intro E hE
    rw [enumD_I, ← rem_fm]
    refine compE_fm _ _ _ fun k _ => ?_
    subst hE
    cases hb : M.testBit k with
    | true => simp [eF, getS, ev_var_eq, bin_shr_nat, bin_bit, hb]
    | false =>
      simp [eF, getS, ev_var_eq, bin_shr_nat, bin_bit, hb]
      exact ⟨_, _, ⟨rfl, rfl⟩, rfl, rfl⟩
  generalize hZ : enumD 0 (ws.map D.int) = Z at hc
  simp [eF, getS, ev_var_eq, hZ, seqK, noOwn_cons, hc _ rfl]
theorem f_pick {G : List Hd3} {r : List Int} {G' : List Hd3} (hG : (G.filter fun e => inR lo hi (here + e.2.2)).map (·.1) = r :: G'.map (·.1)) (hr : row.length + r.length ≤ sizeLine) (p : PL.Sl) :
    ∃ k e, ev FR (.bin .add (.var 8) (.sub cEnds (.lit (.int 0)))) (eF x y lo hi s ws tl full row M here p (.im (.lst (G.map hD)))) = some (.tup ((row ++ r).map .int), k, e) := by
  have hc : ∀ (E : PL.Env), E = eF x y lo hi s ws tl full row M here p (.im (.lst (G.map hD))) →
      compE FR [16, 17, 13] (.tp (.cons (.nm 16) (.cons (.nm 17) (.cons (.nm 13) (.nil))))) (.chain .le .le (.var 2) (.bin .add (.var 10) (.var 13)) (.var 3)) (.var 16) (G.map hD) E = some ((((G.filter fun e => inR lo hi (here + e.2.2)).map (·.1)).map fun r : List Int => .tup (r.map .int)), E) := by
    intro E hE
    have e0 : (((G.filter fun e => inR lo hi (here + e.2.2)).map (·.1)).map fun r : List Int => D.tup (r.map .int)) = G.filterMap fun e => if inR lo hi (here + e.2.2) = true then some (D.tup (e.1.map .int)) else none := by
      rw [List.map_map, ← List.filterMap_eq_filter, ← List.filterMap_eq_map, List.filterMap_filterMap]
      refine congrFun (congrArg List.filterMap (funext fun k => ?_)) _
      cases h : inR lo hi (here + k.2.2) <;> simp [Option.guard, h]
    rw [e0]
    refine compE_fm _ _ _ fun g _ => ?_
    subst hE
    cases h1 : decide (lo ≤ here + g.2.2) with
    | false => simp [eF, hD, getS, ev_var_eq, inR, h1]
    | true =>
      cases h2 : decide (here + g.2.2 ≤ hi) with
      | false => simp [eF, hD, getS, ev_var_eq, inR, h1, h2]
      | true =>
        simp [eF, hD, getS, ev_var_eq, inR, h1, h2]
        exact ⟨_, _, ⟨rfl, rfl⟩, rfl, rfl⟩
  rw [hG] at hc
  have hadd : binF .add (.tup (row.map .int)) (.tup (r.map .int)) = some (.tup ((row ++ r).map .int), false) := by
    rw [List.map_append]
    exact if_pos (by rw [List.length_map, List.length_map]; exact hr)
  have hi0 : ixF (.lst ((r :: G'.map (·.1)).map fun r : List Int => .tup (r.map .int))) (.int 0) = some (.tup (r.map .int)) := (atI_nat (j := 0) (List.getElem?_cons_zero ..) : atI _ ((0 : Nat) : Int) = _)
  generalize ((r :: G'.map (·.1)).map fun r : List Int => D.tup (r.map .int)) = Y at hc hi0
  generalize G.map hD = Z at hc
  simp [eF, getS, ev_var_eq, seqK, noOwn_cons, hc _ rfl, hi0, hadd]
abbrev bF : MS := .seq (.ite (.bi .any (.cons cAny .nil)) (.seq (.set 11 cRest) (.seq (.set 12 (.call 1 (.cons (.slice (.var 0) (.asInt (.var 4)) (.lit .non)) (.cons (.var 11) (.cons (.bi .len (.cons (.var 11) (.nil))) (.nil)))))) (.ret (.bin .add (.var 8) (.sub cEnds (.lit (.int 0))))))) (.skip)) (.seq (.kill [8, 9, 10, 11, 12]) .skip)
abbrev eG (x y : D) (lo hi : Int) (s : Nat) (ws : List Int) (tl : Bk) (full : Nat) : PL.Env := [.im x, .im y, .im (.int lo), .im (.int hi), .im (.int s), .im (.lst (ws.map .int)), .im (.dic (encB tl)), .im (.int full), .un, .un, .un, .un, .un, .un, .un, .un, .un, .un]
theorem f_no (fuel : Nat) (h : ev FR (.bi .any (.cons cAny .nil)) (eF x y lo hi s ws tl full row M here .un .un) = some (.bl false, .fz, eF x y lo hi s ws tl full row M here .un .un)) :
    evS FR fuel bF (eF x y lo hi s ws tl full row M here .un .un) = some (.nx (eG x y lo hi s ws tl full)) := by
  rw [evS_seq', evS_ite', h]
  simp [eF]
theorem f_yes {fs : List Int} {r : List Int} {G' : List Hd3} (fuel : Nat) (h : ev FR (.bi .any (.cons cAny .nil)) (eF x y lo hi s ws tl full row M here .un .un) = some (.bl true, .fz, eF x y lo hi s ws tl full row M here .un .un))
    (hx : seqD x = some fs) (hs : allS fs = true) (hsl : s ≤ fs.length) (h5 : (rem ws M).length ≤ 5) (hm : (rem ws M).length ≤ fs.length - s)
    (hG : ((heads (fs.drop s) (rem ws M) (rem ws M).length).filter fun e => inR lo hi (here + e.2.2)).map (·.1) = r :: G'.map (·.1)) (hr : row.length + r.length ≤ sizeLine) :
    ∃ k e, evS FR fuel bF (eF x y lo hi s ws tl full row M here .un .un) = some (.rt (.tup ((row ++ r).map .int)) k e) := by
  obtain ⟨z, b, hz, hzd⟩ := slice_seq hx hsl
  have hd : allS (fs.drop s) = true := allS_of fun v hv => allS_mem hs v (List.mem_of_mem_drop hv)
  have hu : u_head_rows [z, .lst ((rem ws M).map .int), .int ((rem ws M).length : Nat)] = some (.lst ((heads (fs.drop s) (rem ws M) (rem ws M).length).map hD)) := by
    show (seqD z).bind _ = _
    rw [hzd]
    show (intsD ((rem ws M).map .int)).bind _ = _
    rw [intsD_map]
    show (if _ then _ else _) = _
    rw [if_pos ⟨⟨⟨hd, h5⟩, by omega, by omega⟩, by rw [List.length_drop]; omega⟩, Int.toNat_natCast]
  obtain ⟨k, e, hp⟩ := f_pick (x := x) (y := y) (s := s) (ws := ws) (tl := tl) (full := full) (M := M) hG hr (.im (.lst ((rem ws M).map .int)))
  have hr0 := f_rest (x := x) (y := y) (lo := lo) (hi := hi) (s := s) (ws := ws) (tl := tl) (full := full) (row := row) (M := M) (here := here)
  refine ⟨k, e, ?_⟩
  have s1 : evS FR fuel (.set 11 cRest) (eF x y lo hi s ws tl full row M here .un .un) = some (.nx (eF x y lo hi s ws tl full row M here (.ow (.lst ((rem ws M).map .int))) .un)) := by
    rw [evS_set', hr0]
    simp [eF]
  generalize ((heads (fs.drop s) (rem ws M) (rem ws M).length).map hD) = Z at hu hp
  have s2 : evS FR fuel (.set 12 (.call 1 (.cons (.slice (.var 0) (.asInt (.var 4)) (.lit .non)) (.cons (.var 11) (.cons (.bi .len (.cons (.var 11) (.nil))) (.nil)))))) (eF x y lo hi s ws tl full row M here (.ow (.lst ((rem ws M).map .int))) .un) = some (.nx (eF x y lo hi s ws tl full row M here (.im (.lst ((rem ws M).map .int))) (.im (.lst Z)))) := by
    cases b <;> simp [eF, getS, ev_var_eq, partD, hz, FR, tbl, fsR, hu]
  rw [evS_seq', evS_ite', h]
  show andThen (evS FR fuel (.seq (.set 11 cRest) _) _) _ = _
  rw [evS_seq', s1, andThen_nx, evS_seq', s2, andThen_nx, evS_ret', hp]
  rfl
theorem f_step {fs : List Int} {t : Nat} (fuel : Nat) (hx : seqD x = some fs) (hs : allS fs = true) (hw : Srt ws) (h5 : ws.length ≤ 5) (hl : s + t = ws.length) (hf : fs.length = ws.length) {h : Hd3} (hh : h ∈ heads fs ws s) :
    (∀ r, atHead fs ws s t lo hi h = some r → ∃ k e, evS FR fuel bF (eF x y lo hi s ws (tailN fs ws t) (2 ^ ws.length - 1) h.1 h.2.1 h.2.2 .un .un) = some (.rt (.tup (r.map .int)) k e)) ∧
    (atHead fs ws s t lo hi h = none → evS FR fuel bF (eF x y lo hi s ws (tailN fs ws t) (2 ^ ws.length - 1) h.1 h.2.1 h.2.2 .un .un) = some (.nx (eG x y lo hi s ws (tailN fs ws t) (2 ^ ws.length - 1)))) := by
  have ok := heads_ok hw s hh
  have hu : (unused ws.length h.2.1).length = t := by have := ok.ln; omega
  have hrl : (rem ws h.2.1).length = t := by unfold rem; rw [List.length_map, hu]
  have hmem : Mem (tailN fs ws t) ((2 ^ ws.length - 1) ^^^ h.2.1) (dotAt fs (fs.length - t) (rem ws h.2.1)) :=
    (tail_left ok.bd hu (by omega) _).mpr ⟨_, (arrV_mem t _ _ hrl).mpr (List.Perm.refl _), rfl⟩
  obtain ⟨L, hL, _⟩ := hmem
  have ha := f_any (x := x) (y := y) (lo := lo) (hi := hi) (s := s) (ws := ws) (row := h.1) (here := h.2.2) (bxor_full h5 (lt_of_bits ok.bd)) hL
  have hrow : h.1.length = s := heads_row s hh
  constructor
  · intro r hr
    have hr' := hr
    rw [at_head hw hl hf hh] at hr'
    unfold atHead at hr
    rw [hL] at hr
    by_cases c : (L.any fun more => inR lo hi (h.2.2 + more)) = true
    · rw [c] at ha
      rw [show ((some L).getD [] : List Int) = L from rfl, if_pos c] at hr
      cases e : (heads (fs.drop s) (rem ws h.2.1) t).filter fun e => inR lo hi (h.2.2 + e.2.2) with
      | nil =>
        have hsr : Srt (rem ws h.2.1) := srt_of (rem_sorted hw _)
        have hf2 : ((heads (fs.drop s) (rem ws h.2.1) t).find? fun e => inR lo hi (h.2.2 + e.2.2)) = none := by
          rw [List.find?_eq_none]
          intro g hg hp
          have : g ∈ (heads (fs.drop s) (rem ws h.2.1) t).filter fun e => inR lo hi (h.2.2 + e.2.2) := List.mem_filter.mpr ⟨hg, hp⟩
          rw [e] at this
          cases this
        obtain ⟨q, hq, -⟩ := Option.map_eq_some_iff.mp hr'
        have hqm := List.mem_of_find?_eq_some hq
        have hqp := List.find?_some hq
        have hin : (q, dotAt (fs.drop s) 0 q) ∈ (heads (fs.drop s) (rem ws h.2.1) t).map fun g => (g.1, g.2.2) := by
          rw [heads_arr hsr]
          exact List.mem_map.mpr ⟨q, hqm, rfl⟩
        obtain ⟨g, hg, hge⟩ := List.mem_map.mp hin
        have h2 : g.2.2 = dotAt fs s q := by
          have := congrArg Prod.snd hge
          rw [show ((q, dotAt (fs.drop s) 0 q).2 : Int) = dotAt (fs.drop s) 0 q from rfl, dotAt_drop, Nat.add_zero] at this
          exact this
        exact absurd (show inR lo hi (h.2.2 + g.2.2) = true by rw [h2]; exact hqp) (List.find?_eq_none.mp hf2 g hg)
      | cons g G' =>
        rw [e] at hr
        cases hr
        have hgm : g ∈ heads (fs.drop s) (rem ws h.2.1) t := (List.mem_filter.mp (by rw [e]; exact List.mem_cons_self : g ∈ (heads (fs.drop s) (rem ws h.2.1) t).filter fun e => inR lo hi (h.2.2 + e.2.2))).1
        exact f_yes (G' := G') fuel ha hx hs (by omega) (by omega) (by omega) (by rw [hrl, e]; rfl) (by
          show h.1.length + g.1.length ≤ sizeLine
          rw [heads_row t hgm, hrow]
          exact line_big (by omega))
    · rw [show ((some L).getD [] : List Int) = L from rfl, if_neg c] at hr
      cases hr
  · intro hn
    unfold atHead at hn
    rw [hL] at hn
    by_cases c : (L.any fun more => inR lo hi (h.2.2 + more)) = true
    · rw [show ((some L).getD [] : List Int) = L from rfl, if_pos c] at hn
      cases hn
    · rw [Bool.eq_false_iff.mpr c] at ha
      exact f_no fuel ha
abbrev tF : MT := .tp (.cons (.nm 8) (.cons (.nm 9) (.cons (.nm 10) (.nil))))
theorem f_loop {fs : List Int} {t : Nat} (fuel : Nat) (hx : seqD x = some fs) (hs : allS fs = true) (hw : Srt ws) (h5 : ws.length ≤ 5) (hl : s + t = ws.length) (hf : fs.length = ws.length) :
    ∀ l : List Hd3, (∀ h ∈ l, h ∈ heads fs ws s) →
      (∀ r, l.findSome? (atHead fs ws s t lo hi) = some r → ∃ k e, forE FR fuel tF bF (l.map hD) (eG x y lo hi s ws (tailN fs ws t) (2 ^ ws.length - 1)) = some (.rt (.tup (r.map .int)) k e)) ∧
      (l.findSome? (atHead fs ws s t lo hi) = none → forE FR fuel tF bF (l.map hD) (eG x y lo hi s ws (tailN fs ws t) (2 ^ ws.length - 1)) = some (.nx (eG x y lo hi s ws (tailN fs ws t) (2 ^ ws.length - 1))))
  | [], _ => ⟨fun r h => (nomatch h), fun _ => rfl⟩
  | h :: l, hh => by
    have ih := f_loop fuel hx hs hw h5 hl hf l fun g hg => hh g (List.mem_cons_of_mem _ hg)
    have st := f_step (x := x) (y := y) (lo := lo) (hi := hi) fuel hx hs hw h5 hl hf (hh h List.mem_cons_self)
    have ea : asgT tF (hD h) (eG x y lo hi s ws (tailN fs ws t) (2 ^ ws.length - 1)) = some (eF x y lo hi s ws (tailN fs ws t) (2 ^ ws.length - 1) h.1 h.2.1 h.2.2 .un .un) := rfl
    rw [List.map_cons, forE_cons, ea, List.findSome?_cons, Option.bind_some]
    cases e : atHead fs ws s t lo hi h with
    | some r0 =>
      obtain ⟨k, e1, h1⟩ := st.1 r0 e
      rw [h1]
      refine ⟨fun r hr => ?_, fun hn => nomatch hn⟩
      cases hr
      exact ⟨k, e1, rfl⟩
    | none =>
      rw [st.2 e]
      exact ih
end W
set_option maxHeartbeats 4000000
namespace W
open PySem PySem.Spec PyProof.Rows L2 PL
def rowD : Option (List Int) → D
  | some r => .tup (r.map .int)
  | none => .non
def u_first_row : List D → Option D
  | [x, y, .int lo, .int hi] => (seqD x).bind fun fs => (seqD y).bind fun ws => if (allS fs = true ∧ ws.length ≤ 5) ∧ fs.length = ws.length then some (rowD ((arrV ws.length (srtI ws)).find? fun r => inR lo hi (dotAt fs 0 r))) else none
  | _ => none
abbrev e1F (x y : D) (lo hi : Int) (s : Nat) (ws : List Int) : PL.Env := [.im x, .im y, .im (.int lo), .im (.int hi), .im (.int s), .ow (.lst (ws.map .int)), .un, .un, .un, .un, .un, .un, .un, .un, .un, .un, .un, .un]
variable {x y : D} {lo hi : Int} {s : Nat} {ws fs : List Int}
theorem f_s1 (hx : seqD x = some fs) (hy : seqD y = some ws) (h5 : ws.length ≤ 5) :
    evS FR 0 (.par2 4 5 (.bin .fdiv (.bi .len (.cons (.var 0) (.nil))) (.lit (.int 2))) (.bi .sorted (.cons (.var 1) (.nil)))) (env0 18 [x, y, .int lo, .int hi]) = some (.nx (e1F x y lo hi (fs.length / 2) (srtI ws))) := by
  have hd : binF .fdiv (.int (fs.length : Int)) (.int 2) = some (.int ((fs.length / 2 : Nat) : Int), false) := bin_fdiv (by decide) (by rw [B64_eq]; decide)
  have hso := bi_sorted hy (by omega)
  simp only [e1F]
  generalize (srtI ws).map D.int = Z at hso ⊢
  generalize ((fs.length / 2 : Nat) : Int) = q at hd ⊢
  simp [env0, getS, ev_var_eq, len_seq hx, hd, hso]
theorem f_s2 (hx : seqD x = some fs) (hs : allS fs = true) (h5 : ws.length ≤ 5) (hf : fs.length = ws.length) (hsl : s ≤ fs.length) :
    evS FR 0 (.par2 6 7 (.call 0 (.cons (.var 0) (.cons (.var 5) (.cons (.var 4) (.nil))))) (.bin .sub (.bin .shl (.lit (.int 1)) (.bi .len (.cons (.var 5) (.nil)))) (.lit (.int 1)))) (e1F x y lo hi s ws) = some (.nx (eG x y lo hi s ws (tailN fs ws (fs.length - s)) (2 ^ ws.length - 1))) := by
  have hu : u_tail_sums [x, .lst (ws.map .int), .int (s : Nat)] = some (.dic (encB (tailN fs ws (fs.length - s)))) := by
    show (seqD x).bind _ = _
    rw [hx]
    show (intsD (ws.map .int)).bind _ = _
    rw [intsD_map]
    show (if _ then _ else _) = _
    rw [if_pos ⟨⟨⟨hs, h5⟩, by omega, by omega⟩, by omega⟩, Int.toNat_natCast]
  have hsh : binF .shl (.int 1) (.int (ws.length : Int)) = some (.int (bt ws.length : Nat), false) := bin_shl_nat (by omega)
  have hq : ((bt ws.length : Nat) : Int) - 1 = ((2 ^ ws.length - 1 : Nat) : Int) := by
    unfold bt
    have := Nat.two_pow_pos ws.length
    omega
  have hln : biF .len [.lst (ws.map .int)] = some (.int (ws.length : Int), false) := by rw [bi_len_l, List.length_map]
  simp only [e1F, eG]
  generalize ((bt ws.length : Nat) : Int) = q at hsh hq
  generalize encB (tailN fs ws (fs.length - s)) = T at hu ⊢
  generalize ((2 ^ ws.length - 1 : Nat) : Int) = q2 at hq ⊢
  generalize (ws.length : Int) = wl at hsh hln
  generalize ws.map D.int = Z at hu hln ⊢
  subst hq
  simp [getS, ev_var_eq, FR, tbl, fsR, hu, hsh, hln, -bi_len_l]
abbrev lF : MS := .seq (.kill [8, 9, 10, 11, 12]) (.forr tF (.seq false (.call 1 (.cons (.var 0) (.cons (.var 5) (.cons (.var 4) (.nil)))))) bF)
theorem f_s3 {tl : Bk} {full : Nat} (hx : seqD x = some fs) (hs : allS fs = true) (h5 : ws.length ≤ 5) (hf : fs.length = ws.length) (hsl : s ≤ fs.length) :
    evS FR 0 lF (eG x y lo hi s ws tl full) = forE FR 0 tF bF ((heads fs ws s).map hD) (eG x y lo hi s ws tl full) := by
  have hu : u_head_rows [x, .lst (ws.map .int), .int (s : Nat)] = some (.lst ((heads fs ws s).map hD)) := by
    show (seqD x).bind _ = _
    rw [hx]
    show (intsD (ws.map .int)).bind _ = _
    rw [intsD_map]
    show (if _ then _ else _) = _
    rw [if_pos ⟨⟨⟨hs, h5⟩, by omega, by omega⟩, by omega⟩, Int.toNat_natCast]
  simp only [eG]
  generalize (heads fs ws s).map hD = Y at hu ⊢
  generalize ws.map D.int = Z at hu ⊢
  simp [getS, ev_var_eq, tbl, fsR, hu, seqK]
theorem r_first_row : ∀ ds d, u_first_row ds = some d → ∃ d2, runF FR (fun _ => 0) m_first_row 18 false false ds = some (d, d2) := by
  intro ds d e
  unfold u_first_row at e
  split at e
  · rename_i x y lo hi
    obtain ⟨fs, e1, e⟩ := bind_inv e
    obtain ⟨ws, e2, e⟩ := bind_inv e
    obtain ⟨⟨⟨h1, h2⟩, h3⟩, e⟩ := ite_inv e
    cases e
    have hlen : (srtI ws).length = ws.length := (srtI_perm ws).length_eq
    have hsl : fs.length / 2 ≤ fs.length := Nat.div_le_self ..
    have hst : fs.length / 2 + (fs.length - fs.length / 2) = (srtI ws).length := by omega
    have hw := srt_of (srtI_sorted ws)
    have lp := f_loop (x := x) (y := y) (lo := lo) (hi := hi) (s := fs.length / 2) (t := fs.length - fs.length / 2) 0 e1 h1 hw (by omega) hst (by omega) _ (fun h hh => hh)
    have ff := first_find (fs := fs) (lo := lo) (hi := hi) hw hst (by omega)
    rw [hst, hlen] at ff
    rw [← ff]
    refine ⟨.non, ?_⟩
    show (evS FR 0 (.seq _ (.seq _ (.seq lF (.ret (.lit .non))))) (env0 18 [x, y, .int lo, .int hi])).bind (endF false) = _
    rw [evS_seq', f_s1 e1 e2 h2, andThen_nx, evS_seq', f_s2 e1 h1 (by omega) (by omega) hsl, andThen_nx, evS_seq', f_s3 e1 h1 (by omega) (by omega) hsl]
    unfold firstN
    cases e4 : (heads fs (srtI ws) (fs.length / 2)).findSome? (atHead fs (srtI ws) (fs.length / 2) (fs.length - fs.length / 2) lo hi) with
    | some r =>
      obtain ⟨k, e5, h6⟩ := lp.1 r e4
      rw [h6]
      exact endF_rt (k := k) (e := e5)
    | none =>
      rw [lp.2 e4]
      rfl
  · cases e
end W
set_option maxHeartbeats 4000000
namespace W
open PySem PySem.Spec PyProof.Rows L2 PL
def u_balanced : List D → Option D
  | [p, w, .int i] => (u_check_positions [p]).bind fun _ => (u_check_loads [p, w]).bind fun _ => (u_check_slack [.int i]).bind fun _ => u_first_row [p, w, .int (-i), .int i]
  | _ => none
theorem r_balanced : ∀ ds d, u_balanced ds = some d → ∃ d2, runF (tbl [fsR 1 u_check_positions, fsR 2 u_check_loads, fsR 1 u_check_slack, fsR 4 u_first_row]) (fun _ => 0) m_balanced 3 false false ds = some (d, d2) := by
  intro ds d e
  unfold u_balanced at e
  split at e
  · rename_i p w i
    obtain ⟨d1, h1, e⟩ := bind_inv e
    obtain ⟨d2, h2, e⟩ := bind_inv e
    obtain ⟨d3, h3, e⟩ := bind_inv e
    exact ⟨.non, by simp [runF, m_balanced, env0, getS, ev_var_eq, tbl, fsR, h1, h2, h3, e]⟩
  · cases e
def u_least_moment (u_least_sum : List D → Option D) : List D → Option D
  | [p, w] => (u_check_positions [p]).bind fun _ => (u_check_loads [p, w]).bind fun _ => (u_least_sum [p, w]).bind fun l => match l with
    | .int i => (u_first_row [p, w, .int (-i), .int i]).map fun r => .tup [.int i, r]
    | _ => none
  | _ => none
theorem r_least_moment (u : List D → Option D) : ∀ ds d, u_least_moment u ds = some d → ∃ d2, runF (tbl [fsR 1 u_check_positions, fsR 2 u_check_loads, fsR 2 u, fsR 4 u_first_row]) (fun _ => 0) m_least_moment 3 false false ds = some (d, d2) := by
  intro ds d e
  unfold u_least_moment at e
  split at e
  · rename_i p w
    obtain ⟨d1, h1, e⟩ := bind_inv e
    obtain ⟨d2, h2, e⟩ := bind_inv e
    obtain ⟨l, h3, e⟩ := bind_inv e
    cases l with
    | int i =>
      obtain ⟨r, h4, rfl⟩ := Option.map_eq_some_iff.mp e
      have l2 : 2 ≤ sizeLine := by decide
      exact ⟨.non, by simp [runF, m_least_moment, env0, getS, ev_var_eq, tbl, fsR, h1, h2, h3, h4, l2]⟩
    | _ => cases e
  · cases e
end W
set_option maxHeartbeats 4000000
namespace W
open PySem PySem.Spec PyProof.Rows L2 PL
/-- the least of numbers, the first of equal ones -/
def minI : List Int → Option Int
  | [] => none
  | x :: xs => some (xs.foldl (fun a b => if b < a then b else a) x)
theorem minBy_fold : ∀ (xs : List Int) (x : Int), (xs.map D.int).foldl (fun a b => if PySem.W.dataLt (toP b) (toP a) = true then b else a) (.int x) = .int (xs.foldl (fun a b => if b < a then b else a) x)
  | [], _ => rfl
  | y :: ys, x => by
    rw [List.map_cons, List.foldl_cons, List.foldl_cons]
    have e : (if PySem.W.dataLt (toP (.int y)) (toP (.int x)) = true then D.int y else D.int x) = .int (if y < x then y else x) := by
      have e2 : PySem.W.dataLt (toP (.int y)) (toP (.int x)) = decide (y < x) := by
        have e3 := congrFun (congrFun (PySem.W.dataLe_int (β := Int) id) x) y
        have e4 : PySem.W.dataLe false (fun b : Int => PyData.int (id b)) x y = !PySem.W.dataLt (toP (.int y)) (toP (.int x)) := rfl
        rw [e4] at e3
        have e5 : PySem.W.dataLt (toP (.int y)) (toP (.int x)) = !decide (x ≤ y) := by rw [← show decide (id x ≤ id y) = decide (x ≤ y) from rfl, ← e3, Bool.not_not]
        rw [e5]
        by_cases h : y < x <;> simp [h] <;> omega
      rw [e2]
      by_cases h : y < x
      · rw [if_pos (decide_eq_true h), if_pos h]
      · rw [if_neg (by rw [decide_eq_false h]; decide), if_neg h]
    rw [e]
    exact minBy_fold ys _
theorem bi_min_ints {x : Int} {xs : List Int} : biF .min [.lst ((x :: xs).map .int)] = some (.int (xs.foldl (fun a b => if b < a then b else a) x), false) := by
  show (if okS ((x :: xs).map .int) = true then oneN (minBy ((x :: xs).map .int)) else none) = _
  rw [if_pos (okS_ints _)]
  show oneN (some ((xs.map D.int).foldl _ (.int x))) = _
  rw [minBy_fold]
  rfl
theorem fold_min_le : ∀ (xs : List Int) (x : Int), xs.foldl (fun a b => if b < a then b else a) x ≤ x ∧ (∀ y ∈ xs, xs.foldl (fun a b => if b < a then b else a) x ≤ y) ∧ (xs.foldl (fun a b => if b < a then b else a) x = x ∨ xs.foldl (fun a b => if b < a then b else a) x ∈ xs)
  | [], x => ⟨Int.le_refl _, fun _ h => (nomatch h), .inl rfl⟩
  | z :: zs, x => by
    obtain ⟨h1, h2, h3⟩ := fold_min_le zs (if z < x then z else x)
    rw [List.foldl_cons]
    generalize zs.foldl (fun a b => if b < a then b else a) (if z < x then z else x) = m at h1 h2 h3
    by_cases h : z < x
    · rw [if_pos h] at h1 h3
      refine ⟨by omega, fun y hy => ?_, ?_⟩
      · rcases List.mem_cons.mp hy with rfl | hy
        · exact h1
        · exact h2 y hy
      · rcases h3 with rfl | h3
        · exact .inr List.mem_cons_self
        · exact .inr (List.mem_cons_of_mem _ h3)
    · rw [if_neg h] at h1 h3
      refine ⟨h1, fun y hy => ?_, ?_⟩
      · rcases List.mem_cons.mp hy with rfl | hy
        · omega
        · exact h2 y hy
      · rcases h3 with rfl | h3
        · exact .inl rfl
        · exact .inr (List.mem_cons_of_mem _ h3)
/-- `m` is the least of what `p` holds of -/
def IsLeast (p : Int → Prop) (m : Int) : Prop := p m ∧ ∀ x, p x → m ≤ x
theorem isLeast_unique {p : Int → Prop} {m n : Int} (h1 : IsLeast p m) (h2 : IsLeast p n) : m = n := Int.le_antisymm (h1.2 n h2.1) (h2.2 m h1.1)
theorem min_isLeast (x : Int) (xs : List Int) : IsLeast (· ∈ x :: xs) (xs.foldl (fun a b => if b < a then b else a) x) := by
  obtain ⟨h1, h2, h3⟩ := fold_min_le xs x
  refine ⟨?_, fun y hy => ?_⟩
  · rcases h3 with h3 | h3
    · rw [h3]; exact List.mem_cons_self
    · exact List.mem_cons_of_mem _ h3
  · rcases List.mem_cons.mp hy with rfl | hy
    · exact h1
    · exact h2 y hy
end W
set_option maxHeartbeats 4000000
namespace W
open PySem PySem.Spec PyProof.Rows L2 PL
def absI (z : Int) : Int := if z < 0 then -z else z
def fmin (x : Int) (xs : List Int) : Int := xs.foldl (fun a b => if b < a then b else a) x
/-- the least distance at one head -/
def headMin (fs ws : List Int) (t : Nat) (h : Hd3) : Int := match (lookN (tailN fs ws t) ((2 ^ ws.length - 1) ^^^ h.2.1)).getD [] with
  | [] => 0
  | a :: L => fmin (absI (h.2.2 + a)) (L.map fun more => absI (h.2.2 + more))
abbrev cAbs : ME := .comp [10] (.nm 10) (.seq false (.subD (.var 4) (.bin .bxor (.var 5) (.var 8)))) (.lit (.bl true)) (.bi .abs (.cons (.bin .add (.var 9) (.var 10)) (.nil)))
abbrev bL : MS := .seq (.app 6 (.bi .min (.cons cAbs (.nil)))) (.seq (.kill [7, 8, 9]) .skip)
abbrev eL (x y : D) (s : Nat) (ws : List Int) (tl : Bk) (full : Nat) (found : List Int) (p q r : PL.Sl) : PL.Env := [.im x, .im y, .im (.int s), .im (.lst (ws.map .int)), .im (.dic (encB tl)), .im (.int full), .ow (.lst (found.map .int)), p, q, r, .un]
variable {x y : D} {s : Nat} {ws : List Int} {tl : Bk} {full : Nat} {row : List Int} {M : Nat} {here : Int}
theorem l_min {N : Nat} {a : Int} {L : List Int} (found : List Int) (hx : binF .bxor (.int (full : Int)) (.int (M : Int)) = some (.int (N : Int), false)) (hL : lookN tl N = some (a :: L)) (fuel : Nat) (hf : found.length < sizeLine) :
    evS FR fuel bL (eL x y s ws tl full found (.im (.tup (row.map .int))) (.im (.int M)) (.im (.int here))) = some (.nx (eL x y s ws tl full (found ++ [fmin (absI (here + a)) (L.map fun more => absI (here + more))]) .un .un .un)) := by
  have hc : ∀ (E : PL.Env), E = eL x y s ws tl full found (.im (.tup (row.map .int))) (.im (.int M)) (.im (.int here)) →
      compE FR [10] (.nm 10) (.lit (.bl true)) (.bi .abs (.cons (.bin .add (.var 9) (.var 10)) (.nil))) ((a :: L).map .int) E = some (((a :: L).map fun more => absI (here + more)).map .int, E) := by
    intro E hE
    rw [List.map_map]
    refine compE_m _ _ _ rfl fun z _ => ?_
    subst hE
    simp [eL, getS, ev_var_eq, absI]
  have hk := look_enc tl N
  rw [hL] at hk
  have hm : biF .min [.lst (((a :: L).map fun more => absI (here + more)).map .int)] = some (.int (fmin (absI (here + a)) (L.map fun more => absI (here + more))), false) := bi_min_ints
  generalize ((a :: L).map fun more => absI (here + more)).map D.int = Y at hc hm
  generalize fmin (absI (here + a)) (L.map fun more => absI (here + more)) = m at hm ⊢
  rw [Option.map_some] at hk
  generalize (a :: L).map D.int = Z at hc hk
  have hfl : (found.map D.int).length < sizeLine := by rw [List.length_map]; exact hf
  have ho : owL (eL x y s ws tl full found (.im (.tup (row.map .int))) (.im (.int M)) (.im (.int here))) 6 = some (found.map .int) := owL_of rfl
  simp only [eL, List.map_append, List.map_cons, List.map_nil] at hc ho ⊢
  generalize found.map D.int = W0 at hc ho hfl ⊢
  simp [getS, ev_var_eq, hx, keyD, hk, seqK, noOwn_cons, hc _ rfl, hm, ho, hfl, slotSet]
abbrev tL : MT := .tp (.cons (.nm 7) (.cons (.nm 8) (.cons (.nm 9) (.nil))))
theorem l_loop {fs : List Int} {t : Nat} (fuel : Nat) (hw : Srt ws) (h5 : ws.length ≤ 5) (hl : s + t = ws.length) (hf : fs.length = ws.length) :
    ∀ (l : List Hd3) (found : List Int), (∀ h ∈ l, h ∈ heads fs ws s) → found.length + l.length ≤ 100000 →
      forE FR fuel tL bL (l.map hD) (eL x y s ws (tailN fs ws t) (2 ^ ws.length - 1) found .un .un .un) = some (.nx (eL x y s ws (tailN fs ws t) (2 ^ ws.length - 1) (found ++ l.map (headMin fs ws t)) .un .un .un))
  | [], found, _, _ => by rw [List.map_nil, List.map_nil, List.append_nil]; rfl
  | h :: l, found, hh, hn => by
    have ok := heads_ok hw s (hh h List.mem_cons_self)
    have hu : (unused ws.length h.2.1).length = t := by have := ok.ln; omega
    have hrl : (rem ws h.2.1).length = t := by unfold rem; rw [List.length_map, hu]
    have hmem : Mem (tailN fs ws t) ((2 ^ ws.length - 1) ^^^ h.2.1) (dotAt fs (fs.length - t) (rem ws h.2.1)) :=
      (tail_left ok.bd hu (by omega) _).mpr ⟨_, (arrV_mem t _ _ hrl).mpr (List.Perm.refl _), rfl⟩
    obtain ⟨L, hL, hin⟩ := hmem
    cases L with
    | nil => cases hin
    | cons a L =>
      rw [List.length_cons] at hn
      have st := l_min (x := x) (y := y) (s := s) (ws := ws) (row := h.1) (here := h.2.2) found (bxor_full h5 (lt_of_bits ok.bd)) hL fuel (Nat.lt_of_lt_of_le (by omega : found.length < 16777216) (line_big (Nat.le_refl _)))
      have hm : headMin fs ws t h = fmin (absI (h.2.2 + a)) (L.map fun more => absI (h.2.2 + more)) := by
        unfold headMin
        rw [hL]
        rfl
      rw [← hm] at st
      have ea : asgT tL (hD h) (eL x y s ws (tailN fs ws t) (2 ^ ws.length - 1) found .un .un .un) = some (eL x y s ws (tailN fs ws t) (2 ^ ws.length - 1) found (.im (.tup (h.1.map .int))) (.im (.int h.2.1)) (.im (.int h.2.2))) := rfl
      rw [List.map_cons, forE_cons, ea, Option.bind_some, st]
      have ih := l_loop fuel hw h5 hl hf l (found ++ [headMin fs ws t h]) (fun g hg => hh g (List.mem_cons_of_mem _ hg)) (by rw [List.length_append, List.length_singleton]; omega)
      rw [List.map_cons, show found ++ headMin fs ws t h :: l.map (headMin fs ws t) = (found ++ [headMin fs ws t h]) ++ l.map (headMin fs ws t) by simp]
      exact ih
end W
set_option maxHeartbeats 4000000
namespace W
open PySem PySem.Spec PyProof.Rows L2 PL
def minD : List Int → Option D
  | [] => none
  | a :: l => some (.int (fmin a l))
def u_least_sum : List D → Option D
  | [x, y] => (seqD x).bind fun fs => (seqD y).bind fun ws => if (allS fs = true ∧ ws.length ≤ 5) ∧ fs.length = ws.length then minD ((heads fs (srtI ws) (fs.length / 2)).map (headMin fs (srtI ws) (fs.length - fs.length / 2))) else none
  | _ => none
abbrev e1L (x y : D) (s : Nat) (ws : List Int) : PL.Env := [.im x, .im y, .im (.int s), .ow (.lst (ws.map .int)), .un, .un, .un, .un, .un, .un, .un]
variable {x y : D} {s : Nat} {ws fs : List Int}
theorem l_s1 (hx : seqD x = some fs) (hy : seqD y = some ws) (h5 : ws.length ≤ 5) :
    evS FR 0 (.par2 2 3 (.bin .fdiv (.bi .len (.cons (.var 0) (.nil))) (.lit (.int 2))) (.bi .sorted (.cons (.var 1) (.nil)))) (env0 11 [x, y]) = some (.nx (e1L x y (fs.length / 2) (srtI ws))) := by
  have hd : binF .fdiv (.int (fs.length : Int)) (.int 2) = some (.int ((fs.length / 2 : Nat) : Int), false) := bin_fdiv (by decide) (by rw [B64_eq]; decide)
  have hso := bi_sorted hy (by omega)
  simp only [e1L]
  generalize (srtI ws).map D.int = Z at hso ⊢
  generalize ((fs.length / 2 : Nat) : Int) = q at hd ⊢
  simp [env0, getS, ev_var_eq, len_seq hx, hd, hso]
theorem l_s2 (hx : seqD x = some fs) (hs : allS fs = true) (h5 : ws.length ≤ 5) (hf : fs.length = ws.length) (hsl : s ≤ fs.length) :
    evS FR 0 (.par3 4 5 6 (.call 0 (.cons (.var 0) (.cons (.var 3) (.cons (.var 2) (.nil))))) (.bin .sub (.bin .shl (.lit (.int 1)) (.bi .len (.cons (.var 3) (.nil)))) (.lit (.int 1))) (.lstD (.nil))) (e1L x y s ws) = some (.nx (eL x y s ws (tailN fs ws (fs.length - s)) (2 ^ ws.length - 1) [] .un .un .un)) := by
  have hu : u_tail_sums [x, .lst (ws.map .int), .int (s : Nat)] = some (.dic (encB (tailN fs ws (fs.length - s)))) := by
    show (seqD x).bind _ = _
    rw [hx]
    show (intsD (ws.map .int)).bind _ = _
    rw [intsD_map]
    show (if _ then _ else _) = _
    rw [if_pos ⟨⟨⟨hs, h5⟩, by omega, by omega⟩, by omega⟩, Int.toNat_natCast]
  have hsh : binF .shl (.int 1) (.int (ws.length : Int)) = some (.int (bt ws.length : Nat), false) := bin_shl_nat (by omega)
  have hq : ((bt ws.length : Nat) : Int) - 1 = ((2 ^ ws.length - 1 : Nat) : Int) := by
    unfold bt
    have := Nat.two_pow_pos ws.length
    omega
  have hln : biF .len [.lst (ws.map .int)] = some (.int (ws.length : Int), false) := by rw [bi_len_l, List.length_map]
  have l0 : 0 ≤ sizeLine := Nat.zero_le _
  simp only [e1L, eL]
  generalize ((bt ws.length : Nat) : Int) = q at hsh hq
  generalize encB (tailN fs ws (fs.length - s)) = T at hu ⊢
  generalize ((2 ^ ws.length - 1 : Nat) : Int) = q2 at hq ⊢
  generalize (ws.length : Int) = wl at hsh hln
  generalize ws.map D.int = Z at hu hln ⊢
  subst hq
  simp [getS, ev_var_eq, FR, tbl, fsR, hu, hsh, hln, l0, -bi_len_l]
abbrev lL : MS := .seq (.kill [7, 8, 9]) (.forr tL (.seq false (.call 1 (.cons (.var 0) (.cons (.var 3) (.cons (.var 2) (.nil)))))) bL)
theorem l_s3 {tl : Bk} {full : Nat} (hx : seqD x = some fs) (hs : allS fs = true) (h5 : ws.length ≤ 5) (hf : fs.length = ws.length) (hsl : s ≤ fs.length) :
    evS FR 0 lL (eL x y s ws tl full [] .un .un .un) = forE FR 0 tL bL ((heads fs ws s).map hD) (eL x y s ws tl full [] .un .un .un) := by
  have hu : u_head_rows [x, .lst (ws.map .int), .int (s : Nat)] = some (.lst ((heads fs ws s).map hD)) := by
    show (seqD x).bind _ = _
    rw [hx]
    show (intsD (ws.map .int)).bind _ = _
    rw [intsD_map]
    show (if _ then _ else _) = _
    rw [if_pos ⟨⟨⟨hs, h5⟩, by omega, by omega⟩, by omega⟩, Int.toNat_natCast]
  simp only [eL]
  generalize (heads fs ws s).map hD = Y at hu ⊢
  generalize ws.map D.int = Z at hu ⊢
  simp [getS, ev_var_eq, tbl, fsR, hu, seqK]
theorem r_least_sum : ∀ ds d, u_least_sum ds = some d → ∃ d2, runF FR (fun _ => 0) m_least_sum 11 false false ds = some (d, d2) := by
  intro ds d e
  unfold u_least_sum at e
  split at e
  · rename_i x y
    obtain ⟨fs, e1, e⟩ := bind_inv e
    obtain ⟨ws, e2, e⟩ := bind_inv e
    obtain ⟨⟨⟨h1, h2⟩, h3⟩, e⟩ := ite_inv e
    have hlen : (srtI ws).length = ws.length := (srtI_perm ws).length_eq
    have hsl : fs.length / 2 ≤ fs.length := Nat.div_le_self ..
    have hst : fs.length / 2 + (fs.length - fs.length / 2) = (srtI ws).length := by omega
    have hw := srt_of (srtI_sorted ws)
    have hb := heads_len (fs := fs) (show (srtI ws).length ≤ 5 by omega) (fs.length / 2)
    have hb2 : (5 : Nat) ^ (fs.length / 2) ≤ 5 ^ 5 := Nat.pow_le_pow_right (by decide) (by omega)
    have lp := l_loop (fs := fs) (x := x) (y := y) (s := fs.length / 2) (t := fs.length - fs.length / 2) 0 hw (by omega) hst (by omega) _ [] (fun h hh => hh) (by
      have h55 : (5 : Nat) ^ 5 = 3125 := by decide
      rw [List.length_nil]
      omega)
    rw [List.nil_append] at lp
    refine ⟨.non, ?_⟩
    show (evS FR 0 (.seq _ (.seq _ (.seq lL (.ret (.bi .min (.cons (.var 6) (.nil))))))) (env0 11 [x, y])).bind (endF false) = _
    rw [evS_seq', l_s1 e1 e2 h2, andThen_nx, evS_seq', l_s2 e1 h1 (by omega) (by omega) hsl, andThen_nx, evS_seq', l_s3 e1 h1 (by omega) (by omega) hsl, lp, andThen_nx]
    generalize (heads fs (srtI ws) (fs.length / 2)).map (headMin fs (srtI ws) (fs.length - fs.length / 2)) = Q at e ⊢
    cases Q with
    | nil => cases e
    | cons a l =>
      cases e
      have hm : biF .min [.lst ((a :: l).map .int)] = some (.int (fmin a l), false) := bi_min_ints
      simp only [eL]
      generalize (a :: l).map D.int = Z at hm ⊢
      simp [getS, ev_var_eq, hm]
  · cases e
end W
set_option maxHeartbeats 4000000
namespace W
open PySem PySem.Spec PyProof.Rows L2 PL
def maskSum (ps : List Int) (M : Nat) : Int := (((List.range ps.length).filter fun k => M.testBit k).map (ati ps)).sum
def u_mask_sum : List D → Option D
  | [.lst xs, .int m] => (intsD xs).bind fun ps => if 0 ≤ m then some (.int (maskSum ps m.toNat)) else none
  | _ => none
theorem mask_fm (ws : List Int) (M : Nat) : ((List.range ws.length).filterMap fun k => if M.testBit k = true then some (D.int (ati ws k)) else none) = (((List.range ws.length).filter fun k => M.testBit k).map (ati ws)).map .int := by
  rw [List.map_map, ← List.filterMap_eq_filter, ← List.filterMap_eq_map, List.filterMap_filterMap]
  refine congrFun (congrArg List.filterMap (funext fun k => ?_)) _
  cases h : M.testBit k <;> simp [Option.guard, h]
theorem r_mask_sum : ∀ ds d, u_mask_sum ds = some d → ∃ d2, runF (tbl []) (fun _ => 0) m_mask_sum 4 false false ds = some (d, d2) := by
  intro ds d e
  unfold u_mask_sum at e
  split at e
  · rename_i xs m
    obtain ⟨ps, e1, e⟩ := bind_inv e
    obtain ⟨h1, e⟩ := ite_inv e
    cases e
    cases intsD_inv e1
    obtain ⟨M, rfl⟩ := Int.eq_ofNat_of_zero_le h1
    rw [Int.toNat_natCast]
    have hc : ∀ (E : PL.Env), E = [.im (.lst (ps.map .int)), .im (.int M), .un, .un] →
        compE (tbl []) [2, 3] (.tp (.cons (.nm 2) (.cons (.nm 3) (.nil)))) (.cmp .eq (.bin .band (.bin .shr (.var 1) (.var 2)) (.lit (.int 1))) (.lit (.int 1))) (.var 3) (enumD 0 (ps.map .int)) E = some ((((List.range ps.length).filter fun k => M.testBit k).map (ati ps)).map .int, E) := by
      intro E hE
      rw [enumD_I, ← mask_fm]
      refine compE_fm _ _ _ fun k _ => ?_
      subst hE
      cases hb : M.testBit k with
      | false => simp [getS, ev_var_eq, bin_shr_nat, bin_bit, hb]
      | true =>
        simp [getS, ev_var_eq, bin_shr_nat, bin_bit, hb]
        exact ⟨_, _, ⟨rfl, rfl⟩, rfl, rfl⟩
    have hs : biF .sum [.lst ((((List.range ps.length).filter fun k => M.testBit k).map (ati ps)).map .int)] = some (.int (maskSum ps M), false) := bi_sum (intsD_map _)
    generalize ((((List.range ps.length).filter fun k => M.testBit k).map (ati ps)).map D.int) = Y at hc hs
    generalize hZ : enumD 0 (ps.map D.int) = Z at hc
    exact ⟨.non, by simp [runF, m_mask_sum, env0, getS, ev_var_eq, seqK, noOwn_cons, hZ, hc _ rfl, hs]⟩
  · cases e
end W
set_option maxHeartbeats 4000000
namespace W
open PySem PySem.Spec PyProof.Rows L2 PL
def u_axle_loads : List D → Option D
  | [.int l, .int r, .tup xs, .tup ys] => (u_check_axles [.int l, .int r]).bind fun _ => (u_check_positions [.tup xs]).bind fun _ => (u_check_loads [.tup xs, .tup ys]).bind fun _ =>
    (intsD xs).bind fun ps => (intsD ys).bind fun ws => (u_product_sum [.lst ((ps.map fun p => r - p).map .int), .tup ys]).bind fun n => (u_lowest [n, .int (r - l)]).bind fun f => (u_subtract [.tup [.int ws.sum, .int 1], f]).map fun q => .tup [f, q]
  | _ => none
theorem r_axle_loads : ∀ ds d, u_axle_loads ds = some d → ∃ d2, runF (tbl [fsR 2 u_check_axles, fsR 1 u_check_positions, fsR 2 u_check_loads, fsR 2 u_lowest, fsR 2 u_product_sum, fsR 2 u_subtract, fsR 1 u_whole]) (fun _ => 0) m_axle_loads 6 false false ds = some (d, d2) := by
  intro ds d e
  unfold u_axle_loads at e
  split at e
  · rename_i l r xs ys
    obtain ⟨d1, h1, e⟩ := bind_inv e
    obtain ⟨d2, h2, e⟩ := bind_inv e
    obtain ⟨d3, h3, e⟩ := bind_inv e
    obtain ⟨ps, h4, e⟩ := bind_inv e
    obtain ⟨ws, h5, e⟩ := bind_inv e
    obtain ⟨n, h6, e⟩ := bind_inv e
    obtain ⟨f, h7, e⟩ := bind_inv e
    obtain ⟨q, h8, rfl⟩ := Option.map_eq_some_iff.mp e
    cases intsD_inv h4
    have hsum : biF .sum [.tup ys] = some (.int ws.sum, false) := bi_sum h5
    have hc : ∀ (Φ : Nat → FS) (E : PL.Env), E = [.im (.int l), .im (.int r), .im (.tup (ps.map .int)), .im (.tup ys), .un, .un] →
        compE Φ [5] (.nm 5) (.lit (.bl true)) (.bin .sub (.var 1) (.var 5)) (ps.map .int) E = some ((ps.map fun p => r - p).map .int, E) := by
      intro Φ E hE
      rw [List.map_map]
      refine compE_m _ _ _ rfl fun z _ => ?_
      subst hE
      simp [getS, ev_var_eq]
    have l2 : 2 ≤ sizeLine := by decide
    generalize (ps.map fun p => r - p).map D.int = Y at hc h6
    generalize ps.map D.int = Z at hc h2 h3
    exact ⟨.non, by simp [runF, m_axle_loads, env0, getS, ev_var_eq, tbl, fsR, seqK, noOwn_cons, hc _ _ rfl, hsum, h1, h2, h3, h6, h7, h8, u_whole, l2]⟩
  · cases e
end W
set_option maxHeartbeats 4000000
namespace W
open PySem PySem.Spec PyProof.Rows L2 PL
def lowA (l r b tot : Int) : Int := (if tot - b > 0 then tot - b else 0) * (r - l)
def highA (l r a tot : Int) : Int := (if a < tot then a else tot) * (r - l)
def u_within_axles : List D → Option D
  | [.int l, .int r, .tup xs, .tup ys, .tup [.int a, .int b]] => (u_check_axles [.int l, .int r]).bind fun _ => (u_check_positions [.tup xs]).bind fun _ => (u_check_loads [.tup xs, .tup ys]).bind fun _ =>
    (intsD xs).bind fun ps => (intsD ys).bind fun ws => if (betw 0 1000 a = true ∧ betw 0 1000 b = true) ∧ sml (r - l) = true then u_first_row [.lst ((ps.map fun p => r - p).map .int), .tup ys, .int (lowA l r b ws.sum), .int (highA l r a ws.sum)] else none
  | _ => none
theorem r_within_axles : ∀ ds d, u_within_axles ds = some d → ∃ d2, runF (tbl [fsR 2 u_check_axles, fsR 1 u_check_positions, fsR 2 u_check_loads, fsR 4 u_is_row, fsR 4 u_first_row]) (fun _ => 0) m_within_axles 10 false false ds = some (d, d2) := by
  intro ds d e
  unfold u_within_axles at e
  split at e
  · rename_i l r xs ys a b
    obtain ⟨d1, h1, e⟩ := bind_inv e
    obtain ⟨d2, h2, e⟩ := bind_inv e
    obtain ⟨d3, h3, e⟩ := bind_inv e
    obtain ⟨ps, h4, e⟩ := bind_inv e
    obtain ⟨ws, h5, e⟩ := bind_inv e
    obtain ⟨⟨⟨ha, hb⟩, hm⟩, e9⟩ := ite_inv e
    cases intsD_inv h4
    have hsum : biF .sum [.tup ys] = some (.int ws.sum, false) := bi_sum h5
    have hrow : u_is_row [.tup [.int a, .int b], .int 2, .int 0, .int 1000] = some (.bl true) := by
      simp only [u_is_row]
      rw [show intsD [D.int a, .int b] = some [a, b] from intsD_map [a, b]]
      simp [ha, hb]
    have x0 : ixF (.tup [.int a, .int b]) (.int 0) = some (.int a) := (atI_nat (j := 0) rfl : atI _ ((0 : Nat) : Int) = _)
    have x1 : ixF (.tup [.int a, .int b]) (.int 1) = some (.int b) := (atI_nat (j := 1) rfl : atI _ ((1 : Nat) : Int) = _)
    have m1 : binF .mul (.int (if ws.sum - b > 0 then ws.sum - b else 0)) (.int (r - l)) = some (.int (lowA l r b ws.sum), false) := bin_mul (sml_mul2 hm)
    have m2 : binF .mul (.int (if a < ws.sum then a else ws.sum)) (.int (r - l)) = some (.int (highA l r a ws.sum), false) := bin_mul (sml_mul2 hm)
    have x2 : biF .max [.int 0, .int (ws.sum - b)] = some (.int (if ws.sum - b > 0 then ws.sum - b else 0), false) := bi_max2 _ _
    have x3 : biF .min [.int ws.sum, .int a] = some (.int (if a < ws.sum then a else ws.sum), false) := bi_min2 _ _
    generalize (if ws.sum - b > 0 then ws.sum - b else 0) = q1 at m1 x2
    generalize (if a < ws.sum then a else ws.sum) = q2 at m2 x3
    generalize lowA l r b ws.sum = q3 at m1 e9
    generalize highA l r a ws.sum = q4 at m2 e9
    have hc : ∀ (Φ : Nat → FS) (E : PL.Env), E = [.im (.int l), .im (.int r), .im (.tup (ps.map .int)), .im (.tup ys), .im (.tup [.int a, .int b]), .im (.int (r - l)), .im (.int ws.sum), .im (.int q3), .im (.int q4), .un] →
        compE Φ [9] (.nm 9) (.lit (.bl true)) (.bin .sub (.var 1) (.var 9)) (ps.map .int) E = some ((ps.map fun p => r - p).map .int, E) := by
      intro Φ E hE
      rw [List.map_map]
      refine compE_m _ _ _ rfl fun z _ => ?_
      subst hE
      simp [getS, ev_var_eq]
    generalize (ps.map fun p => r - p).map D.int = Y at hc e9
    generalize ps.map D.int = Z at hc h2 h3
    clear h4
    refine ⟨.non, ?_⟩
    simp [runF, m_within_axles, env0, getS, ev_var_eq, tbl, fsR, seqK, noOwn_cons, hc _ _ rfl, hsum, h1, h2, h3, hrow, x0, x1, x2, x3, m1, m2, -bi_max2, -bi_min2]
    rw [e9]
    simp
  · cases e
end W
set_option maxHeartbeats 4000000
namespace W
open PySem PySem.Spec PyProof.Rows L2 PL
theorem pair0 (a b : Int) : ixF (.tup [.int a, .int b]) (.int 0) = some (.int a) := (atI_nat (j := 0) rfl : atI _ ((0 : Nat) : Int) = _)
theorem pair1 (a b : Int) : ixF (.tup [.int a, .int b]) (.int 1) = some (.int b) := (atI_nat (j := 1) rfl : atI _ ((1 : Nat) : Int) = _)
def u_law_add : List D → Option D
  | [.tup [.int a, .int b], .tup [.int c, .int d]] => if (sml a = true ∧ sml b = true) ∧ sml c = true then u_law_low [.int (a * d + c * b), .int (b * d)] else none
  | _ => none
theorem r_law_add : ∀ ds d, u_law_add ds = some d → ∃ d2, runF (tbl [fsR 2 u_law_low]) (fun _ => 0) m__law_add 2 false false ds = some (d, d2) := by
  intro ds e0 e
  unfold u_law_add at e
  split at e
  · rename_i a b c d
    obtain ⟨⟨⟨h1, h2⟩, h3⟩, e⟩ := ite_inv e
    exact ⟨.non, by simp [runF, m__law_add, env0, getS, ev_var_eq, tbl, fsR, pair0, pair1, bin_mul (sml_mul h1), bin_mul (sml_mul h2), bin_mul (sml_mul h3), e]⟩
  · cases e
def u_law_mul : List D → Option D
  | [.tup [.int a, .int b], .tup [.int c, .int d]] => if sml a = true ∧ sml b = true then u_law_low [.int (a * c), .int (b * d)] else none
  | _ => none
theorem r_law_mul : ∀ ds d, u_law_mul ds = some d → ∃ d2, runF (tbl [fsR 2 u_law_low]) (fun _ => 0) m__law_mul 2 false false ds = some (d, d2) := by
  intro ds e0 e
  unfold u_law_mul at e
  split at e
  · rename_i a b c d
    obtain ⟨⟨h1, h2⟩, e⟩ := ite_inv e
    exact ⟨.non, by simp [runF, m__law_mul, env0, getS, ev_var_eq, tbl, fsR, pair0, pair1, bin_mul (sml_mul h1), bin_mul (sml_mul h2), e]⟩
  · cases e
end W
set_option maxHeartbeats 4000000
namespace W
open PySem PySem.Spec PyProof.Rows L2 PL
/-- the load on one axle, times the width: sum of x * (right - p) -/
def lev (r : Int) (ps ws : List Int) : Int := ((ps.zip ws).map fun p => p.2 * (r - p.1)).sum
def u_law_axles : List D → Option D
  | [.int l, .int r, .tup xs, .tup ys] => (intsD xs).bind fun ps => (intsD ys).bind fun ws => if allS ws = true ∧ sml ws.sum = true then
      (u_law_low [.int (lev r ps ws), .int (r - l)]).bind fun o => match o with
      | .tup [.int n, .int d] => (u_law_low [.int (ws.sum * d - n), .int d]).map fun q => .tup [.tup [.int n, .int d], q]
      | _ => none
    else none
  | _ => none
theorem r_law_axles : ∀ ds d, u_law_axles ds = some d → ∃ d2, runF (tbl [fsR 2 u_law_low]) (fun _ => 0) m__law_axles 7 false false ds = some (d, d2) := by
  intro ds e0 e
  unfold u_law_axles at e
  split at e
  · rename_i l r xs ys
    obtain ⟨ps, h1, e⟩ := bind_inv e
    obtain ⟨ws, h2, e⟩ := bind_inv e
    obtain ⟨⟨h3, h4⟩, e⟩ := ite_inv e
    obtain ⟨o, h5, e⟩ := bind_inv e
    split at e
    · rename_i n d
      obtain ⟨q, h6, rfl⟩ := Option.map_eq_some_iff.mp e
      have hsum : biF .sum [.tup ys] = some (.int ws.sum, false) := bi_sum h2
      have hc : ∀ (Φ : Nat → FS) (E : PL.Env), E = [.im (.int l), .im (.int r), .im (.tup xs), .im (.tup ys), .un, .un, .un] →
          compE Φ [5, 6] (.tp (.cons (.nm 5) (.cons (.nm 6) (.nil)))) (.lit (.bl true)) (.bin .mul (.var 6) (.bin .sub (.var 1) (.var 5))) (pairsD xs ys) E = some (((ps.zip ws).map fun p => p.2 * (r - p.1)).map .int, E) := by
        intro Φ E hE
        rw [intsD_inv h1, intsD_inv h2, pairsD_ints, List.map_map]
        refine compE_m _ _ _ rfl fun z hz => ?_
        subst hE
        have hm := sml_mul (j := r - z.1) (allS_mem h3 z.2 (List.of_mem_zip hz).2)
        simp [getS, ev_var_eq, bin_mul hm]
      have hs : biF .sum [.lst (((ps.zip ws).map fun p => p.2 * (r - p.1)).map .int)] = some (.int (lev r ps ws), false) := bi_sum (intsD_map _)
      generalize (((ps.zip ws).map fun p => p.2 * (r - p.1)).map D.int) = Y at hc hs
      have l2 : 2 ≤ sizeLine := by decide
      exact ⟨.non, by simp [runF, m__law_axles, env0, getS, ev_var_eq, tbl, fsR, seqOf, noOwn_cons, hc _ _ rfl, hs, hsum, pair0, pair1, bin_mul (sml_mul h4), h5, h6, l2]⟩
    · cases e
  · cases e
end W
set_option maxHeartbeats 4000000
namespace W
open PySem PySem.Spec PyProof.Rows L2 PL
/-! _law_orders -/
def oD (row : List Nat) : D := .tup (row.map fun k : Nat => .int (k : Int))
def ordS (n : Nat) (row : List Nat) : List (List Nat) := ((List.range n).filter fun k => !row.contains k).map fun k => row ++ [k]
def orders (n : Nat) : Nat → List (List Nat)
  | 0 => [[]]
  | m + 1 => (orders n m).flatMap (ordS n)
theorem ordS_len (n : Nat) (row : List Nat) : (ordS n row).length ≤ n := by
  unfold ordS
  rw [List.length_map]
  exact Nat.le_trans (List.length_filter_le ..) (by rw [List.length_range]; exact Nat.le_refl _)
theorem orders_len {n : Nat} (hn : n ≤ 5) : ∀ m : Nat, (orders n m).length ≤ 5 ^ m
  | 0 => Nat.le_refl _
  | m + 1 => by
    have h1 := flat_len (ordS n) 5 (fun x => Nat.le_trans (ordS_len n x) hn) (orders n m)
    have h2 := orders_len hn m
    show ((orders n m).flatMap (ordS n)).length ≤ 5 ^ (m + 1)
    rw [Nat.pow_succ]
    omega
theorem orders_row {n : Nat} : ∀ (m : Nat) {g : List Nat}, g ∈ orders n m → g.length = m
  | 0, g, hg => by
    rw [List.mem_singleton.mp hg]
    rfl
  | m + 1, g, hg => by
    obtain ⟨h, h1, h2⟩ := List.mem_flatMap.mp (show g ∈ (orders n m).flatMap (ordS n) from hg)
    obtain ⟨k, _, rfl⟩ := List.mem_map.mp h2
    rw [List.length_append, List.length_singleton, orders_row m h1]
theorem eqFlat_int (i j : Int) : eqFlat (.int i) (.int j) = decide (i = j) := by
  simp [eqFlat]
theorem notin_row (row : List Nat) (k : Nat) : cmpF .notin (.int (k : Int)) (oD row) = some (!row.contains k) := by
  show (inF (.int (k : Int)) (oD row)).map (!·) = _
  have : inF (.int (k : Int)) (oD row) = some (row.contains k) := by
    show (seqOf (oD row)).bind _ = _
    show (if isFlat (.int (k : Int)) = true ∧ (row.map fun k : Nat => D.int (k : Int)).all isFlat = true then some ((row.map fun k : Nat => D.int (k : Int)).any fun z => eqFlat z (.int (k : Int))) else none) = _
    rw [if_pos ⟨rfl, List.all_eq_true.mpr fun x hx => by obtain ⟨i, _, rfl⟩ := List.mem_map.mp hx; rfl⟩, List.any_map]
    congr 1
    rw [List.contains_eq_any_beq]
    refine congrFun (congrArg List.any rfl) _ |>.trans ?_
    refine congrArg (List.any row) (funext fun z => ?_)
    show eqFlat (.int (z : Int)) (.int (k : Int)) = (k == z)
    rw [eqFlat_int]
    by_cases h : z = k
    · subst h; rw [decide_eq_true rfl, beq_self_eq_true]
    · have h2 : ¬ k = z := fun e => h e.symm
      rw [decide_eq_false (by omega)]; simp [h2]
  rw [this]
  rfl
abbrev cO : ME := .comp [5] (.nm 5) (.rng1 (.var 0)) (.cmp .notin (.var 5) (.var 4)) (.bin .add (.var 4) (.tupD (.cons (.var 5) (.nil))))
abbrev bO1 : MS := .seq (.ext 3 cO) (.seq (.kill [4]) .skip)
abbrev eO (n : Nat) (f : PL.Sl) (turn : PL.Sl) (longer : List (List Nat)) (row : PL.Sl) : PL.Env := [.im (.int (n : Int)), f, turn, .ow (.lst (longer.map oD)), row, .un]
theorem ord_fm (n : Nat) (row : List Nat) : ((List.range n).filterMap fun k => if (!row.contains k) = true then some (oD (row ++ [k])) else none) = (ordS n row).map oD := by
  unfold ordS
  rw [List.map_map, ← List.filterMap_eq_filter, ← List.filterMap_eq_map, List.filterMap_filterMap]
  refine congrFun (congrArg List.filterMap (funext fun k => ?_)) _
  cases h : (!row.contains k) with
  | true => rw [if_pos rfl]; simp only [Option.guard, h]; rfl
  | false => rw [if_neg (by decide)]; simp only [Option.guard, h]; rfl
theorem o_turn {n : Nat} (hn : n ≤ 5) (fuel : Nat) (d : D) (tn : PL.Sl) (longer : List (List Nat)) (row : List Nat) (hr : row.length ≤ 5) (hl : longer.length + 5 ≤ sizeLine) :
    evS (tbl []) fuel bO1 (eO n (.im d) tn longer (.im (oD row))) = some (.nx (eO n (.im d) tn (longer ++ ordS n row) .un)) := by
  have l1 : 1 ≤ sizeLine := by decide
  have hc : ∀ (E : PL.Env), E = eO n (.im d) tn longer (.im (oD row)) →
      compE (tbl []) [5] (.nm 5) (.cmp .notin (.var 5) (.var 4)) (.bin .add (.var 4) (.tupD (.cons (.var 5) (.nil)))) ((List.range n).map fun k : Nat => .int (k : Int)) E = some ((ordS n row).map oD, E) := by
    intro E hE
    rw [← ord_fm]
    refine compE_fm _ _ _ fun k _ => ?_
    subst hE
    have hni := notin_row row k
    have hadd : binF .add (oD row) (.tup [.int (k : Int)]) = some (oD (row ++ [k]), false) := by
      unfold oD
      rw [List.map_append]
      exact if_pos (by
        rw [List.length_map]
        exact line_big (by
          show row.length + 1 ≤ _
          omega))
    generalize oD row = R at hni hadd
    cases hb : (!row.contains k) with
    | false =>
      rw [hb] at hni
      simp [eO, getS, ev_var_eq, hni, hb]
    | true =>
      rw [hb] at hni
      simp [eO, getS, ev_var_eq, hni, hb, l1, hadd]
      exact ⟨_, _, ⟨rfl, rfl⟩, rfl, rfl⟩
  have hrg := rngG_nat (env := eO n (.im d) tn longer (.im (oD row))) (show n ≤ 1000000 by omega)
  have hlen : (longer.map oD).length + ((ordS n row).map oD).length ≤ sizeLine := by
    rw [List.length_map, List.length_map]
    have := ordS_len n row
    omega
  have ho : owL (eO n (.im d) tn longer (.im (oD row))) 3 = some (longer.map oD) := owL_of rfl
  simp only [eO, List.map_append] at hc hrg ho ⊢
  generalize longer.map oD = W0 at hc hrg ho hlen ⊢
  generalize (ordS n row).map oD = Y at hc hlen ⊢
  generalize ((List.range n).map fun k : Nat => D.int (k : Int)) = Z at hc hrg
  simp [getS, ev_var_eq, noOwn_cons, hrg, hc _ rfl, ho, hlen, slotSet]
abbrev bO2 : MS := .seq (.set 3 (.lstD (.nil))) (.seq (.seq (.kill [4]) (.forr (.nm 4) (.seq false (.var 1)) bO1)) (.seq (.mov 1 3) (.seq (.kill [2, 3, 4]) .skip)))
theorem o_inner {n : Nat} (hn : n ≤ 5) (fuel : Nat) (d : D) (tn : PL.Sl) : ∀ (rows acc : List (List Nat)), (∀ r ∈ rows, r.length ≤ 5) → acc.length + 5 * rows.length ≤ sizeLine →
    forE (tbl []) fuel (.nm 4) bO1 (rows.map oD) (eO n (.im d) tn acc .un) = some (.nx (eO n (.im d) tn (acc ++ rows.flatMap (ordS n)) .un))
  | [], acc, _, _ => by rw [List.map_nil, List.flatMap_nil, List.append_nil]; rfl
  | r :: rows, acc, hr, hl => by
    rw [List.length_cons] at hl
    have h1 := o_turn hn fuel d tn acc r (hr r List.mem_cons_self) (by omega)
    have ea : asgT (.nm 4) (oD r) (eO n (.im d) tn acc .un) = some (eO n (.im d) tn acc (.im (oD r))) := rfl
    rw [List.map_cons, forE_cons, ea, Option.bind_some, h1]
    have ih := o_inner hn fuel d tn rows (acc ++ ordS n r) (fun q hq => hr q (List.mem_cons_of_mem _ hq)) (by
      have := ordS_len n r
      rw [List.length_append]
      omega)
    rw [List.flatMap_cons, ← List.append_assoc]
    exact ih
abbrev eP (n : Nat) (found : List (List Nat)) : PL.Env := [.im (.int (n : Int)), .ow (.lst (found.map oD)), .un, .un, .un, .un]
theorem o_outer {n : Nat} (hn : n ≤ 5) (fuel : Nat) : ∀ (ks : List Nat) (m : Nat), m + ks.length ≤ 5 →
    forE (tbl []) fuel (.nm 2) bO2 (ks.map fun k : Nat => .int (k : Int)) (eP n (orders n m)) = some (.nx (eP n (orders n (m + ks.length))))
  | [], m, _ => rfl
  | k :: ks, m, hm => by
    rw [List.length_cons] at hm
    have h5 : (5 : Nat) ^ m ≤ 5 ^ 4 := Nat.pow_le_pow_right (by decide) (by omega)
    have h6 := orders_len hn m
    have h7 : (5 : Nat) ^ 4 = 625 := by decide
    have hin := o_inner hn fuel (.lst ((orders n m).map oD)) (.im (.int (k : Int))) (orders n m) [] (fun r hr => by rw [orders_row m hr]; omega) (by
      rw [List.length_nil]
      exact line_big (by omega))
    rw [List.nil_append, show (orders n m).flatMap (ordS n) = orders n (m + 1) from rfl] at hin
    have l0 : 0 ≤ sizeLine := Nat.zero_le _
    have ea : asgT (.nm 2) (.int (k : Int)) (eP n (orders n m)) = some [.im (.int (n : Int)), .ow (.lst ((orders n m).map oD)), .im (.int (k : Int)), .un, .un, .un] := rfl
    have hb : evS (tbl []) fuel bO2 [.im (.int (n : Int)), .ow (.lst ((orders n m).map oD)), .im (.int (k : Int)), .un, .un, .un] = some (.nx (eP n (orders n (m + 1)))) := by
      simp only [eO, eP, List.map_nil] at hin ⊢
      generalize (orders n m).map oD = W0 at hin ⊢
      generalize (orders n (m + 1)).map oD = W1 at hin ⊢
      simp [getS, ev_var_eq, seqK, l0, hin, evS_mov']
    rw [List.map_cons, forE_cons, ea, Option.bind_some, hb]
    have ih := o_outer hn fuel ks (m + 1) (by omega)
    rw [List.length_cons, show m + (ks.length + 1) = m + 1 + ks.length by omega]
    exact ih
def u_law_orders : List D → Option D
  | [.int m] => if 0 ≤ m ∧ m ≤ 5 then some (.lst ((orders m.toNat m.toNat).map oD)) else none
  | _ => none
theorem r_law_orders : ∀ ds d, u_law_orders ds = some d → ∃ d2, runF (tbl []) (fun _ => 0) m__law_orders 6 false false ds = some (d, d2) := by
  intro ds d e
  unfold u_law_orders at e
  split at e
  · rename_i m
    obtain ⟨⟨h1, h2⟩, e⟩ := ite_inv e
    cases e
    obtain ⟨n, rfl⟩ := Int.eq_ofNat_of_zero_le h1
    rw [Int.toNat_natCast]
    have ho := o_outer (n := n) (by omega) 0 (List.range n) 0 (by rw [List.length_range]; omega)
    rw [List.length_range, Nat.zero_add] at ho
    have hrg := rngG_nat (env := eP n (orders n 0)) (show n ≤ 1000000 by omega)
    have l1 : 1 ≤ sizeLine := by decide
    have l0 : 0 ≤ sizeLine := Nat.zero_le _
    have h0 : (orders n 0).map oD = [.tup []] := rfl
    simp only [eP] at ho hrg
    rw [h0] at ho hrg
    generalize (orders n n).map oD = W0 at ho ⊢
    generalize ((List.range n).map fun k : Nat => D.int (k : Int)) = Z at ho hrg
    exact ⟨.non, by simp [runF, m__law_orders, env0, getS, ev_var_eq, l1, l0, hrg, ho]⟩
  · cases e
end W
set_option maxHeartbeats 4000000
/-! least_sum in plain words. -/
namespace W
open PySem PySem.Spec PyProof.Rows L2 PL
theorem headMin_least {fs ws : List Int} {s t : Nat} (hs : Srt ws) (hl : s + t = ws.length) (hf : fs.length = ws.length) {h : Hd3} (hh : h ∈ heads fs ws s) :
    IsLeast (fun m => ∃ r ∈ arrV t (rem ws h.2.1), m = absI (h.2.2 + dotAt fs s r)) (headMin fs ws t h) := by
  have ok := heads_ok hs s hh
  have hu : (unused ws.length h.2.1).length = t := by have := ok.ln; omega
  have hrl : (rem ws h.2.1).length = t := by unfold rem; rw [List.length_map, hu]
  have hst : fs.length - t = s := by omega
  have tl := fun x => tail_left (fs := fs) ok.bd hu (by omega) x
  obtain ⟨L, hL, hin⟩ := (tl (dotAt fs s (rem ws h.2.1))).mpr ⟨_, (arrV_mem t _ _ hrl).mpr (List.Perm.refl _), by rw [hst]⟩
  have hq : ∀ m, (∃ r ∈ arrV t (rem ws h.2.1), m = absI (h.2.2 + dotAt fs s r)) ↔ m ∈ L.map fun more => absI (h.2.2 + more) := by
    intro m
    constructor
    · rintro ⟨r, hr, rfl⟩
      obtain ⟨L', hL', hin'⟩ := (tl (dotAt fs s r)).mpr ⟨r, hr, by rw [hst]⟩
      rw [hL] at hL'
      cases hL'
      exact List.mem_map.mpr ⟨_, hin', rfl⟩
    · intro hm
      obtain ⟨x, hx, rfl⟩ := List.mem_map.mp hm
      obtain ⟨r, hr, e⟩ := (tl x).mp ⟨L, hL, hx⟩
      exact ⟨r, hr, by rw [e, hst]⟩
  cases L with
  | nil => cases hin
  | cons a L =>
    have e : headMin fs ws t h = fmin (absI (h.2.2 + a)) (L.map fun more => absI (h.2.2 + more)) := by
      unfold headMin
      rw [hL]
      rfl
    rw [e]
    have hm := min_isLeast (absI (h.2.2 + a)) (L.map fun more => absI (h.2.2 + more))
    exact ⟨(hq _).mpr hm.1, fun x hx => hm.2 x ((hq x).mp hx)⟩
theorem all_heads {fs ws : List Int} {s t : Nat} (hs : Srt ws) (m : Int) :
    (∃ r ∈ arrV (s + t) ws, m = absI (dotAt fs 0 r)) ↔ ∃ h ∈ heads fs ws s, ∃ r ∈ arrV t (rem ws h.2.1), m = absI (h.2.2 + dotAt fs s r) := by
  have ha := heads_arr (fs := fs) hs (s + t)
  rw [heads_desc] at ha
  have hd : ∀ h ∈ heads fs ws s, _ := fun h hh => desc_arr (fs := fs) hs t s h (heads_ok hs s hh).cl
  constructor
  · rintro ⟨r, hr, rfl⟩
    have h1 : (r, dotAt fs 0 r) ∈ ((heads fs ws s).flatMap (desc fs ws t s)).map fun g => (g.1, g.2.2) := by
      rw [ha]
      exact List.mem_map.mpr ⟨r, hr, rfl⟩
    obtain ⟨g, hg, e⟩ := List.mem_map.mp h1
    obtain ⟨h, hh, hgd⟩ := List.mem_flatMap.mp hg
    have h2 : (g.1, g.2.2) ∈ (desc fs ws t s h).map fun g => (g.1, g.2.2) := List.mem_map.mpr ⟨g, hgd, rfl⟩
    rw [hd h hh] at h2
    obtain ⟨q, hq, e2⟩ := List.mem_map.mp h2
    refine ⟨h, hh, q, hq, ?_⟩
    rw [show dotAt fs 0 r = h.2.2 + dotAt fs s q from ((congrArg Prod.snd e).symm.trans (congrArg Prod.snd e2).symm)]
  · rintro ⟨h, hh, q, hq, rfl⟩
    have h2 : (h.1 ++ q, h.2.2 + dotAt fs s q) ∈ (desc fs ws t s h).map fun g => (g.1, g.2.2) := by
      rw [hd h hh]
      exact List.mem_map.mpr ⟨q, hq, rfl⟩
    obtain ⟨g, hg, e⟩ := List.mem_map.mp h2
    have h1 : (g.1, g.2.2) ∈ ((heads fs ws s).flatMap (desc fs ws t s)).map fun g => (g.1, g.2.2) := List.mem_map.mpr ⟨g, List.mem_flatMap.mpr ⟨h, hh, hg⟩, rfl⟩
    rw [ha] at h1
    obtain ⟨r, hr, e2⟩ := List.mem_map.mp h1
    refine ⟨r, hr, ?_⟩
    rw [show dotAt fs 0 r = h.2.2 + dotAt fs s q from ((congrArg Prod.snd e2).trans (congrArg Prod.snd e))]
/-- least_sum's number is the least distance over all orders -/
theorem least_all {fs ws : List Int} {s t : Nat} {a : Int} {l : List Int} (hs : Srt ws) (hl : s + t = ws.length) (hf : fs.length = ws.length) (hq : (heads fs ws s).map (headMin fs ws t) = a :: l) :
    IsLeast (fun m => ∃ r ∈ arrV (s + t) ws, m = absI (dotAt fs 0 r)) (fmin a l) := by
  have hm := min_isLeast a l
  rw [← hq] at hm
  obtain ⟨h, hh, e⟩ := List.mem_map.mp hm.1
  have hlh := headMin_least (fs := fs) hs hl hf hh
  constructor
  · have := (all_heads (fs := fs) (s := s) (t := t) hs (headMin fs ws t h)).mpr ⟨h, hh, hlh.1⟩
    rw [e] at this
    exact this
  · intro m hm2
    obtain ⟨g, hg, hr⟩ := (all_heads (fs := fs) (s := s) (t := t) hs m).mp hm2
    exact Int.le_trans (hm.2 _ (List.mem_map.mpr ⟨g, hg, rfl⟩)) ((headMin_least (fs := fs) hs hl hf hg).2 m hr)
end W
set_option maxHeartbeats 4000000
/-! The law's boxes: _law_cell, _law_box, _law_take. -/
namespace W
open PySem PySem.Spec PyProof.Rows L2 PL
/-- a box -/
def bxD (a : Int) (b : Bool) (c k : Int) : D := .lst [.int a, .bl b, .int c, .int k]
abbrev tkF : FS := fsOf (tbl []) (fun _ => 0) m__law_take 4 2 true false
def tkDig (a : Int) (b : Bool) (c k m : Int) : Int := ((((c + 15485863 * k + 179424673) ^ 5 % 2147483647 * 48271 + 104729 * k) ^ 3 % 2147483587) / 64) % m
theorem at0 (x y z u : D) : ixF (.lst [x, y, z, u]) (.int 0) = some x := (atI_nat (j := 0) rfl : atI _ ((0 : Nat) : Int) = _)
theorem at1 (x y z u : D) : ixF (.lst [x, y, z, u]) (.int 1) = some y := (atI_nat (j := 1) rfl : atI _ ((1 : Nat) : Int) = _)
theorem at2 (x y z u : D) : ixF (.lst [x, y, z, u]) (.int 2) = some z := (atI_nat (j := 2) rfl : atI _ ((2 : Nat) : Int) = _)
theorem at3 (x y z u : D) : ixF (.lst [x, y, z, u]) (.int 3) = some u := (atI_nat (j := 3) rfl : atI _ ((3 : Nat) : Int) = _)
structure BxOk (n : Nat) (d : D) : Prop where
  ex : ∃ a b c k, d = bxD a b c k ∧ (0 ≤ a ∧ 0 ≤ c ∧ c < 4294967296) ∧ 0 ≤ k ∧ k ≤ n
theorem BxOk.mono {n m : Nat} {d : D} (h : BxOk n d) (hm : n ≤ m) : BxOk m d := by
  obtain ⟨a, b, c, k, e, q, h1, h2⟩ := h.ex
  exact ⟨a, b, c, k, e, q, h1, by omega⟩
theorem take_old {a c k m : Int} (ha : 0 < a) (hm : 0 < m) (hm2 : m < 4294967296) : tkF.run [bxD a true c k, .int m] = some (.int (a % m), bxD (a / m) true c k) := by
  have hd : binF .fdiv (.int a) (.int m) = some (.int (a / m), false) := bin_fdiv hm (by rw [B64_eq]; omega)
  have hq : binF .mod (.int a) (.int m) = some (.int (a % m), false) := bin_mod hm
  have i0 : ixN 4 0 = some 0 := by decide
  show runF (tbl []) (fun _ => 0) m__law_take 4 true false [bxD a true c k, .int m] = _
  unfold bxD
  simp [runF, m__law_take, env1, getS, ev_var_eq, at0, at1, hd, hq, owL, owD, i0, slotSet, ha, endIO, frzE]

theorem take_new {a c k m : Int} {b : Bool} (hab : ¬ (b = true ∧ 0 < a)) (hc : 0 ≤ c) (hc2 : c < 4294967296) (hk : 0 ≤ k) (hk2 : k ≤ 1000000) (hm : 0 < m) : tkF.run [bxD a b c k, .int m] = some (.int (tkDig a b c (k + 1) m), bxD a b c (k + 1)) := by
  obtain ⟨k', ek⟩ : ∃ k', k + 1 = k' := ⟨_, rfl⟩
  have hk3 : 0 ≤ k' ∧ k' ≤ 1000001 := by omega
  obtain ⟨p, ep⟩ : ∃ p, 15485863 * k' = p := ⟨_, rfl⟩
  obtain ⟨q, eq⟩ : ∃ q, c + p + 179424673 = q := ⟨_, rfl⟩
  obtain ⟨r, er⟩ : ∃ r, q ^ 5 % 2147483647 = r := ⟨_, rfl⟩
  obtain ⟨u, eu⟩ : ∃ u, r * 48271 = u := ⟨_, rfl⟩
  obtain ⟨v, ev'⟩ : ∃ v, 104729 * k' = v := ⟨_, rfl⟩
  obtain ⟨x, ex⟩ : ∃ x, (u + v) ^ 3 % 2147483587 = x := ⟨_, rfl⟩
  have hr := Int.emod_nonneg (q ^ 5) (show (2147483647 : Int) ≠ 0 by decide)
  have hr2 := Int.emod_lt_of_pos (q ^ 5) (show (0 : Int) < 2147483647 by decide)
  rw [er] at hr hr2
  have h1 : binF .mul (.int 15485863) (.int k') = some (.int p, false) := by rw [← ep]; exact bin_mul (sml_mul (sml_of (by omega) (by omega)))
  have h2 : binF .pow (.int q) (.int 5) = some (.int (q ^ 5), false) := bin_pow (by omega) (by omega) (by omega)
  have h3 : binF .mod (.int (q ^ 5)) (.int 2147483647) = some (.int r, false) := by rw [← er]; exact bin_mod (by omega)
  have h4 : binF .mul (.int r) (.int 48271) = some (.int u, false) := by rw [← eu]; exact bin_mul (sml_mul2 (sml_of (by omega) (by omega)))
  have h5 : binF .mul (.int 104729) (.int k') = some (.int v, false) := by rw [← ev']; exact bin_mul (sml_mul (sml_of (by omega) (by omega)))
  have h6 : binF .pow (.int (u + v)) (.int 3) = some (.int ((u + v) ^ 3), false) := bin_pow (by omega) (by omega) (by omega)
  have h7 : binF .mod (.int ((u + v) ^ 3)) (.int 2147483587) = some (.int x, false) := by rw [← ex]; exact bin_mod (by omega)
  have h8 : binF .fdiv (.int x) (.int 64) = some (.int (x / 64), false) := bin_fdiv (by omega) (by rw [B64_eq]; omega)
  have h9 : binF .mod (.int (x / 64)) (.int m) = some (.int (x / 64 % m), false) := bin_mod hm
  have i3 : ixN 4 3 = some 3 := by decide
  have ed : tkDig a b c k' m = x / 64 % m := by
    unfold tkDig
    rw [ep, eq, er, eu, ev', ex]
  rw [ek, ed]
  have eq2 : c + p + 179424673 = q := eq
  clear ep er eu ev' ex ed eq
  generalize (q ^ 5) = q5 at h2 h3
  generalize ((u + v) ^ 3) = uv at h6 h7
  show runF (tbl []) (fun _ => 0) m__law_take 4 true false [bxD a b c k, .int m] = _
  unfold bxD
  by_cases hb : b = true
  · subst hb
    have ha : ¬ 0 < a := fun z => hab ⟨rfl, z⟩
    simp [runF, m__law_take, env1, getS, ev_var_eq, at0, at1, at2, at3, owL, owD, i3, slotSet, ha, endIO, frzE, ek, h1, h2, h3, h4, h5, h6, h7, h8, h9, eq2]
  · have hb : b = false := by simpa using hb
    subst hb
    simp [runF, m__law_take, env1, getS, ev_var_eq, at0, at1, at2, at3, owL, owD, i3, slotSet, endIO, frzE, ek, h1, h2, h3, h4, h5, h6, h7, h8, h9, eq2]
theorem take_ok {n : Nat} {box : D} (B : BxOk n box) (hn : n ≤ 1000000) {m : Int} (hm : 0 < m) (hm2 : m < 4294967296) : ∃ d box', tkF.run [box, .int m] = some (.int d, box') ∧ BxOk (n + 1) box' ∧ 0 ≤ d ∧ d < m := by
  obtain ⟨a, b, c, k, rfl, ⟨q1, q2, q3⟩, h1, h2⟩ := B.ex
  by_cases hab : b = true ∧ 0 < a
  · obtain ⟨rfl, ha⟩ := hab
    exact ⟨_, _, take_old ha hm hm2, ⟨_, _, _, _, rfl, ⟨Int.ediv_nonneg q1 (by omega), q2, q3⟩, h1, by omega⟩, Int.emod_nonneg _ (by omega), Int.emod_lt_of_pos _ hm⟩
  · exact ⟨_, _, take_new hab q2 q3 h1 (by omega) hm, ⟨_, _, _, _, rfl, ⟨q1, q2, q3⟩, by omega, by omega⟩, Int.emod_nonneg _ (by omega), Int.emod_lt_of_pos _ hm⟩
/-! _law_cell, _law_box -/
def u_law_cell : List D → Option D
  | [.scr ns, .int k] => if 0 ≤ k ∧ k ≤ 1000 then some (.int (if h : k.toNat < ns.length then ns[k.toNat] else 6007 * k + (ns.take 1).sum % 1000033)) else none
  | _ => none
theorem cut1 (ds : List D) : PL.cutD ds none (some 1) = ds.take 1 := by
  unfold PL.cutD
  rw [HT.sIx_none]
  have : HT.sIx ds.length ds.length (some 1) = min 1 ds.length := by
    rw [show (1 : Int) = ((1 : Nat) : Int) from rfl, HT.sIx_nat]
  rw [this]
  cases ds <;> simp
theorem r_law_cell : ∀ ds d, u_law_cell ds = some d → ∃ d2, runF (tbl []) (fun _ => 0) m__law_cell 2 false false ds = some (d, d2) := by
  intro ds d e
  unfold u_law_cell at e
  split at e
  · rename_i ns k
    obtain ⟨⟨h1, h2⟩, e⟩ := ite_inv e
    cases e
    obtain ⟨j, rfl⟩ := Int.eq_ofNat_of_zero_le h1
    rw [Int.toNat_natCast]
    refine ⟨.non, ?_⟩
    by_cases h : j < ns.length
    · have hx : ixF (.scr ns) (.int (j : Int)) = some (.int ns[j]) := by
        show (atI ns (j : Int)).map D.int = _
        rw [atI_nat (v := ns[j]) (List.getElem?_eq_getElem h)]
        rfl
      simp [runF, m__law_cell, env0, getS, ev_var_eq, h, hx]
    · have hm : binF .mul (.int 6007) (.int (j : Int)) = some (.int (6007 * j), false) := bin_mul (sml_mul (sml_of (by omega) (by omega)))
      have hq : binF .mod (.int (ns.take 1).sum) (.int 1000033) = some (.int ((ns.take 1).sum % 1000033), false) := bin_mod (by omega)
      have hs : biF .sum [.lst ((ns.take 1).map .int)] = some (.int (ns.take 1).sum, false) := bi_sum (intsD_map _)
      have hc : sliceF (.scr ns) none (some 1) = some (.lst ((ns.take 1).map .int), true) := by
        show some (D.lst (PL.cutD (ns.map .int) none (some 1)), true) = _
        rw [cut1, List.map_take]
      generalize (ns.take 1).sum = S at hq hs
      generalize (ns.take 1).map D.int = Z at hs hc
      simp [runF, m__law_cell, env0, getS, ev_var_eq, h, hm, partD, hc, hs, hq]
  · cases e
abbrev bxF : FS := fsOf (tbl []) (fun _ => 0) m__law_box 1 1 false true
theorem box_ok (i : Int) : ∃ box d1, bxF.run [.int i] = some (box, d1) ∧ BxOk 0 box := by
  have hp : binF .pow (.int 10) (.int 18) = some (.int 1000000000000000000, false) := (bin_pow (by omega) (by omega) (by omega)).trans (by rfl)
  obtain ⟨a, ea⟩ : ∃ a, (if i < 0 then -i else i) = a := ⟨_, rfl⟩
  have ha : 0 ≤ a := by rw [← ea]; split <;> omega
  have hq : binF .mod (.int a) (.int 2147483629) = some (.int (a % 2147483629), false) := bin_mod (by omega)
  have l4 : 4 ≤ sizeLine := by decide
  refine ⟨bxD a (decide (1000000000000000000 ≤ a)) (a % 2147483629) 0, .non, ?_, ⟨_, _, _, _, rfl, ⟨ha, Int.emod_nonneg _ (by omega), by have := Int.emod_lt_of_pos a (show (0 : Int) < 2147483629 by decide); omega⟩, by omega, by omega⟩⟩
  show runF (tbl []) (fun _ => 0) m__law_box 1 false true [.int i] = _
  unfold bxD
  generalize (1000000000000000000 : Int) = G at hp
  generalize a % 2147483629 = r at hq
  simp [runF, m__law_box, env0, getS, ev_var_eq, ea, hp, hq, l4, endF]
end W
set_option maxHeartbeats 4000000
/-! _law_mixed, _law_same. -/
namespace W
open PySem PySem.Spec PyProof.Rows L2 PL
theorem fs_run {Φ : Nat → FS} {fuel : List D → Nat} {m : MS} {n ar : Nat} {io fresh : Bool} {ds : List D} : (fsOf Φ fuel m n ar io fresh).run ds = runF Φ fuel m n io fresh ds := rfl
theorem runF_io {Φ : Nat → FS} {fuel : List D → Nat} {m : MS} {n : Nat} {d0 : D} {r : List D} : runF Φ fuel m n true false (d0 :: r) = (evS Φ (fuel (d0 :: r)) m (env1 n d0 r)).bind endIO := rfl
theorem toPL_map : ∀ xs : List D, toPL xs = xs.map toP
  | [] => rfl
  | x :: xs => by rw [toPL, toPL_map xs]; rfl
theorem eq_nil_l {xs : List D} (h : xs.all (okN 59) = true) : eqF (.lst xs) (.lst []) = some xs.isEmpty := by
  unfold eqF
  rw [if_pos ⟨(show okN (59 + 1) (.lst xs) = true from h), rfl⟩]
  cases xs with
  | nil => rfl
  | cons x xs => simp [toP, toPL, PyData.eqv, PyData.eqvAll]
theorem ne_nil_l {xs : List D} (h : xs.all (okN 59) = true) : cmpF .ne (.lst xs) (.lst []) = some (!xs.isEmpty) := by
  show (eqF _ _).map (!·) = _
  rw [eq_nil_l h]
  rfl
theorem ok_ints (ns : List Int) : (ns.map D.int).all (okN 59) = true := List.all_eq_true.mpr fun x hx => by
  obtain ⟨n, _, rfl⟩ := List.mem_map.mp hx
  rfl
theorem eqF_bl (a b : Bool) : eqF (.bl a) (.bl b) = some (a == b) := by
  unfold eqF
  rw [if_pos ⟨rfl, rfl⟩]
  show some (PyData.eqv (.bool a) (.bool b)) = _
  rw [PyData.eqv]
theorem cmp_eq_bl (a b : Bool) : cmpF .eq (.bl a) (.bl b) = some (a == b) := eqF_bl a b
theorem cmp_ne_bl (a b : Bool) : cmpF .ne (.bl a) (.bl b) = some (!(a == b)) := by
  show (eqF (.bl a) (.bl b)).map (!·) = _
  rw [eqF_bl]
  rfl
theorem eraseIx_map {α β : Type} (f : α → β) : ∀ (l : List α) (i : Nat), (l.map f).eraseIdx i = (l.eraseIdx i).map f
  | [], _ => rfl
  | _ :: _, 0 => rfl
  | x :: l, i + 1 => by
    rw [List.map_cons, List.eraseIdx_cons_succ, List.eraseIdx_cons_succ, List.map_cons, eraseIx_map f l i]
theorem seqIx {k : Int} {n : Nat} (h1 : 0 ≤ k) (h2 : k < n) : seqIndex? k n = some k.toNat := by
  have : ixN n k = some k.toNat := by
    unfold ixN
    rw [if_pos h1, if_pos h2]
  exact (ixN_seq this).1
/-! ### _law_mixed -/
def mxN : Nat := 100
theorem mxN_eq : mxN = 100 := rfl
abbrev mxF : FS := fsOf (tbl [tkF]) (fun _ => mxN) m__law_mixed 4 2 true false
abbrev bMx : MS := .seq (.app 3 (.popAt 2 (.callIO 0 0 (.cons (.bi .len (.cons (.var 2) (.nil))) (.nil))))) (.skip)
abbrev cMx : ME := .cmp .ne (.var 2) (.lstD (.nil))
abbrev eMx (box : D) (m : Int) (left found : List Int) : PL.Env := [.ow box, .im (.int m), .ow (.lst (left.map .int)), .ow (.lst (found.map .int))]
theorem mx_turn {n : Nat} {box : D} (B : BxOk n box) (hn : n ≤ 1000000) (m : Int) {left found : List Int} (h0 : left ≠ []) (hl : left.length ≤ 100) (hf : found.length ≤ 1000) (fuel : Nat) :
    ∃ j box', j < left.length ∧ BxOk (n + 1) box' ∧ evS (tbl [tkF]) fuel bMx (eMx box m left found) = some (.nx (eMx box' m (left.eraseIdx j) (found ++ [left.getD j 0]))) := by
  have hp : 0 < left.length := List.length_pos_iff.mpr h0
  obtain ⟨d, box', e, B', d1, d2⟩ := take_ok B hn (m := (left.length : Int)) (by omega) (by omega)
  have hj : d.toNat < left.length := by omega
  refine ⟨d.toNat, box', hj, B', ?_⟩
  have hix : seqIndex? d (left.map D.int).length = some d.toNat := seqIx d1 (by rw [List.length_map]; exact d2)
  have hgt : (left.map D.int)[d.toNat]? = some (.int (left.getD d.toNat 0)) := by
    rw [List.getElem?_map, List.getD_eq_getElem?_getD, List.getElem?_eq_getElem hj]
    rfl
  have her : (left.map D.int).eraseIdx d.toNat = (left.eraseIdx d.toNat).map D.int := eraseIx_map _ _ _
  have hln : biF .len [.lst (left.map .int)] = some (.int (left.length : Int), false) := by rw [bi_len_l, List.length_map]
  have hfs : (found.map D.int).length < sizeLine := by
    rw [List.length_map]
    exact Nat.lt_of_lt_of_le (show found.length < 16777216 by omega) line24
  have hrg : -(2 ^ 63) ≤ d ∧ d < 2 ^ 63 := by
    have p1 : ((2 : Int) ^ 63) = 9223372036854775808 := by decide
    rw [p1]
    omega
  have hnew : (found ++ [left.getD d.toNat 0]).map D.int = found.map D.int ++ [.int (left.getD d.toNat 0)] := by rw [List.map_append]; rfl
  have hio : (tbl [tkF] 0).run = tkF.run := rfl
  simp only [eMx, hnew]
  generalize left.getD d.toNat 0 = g at hgt ⊢
  rw [← her]
  generalize left.map D.int = Z at hix hgt hln ⊢
  generalize found.map D.int = Y at hfs ⊢
  generalize (left.length : Int) = L at e hln
  have e' : (tbl [tkF] 0).run [box, .int L] = some (.int d, box') := e
  have e3 : (tbl [tkF] 0).io = true := rfl
  have e4 : (tbl [tkF] 0).fresh = false := rfl
  have e5 : (tbl [tkF] 0).ar = 2 := rfl
  generalize tbl [tkF] = Φ at e' e3 e4 e5 ⊢
  simp only [evS_seq', evS_app', owL, owD, getS_z, getS_s, Option.bind_some, ev_popAt, ev_callIO, evA_cons, evA_nil, ev_bi, evB_cons, evB_nil, ev_var_eq, bw_sl, Option.map_some, List.mapM_cons, List.mapM_nil, rd_r, slD_ow, hln, out_some, fw_fz, e3, e4, e5, List.length_cons, List.length_nil, e', slotSet, List.set, intOf_int, hrg, hix, hgt, hfs, if_true, and_self, Bool.false_eq_true, if_false, andThen_nx, evS_skip', pure, Option.bind, bind]
theorem mem_eraseIdx_nodup {l : List Int} {j : Nat} (hj : j < l.length) (hn : l.Nodup) : (l.eraseIdx j).Nodup ∧ l.getD j 0 ∉ l.eraseIdx j ∧ l.getD j 0 ∈ l ∧ ∀ x ∈ l.eraseIdx j, x ∈ l := by
  have e : l.getD j 0 = l[j] := by rw [List.getD_eq_getElem?_getD, List.getElem?_eq_getElem hj]; rfl
  have hp : (l[j] :: l.eraseIdx j).Perm l := by
    have e1 : l.eraseIdx j = l.take j ++ l.drop (j + 1) := List.eraseIdx_eq_take_drop_succ _ _
    have e2 : l.take j ++ l[j] :: l.drop (j + 1) = l := by rw [← List.drop_eq_getElem_cons hj, List.take_append_drop]
    rw [e1]
    conv => rhs; rw [← e2]
    exact List.perm_middle.symm
  have hn2 := hp.nodup_iff.mpr hn
  obtain ⟨n1, n2⟩ := List.nodup_cons.mp hn2
  rw [e]
  exact ⟨n2, n1, List.getElem_mem hj, fun x hx => hp.mem_iff.mp (List.mem_cons_of_mem _ hx)⟩
theorem mx_loop (m : Int) (fuel : Nat) : ∀ (f : Nat) {n : Nat} {box : D} (left found : List Int), BxOk n box → n + left.length ≤ 1000000 → left.length < f → left.length ≤ 100 → found.length + left.length ≤ 1000 → left.Nodup → found.Nodup → (∀ x ∈ left, x ∉ found) →
    ∃ ns box', whileE (tbl [tkF]) fuel cMx bMx f (eMx box m left found) = some (.nx (eMx box' m [] ns)) ∧ BxOk (n + left.length) box' ∧ ns.length = found.length + left.length ∧ ns.Nodup ∧ ∀ x ∈ ns, x ∈ found ∨ x ∈ left
  | 0, _, _, _, _, _, _, hf, _, _, _, _, _ => absurd hf (Nat.not_lt_zero _)
  | f + 1, n, box, left, found, B, hn, hf, hl, hs, d1, d2, d3 => by
    have hc : blOf (ev (tbl [tkF]) cMx (eMx box m left found)) = some (!left.isEmpty, eMx box m left found) := by
      have h1 := ne_nil_l (ok_ints left)
      have h2 : (left.map D.int).isEmpty = left.isEmpty := by cases left <;> rfl
      rw [h2] at h1
      have l0 : 0 ≤ sizeLine := Nat.zero_le _
      simp only [eMx]
      generalize left.map D.int = Z at h1
      generalize found.map D.int = Y
      simp [getS, ev_var_eq, l0, h1]
    rw [whileE_succ, hc]
    cases left with
    | nil => exact ⟨found, box, rfl, B, rfl, d2, fun x hx => .inl hx⟩
    | cons a l =>
      obtain ⟨j, box', hj, B', e⟩ := mx_turn B (by omega) m (left := a :: l) (found := found) (by simp) hl (by simp at hs; omega) fuel
      obtain ⟨q1, q2, q3, q4⟩ := mem_eraseIdx_nodup hj d1
      have hlen : ((a :: l).eraseIdx j).length = l.length := by rw [List.length_eraseIdx_of_lt hj]; rfl
      simp only [List.length_cons] at hn hf hl hs
      obtain ⟨ns, box2, e2, B2, l2, n2, m2⟩ := mx_loop m fuel f ((a :: l).eraseIdx j) (found ++ [(a :: l).getD j 0]) B' (by omega) (by omega) (by omega) (by rw [List.length_append, List.length_singleton]; omega) q1
        (List.nodup_append.mpr ⟨d2, List.pairwise_singleton _ _, fun x hx y hy z => by
          rw [List.mem_singleton.mp hy] at z
          rw [z] at hx
          exact d3 _ q3 hx⟩) fun x hx z => by
          rcases List.mem_append.mp z with z | z
          · exact d3 x (q4 x hx) z
          · rw [List.mem_singleton.mp z] at hx
            exact q2 hx
      refine ⟨ns, box2, ?_, B2.mono (by rw [List.length_cons]; omega), by rw [l2, List.length_append, List.length_singleton, List.length_cons]; omega, n2, fun x hx => ?_⟩
      · show (evS (tbl [tkF]) fuel bMx (eMx box m (a :: l) found)).bind _ = _
        rw [e]
        exact e2
      · rcases m2 x hx with z | z
        · rcases List.mem_append.mp z with z | z
          · exact .inl z
          · rw [List.mem_singleton.mp z]
            exact .inr q3
        · exact .inr (q4 x z)
theorem mixed_ok {n : Nat} {box : D} (B : BxOk n box) (hn : n ≤ 999000) {m : Nat} (hm : m ≤ 41) : ∃ (ns : List Int) (box' : D), mxF.run [box, .int (m : Int)] = some (.lst (ns.map .int), box') ∧ BxOk (n + m) box' ∧ ns.length = m ∧ ns.Nodup ∧ ∀ x ∈ ns, 0 ≤ x ∧ x < (m : Int) := by
  obtain ⟨ns, box', e, B', h1, h2, h3⟩ := mx_loop (m : Int) mxN mxN ((List.range m).map fun k : Nat => (k : Int)) [] B (by simp; omega) (by simp [mxN_eq]; omega) (by simp; omega) (by simp; omega)
    (by
      show List.Pairwise _ _
      rw [List.pairwise_map]
      exact List.nodup_range.imp fun {a b} h z => h (by omega)) List.nodup_nil (fun x _ z => nomatch z)
  rw [List.length_map, List.length_range] at B' h1
  refine ⟨ns, box', ?_, B', by rw [h1]; simp, h2, fun x hx => ?_⟩
  · have hrg := rngG_nat (n := m) (env := [.ow box, .im (.int (m : Int)), .un, .un]) (by omega)
    have l0 : 0 ≤ sizeLine := Nat.zero_le _
    simp only [eMx, List.map_map, List.map_nil] at e
    have hc : (List.range m).map (D.int ∘ fun k : Nat => (k : Int)) = (List.range m).map fun k : Nat => D.int (k : Int) := rfl
    rw [hc] at e
    rw [fs_run]
    generalize (List.range m).map (fun k : Nat => D.int (k : Int)) = Z at e hrg
    generalize ns.map D.int = Y at e ⊢
    generalize mxN = fu at e ⊢
    have p1 : evS (tbl [tkF]) fu (.par2 2 3 (.range false (.rng1 (.var 1))) (.lstD (.nil))) [.ow box, .im (.int (m : Int)), .un, .un] = some (.nx [.ow box, .im (.int (m : Int)), .ow (.lst Z), .ow (.lst [])]) := by
      generalize tbl [tkF] = Φ at e ⊢
      simp [getS, ev_var_eq, hrg, l0]
    rw [runF_io, show env1 4 box [D.int (m : Int)] = [.ow box, .im (.int (m : Int)), .un, .un] from rfl]
    unfold m__law_mixed
    rw [evS_seq', p1, andThen_nx, evS_seq', evS_whl', e, andThen_nx, evS_ret']
    rfl
  · rcases h3 x hx with z | z
    · cases z
    · obtain ⟨k, hk, rfl⟩ := List.mem_map.mp z
      have := List.mem_range.mp hk
      omega
end W
set_option maxHeartbeats 4000000
/-! _law_same. -/
namespace W
open PySem PySem.Spec PyProof.Rows L2 PL
theorem runF_pure {Φ : Nat → FS} {fuel : List D → Nat} {m : MS} {n : Nat} {fr : Bool} {ds : List D} : runF Φ fuel m n false fr ds = (evS Φ (fuel ds) m (env0 n ds)).bind (endF fr) := rfl
/-- the items' comparison: none differs -/
theorem same_comp {Φ : Nat → FS} {x : D} {xs : List D} (hx : ∀ k : Nat, k < xs.length → ixF x (.int (k : Int)) = some (xs.getD k .non)) (h1 : (Φ 0).io = false) (h2 : (Φ 0).ar = 2) (h3 : (Φ 0).fresh = false) (h4 : ∀ y ∈ xs, ∃ d1, (Φ 0).run [y, y] = some (.bl true, d1)) (E : PL.Env) (hE : E = [.im x, .im x, .un, .un]) :
    compE Φ [2] (.nm 2) (.not (.call 0 (.cons (.sub (.var 0) (.var 2)) (.cons (.sub (.var 1) (.var 2)) (.nil))))) (.var 2) ((List.range xs.length).map fun k : Nat => .int (k : Int)) E = some ([], E) := by
  have := compE_fm (Φ := Φ) (own := [2]) (t := .nm 2) (c := .not (.call 0 (.cons (.sub (.var 0) (.var 2)) (.cons (.sub (.var 1) (.var 2)) (.nil))))) (elt := .var 2) (E := E) (fun k : Nat => D.int (k : Int)) (fun _ => none) (List.range xs.length) fun k hk => by
    have hk' := List.mem_range.mp hk
    have hm : xs.getD k .non ∈ xs := by
      rw [List.getD_eq_getElem?_getD, List.getElem?_eq_getElem hk']
      exact List.getElem_mem hk'
    obtain ⟨d1, h5⟩ := h4 _ hm
    have h6 := hx k hk'
    subst hE
    refine ⟨_, rfl, .inr ⟨[.im x, .im x, .im (.int (k : Int)), .un], ?_, rfl, rfl⟩⟩
    generalize xs.getD k .non = y at h5 h6
    simp [getS, ev_var_eq, h6, h1, h2, h3, h5]
  rw [this, List.filterMap_eq_nil_iff.mpr fun _ _ => rfl]
theorem isD_non : cmpF .is_ .non .non = some true := rfl
theorem isD_int (i : Int) : cmpF .is_ (.int i) .non = some false := rfl
theorem isD_tup (xs : List D) : cmpF .is_ (.tup xs) .non = some false := rfl
theorem isD_lst (xs : List D) : cmpF .is_ (.lst xs) .non = some false := rfl
theorem eq_nil_nil : cmpF .eq (.lst []) (.lst []) = some true := eq_nil_l (xs := []) rfl
theorem ix_tup {xs : List D} {k : Nat} (h : k < xs.length) : ixF (.tup xs) (.int (k : Int)) = some (xs.getD k .non) := by
  show atI xs (k : Int) = _
  rw [List.getD_eq_getElem?_getD, List.getElem?_eq_getElem h]
  exact atI_nat (List.getElem?_eq_getElem h)
theorem ix_lst {xs : List D} {k : Nat} (h : k < xs.length) : ixF (.lst xs) (.int (k : Int)) = some (xs.getD k .non) := ix_tup h
theorem same_flat {Φ : Nat → FS} {d : D} (h : d = .non ∨ ∃ i, d = .int i) : runF Φ (fun _ => 0) m__law_same 4 false false [d, d] = some (.bl true, .non) := by
  rw [runF_pure]
  rcases h with rfl | ⟨i, rfl⟩
  · simp [m__law_same, env0, getS, ev_var_eq, isD_non]
  · simp [m__law_same, env0, getS, ev_var_eq, isD_int, tyB]
theorem same_seq {Φ : Nat → FS} {xs : List D} {d : D} (hd : d = .tup xs ∨ d = .lst xs) (hl : xs.length ≤ 1000) (h1 : (Φ 0).io = false) (h2 : (Φ 0).ar = 2) (h3 : (Φ 0).fresh = false) (h4 : ∀ y ∈ xs, ∃ d1, (Φ 0).run [y, y] = some (.bl true, d1)) :
    runF Φ (fun _ => 0) m__law_same 4 false false [d, d] = some (.bl true, .non) := by
  have hrg := rngG_nat (n := xs.length) (env := [.im d, .im d, .un, .un]) (by omega)
  have l0 : 0 ≤ sizeLine := Nat.zero_le _
  have hle : cmpF .eq (.int (xs.length : Int)) (.int (xs.length : Int)) = some true := by simp
  rw [runF_pure]
  rcases hd with rfl | rfl
  · have hc := same_comp (x := .tup xs) (fun k hk => ix_tup hk) h1 h2 h3 h4 _ rfl
    have hln : biF .len [.tup xs] = some (.int (xs.length : Int), false) := bi_len_t xs
    generalize (List.range xs.length).map (fun k : Nat => D.int (k : Int)) = Z at hc hrg
    generalize (xs.length : Int) = n at hrg hln hle
    simp [m__law_same, env0, getS, ev_var_eq, isD_tup, tyB, cmp_ne_bl, hln, hrg, noOwn_cons, hc, l0, eq_nil_nil, -bi_len_t]
  · have hc := same_comp (x := .lst xs) (fun k hk => ix_lst hk) h1 h2 h3 h4 _ rfl
    have hln : biF .len [.lst xs] = some (.int (xs.length : Int), false) := bi_len_l xs
    generalize (List.range xs.length).map (fun k : Nat => D.int (k : Int)) = Z at hc hrg
    generalize (xs.length : Int) = n at hrg hln hle
    simp [m__law_same, env0, getS, ev_var_eq, isD_lst, tyB, cmp_ne_bl, hln, hrg, noOwn_cons, hc, l0, eq_nil_nil, -bi_len_l]
/-- lengths within, at all depths -/
def okL : Nat → D → Prop
  | _, .non => True
  | _, .int _ => True
  | n + 1, .tup xs => xs.length ≤ 1000 ∧ ∀ x ∈ xs, okL n x
  | n + 1, .lst xs => xs.length ≤ 1000 ∧ ∀ x ∈ xs, okL n x
  | _, _ => False
open Classical in
noncomputable def u_same (n : Nat) : List D → Option D
  | [x, y] => if x = y ∧ okL n x then some (.bl true) else none
  | _ => none
open Classical in
theorem u_same_of {n : Nat} {d : D} (h : okL n d) : u_same n [d, d] = some (.bl true) := if_pos ⟨rfl, h⟩
def fs0 : FS := ⟨2, false, false, fun _ => none⟩
noncomputable def sameF : Nat → FS
  | 0 => fs0
  | n + 1 => fsR 2 (u_same n)
theorem r_same : ∀ (n : Nat) ds d, u_same n ds = some d → ∃ d2, runF (tbl [sameF n]) (fun _ => 0) m__law_same 4 false false ds = some (d, d2) := by
  intro n ds d e
  unfold u_same at e
  split at e
  · rename_i x y
    split at e
    case isFalse => cases e
    rename_i hh
    obtain ⟨rfl, h⟩ := hh
    cases e
    have seq : ∀ {xs : List D}, x = .tup xs ∨ x = .lst xs → ∃ d2, runF (tbl [sameF n]) (fun _ => 0) m__law_same 4 false false [x, x] = some (.bl true, d2) := by
      intro xs hd
      have hq : ∃ m, n = m + 1 ∧ xs.length ≤ 1000 ∧ ∀ y ∈ xs, okL m y := by
        cases n with
        | zero => rcases hd with rfl | rfl <;> cases h
        | succ m => rcases hd with rfl | rfl <;> exact ⟨m, rfl, h.1, h.2⟩
      obtain ⟨m, rfl, q1, q2⟩ := hq
      exact ⟨.non, same_seq hd q1 rfl rfl rfl fun y hy => ⟨.non, by
        show ((u_same m) [y, y]).map _ = _
        rw [u_same_of (q2 y hy)]
        rfl⟩⟩
    cases x with
    | non => exact ⟨.non, same_flat (.inl rfl)⟩
    | int i => exact ⟨.non, same_flat (.inr ⟨i, rfl⟩)⟩
    | tup xs => exact seq (.inl rfl)
    | lst xs => exact seq (.inr rfl)
    | _ => cases n <;> cases h
  · cases e
theorem fnOk_none {P : Program} {w : World} {K : PySem.W.Frag} {mg : Str → Option Value} {base : Heap} {f : Addr} {fd : FuncData} {k : Nat} : FnOk P w K mg base CX0 k f fd ["told", "due"] (spFS K fs0) := by
  refine ⟨fun vs H Q E h => h.1, fun A outer s H args us vs Q E _ _ _ _ h => ?_⟩
  obtain ⟨_, ⟨_, G, ds, d, d1, _, _, e, _⟩ | ⟨e, _⟩⟩ := h
  · cases e
  · cases e
theorem same_all {P : Program} {w : World} {K : PySem.W.Frag} {mg : Str → Option Value} {base : Heap} {f : Addr} {fd : FuncData} (M : Mg mg) (F : FunD K "_law_same" "_law_same" (defArgs Hd.s__law_same) (defBody Hd.s__law_same) (defScope Hd.s__law_same) [] [] f fd) (hm : mg "_law_same" = some (.ref f)) :
    ∀ n, FnG P w K mg base "_law_same" ["told", "due"] (sameF n) n
  | 0 => g__law_same F hm fnOk_none
  | n + 1 => (g__law_same F hm (ok__law_same (fuel := fun _ => 0) M F (same_all M F hm n))).imp rfl rfl rfl (imp_of (r_same n))
end W
set_option maxHeartbeats 4000000
/-! least of rows; _law_loading. -/
namespace W
open PySem PySem.Spec PyProof.Rows L2 PL
theorem toP_row (k : List Int) : toP (PL.rowD k) = .tuple (k.map .int) := by
  unfold PL.rowD
  rw [toP, toPL_ints]
theorem okN_row (k : List Int) : okN 60 (PL.rowD k) = true := List.all_eq_true.mpr fun x hx => by
  obtain ⟨n, _, rfl⟩ := List.mem_map.mp hx
  rfl
theorem lt_row (k m : List Int) : PySem.W.dataLt (toP (PL.rowD k)) (toP (PL.rowD m)) = decide (k < m) := by
  rw [toP_row, toP_row, PySem.W.dataLt_tuple]
  exact PySem.W.dataLt_ints _ _
theorem okS_rows {rows : List (List Int)} (h : ∀ r ∈ rows, r ≠ []) : okS (rows.map PL.rowD) = true := by
  unfold okS
  rw [Bool.and_eq_true, Bool.and_eq_true, Bool.or_eq_true]
  refine ⟨List.all_eq_true.mpr fun x hx => ?_, List.all_eq_true.mpr fun x hx => List.all_eq_true.mpr fun y hy => ?_, .inl (List.all_eq_true.mpr fun x hx => ?_)⟩
  · obtain ⟨r, _, rfl⟩ := List.mem_map.mp hx
    exact okN_row r
  · obtain ⟨r, _, rfl⟩ := List.mem_map.mp hx
    obtain ⟨s, _, rfl⟩ := List.mem_map.mp hy
    rw [toP_row, toP_row, PySem.W.alike]
    exact alike_rows _ _
  · obtain ⟨r, hr, rfl⟩ := List.mem_map.mp hx
    cases r with
    | nil => exact absurd rfl (h _ hr)
    | cons a r => rfl
theorem fold_least (r : List Int) : ∀ rs : List (List Int), (∀ s ∈ rs, ¬ s < r) → (rs.map PL.rowD).foldl (fun a b => if PySem.W.dataLt (toP b) (toP a) = true then b else a) (PL.rowD r) = PL.rowD r
  | [], _ => rfl
  | s :: rs, h => by
    rw [List.map_cons, List.foldl_cons, lt_row, if_neg (by simpa using h s List.mem_cons_self)]
    exact fold_least r rs fun z hz => h z (List.mem_cons_of_mem _ hz)
/-- the least of rows, where it stands first -/
theorem bi_min_rows {r : List Int} {rs : List (List Int)} (h : ∀ s ∈ r :: rs, s ≠ []) (hl : ∀ s ∈ rs, ¬ s < r) : biF .min [.lst ((r :: rs).map PL.rowD)] = some (PL.rowD r, false) := by
  show (if okS ((r :: rs).map PL.rowD) = true then oneN (minBy ((r :: rs).map PL.rowD)) else none) = _
  rw [if_pos (okS_rows h)]
  show some ((rs.map PL.rowD).foldl _ (PL.rowD r), false) = _
  rw [fold_least r rs hl]
/-! ### _law_loading -/
abbrev Ld := List Nat × Int
def ldS (ps : List Int) (slack : Int) (x : Ld) : List Ld := ((List.range ps.length).filter fun k => !x.1.contains k && decide (absI (x.2 + ati ps k) ≤ slack)).map fun k => (x.1 ++ [k], x.2 + ati ps k)
def lds (ps : List Int) (slack : Int) : Nat → List Ld
  | 0 => [([], 0)]
  | m + 1 => (lds ps slack m).flatMap (ldS ps slack)
def ldD (x : Ld) : D := .tup [oD x.1, .int x.2]
theorem ldS_len (ps : List Int) (slack : Int) (x : Ld) : (ldS ps slack x).length ≤ ps.length := by
  unfold ldS
  rw [List.length_map]
  exact Nat.le_trans (List.length_filter_le ..) (by rw [List.length_range]; exact Nat.le_refl _)
theorem lds_len {ps : List Int} {slack : Int} (hn : ps.length ≤ 5) : ∀ m : Nat, (lds ps slack m).length ≤ 5 ^ m
  | 0 => Nat.le_refl _
  | m + 1 => by
    have h1 := flat_len (ldS ps slack) 5 (fun x => Nat.le_trans (ldS_len ps slack x) hn) (lds ps slack m)
    have h2 := lds_len (slack := slack) hn m
    show ((lds ps slack m).flatMap (ldS ps slack)).length ≤ 5 ^ (m + 1)
    rw [Nat.pow_succ]
    omega
theorem lds_row {ps : List Int} {slack : Int} : ∀ (m : Nat) {g : Ld}, g ∈ lds ps slack m → g.1.length = m
  | 0, g, hg => by
    rw [List.mem_singleton.mp hg]
    rfl
  | m + 1, g, hg => by
    obtain ⟨h, h1, h2⟩ := List.mem_flatMap.mp (show g ∈ (lds ps slack m).flatMap (ldS ps slack) from hg)
    obtain ⟨k, _, rfl⟩ := List.mem_map.mp h2
    show (h.1 ++ [k]).length = m + 1
    rw [List.length_append, List.length_singleton, lds_row m h1]
/-- the products -/
def prs (fs ws : List Int) : List Int := (fs.zip ws).map fun p => p.1 * p.2
theorem prs_ati {fs ws : List Int} (hl : fs.length = ws.length) {k : Nat} (hk : k < fs.length) : ati (prs fs ws) k = ati fs k * ati ws k := by
  have hk2 : k < ws.length := by omega
  have e : (fs.zip ws)[k]? = some (fs[k], ws[k]) := by rw [List.getElem?_eq_getElem (by rw [List.length_zip]; omega), List.getElem_zip]
  simp [ati, prs, hk, hk2, e]
abbrev bL3 : MS := .seq (.ite (.and (.cmp .notin (.var 8) (.var 6)) (.cmp .le (.bi .abs (.cons (.bin .add (.var 7) (.bin .mul (.sub (.var 0) (.var 8)) (.sub (.var 1) (.var 8)))) (.nil))) (.var 2))) (.app 5 (.tupD (.cons (.bin .add (.var 6) (.tupD (.cons (.var 8) (.nil)))) (.cons (.bin .add (.var 7) (.bin .mul (.sub (.var 0) (.var 8)) (.sub (.var 1) (.var 8)))) (.nil))))) (.skip)) (.seq (.kill [8]) .skip)
abbrev eLd (x y : D) (slack : Int) (f t : PL.Sl) (longer : List Ld) (o w k : PL.Sl) : PL.Env := [.im x, .im y, .im (.int slack), f, t, .ow (.lst (longer.map ldD)), o, w, k]
theorem ld_turn {fs ws : List Int} (hl : fs.length = ws.length) (hs : allS fs = true) (slack : Int) (fuel : Nat) (f t : PL.Sl) (longer : List Ld) (x : Ld) (hx : x.1.length ≤ 5) (hlen : longer.length < 1000000) {k : Nat} (hk : k < fs.length) :
    evS (tbl []) fuel bL3 (eLd (.tup (fs.map .int)) (.tup (ws.map .int)) slack f t longer (.im (oD x.1)) (.im (.int x.2)) (.im (.int (k : Int)))) =
      some (.nx (eLd (.tup (fs.map .int)) (.tup (ws.map .int)) slack f t (if (!x.1.contains k && decide (absI (x.2 + ati (prs fs ws) k) ≤ slack)) = true then longer ++ [(x.1 ++ [k], x.2 + ati (prs fs ws) k)] else longer) (.im (oD x.1)) (.im (.int x.2)) .un)) := by
  have l1 : 1 ≤ sizeLine := by decide
  have l2 : 2 ≤ sizeLine := by decide
  have hni := notin_row x.1 k
  have hadd : binF .add (oD x.1) (.tup [.int (k : Int)]) = some (oD (x.1 ++ [k]), false) := by
    unfold oD
    rw [List.map_append]
    exact if_pos (by
      rw [List.length_map]
      exact line_big (by
        show x.1.length + 1 ≤ _
        omega))
  have i1 : ixF (.tup (fs.map .int)) (.int (k : Int)) = some (.int (ati fs k)) := atI_I hk
  have i2 : ixF (.tup (ws.map .int)) (.int (k : Int)) = some (.int (ati ws k)) := atI_I (by omega)
  have hm : binF .mul (.int (ati fs k)) (.int (ati ws k)) = some (.int (ati (prs fs ws) k), false) := by
    rw [prs_ati hl hk]
    refine bin_mul (sml_mul (allS_mem hs _ ?_))
    rw [ati, List.getD_eq_getElem?_getD, List.getElem?_eq_getElem hk]
    exact List.getElem_mem hk
  have hab : biF .abs [.int (x.2 + ati (prs fs ws) k)] = some (.int (absI (x.2 + ati (prs fs ws) k)), false) := bi_abs _
  have hlen2 : (longer.map ldD).length < sizeLine := by
    rw [List.length_map]
    exact Nat.lt_of_lt_of_le (show longer.length < 16777216 by omega) line24
  have hnew : (longer ++ [(x.1 ++ [k], x.2 + ati (prs fs ws) k)]).map ldD = longer.map ldD ++ [.tup [oD (x.1 ++ [k]), .int (x.2 + ati (prs fs ws) k)]] := by rw [List.map_append]; rfl
  by_cases hc : (!x.1.contains k) = true
  · rw [hc] at hni ⊢
    by_cases hd : absI (x.2 + ati (prs fs ws) k) ≤ slack
    · rw [decide_eq_true hd, if_pos (by rfl)]
      simp only [eLd, hnew]
      generalize longer.map ldD = Z at hlen2 ⊢
      generalize oD (x.1 ++ [k]) = R' at hadd ⊢
      generalize oD x.1 = R at hni hadd ⊢
      generalize D.tup (fs.map .int) = FS at i1 ⊢
      generalize D.tup (ws.map .int) = WS at i2 ⊢
      simp [getS, ev_var_eq, hni, i1, i2, hm, hab, hd, hadd, l1, l2, owL, owD, hlen2, slotSet, -bi_abs]
    · rw [decide_eq_false hd, if_neg (by decide)]
      simp only [eLd]
      generalize longer.map ldD = Z at hlen2 ⊢
      generalize oD x.1 = R at hni hadd ⊢
      generalize D.tup (fs.map .int) = FS at i1 ⊢
      generalize D.tup (ws.map .int) = WS at i2 ⊢
      simp [getS, ev_var_eq, hni, i1, i2, hm, hab, hd, -bi_abs]
  · have hc : (!x.1.contains k) = false := by simpa using hc
    rw [hc] at hni ⊢
    rw [if_neg (by simp)]
    simp only [eLd]
    generalize longer.map ldD = Z at hlen2 ⊢
    generalize oD x.1 = R at hni hadd ⊢
    simp [getS, ev_var_eq, hni]
end W
set_option maxHeartbeats 4000000
/-! _law_loading's loops. -/
namespace W
open PySem PySem.Spec PyProof.Rows L2 PL
abbrev iT (ns : List Int) : D := .tup (ns.map .int)
theorem ld_inner {fs ws : List Int} (hl : fs.length = ws.length) (h5 : fs.length ≤ 5) (hs : allS fs = true) (slack : Int) (fuel : Nat) (f t : PL.Sl) (longer : List Ld) (x : Ld) (hx : x.1.length ≤ 5) (hlen : longer.length + 5 < 1000000) :
    forE (tbl []) fuel (.nm 8) bL3 ((List.range fs.length).map fun k : Nat => .int (k : Int)) (eLd (iT fs) (iT ws) slack f t longer (.im (oD x.1)) (.im (.int x.2)) .un) = some (.nx (eLd (iT fs) (iT ws) slack f t (longer ++ ldS (prs fs ws) slack x) (.im (oD x.1)) (.im (.int x.2)) .un)) := by
  have hp : (prs fs ws).length = fs.length := by
    unfold prs
    rw [List.length_map, List.length_zip]
    omega
  have key : ∀ (ks : List Nat) (acc : List Ld), (∀ k ∈ ks, k < fs.length) → acc.length + ks.length < 1000000 →
      forE (tbl []) fuel (.nm 8) bL3 (ks.map fun k : Nat => .int (k : Int)) (eLd (iT fs) (iT ws) slack f t acc (.im (oD x.1)) (.im (.int x.2)) .un) =
        some (.nx (eLd (iT fs) (iT ws) slack f t (ks.foldl (fun acc k => if (!x.1.contains k && decide (absI (x.2 + ati (prs fs ws) k) ≤ slack)) = true then acc ++ [(x.1 ++ [k], x.2 + ati (prs fs ws) k)] else acc) acc) (.im (oD x.1)) (.im (.int x.2)) .un)) := by
    intro ks
    induction ks with
    | nil => intro acc _ _; rfl
    | cons k ks ih =>
      intro acc hk ha
      rw [List.length_cons] at ha
      have h1 := ld_turn hl hs slack fuel f t acc x hx (by omega) (hk k List.mem_cons_self)
      have ea : asgT (.nm 8) (.int (k : Int)) (eLd (iT fs) (iT ws) slack f t acc (.im (oD x.1)) (.im (.int x.2)) .un) = some (eLd (iT fs) (iT ws) slack f t acc (.im (oD x.1)) (.im (.int x.2)) (.im (.int (k : Int)))) := rfl
      rw [List.map_cons, forE_cons, ea, Option.bind_some, h1, List.foldl_cons]
      exact ih _ (fun j hj => hk j (List.mem_cons_of_mem _ hj)) (by
        split
        · rw [List.length_append, List.length_singleton]
          omega
        · omega)
  have := key (List.range fs.length) longer (fun k hk => List.mem_range.mp hk) (by rw [List.length_range]; omega)
  rw [this, foldl_filter (fun k => !x.1.contains k && decide (absI (x.2 + ati (prs fs ws) k) ≤ slack)) (fun k => (x.1 ++ [k], x.2 + ati (prs fs ws) k))]
  unfold ldS
  rw [hp]
abbrev tL2 : MT := .tp (.cons (.nm 6) (.cons (.nm 7) (.nil)))
abbrev bL2 : MS := .seq (.seq (.kill [8]) (.forr (.nm 8) (.rng1 (.bi .len (.cons (.var 0) (.nil)))) bL3)) (.seq (.kill [6, 7, 8]) .skip)
theorem ld_mid {fs ws : List Int} (hl : fs.length = ws.length) (h5 : fs.length ≤ 5) (hs : allS fs = true) (slack : Int) (fuel : Nat) (d : D) (t : PL.Sl) : ∀ (rows acc : List Ld), (∀ r ∈ rows, r.1.length ≤ 5) → acc.length + 5 * rows.length < 900000 →
    forE (tbl []) fuel tL2 bL2 (rows.map ldD) (eLd (iT fs) (iT ws) slack (.im d) t acc .un .un .un) = some (.nx (eLd (iT fs) (iT ws) slack (.im d) t (acc ++ rows.flatMap (ldS (prs fs ws) slack)) .un .un .un))
  | [], acc, _, _ => by rw [List.map_nil, List.flatMap_nil, List.append_nil]; rfl
  | r :: rows, acc, hr, hlen => by
    rw [List.length_cons] at hlen
    have h1 := ld_inner hl h5 hs slack fuel (.im d) t acc r (hr r List.mem_cons_self) (by omega)
    have ea : asgT tL2 (ldD r) (eLd (iT fs) (iT ws) slack (.im d) t acc .un .un .un) = some (eLd (iT fs) (iT ws) slack (.im d) t acc (.im (oD r.1)) (.im (.int r.2)) .un) := rfl
    have hln : biF .len [iT fs] = some (.int (fs.length : Int), false) := by rw [bi_len_t, List.length_map]
    have hrg := rngG_nat (n := fs.length) (env := eLd (iT fs) (iT ws) slack (.im d) t acc (.im (oD r.1)) (.im (.int r.2)) .un) (by omega)
    have hb : evS (tbl []) fuel bL2 (eLd (iT fs) (iT ws) slack (.im d) t acc (.im (oD r.1)) (.im (.int r.2)) .un) = some (.nx (eLd (iT fs) (iT ws) slack (.im d) t (acc ++ ldS (prs fs ws) slack r) .un .un .un)) := by
      simp only [eLd] at h1 hrg ⊢
      generalize (acc ++ ldS (prs fs ws) slack r).map ldD = Y at h1 ⊢
      generalize acc.map ldD = Z at h1 hrg ⊢
      generalize (List.range fs.length).map (fun k : Nat => D.int (k : Int)) = R at h1 hrg
      generalize (fs.length : Int) = n at hln hrg
      generalize iT fs = FS at h1 hln hrg ⊢
      simp [getS, ev_var_eq, hln, hrg, h1, -bi_len_t]
    rw [List.map_cons, forE_cons, ea, Option.bind_some, hb]
    have ih := ld_mid hl h5 hs slack fuel d t rows (acc ++ ldS (prs fs ws) slack r) (fun q hq => hr q (List.mem_cons_of_mem _ hq)) (by
      have := ldS_len (prs fs ws) slack r
      have hp : (prs fs ws).length ≤ fs.length := by
        unfold prs
        rw [List.length_map, List.length_zip]
        omega
      rw [List.length_append]
      omega)
    rw [List.flatMap_cons, ← List.append_assoc]
    exact ih
abbrev bL1 : MS := .seq (.set 5 (.lstD (.nil))) (.seq (.seq (.kill [6, 7, 8]) (.forr tL2 (.seq false (.var 3)) bL2)) (.seq (.mov 3 5) (.seq (.kill [4, 5, 6, 7, 8]) .skip)))
abbrev eL1 (x y : D) (slack : Int) (found : List Ld) : PL.Env := [.im x, .im y, .im (.int slack), .ow (.lst (found.map ldD)), .un, .un, .un, .un, .un]
theorem ld_outer {fs ws : List Int} (hl : fs.length = ws.length) (h5 : fs.length ≤ 5) (hs : allS fs = true) (slack : Int) (fuel : Nat) : ∀ (ks : List Nat) (m : Nat), m + ks.length ≤ 5 →
    forE (tbl []) fuel (.nm 4) bL1 (ks.map fun k : Nat => .int (k : Int)) (eL1 (iT fs) (iT ws) slack (lds (prs fs ws) slack m)) = some (.nx (eL1 (iT fs) (iT ws) slack (lds (prs fs ws) slack (m + ks.length))))
  | [], m, _ => rfl
  | k :: ks, m, hm => by
    rw [List.length_cons] at hm
    have hp : (prs fs ws).length ≤ 5 := by
      unfold prs
      rw [List.length_map, List.length_zip]
      omega
    have h5' : (5 : Nat) ^ m ≤ 5 ^ 4 := Nat.pow_le_pow_right (by decide) (by omega)
    have h6 := lds_len (slack := slack) hp m
    have h7 : (5 : Nat) ^ 4 = 625 := by decide
    have hin := ld_mid hl h5 hs slack fuel (.lst ((lds (prs fs ws) slack m).map ldD)) (.im (.int (k : Int))) (lds (prs fs ws) slack m) [] (fun r hr => by rw [lds_row m hr]; omega) (by
      rw [List.length_nil]
      omega)
    rw [List.nil_append, show (lds (prs fs ws) slack m).flatMap (ldS (prs fs ws) slack) = lds (prs fs ws) slack (m + 1) from rfl] at hin
    have l0 : 0 ≤ sizeLine := Nat.zero_le _
    have ea : asgT (.nm 4) (.int (k : Int)) (eL1 (iT fs) (iT ws) slack (lds (prs fs ws) slack m)) = some [.im (iT fs), .im (iT ws), .im (.int slack), .ow (.lst ((lds (prs fs ws) slack m).map ldD)), .im (.int (k : Int)), .un, .un, .un, .un] := rfl
    have hb : evS (tbl []) fuel bL1 [.im (iT fs), .im (iT ws), .im (.int slack), .ow (.lst ((lds (prs fs ws) slack m).map ldD)), .im (.int (k : Int)), .un, .un, .un, .un] = some (.nx (eL1 (iT fs) (iT ws) slack (lds (prs fs ws) slack (m + 1)))) := by
      simp only [eLd, eL1, List.map_nil] at hin ⊢
      generalize (lds (prs fs ws) slack m).map ldD = W0 at hin ⊢
      generalize (lds (prs fs ws) slack (m + 1)).map ldD = W1 at hin ⊢
      simp [getS, ev_var_eq, seqK, l0, hin, evS_mov']
    rw [List.map_cons, forE_cons, ea, Option.bind_some, hb]
    have ih := ld_outer hl h5 hs slack fuel ks (m + 1) (by omega)
    rw [List.length_cons, show m + (ks.length + 1) = m + 1 + ks.length by omega]
    exact ih
/-! ### rising -/
theorem app_lt : ∀ {a b : List Nat} (x y : List Nat), a.length = b.length → a < b → a ++ x < b ++ y
  | [], [], _, _, _, h => absurd h (List.lt_irrefl _)
  | [], _ :: _, _, _, h, _ => by cases h
  | _ :: _, [], _, _, h, _ => by cases h
  | a :: as, b :: bs, x, y, hl, h => by
    rw [List.cons_append, List.cons_append, List.cons_lt_cons_iff]
    rcases List.cons_lt_cons_iff.mp h with z | ⟨rfl, z⟩
    · exact .inl z
    · exact .inr ⟨rfl, app_lt x y (by simpa using hl) z⟩
theorem pre_lt : ∀ (a : List Nat) {j k : Nat}, j < k → a ++ [j] < a ++ [k]
  | [], j, k, h => List.cons_lt_cons_iff.mpr (.inl h)
  | x :: a, j, k, h => by
    rw [List.cons_append, List.cons_append, List.cons_lt_cons_iff]
    exact .inr ⟨rfl, pre_lt a h⟩
theorem lds_rising (ps : List Int) (slack : Int) : ∀ m, (lds ps slack m).Pairwise (fun a b => a.1 < b.1)
  | 0 => List.pairwise_singleton _ _
  | m + 1 => by
    show ((lds ps slack m).flatMap (ldS ps slack)).Pairwise _
    rw [List.pairwise_flatMap]
    refine ⟨fun x hx => ?_, ?_⟩
    · unfold ldS
      rw [List.pairwise_map]
      exact (List.Pairwise.filter _ List.pairwise_lt_range).imp fun {j k} h => pre_lt x.1 h
    · refine List.Pairwise.imp_of_mem (fun {a b} ha hb h x hx y hy => ?_) (lds_rising ps slack m)
      obtain ⟨j, _, rfl⟩ := List.mem_map.mp hx
      obtain ⟨k, _, rfl⟩ := List.mem_map.mp hy
      exact app_lt _ _ ((lds_row m ha).trans (lds_row m hb).symm) h
theorem cast_lt : ∀ {a b : List Nat}, a.map (fun k : Nat => (k : Int)) < b.map (fun k : Nat => (k : Int)) ↔ a < b
  | [], [] => by simp
  | [], b :: bs => by simp
  | a :: as, [] => by simp
  | a :: as, b :: bs => by
    rw [List.map_cons, List.map_cons, List.cons_lt_cons_iff, List.cons_lt_cons_iff, cast_lt]
    constructor
    · rintro (h | ⟨h1, h2⟩)
      · exact .inl (by omega)
      · exact .inr ⟨by omega, h2⟩
    · rintro (h | ⟨h1, h2⟩)
      · exact .inl (by omega)
      · exact .inr ⟨by omega, h2⟩
theorem oD_row (o : List Nat) : oD o = PL.rowD (o.map fun k : Nat => (k : Int)) := by
  unfold oD PL.rowD
  rw [List.map_map]
  rfl
def bestL (l : List Ld) : D := match l with
  | [] => .non
  | x :: _ => oD x.1
def u_law_loading : List D → Option D
  | [.tup xs, .tup ys, .int slack] => (intsD xs).bind fun fs => (intsD ys).bind fun ws => if (fs.length = ws.length ∧ 1 ≤ fs.length ∧ fs.length ≤ 5) ∧ allS fs = true then some (bestL (lds (prs fs ws) slack fs.length)) else none
  | _ => none
theorem okN_ld (x : Ld) : okN 59 (ldD x) = true := by
  have h : okN 58 (oD x.1) = true := List.all_eq_true.mpr fun z hz => by
    obtain ⟨n, _, rfl⟩ := List.mem_map.mp hz
    rfl
  show [oD x.1, D.int x.2].all (okN 58) = true
  simp [h, okN]
theorem r_law_loading : ∀ ds d, u_law_loading ds = some d → ∃ d2, runF (tbl []) (fun _ => 0) m__law_loading 9 false false ds = some (d, d2) := by
  intro ds d e
  unfold u_law_loading at e
  split at e
  · rename_i xs ys slack
    obtain ⟨fs, e1, e⟩ := bind_inv e
    obtain ⟨ws, e2, e⟩ := bind_inv e
    obtain ⟨⟨⟨h1, h2, h3⟩, h4⟩, e⟩ := ite_inv e
    cases e
    cases intsD_inv e1
    cases intsD_inv e2
    have lp := ld_outer h1 h3 h4 slack 0 (List.range fs.length) 0 (by rw [List.length_range]; omega)
    rw [List.length_range, Nat.zero_add] at lp
    have l0 : 0 ≤ sizeLine := Nat.zero_le _
    have l1 : 1 ≤ sizeLine := by decide
    have l2 : 2 ≤ sizeLine := by decide
    have hln : biF .len [iT fs] = some (.int (fs.length : Int), false) := by rw [bi_len_t, List.length_map]
    have h0 : (lds (prs fs ws) slack 0).map ldD = [.tup [.tup [], .int 0]] := rfl
    have hrg := rngG_nat (n := fs.length) (env := [.im (iT fs), .im (iT ws), .im (.int slack), .ow (.lst [.tup [.tup [], .int 0]]), .un, .un, .un, .un, .un]) (by omega)
    have hr := lds_rising (prs fs ws) slack fs.length
    have hrow : ∀ g ∈ lds (prs fs ws) slack fs.length, g.1.length = fs.length := fun g hg => lds_row _ hg
    have hne : cmpF .ne (.lst ((lds (prs fs ws) slack fs.length).map ldD)) (.lst []) = some (!((lds (prs fs ws) slack fs.length).map ldD).isEmpty) := ne_nil_l (List.all_eq_true.mpr fun z hz => by
      obtain ⟨x, _, rfl⟩ := List.mem_map.mp hz
      exact okN_ld x)
    refine ⟨.non, ?_⟩
    rw [runF_pure]
    unfold m__law_loading
    simp only [eL1, h0] at lp
    have p1 : evS (tbl []) 0 (.set 3 (.lstD (.cons (.tupD (.cons (.tupD (.nil)) (.cons (.lit (.int 0)) (.nil)))) (.nil)))) (env0 9 [iT fs, iT ws, .int slack]) = some (.nx [.im (iT fs), .im (iT ws), .im (.int slack), .ow (.lst [.tup [.tup [], .int 0]]), .un, .un, .un, .un, .un]) := by
      generalize iT fs = A
      generalize iT ws = B
      simp [env0, l0, l1, l2]
    rw [evS_seq', p1, andThen_nx, evS_seq']
    have p2 : evS (tbl []) 0 (.seq (.kill [4, 5, 6, 7, 8]) (.forr (.nm 4) (.rng1 (.bi .len (.cons (.var 0) (.nil)))) bL1)) [.im (iT fs), .im (iT ws), .im (.int slack), .ow (.lst [.tup [.tup [], .int 0]]), .un, .un, .un, .un, .un] = some (.nx [.im (iT fs), .im (iT ws), .im (.int slack), .ow (.lst ((lds (prs fs ws) slack fs.length).map ldD)), .un, .un, .un, .un, .un]) := by
      generalize (lds (prs fs ws) slack fs.length).map ldD = Q at lp ⊢
      generalize (List.range fs.length).map (fun k : Nat => D.int (k : Int)) = R at lp hrg
      generalize (fs.length : Int) = n at hln hrg
      generalize iT fs = FS at lp hln hrg ⊢
      simp [getS, ev_var_eq, hln, hrg, lp, -bi_len_t]
    rw [p2, andThen_nx]
    generalize lds (prs fs ws) slack fs.length = L at hr hrow hne ⊢
    cases L with
    | nil =>
      have hne' : cmpF .ne (.lst []) (.lst []) = some false := hne
      simp [getS, ev_var_eq, l0, hne', bestL]
    | cons x L =>
      have hc : ∀ (Φ : Nat → FS) (E : PL.Env), E = [.im (iT fs), .im (iT ws), .im (.int slack), .im (.lst ((x :: L).map ldD)), .un, .un, .un, .un, .un] →
          compE Φ [6, 7] tL2 (.lit (.bl true)) (.var 6) ((x :: L).map ldD) E = some ((x :: L).map (fun g => oD g.1), E) := by
        intro Φ E hE
        refine compE_m _ _ _ rfl fun g _ => ?_
        subst hE
        refine ⟨[.im (iT fs), .im (iT ws), .im (.int slack), .im (.lst ((x :: L).map ldD)), .un, .un, .im (oD g.1), .im (.int g.2), .un], _, rfl, rfl, rfl⟩
      have em : (x :: L).map (fun g => oD g.1) = ((x :: L).map fun g => g.1.map fun k : Nat => (k : Int)).map PL.rowD := by
        rw [List.map_map]
        exact List.map_congr_left fun g _ => oD_row g.1
      have hmin : biF .min [.lst ((x :: L).map fun g => oD g.1)] = some (oD x.1, false) := by
        rw [em, oD_row, List.map_cons]
        refine bi_min_rows (fun s hs z => ?_) fun s hs z => ?_
        · obtain ⟨g, hg, rfl⟩ := List.mem_map.mp (show s ∈ (x :: L).map (fun g => g.1.map fun k : Nat => (k : Int)) from hs)
          have := hrow g hg
          rw [List.map_eq_nil_iff.mp z] at this
          simp at this
          omega
        · obtain ⟨g, hg, rfl⟩ := List.mem_map.mp hs
          exact List.lt_asymm (cast_lt.mp z) ((List.pairwise_cons.mp hr).1 g hg)
      have hem : (!((x :: L).map ldD).isEmpty) = true := rfl
      rw [hem] at hne
      generalize (x :: L).map (fun g => oD g.1) = Y at hc hmin
      generalize (x :: L).map ldD = Z at hc hne
      show _ = some (oD x.1, D.non)
      generalize oD x.1 = r at hmin ⊢
      simp [getS, ev_var_eq, l0, hne, seqK, noOwn_cons, hc _ _ rfl, hmin]
  · cases e
end W
set_option maxHeartbeats 4000000
/-! Orders of loading: by masks, by orders. -/
namespace W
open PySem PySem.Spec PyProof.Rows L2 PL
theorem sum_perm' {l m : List Int} (h : l.Perm m) : l.sum = m.sum := by
  induction h with
  | nil => rfl
  | cons x _ ih => rw [List.sum_cons, List.sum_cons, ih]
  | swap x y l => simp only [List.sum_cons]; omega
  | trans _ _ i1 i2 => rw [i1, i2]
theorem maskSum_or {ps : List Int} {M k : Nat} (hk : k < ps.length) (hb : M.testBit k = false) : maskSum ps (M ||| bt k) = maskSum ps M + ati ps k := by
  have hp : ((List.range ps.length).filter fun i => (M ||| bt k).testBit i).Perm (k :: (List.range ps.length).filter fun i => M.testBit i) := by
    refine nodup_perm (List.nodup_range.filter _) (List.nodup_cons.mpr ⟨fun h => ?_, List.nodup_range.filter _⟩) fun i => ?_
    · rw [(List.mem_filter.mp h).2] at hb
      cases hb
    · rw [List.mem_filter, List.mem_cons, List.mem_filter, or_bt, Bool.or_eq_true, decide_eq_true_iff, List.mem_range]
      constructor
      · rintro ⟨h1, h2 | h2⟩
        · exact .inr ⟨h1, h2⟩
        · exact .inl h2.symm
      · rintro (h | ⟨h1, h2⟩)
        · exact ⟨h ▸ hk, .inr h.symm⟩
        · exact ⟨h1, .inl h2⟩
  unfold maskSum
  rw [sum_perm' (hp.map (ati ps)), List.map_cons, List.sum_cons, Int.add_comm]
/-! ### the good masks -/
section
variable (n : Nat) (ok : Nat → Bool)
def gdOk (gs : List Nat) (M : Nat) : Bool := ok M && (decide (M = 2 ^ n - 1) || (List.range n).any fun k => !M.testBit k && gs.contains (M ||| bt k))
def gsT : Nat → List Nat
  | 0 => []
  | t + 1 => if gdOk n ok (gsT t) (2 ^ n - 1 - t) = true then gsT t ++ [2 ^ n - 1 - t] else gsT t
variable {n ok}
theorem gs_in : ∀ {t M : Nat}, t ≤ 2 ^ n → M ∈ gsT n ok t → M < 2 ^ n ∧ 2 ^ n - 1 - M < t
  | 0, M, _, h => by cases h
  | t + 1, M, ht, h => by
    unfold gsT at h
    split at h
    · rcases List.mem_append.mp h with h | h
      · have := gs_in (by omega) h
        omega
      · rw [List.mem_singleton.mp h]
        omega
    · have := gs_in (by omega) h
      omega
theorem gs_step {t M : Nat} (ht : t < 2 ^ n) (hM : M < 2 ^ n) (h : 2 ^ n - 1 - M < t) : M ∈ gsT n ok (t + 1) ↔ M ∈ gsT n ok t := by
  conv => lhs; unfold gsT
  split
  · rw [List.mem_append, List.mem_singleton]
    constructor
    · rintro (z | z)
      · exact z
      · omega
    · exact .inl
  · exact Iff.rfl
theorem gs_stay {t M : Nat} (hM : M < 2 ^ n) (h : 2 ^ n - 1 - M < t) : ∀ d, t + d ≤ 2 ^ n → (M ∈ gsT n ok (t + d) ↔ M ∈ gsT n ok t)
  | 0, _ => Iff.rfl
  | d + 1, hd => by
    rw [← Nat.add_assoc, gs_step (by omega) hM (by omega), gs_stay hM h d (by omega)]
theorem or_gt {M k : Nat} (hb : M.testBit k = false) : M < M ||| bt k := by
  have h1 : M ≤ M ||| bt k := Nat.left_le_or
  rcases Nat.lt_or_ge M (M ||| bt k) with h | h
  · exact h
  · exfalso
    have e : M ||| bt k = M := Nat.le_antisymm h h1
    have : (M ||| bt k).testBit k = true := by rw [or_bt, decide_eq_true rfl, Bool.or_true]
    rw [e, hb] at this
    cases this
theorem or_lt {M k : Nat} (hM : M < 2 ^ n) (hk : k < n) : M ||| bt k < 2 ^ n := Nat.or_lt_two_pow hM (by unfold bt; exact Nat.pow_lt_pow_right (by decide) hk)
/-- a mask is good -/
def Gd (n : Nat) (ok : Nat → Bool) (M : Nat) : Prop := M ∈ gsT n ok (2 ^ n)
theorem gd_iff {M : Nat} (hM : M < 2 ^ n) : Gd n ok M ↔ ok M = true ∧ (M = 2 ^ n - 1 ∨ ∃ k, k < n ∧ M.testBit k = false ∧ Gd n ok (M ||| bt k)) := by
  have e1 : Gd n ok M ↔ M ∈ gsT n ok (2 ^ n - 1 - M + 1) := by
    have := gs_stay (n := n) (ok := ok) (t := 2 ^ n - 1 - M + 1) hM (by omega) M (by omega)
    rw [show 2 ^ n - 1 - M + 1 + M = 2 ^ n by omega] at this
    exact this
  have e2 : ∀ k, k < n → M.testBit k = false → (Gd n ok (M ||| bt k) ↔ (M ||| bt k) ∈ gsT n ok (2 ^ n - 1 - M)) := fun k hk hb => by
    have h1 := or_gt hb
    have h2 := or_lt hM hk
    have := gs_stay (n := n) (ok := ok) (t := 2 ^ n - 1 - M) h2 (by omega) (M + 1) (by omega)
    rw [show 2 ^ n - 1 - M + (M + 1) = 2 ^ n by omega] at this
    exact this
  have e3 : 2 ^ n - 1 - (2 ^ n - 1 - M) = M := by omega
  have e4 : M ∈ gsT n ok (2 ^ n - 1 - M + 1) ↔ gdOk n ok (gsT n ok (2 ^ n - 1 - M)) M = true := by
    conv => lhs; unfold gsT
    rw [e3]
    split
    · rename_i h
      exact ⟨fun _ => h, fun _ => List.mem_append_right _ (List.mem_singleton.mpr rfl)⟩
    · rename_i h
      refine ⟨fun z => ?_, fun z => absurd z h⟩
      have := gs_in (by omega) z
      omega
  rw [e1, e4]
  unfold gdOk
  rw [Bool.and_eq_true, Bool.or_eq_true, decide_eq_true_iff, List.any_eq_true]
  refine and_congr_right fun _ => or_congr_right ⟨?_, ?_⟩
  · rintro ⟨k, hk, h⟩
    rw [Bool.and_eq_true, Bool.not_eq_true'] at h
    have hk' := List.mem_range.mp hk
    exact ⟨k, hk', h.1, (e2 k hk' h.1).mpr (by simpa using h.2)⟩
  · rintro ⟨k, hk, hb, h⟩
    refine ⟨k, List.mem_range.mpr hk, ?_⟩
    rw [Bool.and_eq_true, Bool.not_eq_true']
    exact ⟨hb, by simpa using (e2 k hk hb).mp h⟩
end
/-! ### by orders -/
section
variable {ps : List Int} {slack : Int}
theorem flat_congr {α β : Type} {f g : α → List β} : ∀ {l : List α}, (∀ x ∈ l, f x = g x) → l.flatMap f = l.flatMap g
  | [], _ => rfl
  | x :: l, h => by rw [List.flatMap_cons, List.flatMap_cons, h x List.mem_cons_self, flat_congr fun y hy => h y (List.mem_cons_of_mem _ hy)]
def itL' (ps : List Int) (slack : Int) : Nat → Ld → List Ld
  | 0, x => [x]
  | m + 1, x => (ldS ps slack x).flatMap (itL' ps slack m)
theorem it_back : ∀ (m : Nat) (x : Ld), itL' ps slack (m + 1) x = (itL' ps slack m x).flatMap (ldS ps slack)
  | 0, x => by
    show (ldS ps slack x).flatMap (fun y => [y]) = [x].flatMap (ldS ps slack)
    simp
  | m + 1, x => by
    show (ldS ps slack x).flatMap (itL' ps slack (m + 1)) = ((ldS ps slack x).flatMap (itL' ps slack m)).flatMap (ldS ps slack)
    rw [List.flatMap_assoc]
    exact flat_congr fun y _ => it_back m y
theorem lds_it : ∀ m : Nat, lds ps slack m = itL' ps slack m ([], 0)
  | 0 => rfl
  | m + 1 => by
    rw [it_back, ← lds_it m]
    rfl
abbrev okM (ps : List Int) (slack : Int) (M : Nat) : Bool := decide (absI (maskSum ps M) ≤ slack)
structure At (ps : List Int) (slack : Int) (x : Ld) (M : Nat) : Prop where
  bits : ∀ i, M.testBit i = true ↔ i ∈ x.1
  lt : ∀ i ∈ x.1, i < ps.length
  nd : x.1.Nodup
  sm : x.2 = maskSum ps M
  ok : okM ps slack M = true
theorem At.bd {x : Ld} {M : Nat} (a : At ps slack x M) : M < 2 ^ ps.length := by
  refine Nat.lt_pow_two_of_testBit M fun i hi => ?_
  cases h : M.testBit i with
  | false => rfl
  | true =>
    have := a.lt i ((a.bits i).mp h)
    omega
theorem At.full {x : Ld} {M : Nat} (a : At ps slack x M) : M = 2 ^ ps.length - 1 ↔ x.1.length = ps.length := by
  constructor
  · intro e
    have hp : x.1.Perm (List.range ps.length) := nodup_perm a.nd List.nodup_range fun i => by
      rw [← a.bits, e, Nat.testBit_two_pow_sub_one, decide_eq_true_iff, List.mem_range]
    rw [hp.length_eq, List.length_range]
  · intro e
    refine Nat.eq_of_testBit_eq fun i => ?_
    rw [Nat.testBit_two_pow_sub_one]
    have hp : x.1.Perm (List.range ps.length) := perm_range ps.length x.1 e fun k hk => Classical.byContradiction fun z => by
      have := nat_nodup_len (k :: x.1) (List.range ps.length) (List.nodup_cons.mpr ⟨z, a.nd⟩) fun i hi => by
        rcases List.mem_cons.mp hi with rfl | hi
        · exact List.mem_range.mpr hk
        · exact List.mem_range.mpr (a.lt i hi)
      rw [List.length_cons, List.length_range] at this
      omega
    rw [Bool.eq_iff_iff, a.bits, decide_eq_true_iff, hp.mem_iff, List.mem_range]
theorem At.next {x : Ld} {M k : Nat} (a : At ps slack x M) (hk : k < ps.length) (hx : k ∉ x.1) (hs : absI (x.2 + ati ps k) ≤ slack) : At ps slack (x.1 ++ [k], x.2 + ati ps k) (M ||| bt k) := by
  have hb : M.testBit k = false := by
    cases h : M.testBit k with
    | false => rfl
    | true => exact absurd ((a.bits k).mp h) hx
  refine ⟨fun i => ?_, fun i hi => ?_, List.nodup_append.mpr ⟨a.nd, List.pairwise_singleton _ _, fun y hy z hz e => ?_⟩, ?_, ?_⟩
  · rw [or_bt, Bool.or_eq_true, decide_eq_true_iff, a.bits, List.mem_append, List.mem_singleton]
    exact or_congr_right ⟨Eq.symm, Eq.symm⟩
  · rcases List.mem_append.mp hi with hi | hi
    · exact a.lt i hi
    · rw [List.mem_singleton.mp hi]
      exact hk
  · rw [List.mem_singleton.mp hz] at e
    exact hx (e ▸ hy)
  · rw [maskSum_or hk hb, a.sm]
  · rw [okM, maskSum_or hk hb, ← a.sm]
    exact decide_eq_true hs
theorem mem_ldS {x y : Ld} : y ∈ ldS ps slack x ↔ ∃ k, (k < ps.length ∧ k ∉ x.1 ∧ absI (x.2 + ati ps k) ≤ slack) ∧ y = (x.1 ++ [k], x.2 + ati ps k) := by
  unfold ldS
  rw [List.mem_map]
  constructor
  · rintro ⟨k, hk, rfl⟩
    obtain ⟨h1, h2⟩ := List.mem_filter.mp hk
    rw [Bool.and_eq_true] at h2
    exact ⟨k, ⟨List.mem_range.mp h1, by simpa using h2.1, of_decide_eq_true h2.2⟩, rfl⟩
  · rintro ⟨k, ⟨h1, h2, h3⟩, rfl⟩
    exact ⟨k, List.mem_filter.mpr ⟨List.mem_range.mpr h1, by simp [h2, h3]⟩, rfl⟩
theorem At.bit {x : Ld} {M : Nat} (a : At ps slack x M) (k : Nat) : M.testBit k = false ↔ k ∉ x.1 := by
  rw [← a.bits]
  simp
theorem At.okn {x : Ld} {M k : Nat} (a : At ps slack x M) (hk : k < ps.length) (hx : k ∉ x.1) : okM ps slack (M ||| bt k) = decide (absI (x.2 + ati ps k) ≤ slack) := by
  rw [okM, maskSum_or hk ((a.bit k).mpr hx), ← a.sm]
/-- a way on from here, if the mask is good -/
theorem it_gd : ∀ (m : Nat) {x : Ld} {M : Nat}, At ps slack x M → x.1.length + m = ps.length → (itL' ps slack m x ≠ [] ↔ Gd ps.length (okM ps slack) M)
  | 0, x, M, a, hl => by
    rw [gd_iff a.bd]
    exact ⟨fun _ => ⟨a.ok, .inl (a.full.mpr hl)⟩, fun _ => by simp [itL']⟩
  | m + 1, x, M, a, hl => by
    have hnf : M ≠ 2 ^ ps.length - 1 := fun e => by
      have := a.full.mp e
      omega
    rw [gd_iff a.bd]
    have e0 : itL' ps slack (m + 1) x ≠ [] ↔ ∃ y ∈ ldS ps slack x, itL' ps slack m y ≠ [] := by
      show (ldS ps slack x).flatMap (itL' ps slack m) ≠ [] ↔ _
      rw [Ne, List.flatMap_eq_nil_iff]
      constructor
      · intro h
        exact Classical.byContradiction fun z => h fun y hy => Classical.byContradiction fun q => z ⟨y, hy, q⟩
      · rintro ⟨y, hy, h⟩ z
        exact h (z y hy)
    rw [e0]
    constructor
    · rintro ⟨y, hy, h⟩
      obtain ⟨k, ⟨h1, h2, h3⟩, rfl⟩ := mem_ldS.mp hy
      have ih := (it_gd m (a.next h1 h2 h3) (by rw [List.length_append, List.length_singleton]; omega)).mp h
      exact ⟨a.ok, .inr ⟨k, h1, (a.bit k).mpr h2, ih⟩⟩
    · rintro ⟨_, h | ⟨k, h1, h2, h3⟩⟩
      · exact absurd h hnf
      · have hx := (a.bit k).mp h2
        have hok := ((gd_iff (or_lt a.bd h1)).mp h3).1
        rw [a.okn h1 hx] at hok
        have hs := of_decide_eq_true hok
        exact ⟨_, mem_ldS.mpr ⟨k, ⟨h1, hx, hs⟩, rfl⟩, (it_gd m (a.next h1 hx hs) (by rw [List.length_append, List.length_singleton]; omega)).mpr h3⟩
theorem it_len (m : Nat) : ∀ {x y : Ld}, y ∈ itL' ps slack m x → y.1.length = x.1.length + m := by
  induction m with
  | zero =>
    intro x y h
    rw [List.mem_singleton.mp h]
    rfl
  | succ m ih =>
    intro x y h
    obtain ⟨z, h1, h2⟩ := List.mem_flatMap.mp (show y ∈ (ldS ps slack x).flatMap (itL' ps slack m) from h)
    obtain ⟨k, _, rfl⟩ := mem_ldS.mp h1
    have := ih h2
    rw [this, List.length_append, List.length_singleton]
    omega
/-- the places that lead on -/
def some' (n : Nat) (g : Nat → Bool) (M : Nat) : List Nat := (List.range n).filter fun k => !M.testBit k && g (M ||| bt k)
/-- the least way by good masks -/
def gr (n : Nat) (g : Nat → Bool) : Nat → List Nat → Nat → List Nat
  | 0, o, _ => o
  | m + 1, o, M => gr n g m (o ++ [(some' n g M).getD 0 0]) (M ||| bt ((some' n g M).getD 0 0))
theorem head_flat {α β : Type} (f : α → List β) : ∀ l : List α, (l.flatMap f).head? = (l.find? fun x => !(f x).isEmpty).bind fun x => (f x).head?
  | [] => rfl
  | x :: l => by
    rw [List.flatMap_cons, List.find?_cons]
    cases h : f x with
    | nil => exact head_flat f l
    | cons y r =>
      show some y = (f x).head?
      rw [h]
      rfl
theorem find_filter' {α : Type} {p q : α → Bool} {l : List α} {k : α} {r : List α} (h : l.filter q = k :: r) (hpq : ∀ x ∈ l, q x = true ↔ p x = true) : l.find? p = some k := by
  have e : l.filter p = k :: r := by
    rw [← h]
    exact (List.filter_congr fun x hx => by rw [Bool.eq_iff_iff]; exact (hpq x hx).symm)
  rw [← List.head?_filter, e]
  rfl
theorem it_head {g : Nat → Bool} (hg : ∀ M, M < 2 ^ ps.length → (g M = true ↔ Gd ps.length (okM ps slack) M)) : ∀ (m : Nat) {x : Ld} {M : Nat}, At ps slack x M → x.1.length + m = ps.length → Gd ps.length (okM ps slack) M →
    ∃ y, (itL' ps slack m x).head? = some y ∧ y.1 = gr ps.length g m x.1 M
  | 0, x, M, _, _, _ => ⟨x, rfl, rfl⟩
  | m + 1, x, M, a, hl, hgd => by
    have hnf : M ≠ 2 ^ ps.length - 1 := fun e => by
      have := a.full.mp e
      omega
    have hmem : ∀ k, k ∈ some' ps.length g M ↔ k < ps.length ∧ k ∉ x.1 ∧ Gd ps.length (okM ps slack) (M ||| bt k) := fun k => by
      unfold some'
      rw [List.mem_filter, List.mem_range, Bool.and_eq_true, Bool.not_eq_true']
      constructor
      · rintro ⟨h1, h2, h3⟩
        exact ⟨h1, (a.bit k).mp h2, (hg _ (or_lt a.bd h1)).mp h3⟩
      · rintro ⟨h1, h2, h3⟩
        exact ⟨h1, (a.bit k).mpr h2, (hg _ (or_lt a.bd h1)).mpr h3⟩
    obtain ⟨_, h | ⟨k0, k1, k2, k3⟩⟩ := (gd_iff a.bd).mp hgd
    · exact absurd h hnf
    · cases hs : some' ps.length g M with
      | nil =>
        have : k0 ∈ some' ps.length g M := (hmem k0).mpr ⟨k1, (a.bit k0).mp k2, k3⟩
        rw [hs] at this
        cases this
      | cons k r =>
        have hk := (hmem k).mp (by rw [hs]; exact List.mem_cons_self)
        have hok : absI (x.2 + ati ps k) ≤ slack := by
          have := ((gd_iff (or_lt a.bd hk.1)).mp hk.2.2).1
          rw [a.okn hk.1 hk.2.1] at this
          exact of_decide_eq_true this
        have an := a.next hk.1 hk.2.1 hok
        obtain ⟨y, y1, y2⟩ := it_head hg m an (by rw [List.length_append, List.length_singleton]; omega) hk.2.2
        refine ⟨y, ?_, ?_⟩
        · show ((ldS ps slack x).flatMap (itL' ps slack m)).head? = _
          rw [head_flat]
          have hf : (ldS ps slack x).find? (fun z => !(itL' ps slack m z).isEmpty) = some (x.1 ++ [k], x.2 + ati ps k) := by
            unfold ldS
            rw [List.find?_map, List.find?_filter]
            have := find_filter' (p := fun j => decide ((!x.1.contains j && decide (absI (x.2 + ati ps j) ≤ slack)) = true ∧ ((fun z => !(itL' ps slack m z).isEmpty) ∘ fun j => (x.1 ++ [j], x.2 + ati ps j)) j = true)) (q := fun k => !M.testBit k && g (M ||| bt k)) (l := List.range ps.length) hs fun j hj => by
              have hj' := List.mem_range.mp hj
              rw [decide_eq_true_iff, Bool.and_eq_true, Bool.and_eq_true, Bool.not_eq_true', decide_eq_true_iff, hg _ (or_lt a.bd hj'), a.bit]
              constructor
              · rintro ⟨q1, q2⟩
                have q3 := ((gd_iff (or_lt a.bd hj')).mp q2).1
                rw [a.okn hj' q1] at q3
                have q4 := of_decide_eq_true q3
                refine ⟨⟨by simpa using q1, q4⟩, ?_⟩
                have := (it_gd m (a.next hj' q1 q4) (by rw [List.length_append, List.length_singleton]; omega)).mpr q2
                simpa using this
              · rintro ⟨⟨q1, q4⟩, q2⟩
                have q1' : j ∉ x.1 := by simpa using q1
                exact ⟨q1', (it_gd m (a.next hj' q1' q4) (by rw [List.length_append, List.length_singleton]; omega)).mp (by simpa using q2)⟩
            rw [this]
            rfl
          rw [hf]
          exact y1
        · rw [y2, gr, hs]
          rfl
theorem maskSum_zero (ps : List Int) : maskSum ps 0 = 0 := by
  unfold maskSum
  rw [List.filter_eq_nil_iff.mpr fun k _ => by simp]
  rfl
/-- the orders by places, the orders by masks -/
theorem load_eq (hsl : 0 ≤ slack) {g : Nat → Bool} (hg : ∀ M, M < 2 ^ ps.length → (g M = true ↔ Gd ps.length (okM ps slack) M)) : bestL (lds ps slack ps.length) = if g 0 = true then oD (gr ps.length g ps.length [] 0) else .non := by
  have a : At ps slack ([], 0) 0 := ⟨fun i => by simp, fun i hi => (by cases hi), List.nodup_nil, (maskSum_zero ps).symm, by
    refine decide_eq_true ?_
    rw [maskSum_zero]
    exact hsl⟩
  rw [lds_it]
  have h1 := it_gd ps.length a (Nat.zero_add _)
  rw [← hg 0 (Nat.two_pow_pos _)] at h1
  by_cases hc : g 0 = true
  · rw [if_pos hc]
    obtain ⟨y, y1, y2⟩ := it_head hg ps.length a (Nat.zero_add _) ((hg 0 (Nat.two_pow_pos _)).mp hc)
    cases hq : itL' ps slack ps.length ([], 0) with
    | nil =>
      rw [hq] at y1
      cases y1
    | cons z r =>
      rw [hq] at y1
      cases y1
      show oD y.1 = _
      rw [y2]
  · rw [if_neg hc]
    have : itL' ps slack ps.length ([], 0) = [] := Classical.byContradiction fun z => hc (h1.mp z)
    rw [this]
    rfl
end
end W
set_option maxHeartbeats 4000000
/-! loading_order. -/
namespace W
open PySem PySem.Spec PyProof.Rows L2 PL
def gD (gs : List Nat) : List (Key × D) := gs.map fun g : Nat => ((.inl (g : Int) : Key), .bl true)
theorem key_beq (a b : Nat) : decide ((Sum.inl (a : Int) : Key) = Sum.inl (b : Int)) = (a == b) := by
  by_cases h : a = b
  · subst h
    simp
  · have : ¬ (Sum.inl (a : Int) : Key) = Sum.inl (b : Int) := fun e => h (by have := Sum.inl.inj e; omega)
    rw [decide_eq_false this]
    simp [h]
theorem look_gD (M : Nat) : ∀ gs : List Nat, (lookD (gD gs) (.inl (M : Int))).isSome = gs.contains M
  | [] => rfl
  | g :: gs => by
    unfold lookD gD
    rw [List.map_cons, List.contains_cons]
    by_cases h : g = M
    · subst h
      rw [List.find?_cons_of_pos (by simp)]
      simp
    · have h2 : (M == g) = false := by simpa using fun e : M = g => h e.symm
      have h3 : decide ((Sum.inl (g : Int) : Key) = Sum.inl (M : Int)) = false := by
        rw [key_beq]
        simpa using h
      rw [List.find?_cons_of_neg (by show ¬ decide ((Sum.inl (g : Int) : Key) = Sum.inl (M : Int)) = true; rw [h3]; decide), h2, Bool.false_or]
      exact look_gD M gs
theorem put_gD {M : Nat} {gs : List Nat} (h : M ∉ gs) : putD (gD gs) (.inl (M : Int)) (.bl true) = gD (gs ++ [M]) := by
  have hn : ((gD gs).any fun kv => decide (kv.1 = (.inl (M : Int) : Key))) = false := by
    rw [List.any_eq_false]
    intro kv hkv
    obtain ⟨g, hg, rfl⟩ := List.mem_map.mp hkv
    rw [show decide ((((.inl (g : Int) : Key), D.bl true) : Key × D).1 = (.inl (M : Int) : Key)) = (g == M) from key_beq g M]
    simpa using fun e : g = M => h (e ▸ hg)
  unfold putD
  rw [if_neg (by rw [hn]; decide)]
  unfold gD
  rw [List.map_append]
  rfl
abbrev LO : Nat → FS := tbl [fsR 1 u_check_positions, fsR 2 u_check_loads, fsR 1 u_check_slack, fsR 2 u_mask_sum]
abbrev eLO (x y : D) (slack : Int) (s3 : PL.Sl) (n : Nat) (gs : List Nat) (m o : PL.Sl) : PL.Env := [.im x, .im y, .im (.int slack), s3, .im (.int (n : Int)), .im (.int ((2 ^ n - 1 : Nat) : Int)), .ow (.dic (gD gs)), m, o, .un, .un, .un, .un]
abbrev cG : ME := .and (.cmp .eq (.bin .band (.bin .shr (.var 7) (.var 12)) (.lit (.int 1))) (.lit (.int 0))) (.inD false (.bin .bor (.var 7) (.bin .shl (.lit (.int 1)) (.var 12))) (.var 6))
theorem g_test {x y : D} {slack : Int} {s3 o : PL.Sl} {n : Nat} (gs : List Nat) {M k : Nat} (hk : k ≤ 1000) (E : PL.Env) (hE : E = [.im x, .im y, .im (.int slack), s3, .im (.int (n : Int)), .im (.int ((2 ^ n - 1 : Nat) : Int)), .ow (.dic (gD gs)), .im (.int (M : Int)), o, .un, .un, .un, .im (.int (k : Int))]) :
    ev LO cG E = some (.bl (!M.testBit k && gs.contains (M ||| bt k)), .fz, E) := by
  have h1 := bin_shr_nat M k
  have h2 := bin_bit M k
  have h3 := bin_shl_nat (show k ≤ 1000000 by omega)
  have h4 := bin_bor_nat M (bt k)
  have h5 := look_gD (M ||| bt k) gs
  subst hE
  generalize gD gs = G at h5 ⊢
  generalize ((2 ^ n - 1 : Nat) : Int) = F
  generalize ((M : Int) / 2 ^ k) = q at h1 h2
  generalize ((bt k : Nat) : Int) = bk at h3 h4
  have h6 : keyD (.int ((M ||| bt k : Nat) : Int)) = some (.inl ((M ||| bt k : Nat) : Int)) := rfl
  generalize ((M ||| bt k : Nat) : Int) = mk at h4 h5 h6
  generalize LO = Φ
  cases hb : M.testBit k with
  | true => simp [getS, ev_var_eq, h1, h2, hb]
  | false => simp [getS, ev_var_eq, h1, h2, h3, h4, h5, h6, hb]
theorem g_comp {x y : D} {slack : Int} {s3 o : PL.Sl} {n : Nat} (gs : List Nat) {M : Nat} (hn : n ≤ 5) :
    compE LO [12] (.nm 12) (.lit (.bl true)) cG ((List.range n).map fun k : Nat => .int (k : Int)) (eLO x y slack s3 n gs (.im (.int (M : Int))) o) = some (((List.range n).map fun k => !M.testBit k && gs.contains (M ||| bt k)).map .bl, eLO x y slack s3 n gs (.im (.int (M : Int))) o) := by
  rw [List.map_map]
  refine compE_m (fun k : Nat => D.int (k : Int)) _ (List.range n) rfl fun k hk => ?_
  have hk' := List.mem_range.mp hk
  refine ⟨[.im x, .im y, .im (.int slack), s3, .im (.int (n : Int)), .im (.int ((2 ^ n - 1 : Nat) : Int)), .ow (.dic (gD gs)), .im (.int (M : Int)), o, .un, .un, .un, .im (.int (k : Int))], [.im x, .im y, .im (.int slack), s3, .im (.int (n : Int)), .im (.int ((2 ^ n - 1 : Nat) : Int)), .ow (.dic (gD gs)), .im (.int (M : Int)), o, .un, .un, .un, .im (.int (k : Int))], rfl, ?_, rfl⟩
  · have := g_test (x := x) (y := y) (slack := slack) (s3 := s3) (o := o) (n := n) gs (M := M) (k := k) (by omega) _ rfl
    show fw (ev LO cG [.im x, .im y, .im (.int slack), s3, .im (.int (n : Int)), .im (.int ((2 ^ n - 1 : Nat) : Int)), .ow (.dic (gD gs)), .im (.int (M : Int)), o, .un, .un, .un, .im (.int (k : Int))]) = _
    rw [this]
    rfl
theorem g_some {x y : D} {slack : Int} {s3 o : PL.Sl} {n : Nat} (gs : List Nat) {M : Nat} (hn : n ≤ 5) :
    compE LO [12] (.nm 12) cG (.var 12) ((List.range n).map fun k : Nat => .int (k : Int)) (eLO x y slack s3 n gs (.im (.int (M : Int))) o) = some ((some' n gs.contains M).map fun k : Nat => .int (k : Int), eLO x y slack s3 n gs (.im (.int (M : Int))) o) := by
  have hf : (some' n gs.contains M).map (fun k : Nat => D.int (k : Int)) = (List.range n).filterMap fun k => if (!M.testBit k && gs.contains (M ||| bt k)) = true then some (D.int (k : Int)) else none := by
    unfold some'
    rw [← List.filterMap_eq_filter, ← List.filterMap_eq_map, List.filterMap_filterMap]
    refine congrFun (congrArg List.filterMap (funext fun k => ?_)) _
    cases h : (!M.testBit k && gs.contains (M ||| bt k)) with
    | true => rw [if_pos rfl]; simp only [Option.guard, h]; rfl
    | false => rw [if_neg (by decide)]; simp only [Option.guard, h]; rfl
  rw [hf]
  refine compE_fm (fun k : Nat => D.int (k : Int)) _ (List.range n) fun k hk => ?_
  have hk' := List.mem_range.mp hk
  have ht := g_test (x := x) (y := y) (slack := slack) (s3 := s3) (o := o) (n := n) gs (M := M) (k := k) (by omega) _ rfl
  refine ⟨[.im x, .im y, .im (.int slack), s3, .im (.int (n : Int)), .im (.int ((2 ^ n - 1 : Nat) : Int)), .ow (.dic (gD gs)), .im (.int (M : Int)), o, .un, .un, .un, .im (.int (k : Int))], rfl, ?_⟩
  cases h : (!M.testBit k && gs.contains (M ||| bt k)) with
  | true =>
    rw [h] at ht
    refine .inl ⟨_, .int (k : Int), _, by rw [ht]; rfl, rfl, rfl, by rw [if_pos rfl]⟩
  | false =>
    rw [h] at ht
    exact .inr ⟨_, by rw [ht]; rfl, rfl, by rw [if_neg (by decide)]⟩
end W
set_option maxHeartbeats 4000000
/-! loading_order's loops. -/
namespace W
open PySem PySem.Spec PyProof.Rows L2 PL
abbrev bG : MS := .seq (.ite (.cmp .le (.bi .abs (.cons (.call 3 (.cons (.var 3) (.cons (.var 7) (.nil)))) (.nil))) (.var 2)) (.ite (.or (.cmp .eq (.var 7) (.var 5)) (.bi .any (.cons (.comp [12] (.nm 12) (.rng1 (.var 4)) (.lit (.bl true)) cG) (.nil)))) (.setKey 6 (.var 7) (.lit (.bl true))) (.skip)) (.skip)) (.seq (.kill [7]) .skip)
theorem g_body {x y : D} {slack : Int} {s3 : PL.Sl} {ps : List Int} (h3 : s3 = .ow (.lst (ps.map .int)) ∨ s3 = .im (.lst (ps.map .int))) (hn : ps.length ≤ 5) (fuel : Nat) {gs : List Nat} {M : Nat} (hgs : gs.length ≤ 1000) (hM : M ∉ gs) :
    evS LO fuel bG (eLO x y slack s3 ps.length gs (.im (.int (M : Int))) .un) = some (.nx (eLO x y slack (.im (.lst (ps.map .int))) ps.length (if gdOk ps.length (okM ps slack) gs M = true then gs ++ [M] else gs) .un .un)) := by
  have hu : u_mask_sum [.lst (ps.map .int), .int (M : Int)] = some (.int (maskSum ps M)) := by
    show (intsD (ps.map .int)).bind (fun ps => if 0 ≤ (M : Int) then some (D.int (maskSum ps (M : Int).toNat)) else none) = _
    rw [intsD_map, Option.bind_some, if_pos (by omega), Int.toNat_natCast]
  have hrun : (LO 3).run [.lst (ps.map .int), .int (M : Int)] = some (.int (maskSum ps M), .non) := by
    show (u_mask_sum [.lst (ps.map .int), .int (M : Int)]).map (fun d => (d, D.non)) = _
    rw [hu]
    rfl
  have hio : (LO 3).io = false := rfl
  have har : (LO 3).ar = 2 := rfl
  have hfr : (LO 3).fresh = false := rfl
  have hab : biF .abs [.int (maskSum ps M)] = some (.int (absI (maskSum ps M)), false) := bi_abs _
  have hcmp : cmpF .le (.int (absI (maskSum ps M))) (.int slack) = some (okM ps slack M) := rfl
  have p1 : blOf (ev LO (.cmp .le (.bi .abs (.cons (.call 3 (.cons (.var 3) (.cons (.var 7) (.nil)))) (.nil))) (.var 2)) (eLO x y slack s3 ps.length gs (.im (.int (M : Int))) .un)) = some (okM ps slack M, eLO x y slack (.im (.lst (ps.map .int))) ps.length gs (.im (.int (M : Int))) .un) := by
    simp only [eLO]
    generalize okM ps slack M = okv at hcmp ⊢
    generalize absI (maskSum ps M) = av at hab hcmp
    generalize maskSum ps M = mv at hrun hab
    generalize ps.map D.int = Z at h3 hrun ⊢
    generalize gD gs = G
    generalize ((2 ^ ps.length - 1 : Nat) : Int) = F
    generalize (M : Int) = m at hrun ⊢
    generalize LO = Φ at hrun hio har hfr ⊢
    rcases h3 with rfl | rfl <;> simp [getS, ev_var_eq, hrun, hio, har, hfr, hab, hcmp, -bi_abs, -cmpF_le_int]
  show evS LO fuel (.seq (.ite _ _ _) _) _ = _
  rw [evS_seq', evS_ite', p1, Option.bind_some]
  unfold gdOk
  cases hok : okM ps slack M with
  | false =>
    rw [Bool.false_and, if_neg (by decide)]
    simp [eLO]
  | true =>
    rw [Bool.true_and]
    have hq : cmpF .eq (.int (M : Int)) (.int ((2 ^ ps.length - 1 : Nat) : Int)) = some (decide (M = 2 ^ ps.length - 1)) := by
      rw [cmpF_eq_int]
      congr 1
      exact decide_eq_decide.mpr (by omega)
    have hc := g_comp (x := x) (y := y) (slack := slack) (s3 := .im (.lst (ps.map .int))) (o := .un) (n := ps.length) gs (M := M) hn
    have hany : biF .any [.lst (((List.range ps.length).map fun k => !M.testBit k && gs.contains (M ||| bt k)).map .bl)] = some (.bl ((List.range ps.length).any fun k => !M.testBit k && gs.contains (M ||| bt k)), false) := by
      rw [bi_any (blsD_map _), List.any_map]
      rfl
    have hrg := rngG_nat (n := ps.length) (env := eLO x y slack (.im (.lst (ps.map .int))) ps.length gs (.im (.int (M : Int))) .un) (by omega)
    have hput := put_gD hM
    have hkey : keyD (.int (M : Int)) = some (.inl (M : Int)) := rfl
    have hlen : (gD gs).length < sizeLine := by
      unfold gD
      rw [List.length_map]
      exact Nat.lt_of_lt_of_le (show gs.length < 16777216 by omega) line24
    have hsz : owK (eLO x y slack (.im (.lst (ps.map .int))) ps.length gs (.im (.int (M : Int))) .un) 6 = some (gD gs) := rfl
    have hset : evS LO fuel (.setKey 6 (.var 7) (.lit (.bl true))) (eLO x y slack (.im (.lst (ps.map .int))) ps.length gs (.im (.int (M : Int))) .un) = some (.nx (eLO x y slack (.im (.lst (ps.map .int))) ps.length (gs ++ [M]) (.im (.int (M : Int))) .un)) := by
      simp only [eLO] at hsz ⊢
      rw [← hput]
      generalize gD gs = G at hlen hsz ⊢
      generalize ((2 ^ ps.length - 1 : Nat) : Int) = F at hsz ⊢
      generalize LO = Φ
      simp [getS, ev_var_eq, hsz, hkey, hlen, slotSet, owK, owD]
    have p2 : blOf (ev LO (.or (.cmp .eq (.var 7) (.var 5)) (.bi .any (.cons (.comp [12] (.nm 12) (.rng1 (.var 4)) (.lit (.bl true)) cG) (.nil)))) (eLO x y slack (.im (.lst (ps.map .int))) ps.length gs (.im (.int (M : Int))) .un)) = some (decide (M = 2 ^ ps.length - 1) || (List.range ps.length).any fun k => !M.testBit k && gs.contains (M ||| bt k), eLO x y slack (.im (.lst (ps.map .int))) ps.length gs (.im (.int (M : Int))) .un) := by
      simp only [eLO] at hc hrg ⊢
      generalize ((List.range ps.length).any fun k => !M.testBit k && gs.contains (M ||| bt k)) = av at hany ⊢
      generalize ((List.range ps.length).map fun k => !M.testBit k && gs.contains (M ||| bt k)).map D.bl = Y at hc hany
      generalize (List.range ps.length).map (fun k : Nat => D.int (k : Int)) = R at hc hrg
      generalize decide (M = 2 ^ ps.length - 1) = dv at hq ⊢
      generalize gD gs = G at hc hrg ⊢
      generalize ((2 ^ ps.length - 1 : Nat) : Int) = F at hc hrg hq ⊢
      generalize cG = C at hc ⊢
      generalize LO = Φ at hc ⊢
      cases dv with
      | true => simp [getS, ev_var_eq, hq, -cmpF_eq_int]
      | false => simp [getS, ev_var_eq, hq, hrg, noOwn_cons, hc, hany, -cmpF_eq_int]
    show andThen (evS LO fuel (.ite _ _ .skip) _) _ = _
    rw [evS_ite', p2, Option.bind_some]
    cases hd : (decide (M = 2 ^ ps.length - 1) || (List.range ps.length).any fun k => !M.testBit k && gs.contains (M ||| bt k)) with
    | false =>
      rw [if_neg (by decide)]
      rfl
    | true =>
      show andThen (evS LO fuel (.setKey 6 (.var 7) (.lit (.bl true))) _) _ = _
      rw [hset, if_pos rfl]
      rfl
theorem gs_len {n : Nat} {ok : Nat → Bool} : ∀ t, (gsT n ok t).length ≤ t
  | 0 => Nat.le_refl _
  | t + 1 => by
    have := gs_len (n := n) (ok := ok) t
    unfold gsT
    split
    · rw [List.length_append, List.length_singleton]
      omega
    · omega
theorem g_loop {x y : D} {slack : Int} {ps : List Int} (hn : ps.length ≤ 5) (fuel : Nat) : ∀ (c t : Nat) (s3 : PL.Sl), s3 = .ow (.lst (ps.map .int)) ∨ s3 = .im (.lst (ps.map .int)) → t + c = 2 ^ ps.length →
    forE LO fuel (.nm 7) bG ((List.range' t c).map fun t : Nat => .int ((2 ^ ps.length - 1 - t : Nat) : Int)) (eLO x y slack s3 ps.length (gsT ps.length (okM ps slack) t) .un .un) = some (.nx (eLO x y slack (if c = 0 then s3 else .im (.lst (ps.map .int))) ps.length (gsT ps.length (okM ps slack) (t + c)) .un .un))
  | 0, t, s3, _, _ => by
    rw [if_pos rfl]
    rfl
  | c + 1, t, s3, h3, hc => by
    have h32 : 2 ^ ps.length ≤ 2 ^ 5 := Nat.pow_le_pow_right (by decide) hn
    have hl := gs_len (n := ps.length) (ok := okM ps slack) t
    have h1 := g_body (x := x) (y := y) (slack := slack) h3 hn fuel (gs := gsT ps.length (okM ps slack) t) (M := 2 ^ ps.length - 1 - t) (by omega) fun z => by
      have := gs_in (by omega) z
      omega
    have ea : asgT (.nm 7) (.int ((2 ^ ps.length - 1 - t : Nat) : Int)) (eLO x y slack s3 ps.length (gsT ps.length (okM ps slack) t) .un .un) = some (eLO x y slack s3 ps.length (gsT ps.length (okM ps slack) t) (.im (.int ((2 ^ ps.length - 1 - t : Nat) : Int))) .un) := rfl
    rw [List.range'_succ, List.map_cons, forE_cons, ea, Option.bind_some, h1]
    have ih := g_loop (x := x) (y := y) (slack := slack) hn fuel c (t + 1) (.im (.lst (ps.map .int))) (.inr rfl) (by omega)
    rw [if_neg (show ¬ c + 1 = 0 by omega), show t + (c + 1) = t + 1 + c by omega]
    show forE LO fuel (.nm 7) bG _ (eLO x y slack _ ps.length (gsT ps.length (okM ps slack) (t + 1)) .un .un) = _
    rw [ih]
    congr 3
    split <;> rfl
/-! ### the way, by good masks -/
theorem some_cons {ps : List Int} {slack : Int} {g : Nat → Bool} (hg : ∀ M, M < 2 ^ ps.length → (g M = true ↔ Gd ps.length (okM ps slack) M)) {x : Ld} {M : Nat} (a : At ps slack x M) (hgd : Gd ps.length (okM ps slack) M) (hnf : M ≠ 2 ^ ps.length - 1) :
    ∃ k r, some' ps.length g M = k :: r ∧ (k < ps.length ∧ k ∉ x.1) ∧ absI (x.2 + ati ps k) ≤ slack ∧ Gd ps.length (okM ps slack) (M ||| bt k) := by
  have hmem : ∀ k, k ∈ some' ps.length g M ↔ k < ps.length ∧ k ∉ x.1 ∧ Gd ps.length (okM ps slack) (M ||| bt k) := fun k => by
    unfold some'
    rw [List.mem_filter, List.mem_range, Bool.and_eq_true, Bool.not_eq_true']
    constructor
    · rintro ⟨h1, h2, h3⟩
      exact ⟨h1, (a.bit k).mp h2, (hg _ (or_lt a.bd h1)).mp h3⟩
    · rintro ⟨h1, h2, h3⟩
      exact ⟨h1, (a.bit k).mpr h2, (hg _ (or_lt a.bd h1)).mpr h3⟩
  obtain ⟨_, h | ⟨k0, k1, k2, k3⟩⟩ := (gd_iff a.bd).mp hgd
  · exact absurd h hnf
  · cases hs : some' ps.length g M with
    | nil =>
      have : k0 ∈ some' ps.length g M := (hmem k0).mpr ⟨k1, (a.bit k0).mp k2, k3⟩
      rw [hs] at this
      cases this
    | cons k r =>
      have hk := (hmem k).mp (by rw [hs]; exact List.mem_cons_self)
      have hok := ((gd_iff (or_lt a.bd hk.1)).mp hk.2.2).1
      rw [a.okn hk.1 hk.2.1] at hok
      exact ⟨k, r, rfl, ⟨hk.1, hk.2.1⟩, of_decide_eq_true hok, hk.2.2⟩
abbrev cW : ME := .cmp .ne (.var 7) (.var 5)
abbrev bW : MS := .seq (.set 9 (.comp [12] (.nm 12) (.rng1 (.var 4)) cG (.var 12))) (.seq (.app 8 (.sub (.var 9) (.lit (.int 0)))) (.seq (.set 7 (.bin .bor (.var 7) (.bin .shl (.lit (.int 1)) (.sub (.var 9) (.lit (.int 0)))))) (.seq (.kill [9]) .skip)))
theorem w_body {x y : D} {slack : Int} {s3 : PL.Sl} {n : Nat} (hn : n ≤ 5) (fuel : Nat) {gs : List Nat} {M k : Nat} {r o : List Nat} (hs : some' n gs.contains M = k :: r) (hk : k < n) (ho : o.length ≤ 100) :
    evS LO fuel bW (eLO x y slack s3 n gs (.im (.int (M : Int))) (.ow (.lst (o.map fun k : Nat => .int (k : Int))))) = some (.nx (eLO x y slack s3 n gs (.im (.int ((M ||| bt k : Nat) : Int))) (.ow (.lst ((o ++ [k]).map fun k : Nat => .int (k : Int)))))) := by
  have hc := g_some (x := x) (y := y) (slack := slack) (s3 := s3) (o := .ow (.lst (o.map fun k : Nat => .int (k : Int)))) (n := n) gs (M := M) hn
  rw [hs, List.map_cons] at hc
  have hrg := rngG_nat (n := n) (env := eLO x y slack s3 n gs (.im (.int (M : Int))) (.ow (.lst (o.map fun k : Nat => .int (k : Int))))) (by omega)
  have h3 := bin_shl_nat (show k ≤ 1000000 by omega)
  have h4 := bin_bor_nat M (bt k)
  have hix : ∀ R : List D, ixF (.lst (.int (k : Int) :: R)) (.int 0) = some (.int (k : Int)) := fun R => (atI_nat (j := 0) rfl : atI _ ((0 : Nat) : Int) = _)
  have hol : (o.map fun k : Nat => D.int (k : Int)).length < sizeLine := by
    rw [List.length_map]
    exact Nat.lt_of_lt_of_le (show o.length < 16777216 by omega) line24
  have hnew : (o ++ [k]).map (fun k : Nat => D.int (k : Int)) = o.map (fun k : Nat => D.int (k : Int)) ++ [.int (k : Int)] := by rw [List.map_append]; rfl
  simp only [eLO, hnew] at hc hrg ⊢
  generalize o.map (fun k : Nat => D.int (k : Int)) = Y at hc hrg hol ⊢
  generalize r.map (fun k : Nat => D.int (k : Int)) = R at hc
  generalize (List.range n).map (fun k : Nat => D.int (k : Int)) = Z at hc hrg
  generalize gD gs = G at hc hrg ⊢
  generalize ((2 ^ n - 1 : Nat) : Int) = F at hc hrg ⊢
  generalize ((bt k : Nat) : Int) = bk at h3 h4
  generalize ((M ||| bt k : Nat) : Int) = mk at h4 ⊢
  generalize (k : Int) = kk at hc h3 hix ⊢
  generalize (M : Int) = m at hc hrg h4 ⊢
  generalize LO = Φ at hc ⊢
  simp [getS, ev_var_eq, hrg, noOwn_cons, hc, owL, owD, hix, hol, slotSet, h3, h4]
theorem while_step {Φ : Nat → FS} {fuel n : Nat} {a : ME} {s : MS} {env env1 env2 : PL.Env} (h : blOf (ev Φ a env) = some (true, env1)) (h2 : evS Φ fuel s env1 = some (.nx env2)) : whileE Φ fuel a s (n + 1) env = whileE Φ fuel a s n env2 := by
  rw [whileE_succ, h]
  show (evS Φ fuel s env1).bind _ = _
  rw [h2]
  rfl
theorem while_stop {Φ : Nat → FS} {fuel n : Nat} {a : ME} {s : MS} {env env1 : PL.Env} (h : blOf (ev Φ a env) = some (false, env1)) : whileE Φ fuel a s (n + 1) env = some (.nx env1) := by
  rw [whileE_succ, h]
  rfl
theorem w_loop {x y : D} {slack : Int} {s3 : PL.Sl} {ps : List Int} (hn : ps.length ≤ 5) (fuel : Nat) {gs : List Nat} (hg : ∀ M, M < 2 ^ ps.length → (gs.contains M = true ↔ Gd ps.length (okM ps slack) M)) : ∀ (m f : Nat) {z : Ld} {M : Nat}, m < f → At ps slack z M → z.1.length + m = ps.length → Gd ps.length (okM ps slack) M →
    whileE LO fuel cW bW f (eLO x y slack s3 ps.length gs (.im (.int (M : Int))) (.ow (.lst (z.1.map fun k : Nat => .int (k : Int))))) = some (.nx (eLO x y slack s3 ps.length gs (.im (.int ((2 ^ ps.length - 1 : Nat) : Int))) (.ow (.lst ((gr ps.length gs.contains m z.1 M).map fun k : Nat => .int (k : Int))))))
  | m, 0, z, M, hf, _, _, _ => absurd hf (Nat.not_lt_zero _)
  | m, f + 1, z, M, hf, a, hl, hgd => by
    have hq : cmpF .ne (.int (M : Int)) (.int ((2 ^ ps.length - 1 : Nat) : Int)) = some (!decide (M = 2 ^ ps.length - 1)) := by
      rw [cmpF_ne_int]
      congr 2
      exact decide_eq_decide.mpr (by omega)
    have hc : blOf (ev LO cW (eLO x y slack s3 ps.length gs (.im (.int (M : Int))) (.ow (.lst (z.1.map fun k : Nat => .int (k : Int)))))) = some (!decide (M = 2 ^ ps.length - 1), eLO x y slack s3 ps.length gs (.im (.int (M : Int))) (.ow (.lst (z.1.map fun k : Nat => .int (k : Int))))) := by
      simp only [eLO]
      generalize decide (M = 2 ^ ps.length - 1) = dv at hq ⊢
      generalize ((2 ^ ps.length - 1 : Nat) : Int) = F at hq ⊢
      simp [getS, ev_var_eq, hq, -cmpF_ne_int]
    cases m with
    | zero =>
      have e := a.full.mpr hl
      rw [decide_eq_true e] at hc
      rw [while_stop hc, ← e]
      rfl
    | succ m =>
      have hnf : M ≠ 2 ^ ps.length - 1 := fun e => by
        have := a.full.mp e
        omega
      rw [decide_eq_false hnf] at hc
      obtain ⟨k, r, hs, ⟨k1, k2⟩, k3, k4⟩ := some_cons hg a hgd hnf
      have hb := w_body (x := x) (y := y) (slack := slack) (s3 := s3) hn fuel (gs := gs) (M := M) (o := z.1) hs k1 (by omega)
      rw [while_step hc hb]
      have ih := w_loop (x := x) (y := y) (slack := slack) (s3 := s3) hn fuel hg m f (by omega) (a.next k1 k2 k3) (by rw [List.length_append, List.length_singleton]; omega) k4
      have eg : gr ps.length gs.contains (m + 1) z.1 M = gr ps.length gs.contains m (z.1 ++ [k]) (M ||| bt k) := by
        rw [gr, hs]
        rfl
      rw [eg]
      exact ih
end W
set_option maxHeartbeats 4000000
/-! loading_order's worth. -/
namespace W
open PySem PySem.Spec PyProof.Rows L2 PL
def ldN : Nat := 100
theorem ldN_eq : ldN = 100 := rfl
def u_loading_order : List D → Option D
  | [.tup xs, .tup ys, .int slack] => (u_check_positions [.tup xs]).bind fun _ => (u_check_loads [.tup xs, .tup ys]).bind fun _ => (u_check_slack [.int slack]).bind fun _ =>
    (intsD xs).bind fun fs => (intsD ys).bind fun ws => if (fs.length = ws.length ∧ fs.length ≤ 5) ∧ allS fs = true then some (bestL (lds (prs fs ws) slack fs.length)) else none
  | _ => none
theorem u_slack {i : Int} {d : D} (h : u_check_slack [.int i] = some d) : 0 ≤ i ∧ i ≤ 20000 ∧ d = .non := by
  have h : (if betw 0 20000 i = true then some D.non else none) = some d := h
  obtain ⟨h1, h2⟩ := ite_inv h
  cases h2
  have := of_decide_eq_true (show decide (0 ≤ i ∧ i ≤ 20000) = true from h1)
  exact ⟨this.1, this.2, rfl⟩
theorem rg_down {n : Nat} : rgD (((2 ^ n - 1 : Nat) : Int)) (((2 ^ n - 1 : Nat) : Int) - (-1)).toNat (-1) = (List.range' 0 (2 ^ n)).map fun t : Nat => .int ((2 ^ n - 1 - t : Nat) : Int) := by
  have hp := Nat.two_pow_pos n
  have e : (((2 ^ n - 1 : Nat) : Int) - (-1)).toNat = 2 ^ n := by omega
  rw [e, ← List.range_eq_range']
  unfold rgD
  refine List.map_congr_left fun t ht => ?_
  have := List.mem_range.mp ht
  congr 1
  omega
theorem r_loading_order : ∀ ds d, u_loading_order ds = some d → ∃ d2, runF LO (fun _ => ldN) m_loading_order 13 false false ds = some (d, d2) := by
  intro ds d e
  unfold u_loading_order at e
  split at e
  · rename_i xs ys slack
    obtain ⟨c1, h1, e⟩ := bind_inv e
    obtain ⟨c2, h2, e⟩ := bind_inv e
    obtain ⟨c3, h3, e⟩ := bind_inv e
    obtain ⟨fs, e1, e⟩ := bind_inv e
    obtain ⟨ws, e2, e⟩ := bind_inv e
    obtain ⟨⟨⟨q1, q2⟩, q3⟩, e⟩ := ite_inv e
    cases e
    cases intsD_inv e1
    cases intsD_inv e2
    obtain ⟨s1, s2, -⟩ := u_slack h3
    have hpl : (prs fs ws).length = fs.length := by
      unfold prs
      rw [List.length_map, List.length_zip]
      omega
    obtain ⟨ps, hps⟩ : ∃ ps, prs fs ws = ps := ⟨_, rfl⟩
    rw [hps] at hpl ⊢
    rw [← hpl]
    have hn : ps.length ≤ 5 := by omega
    have h32 : 2 ^ ps.length ≤ 2 ^ 5 := Nat.pow_le_pow_right (by decide) hn
    have hpos := Nat.two_pow_pos ps.length
    refine ⟨.non, ?_⟩
    rw [runF_pure]
    unfold m_loading_order
    -- the checks
    have hz : pairsD (fs.map .int) (ws.map .int) = (fs.zip ws).map fun p => .tup [.int p.1, .int p.2] := pairsD_ints fs ws
    have hc : ∀ (Φ : Nat → FS) (E : PL.Env), E = [.im (iT fs), .im (iT ws), .im (.int slack), .un, .un, .un, .un, .un, .un, .un, .un, .un, .un] →
        compE Φ [10, 11] (.tp (.cons (.nm 10) (.cons (.nm 11) (.nil)))) (.lit (.bl true)) (.bin .mul (.var 10) (.var 11)) ((fs.zip ws).map fun p => .tup [.int p.1, .int p.2]) E = some (ps.map .int, E) := by
      intro Φ E hE
      rw [← hps]
      unfold prs
      rw [List.map_map]
      refine compE_m _ _ _ rfl fun p hp => ?_
      subst hE
      have hm : sml p.1 = true := allS_mem q3 p.1 (List.of_mem_zip hp).1
      refine ⟨_, [.im (iT fs), .im (iT ws), .im (.int slack), .un, .un, .un, .un, .un, .un, .un, .im (.int p.1), .im (.int p.2), .un], rfl, ?_, rfl⟩
      simp [getS, ev_var_eq, bin_mul (sml_mul hm)]
    have r1 : (LO 0).run [iT fs] = some (c1, .non) := by
      show (u_check_positions [iT fs]).map (fun d => (d, D.non)) = _
      rw [h1]
      rfl
    have r2 : (LO 1).run [iT fs, iT ws] = some (c2, .non) := by
      show (u_check_loads [iT fs, iT ws]).map (fun d => (d, D.non)) = _
      rw [h2]
      rfl
    have r3 : (LO 2).run [.int slack] = some (c3, .non) := by
      show (u_check_slack [.int slack]).map (fun d => (d, D.non)) = _
      rw [h3]
      rfl
    have i0 : (LO 0).io = false ∧ (LO 0).ar = 1 ∧ (LO 0).fresh = false := ⟨rfl, rfl, rfl⟩
    have i1 : (LO 1).io = false ∧ (LO 1).ar = 2 ∧ (LO 1).fresh = false := ⟨rfl, rfl, rfl⟩
    have i2 : (LO 2).io = false ∧ (LO 2).ar = 1 ∧ (LO 2).fresh = false := ⟨rfl, rfl, rfl⟩
    have sq1 : seqOf (iT fs) = some (fs.map .int) := rfl
    have sq2 : seqOf (iT ws) = some (ws.map .int) := rfl
    have hE0 : env0 13 [iT fs, iT ws, .int slack] = [.im (iT fs), .im (iT ws), .im (.int slack), .un, .un, .un, .un, .un, .un, .un, .un, .un, .un] := rfl
    have hc' := hc LO _ rfl
    generalize hfu : ldN = fu
    have p1 : evS LO fu (.expr (.call 0 (.cons (.var 0) (.nil)))) (env0 13 [iT fs, iT ws, .int slack]) = some (.nx [.im (iT fs), .im (iT ws), .im (.int slack), .un, .un, .un, .un, .un, .un, .un, .un, .un, .un]) := by
      rw [hE0]
      generalize iT fs = FS at r1 ⊢
      generalize LO = Φ at r1 i0 ⊢
      simp [getS, ev_var_eq, r1, i0]
    have p2 : evS LO fu (.expr (.call 1 (.cons (.var 0) (.cons (.var 1) (.nil))))) [.im (iT fs), .im (iT ws), .im (.int slack), .un, .un, .un, .un, .un, .un, .un, .un, .un, .un] = some (.nx [.im (iT fs), .im (iT ws), .im (.int slack), .un, .un, .un, .un, .un, .un, .un, .un, .un, .un]) := by
      generalize iT fs = FS at r2 ⊢
      generalize iT ws = WS at r2 ⊢
      generalize LO = Φ at r2 i1 ⊢
      simp [getS, ev_var_eq, r2, i1]
    have p3 : evS LO fu (.expr (.call 2 (.cons (.var 2) (.nil)))) [.im (iT fs), .im (iT ws), .im (.int slack), .un, .un, .un, .un, .un, .un, .un, .un, .un, .un] = some (.nx [.im (iT fs), .im (iT ws), .im (.int slack), .un, .un, .un, .un, .un, .un, .un, .un, .un, .un]) := by
      generalize iT fs = FS
      generalize iT ws = WS
      generalize LO = Φ at r3 i2 ⊢
      simp [getS, ev_var_eq, r3, i2]
    have p4 : evS LO fu (.set 3 (.comp [10, 11] (.tp (.cons (.nm 10) (.cons (.nm 11) (.nil)))) (.zip (.var 0) (.var 1)) (.lit (.bl true)) (.bin .mul (.var 10) (.var 11)))) [.im (iT fs), .im (iT ws), .im (.int slack), .un, .un, .un, .un, .un, .un, .un, .un, .un, .un] =
        some (.nx [.im (iT fs), .im (iT ws), .im (.int slack), .ow (.lst (ps.map .int)), .un, .un, .un, .un, .un, .un, .un, .un, .un]) := by
      rw [← hz] at hc'
      generalize pairsD (fs.map .int) (ws.map .int) = Z at hc' hz
      have sq : (seqOf (iT fs)).bind (fun xs => (seqOf (iT ws)).map fun ys => pairsD xs ys) = some (pairsD (fs.map .int) (ws.map .int)) := rfl
      rw [pairsD_ints, ← hz] at sq
      generalize ps.map D.int = Y at hc' ⊢
      generalize iT fs = FS at hc' sq ⊢
      generalize iT ws = WS at hc' sq ⊢
      generalize LO = Φ at hc' ⊢
      obtain ⟨xs', s1, s2⟩ := bind_inv sq
      obtain ⟨ys', s3, s4⟩ := map_inv s2
      cases s4
      simp [getS, ev_var_eq, s1, s3, noOwn_cons, hc']
    rw [evS_seq', p1, andThen_nx, evS_seq', p2, andThen_nx, evS_seq', p3, andThen_nx, evS_seq', p4, andThen_nx]
    have p5 : evS LO fu (.par2 4 5 (.bi .len (.cons (.var 3) (.nil))) (.bin .sub (.bin .shl (.lit (.int 1)) (.bi .len (.cons (.var 3) (.nil)))) (.lit (.int 1)))) [.im (iT fs), .im (iT ws), .im (.int slack), .ow (.lst (ps.map .int)), .un, .un, .un, .un, .un, .un, .un, .un, .un] =
        some (.nx [.im (iT fs), .im (iT ws), .im (.int slack), .ow (.lst (ps.map .int)), .im (.int (ps.length : Int)), .im (.int ((2 ^ ps.length - 1 : Nat) : Int)), .un, .un, .un, .un, .un, .un, .un]) := by
      have hln : biF .len [.lst (ps.map .int)] = some (.int (ps.length : Int), false) := by rw [bi_len_l, List.length_map]
      have hsh : binF .shl (.int 1) (.int (ps.length : Int)) = some (.int (bt ps.length : Nat), false) := bin_shl_nat (by omega)
      have hq : ((bt ps.length : Nat) : Int) - 1 = ((2 ^ ps.length - 1 : Nat) : Int) := by
        unfold bt
        omega
      generalize ((2 ^ ps.length - 1 : Nat) : Int) = F at hq ⊢
      generalize ((bt ps.length : Nat) : Int) = bk at hsh hq
      generalize (ps.length : Int) = n at hln hsh ⊢
      generalize ps.map D.int = Y at hln ⊢
      generalize iT fs = FS
      generalize iT ws = WS
      subst hq
      simp [getS, ev_var_eq, hln, hsh, -bi_len_l]
    have p6 : evS LO fu (.set 6 (.dicD .nil .nil)) [.im (iT fs), .im (iT ws), .im (.int slack), .ow (.lst (ps.map .int)), .im (.int (ps.length : Int)), .im (.int ((2 ^ ps.length - 1 : Nat) : Int)), .un, .un, .un, .un, .un, .un, .un] = some (.nx (eLO (iT fs) (iT ws) slack (.ow (.lst (ps.map .int))) ps.length [] .un .un)) := by
      simp [eLO, gD]
    rw [evS_seq', p5, andThen_nx, evS_seq', p6, andThen_nx]
    -- the good masks
    have lp := g_loop (x := iT fs) (y := iT ws) (slack := slack) hn fu (2 ^ ps.length) 0 (.ow (.lst (ps.map .int))) (.inl rfl) (Nat.zero_add _)
    rw [Nat.zero_add, if_neg (by omega)] at lp
    have hrg := rngG3_of (i := ((2 ^ ps.length - 1 : Nat) : Int)) (j := -1) (env := eLO (iT fs) (iT ws) slack (.ow (.lst (ps.map .int))) ps.length [] .un .un) (by omega) (by omega) (by omega)
    rw [rg_down] at hrg
    obtain ⟨gs, hgs⟩ : ∃ gs, gsT ps.length (okM ps slack) (2 ^ ps.length) = gs := ⟨_, rfl⟩
    have hg : ∀ M, M < 2 ^ ps.length → (gs.contains M = true ↔ Gd ps.length (okM ps slack) M) := fun M _ => by
      rw [← hgs]
      simp [Gd]
    rw [hgs] at lp
    have p7 : evS LO fu (.seq (.kill [7]) (.forr (.nm 7) (.rng3 (.var 5) (.neg (.lit (.int 1))) (.neg (.lit (.int 1)))) bG)) (eLO (iT fs) (iT ws) slack (.ow (.lst (ps.map .int))) ps.length [] .un .un) = some (.nx (eLO (iT fs) (iT ws) slack (.im (.lst (ps.map .int))) ps.length gs .un .un)) := by
      have lp0 : forE LO fu (.nm 7) bG ((List.range' 0 (2 ^ ps.length)).map fun t : Nat => .int ((2 ^ ps.length - 1 - t : Nat) : Int)) (eLO (iT fs) (iT ws) slack (.ow (.lst (ps.map .int))) ps.length [] .un .un) = some (.nx (eLO (iT fs) (iT ws) slack (.im (.lst (ps.map .int))) ps.length gs .un .un)) := lp
      simp only [eLO] at hrg lp0 ⊢
      generalize (List.range' 0 (2 ^ ps.length)).map (fun t : Nat => D.int ((2 ^ ps.length - 1 - t : Nat) : Int)) = R at hrg lp0
      generalize ((2 ^ ps.length - 1 : Nat) : Int) = F at hrg lp0 ⊢
      generalize ps.map D.int = Y at hrg lp0 ⊢
      generalize iT fs = FS at hrg lp0 ⊢
      generalize iT ws = WS at hrg lp0 ⊢
      generalize LO = Φ at lp0 ⊢
      simp [getS, ev_var_eq, hrg, lp0]
    rw [evS_seq', p7, andThen_nx, load_eq s1 hg]
    have hl0 : (lookD (gD gs) (.inl (0 : Int))).isSome = gs.contains 0 := look_gD 0 gs
    have hk0 : keyD (.int 0) = some (.inl (0 : Int)) := rfl
    have p8 : blOf (ev LO (.inD true (.lit (.int 0)) (.var 6)) (eLO (iT fs) (iT ws) slack (.im (.lst (ps.map .int))) ps.length gs .un .un)) = some (!gs.contains 0, eLO (iT fs) (iT ws) slack (.im (.lst (ps.map .int))) ps.length gs .un .un) := by
      simp only [eLO]
      generalize gs.contains 0 = b at hl0 ⊢
      generalize gD gs = G at hl0 ⊢
      generalize ((2 ^ ps.length - 1 : Nat) : Int) = F
      generalize LO = Φ
      rw [← hl0]
      simp [getS, ev_var_eq, hk0]
    rw [evS_seq', evS_ite', p8, Option.bind_some]
    by_cases hb : gs.contains 0 = true
    · rw [if_pos hb, hb]
      have hgd := (hg 0 hpos).mp hb
      have a0 : At ps slack ([], 0) 0 := ⟨fun i => by simp, fun i hi => (by cases hi), List.nodup_nil, (maskSum_zero ps).symm, by
        refine decide_eq_true ?_
        rw [maskSum_zero]
        exact s1⟩
      have wl := w_loop (x := iT fs) (y := iT ws) (slack := slack) (s3 := .im (.lst (ps.map .int))) hn fu hg ps.length fu (by rw [← hfu, ldN_eq]; omega) a0 (Nat.zero_add _) hgd
      have p9 : evS LO fu (.par2 8 7 (.lstD (.nil)) (.lit (.int 0))) (eLO (iT fs) (iT ws) slack (.im (.lst (ps.map .int))) ps.length gs .un .un) = some (.nx (eLO (iT fs) (iT ws) slack (.im (.lst (ps.map .int))) ps.length gs (.im (.int 0)) (.ow (.lst [])))) := by
        have l0 : 0 ≤ sizeLine := Nat.zero_le _
        simp only [eLO]
        generalize LO = Φ
        simp [l0]
      show (andThen (evS LO fu .skip _) _).bind _ = _
      rw [evS_skip', andThen_nx, evS_seq', p9, andThen_nx, evS_seq', evS_whl']
      have wl' : whileE LO fu cW bW fu (eLO (iT fs) (iT ws) slack (.im (.lst (ps.map .int))) ps.length gs (.im (.int 0)) (.ow (.lst []))) = some (.nx (eLO (iT fs) (iT ws) slack (.im (.lst (ps.map .int))) ps.length gs (.im (.int ((2 ^ ps.length - 1 : Nat) : Int))) (.ow (.lst ((gr ps.length gs.contains ps.length [] 0).map fun k : Nat => .int (k : Int)))))) := wl
      rw [wl', andThen_nx]
      unfold oD
      generalize (gr ps.length gs.contains ps.length [] 0).map (fun k : Nat => D.int (k : Int)) = Q
      simp [getS, ev_var_eq]
    · rw [if_neg hb]
      have hb' : gs.contains 0 = false := by simpa using hb
      rw [hb']
      simp
  · cases e
end W
set_option maxHeartbeats 4000000
/-! The law's mathematics: moments, rows, fractions. -/
namespace W
open PySem PySem.Spec PyProof.Rows L2 PL
theorem dot_cons (x v : Int) (l r : List Int) : dot (x :: l) (v :: r) = x * v + dot l r := by simp [dot]
theorem dot_nil (l : List Int) : dot l [] = 0 := by simp [dot]
theorem nil_dot (l : List Int) : dot [] l = 0 := by simp [dot]
theorem dotAt_dot {fs : List Int} : ∀ (r : List Int) (p : Nat), p + r.length ≤ fs.length → dotAt fs p r = dot (fs.drop p) r
  | [], p, _ => by rw [dot_nil]; rfl
  | v :: r, p, h => by
    rw [List.length_cons] at h
    have hp : p < fs.length := by omega
    rw [dotAt, dotAt_dot r (p + 1) (by omega), List.drop_eq_getElem_cons hp, dot_cons]
    congr 2
    rw [ati, List.getD_eq_getElem?_getD, List.getElem?_eq_getElem hp]
    rfl
theorem dotAt0 {fs r : List Int} (h : r.length ≤ fs.length) : dotAt fs 0 r = dot fs r := by
  rw [dotAt_dot r 0 (by omega), List.drop_zero]
theorem dot_zip (a b : List Int) : dot a b = (List.zipWith (· * ·) a b).sum := by
  unfold dot
  rw [List.zip, List.map_zipWith]
theorem dot_rev {a b : List Int} (h : a.length = b.length) : dot a.reverse b.reverse = dot a b := by
  rw [dot_zip, dot_zip, ← List.reverse_zipWith h]
  exact sum_perm' (List.reverse_perm _)
theorem dot_neg : ∀ (a b : List Int), dot (a.map fun p => -p) b = -dot a b
  | [], b => by simp [nil_dot]
  | x :: a, [] => by simp [dot_nil]
  | x :: a, v :: b => by
    rw [List.map_cons, dot_cons, dot_cons, dot_neg a b]
    rw [Int.neg_mul]
    omega
theorem dot_lev : ∀ (r : Int) (ps ws : List Int), dot (ps.map fun p => r - p) ws = lev r ps ws
  | r, [], ws => by simp [nil_dot, lev]
  | r, p :: ps, [] => by simp [dot_nil, lev]
  | r, p :: ps, v :: ws => by
    rw [List.map_cons, dot_cons, dot_lev r ps ws]
    simp [lev, Int.mul_comm]
theorem lev_eq (r : Int) : ∀ {ps ws : List Int}, ps.length = ws.length → lev r ps ws = r * ws.sum - dot ps ws
  | [], [], _ => by simp [lev, dot]
  | [], _ :: _, h => by cases h
  | _ :: _, [], h => by cases h
  | p :: ps, v :: ws, h => by
    have ih := lev_eq r (ps := ps) (ws := ws) (by simpa using h)
    have e : lev r (p :: ps) (v :: ws) = v * (r - p) + lev r ps ws := by simp [lev]
    rw [e, ih, dot_cons, List.sum_cons]
    grind
def back (ps : List Int) : List Int := ps.reverse.map fun p => -p
theorem back_len (ps : List Int) : (back ps).length = ps.length := by simp [back]
theorem dot_back {ps r : List Int} (h : ps.length = r.length) : dot (back ps) r = -dot ps r.reverse := by
  unfold back
  rw [dot_neg, ← dot_rev (a := ps) (b := r.reverse) (by simpa using h), List.reverse_reverse]
/-! ### the rows -/
abbrev Rs (ws : List Int) : List (List Int) := arrV ws.length (srtI ws)
theorem mem_Rs {ws r : List Int} : r ∈ Rs ws ↔ r.Perm ws := by
  rw [arrV_mem _ _ _ (srtI_perm ws).length_eq]
  exact ⟨fun h => h.trans (srtI_perm ws), fun h => h.trans (srtI_perm ws).symm⟩
theorem Rs_rising (ws : List Int) : (Rs ws).Pairwise (· < ·) := arrV_rising _ (srtI_sorted ws)
theorem Rs_len {ws r : List Int} (h : r ∈ Rs ws) : r.length = ws.length := (mem_Rs.mp h).length_eq
theorem Rs_ne (ws : List Int) : Rs ws ≠ [] := fun e => by
  have : ws ∈ Rs ws := mem_Rs.mpr (List.Perm.refl _)
  rw [e] at this
  cases this
/-- all orders of the places -/
theorem mem_orders {n : Nat} : ∀ (m : Nat) {o : List Nat}, o ∈ orders n m ↔ o.length = m ∧ o.Nodup ∧ ∀ k ∈ o, k < n
  | 0, o => by
    show o ∈ [[]] ↔ _
    rw [List.mem_singleton]
    constructor
    · rintro rfl
      exact ⟨rfl, List.nodup_nil, fun k h => nomatch h⟩
    · exact fun h => List.length_eq_zero_iff.mp h.1
  | m + 1, o => by
    show o ∈ (orders n m).flatMap (ordS n) ↔ _
    rw [List.mem_flatMap]
    constructor
    · rintro ⟨h, h1, h2⟩
      obtain ⟨a1, a2, a3⟩ := (mem_orders m).mp h1
      obtain ⟨k, hk, rfl⟩ := List.mem_map.mp h2
      obtain ⟨k1, k2⟩ := List.mem_filter.mp hk
      have k3 : k ∉ h := by simpa using k2
      refine ⟨by rw [List.length_append, a1]; rfl, List.nodup_append.mpr ⟨a2, List.pairwise_singleton _ _, fun x hx y hy e => ?_⟩, fun j hj => ?_⟩
      · rw [List.mem_singleton.mp hy] at e
        exact k3 (e ▸ hx)
      · rcases List.mem_append.mp hj with hj | hj
        · exact a3 j hj
        · rw [List.mem_singleton.mp hj]
          exact List.mem_range.mp k1
    · rintro ⟨h1, h2, h3⟩
      have hne : o ≠ [] := fun e => by
        rw [e] at h1
        cases h1
      have e := List.dropLast_concat_getLast hne
      generalize o.dropLast = a at e
      generalize o.getLast hne = k at e
      subst e
      obtain ⟨n1, _, n3⟩ := List.nodup_append.mp h2
      refine ⟨a, (mem_orders m).mpr ⟨by rw [List.length_append] at h1; simpa using h1, n1, fun j hj => h3 j (List.mem_append_left _ hj)⟩, List.mem_map.mpr ⟨k, List.mem_filter.mpr ⟨List.mem_range.mpr (h3 k (List.mem_append_right _ (List.mem_singleton.mpr rfl))), ?_⟩, rfl⟩⟩
      have : k ∉ a := fun z => n3 k z k (List.mem_singleton.mpr rfl) rfl
      simpa using this
theorem orders_120 {n : Nat} (h : n ≤ 5) : (orders n n).length ≤ 120 := by
  have h' : n = 0 ∨ n = 1 ∨ n = 2 ∨ n = 3 ∨ n = 4 ∨ n = 5 := by omega
  rcases h' with rfl | rfl | rfl | rfl | rfl | rfl <;> decide +kernel
theorem range_ati (ws : List Int) : (List.range ws.length).map (ati ws) = ws := by
  refine List.ext_getElem (by simp) fun i h1 h2 => ?_
  rw [List.getElem_map, List.getElem_range]
  simp [ati, h2]
theorem orders_rows {ws : List Int} {r : List Int} : r ∈ (orders ws.length ws.length).map (fun o => o.map (ati ws)) ↔ r ∈ Rs ws := by
  rw [mem_Rs, List.mem_map]
  constructor
  · rintro ⟨o, ho, rfl⟩
    obtain ⟨h1, h2, h3⟩ := (mem_orders _).mp ho
    have hp : o.Perm (List.range ws.length) := perm_range ws.length o h1 fun k hk => Classical.byContradiction fun z => by
      have := nat_nodup_len (k :: o) (List.range ws.length) (List.nodup_cons.mpr ⟨z, h2⟩) fun i hi => by
        rcases List.mem_cons.mp hi with rfl | hi
        · exact List.mem_range.mpr hk
        · exact List.mem_range.mpr (h3 i hi)
      rw [List.length_cons, List.length_range] at this
      omega
    have := hp.map (ati ws)
    rw [range_ati] at this
    exact this
  · intro h
    rw [← range_ati ws] at h
    obtain ⟨o, ho, rfl⟩ := perm_map_back (ati ws) r (List.range ws.length) h
    refine ⟨o, (mem_orders _).mpr ⟨by rw [ho.length_eq, List.length_range], ho.nodup_iff.mpr List.nodup_range, fun k hk => List.mem_range.mp (ho.mem_iff.mp hk)⟩, rfl⟩
theorem rows_Rs (ws : List Int) : rowsD ((orders ws.length ws.length).map fun o => o.map (ati ws)) = Rs ws :=
  rows_one (rowsD_rises _) (Rs_rising ws) fun r => by rw [mem_rowsD, orders_rows]
theorem inR_abs {s d : Int} : inR (-s) s d = decide (absI d ≤ s) := by
  unfold inR absI
  rw [Bool.eq_iff_iff, Bool.and_eq_true, decide_eq_true_iff, decide_eq_true_iff, decide_eq_true_iff]
  split <;> omega
theorem absI_neg (d : Int) : absI (-d) = absI d := by
  unfold absI
  split <;> split <;> omega
theorem absI_nonneg (d : Int) : 0 ≤ absI d := by
  unfold absI
  split <;> omega
end W
set_option maxHeartbeats 4000000
/-! The law's mathematics: what the functions of the package are worth at the law's values. -/
namespace W
open PySem PySem.Spec PyProof.Rows L2 PL
theorem rising_pw : ∀ {ns : List Int}, rising ns = true ↔ ns.Pairwise (· < ·)
  | [] => by simp [rising]
  | [a] => by simp [rising]
  | a :: b :: l => by
    have ih := rising_pw (ns := b :: l)
    have e : rising (a :: b :: l) = (decide (a < b) && rising (b :: l)) := by simp [rising]
    rw [e, Bool.and_eq_true, decide_eq_true_iff, ih, List.pairwise_cons (a := a)]
    constructor
    · rintro ⟨h1, h2⟩
      refine ⟨fun x hx => ?_, h2⟩
      rcases List.mem_cons.mp hx with rfl | hx
      · exact h1
      · exact Int.lt_trans h1 ((List.pairwise_cons.mp h2).1 x hx)
    · exact fun h => ⟨h.1 b List.mem_cons_self, h.2⟩
structure Inp (ps ws : List Int) : Prop where
  ok : okP ps = true
  wk : okW ps.length ws = true
  h5 : ps.length ≤ 5
section
variable {ps ws : List Int}
theorem Inp.len (I : Inp ps ws) : ws.length = ps.length := by
  have := I.wk
  unfold okW at this
  rw [Bool.and_eq_true, decide_eq_true_iff] at this
  omega
theorem Inp.one (I : Inp ps ws) : 1 ≤ ps.length := by
  have := I.ok
  unfold okP at this
  rw [Bool.and_eq_true, Bool.and_eq_true] at this
  have := of_decide_eq_true this.1.1
  omega
theorem Inp.pb (I : Inp ps ws) : ∀ p ∈ ps, -20 ≤ p ∧ p ≤ 20 := fun p hp => by
  have := I.ok
  unfold okP at this
  rw [Bool.and_eq_true, Bool.and_eq_true] at this
  exact of_decide_eq_true (List.all_eq_true.mp this.1.2 p hp)
theorem Inp.wb (I : Inp ps ws) : ∀ w ∈ ws, 0 ≤ w ∧ w ≤ 100 := fun p hp => by
  have := I.wk
  unfold okW at this
  rw [Bool.and_eq_true] at this
  exact of_decide_eq_true (List.all_eq_true.mp this.2 p hp)
theorem Inp.pw (I : Inp ps ws) : ps.Pairwise (· < ·) := by
  have := I.ok
  unfold okP at this
  rw [Bool.and_eq_true] at this
  exact rising_pw.mp this.2
theorem okP_of (h1 : 1 ≤ ps.length) (h2 : ps.length ≤ 8) (hb : ∀ p ∈ ps, -20 ≤ p ∧ p ≤ 20) (hp : ps.Pairwise (· < ·)) : okP ps = true := by
  unfold okP
  rw [Bool.and_eq_true, Bool.and_eq_true]
  exact ⟨⟨decide_eq_true (by omega), List.all_eq_true.mpr fun p hp => decide_eq_true (hb p hp)⟩, rising_pw.mpr hp⟩
theorem okW_of {n : Nat} (h1 : ws.length = n) (hb : ∀ w ∈ ws, 0 ≤ w ∧ w ≤ 100) : okW n ws = true := by
  unfold okW
  rw [Bool.and_eq_true, decide_eq_true_iff]
  exact ⟨by omega, List.all_eq_true.mpr fun p hp => decide_eq_true (hb p hp)⟩
theorem Inp.perm (I : Inp ps ws) {r : List Int} (h : r.Perm ws) : Inp ps r := ⟨I.ok, okW_of (h.length_eq.trans I.len) fun w hw => I.wb w (h.mem_iff.mp hw), I.h5⟩
theorem Inp.rev (I : Inp ps ws) : Inp ps ws.reverse := I.perm (List.reverse_perm _)
theorem Inp.back (I : Inp ps ws) : Inp (back ps) ws := by
  have h1 := I.one
  have h2 := I.h5
  refine ⟨okP_of (by rw [back_len]; exact h1) (by rw [back_len]; omega) (fun p hp => ?_) ?_, by rw [back_len]; exact I.wk, by rw [back_len]; exact h2⟩
  · obtain ⟨q, hq, rfl⟩ := List.mem_map.mp hp
    have := I.pb q (List.mem_reverse.mp hq)
    omega
  · unfold W.back
    rw [List.pairwise_map, List.pairwise_reverse]
    exact I.pw.imp fun {a b} h => by omega
theorem Inp.ps_s (I : Inp ps ws) : allS ps = true := allS_of fun p hp => by
  have := I.pb p hp
  exact sml_small (by omega) (by omega)
theorem Inp.ws_s (I : Inp ps ws) : allS ws = true := allS_of fun p hp => by
  have := I.wb p hp
  exact sml_small (by omega) (by omega)
theorem sum_bd : ∀ {l : List Int} {b : Int}, (∀ x ∈ l, 0 ≤ x ∧ x ≤ b) → 0 ≤ l.sum ∧ l.sum ≤ l.length * b
  | [], b, _ => by simp
  | x :: l, b, h => by
    have h1 := h x List.mem_cons_self
    have h2 := sum_bd (l := l) (b := b) fun y hy => h y (List.mem_cons_of_mem _ hy)
    rw [List.sum_cons, List.length_cons]
    have e : ((l.length + 1 : Nat) : Int) * b = l.length * b + b := by
      rw [Int.natCast_add, Int.add_mul]
      simp
    rw [e]
    omega
theorem Inp.sum (I : Inp ps ws) : 0 ≤ ws.sum ∧ ws.sum ≤ 500 := by
  have h := sum_bd I.wb
  have h5 := I.h5
  have hl := I.len
  have : (ws.length : Int) * 100 ≤ 5 * 100 := by omega
  omega
theorem dot_bd : ∀ {a b : List Int}, (∀ x ∈ a, -40 ≤ x ∧ x ≤ 40) → (∀ x ∈ b, 0 ≤ x ∧ x ≤ 100) → -(4000 * (b.length : Int)) ≤ dot a b ∧ dot a b ≤ 4000 * (b.length : Int)
  | [], b, _, _ => by
    rw [nil_dot]
    omega
  | x :: a, [], _, _ => by rw [dot_nil]; simp
  | x :: a, v :: b, ha, hb => by
    have h1 := ha x List.mem_cons_self
    have h2 := hb v List.mem_cons_self
    have ih := dot_bd (a := a) (b := b) (fun y hy => ha y (List.mem_cons_of_mem _ hy)) fun y hy => hb y (List.mem_cons_of_mem _ hy)
    rw [dot_cons, List.length_cons]
    have e1 : x * v ≤ 40 * v := Int.mul_le_mul_of_nonneg_right h1.2 h2.1
    have e2 : -40 * v ≤ x * v := Int.mul_le_mul_of_nonneg_right h1.1 h2.1
    omega
theorem Inp.dot (I : Inp ps ws) : -20000 ≤ dot ps ws ∧ dot ps ws ≤ 20000 := by
  have h := dot_bd (a := ps) (b := ws) (fun x hx => by have := I.pb x hx; omega) I.wb
  have h5 := I.h5
  have hl := I.len
  omega
/-! ### the package's functions -/
theorem Inp.cp (I : Inp ps ws) : u_check_positions [iT ps] = some .non := by
  show (intsD (ps.map .int)).bind (fun ns => if okP ns = true then some D.non else none) = _
  rw [intsD_map, Option.bind_some, if_pos I.ok]
theorem Inp.cl (I : Inp ps ws) : u_check_loads [iT ps, iT ws] = some .non := by
  show (intsD (ws.map .int)).bind (fun ns => if okW (ps.map D.int).length ns = true then some D.non else none) = _
  rw [intsD_map, Option.bind_some, List.length_map, if_pos I.wk]
theorem find_congr {α : Type} {p q : α → Bool} : ∀ {l : List α}, (∀ x ∈ l, p x = q x) → l.find? p = l.find? q
  | [], _ => rfl
  | x :: l, h => by
    rw [List.find?_cons, List.find?_cons, h x List.mem_cons_self, find_congr fun y hy => h y (List.mem_cons_of_mem _ hy)]
theorem seqD_t (ns : List Int) : seqD (iT ns) = some ns := intsD_map ns
theorem seqD_l (ns : List Int) : seqD (.lst (ns.map .int)) = some ns := intsD_map ns
abbrev fnd (ws : List Int) (p : List Int → Bool) : D := W.rowD ((Rs ws).find? p)
theorem fnd_congr {ws : List Int} {p q : List Int → Bool} (h : ∀ r, p r = q r) : fnd ws p = fnd ws q := by rw [funext h]
theorem first_val {x y : D} {fs : List Int} {lo hi : Int} (hx : seqD x = some fs) (hy : seqD y = some ws) (hs : allS fs = true) (h5 : ws.length ≤ 5) (hl : fs.length = ws.length) :
    u_first_row [x, y, .int lo, .int hi] = some (fnd ws fun r => inR lo hi (dot fs r)) := by
  show (seqD x).bind (fun fs => (seqD y).bind fun ws => if (allS fs = true ∧ ws.length ≤ 5) ∧ fs.length = ws.length then some (W.rowD ((arrV ws.length (srtI ws)).find? fun r => inR lo hi (dotAt fs 0 r))) else none) = _
  rw [hx, hy, Option.bind_some, Option.bind_some, if_pos ⟨⟨hs, h5⟩, hl⟩]
  congr 2
  refine find_congr fun r hr => ?_
  rw [dotAt0 (by rw [Rs_len hr, hl]; exact Nat.le_refl _)]
abbrev isL (ps ws : List Int) (L : Int) : Prop := IsLeast (fun m => ∃ r ∈ Rs ws, m = absI (dot ps r)) L
theorem least_val (I : Inp ps ws) : ∃ L, u_least_sum [iT ps, iT ws] = some (.int L) ∧ isL ps ws L := by
  have hl := I.len
  have h5 := I.h5
  have hsl : (srtI ws).length = ws.length := (srtI_perm ws).length_eq
  have hst : ps.length / 2 + (ps.length - ps.length / 2) = (srtI ws).length := by
    have : ps.length / 2 ≤ ps.length := Nat.div_le_self ..
    omega
  have hsr := srt_of (srtI_sorted ws)
  have e : u_least_sum [iT ps, iT ws] = minD ((heads ps (srtI ws) (ps.length / 2)).map (headMin ps (srtI ws) (ps.length - ps.length / 2))) := by
    show (seqD (iT ps)).bind (fun fs => (seqD (iT ws)).bind fun ws => if (allS fs = true ∧ ws.length ≤ 5) ∧ fs.length = ws.length then minD ((heads fs (srtI ws) (fs.length / 2)).map (headMin fs (srtI ws) (fs.length - fs.length / 2))) else none) = _
    rw [seqD_t, seqD_t, Option.bind_some, Option.bind_some, if_pos ⟨⟨I.ps_s, by omega⟩, hl.symm⟩]
  have conv : ∀ {m}, (∃ r ∈ Rs ws, m = absI (dot ps r)) ↔ ∃ r ∈ arrV (ps.length / 2 + (ps.length - ps.length / 2)) (srtI ws), m = absI (dotAt ps 0 r) := fun {m} => by
    rw [hst, hsl]
    constructor
    · rintro ⟨r, hr, rfl⟩
      exact ⟨r, hr, by rw [dotAt0 (by rw [Rs_len hr, hl]; exact Nat.le_refl _)]⟩
    · rintro ⟨r, hr, rfl⟩
      exact ⟨r, hr, by rw [dotAt0 (by rw [Rs_len (ws := ws) hr, hl]; exact Nat.le_refl _)]⟩
  cases hq : (heads ps (srtI ws) (ps.length / 2)).map (headMin ps (srtI ws) (ps.length - ps.length / 2)) with
  | nil =>
    exfalso
    obtain ⟨h, hh, _⟩ := (all_heads (fs := ps) (s := ps.length / 2) (t := ps.length - ps.length / 2) hsr (absI (dotAt ps 0 ws))).mp (by
      rw [hst, hsl]
      exact ⟨ws, mem_Rs.mpr (List.Perm.refl _), rfl⟩)
    rw [List.map_eq_nil_iff.mp hq] at hh
    cases hh
  | cons a l =>
    rw [hq] at e
    refine ⟨_, e, ?_⟩
    have := least_all (fs := ps) hsr hst (by omega) hq
    exact ⟨conv.mpr this.1, fun x hx => this.2 x (conv.mp hx)⟩
theorem least_bd (I : Inp ps ws) {L : Int} (h : isL ps ws L) : 0 ≤ L ∧ L ≤ 20000 := by
  obtain ⟨⟨r, hr, e⟩, _⟩ := h
  have hb := (I.perm (mem_Rs.mp hr)).dot
  have := absI_nonneg (W.dot ps r)
  refine ⟨by omega, ?_⟩
  rw [e]
  unfold absI
  split <;> omega
abbrev pL (ps : List Int) (s : Int) (r : List Int) : Bool := decide (absI (dot ps r) ≤ s)
theorem moment_val (I : Inp ps ws) {L : Int} (hL : u_least_sum [iT ps, iT ws] = some (.int L)) : u_least_moment u_least_sum [iT ps, iT ws] = some (.tup [.int L, fnd ws (pL ps L)]) := by
  have h5 := I.h5
  have hl := I.len
  show (u_check_positions [iT ps]).bind (fun _ => (u_check_loads [iT ps, iT ws]).bind fun _ => (u_least_sum [iT ps, iT ws]).bind fun l => match l with
    | .int i => (u_first_row [iT ps, iT ws, .int (-i), .int i]).map fun r => D.tup [.int i, r]
    | _ => none) = _
  rw [I.cp, I.cl, hL, Option.bind_some, Option.bind_some, Option.bind_some]
  show (u_first_row [iT ps, iT ws, .int (-L), .int L]).map (fun r => D.tup [.int L, r]) = _
  rw [first_val (seqD_t ps) (seqD_t ws) I.ps_s (by omega) hl.symm, Option.map_some, fnd_congr fun r => inR_abs]
theorem balanced_val (I : Inp ps ws) {s : Int} (h0 : 0 ≤ s) (h1 : s ≤ 20000) : u_balanced [iT ps, iT ws, .int s] = some (fnd ws (pL ps s)) := by
  have h5 := I.h5
  have hl := I.len
  show (u_check_positions [iT ps]).bind (fun _ => (u_check_loads [iT ps, iT ws]).bind fun _ => (u_check_slack [.int s]).bind fun _ => u_first_row [iT ps, iT ws, .int (-s), .int s]) = _
  have hs : u_check_slack [.int s] = some .non := by
    show (if betw 0 20000 s = true then some D.non else none) = _
    have hb : betw 0 20000 s = true := decide_eq_true ⟨h0, h1⟩
    rw [if_pos hb]
  rw [I.cp, I.cl, hs, Option.bind_some, Option.bind_some, Option.bind_some, first_val (seqD_t ps) (seqD_t ws) I.ps_s (by omega) hl.symm, fnd_congr fun r => inR_abs]
theorem loading_val (I : Inp ps ws) {s : Int} (h0 : 0 ≤ s) (h1 : s ≤ 20000) : u_loading_order [iT ps, iT ws, .int s] = some (bestL (lds (prs ps ws) s ps.length)) := by
  have hl := I.len
  show (u_check_positions [iT ps]).bind (fun _ => (u_check_loads [iT ps, iT ws]).bind fun _ => (u_check_slack [.int s]).bind fun _ =>
    (intsD (ps.map .int)).bind fun fs => (intsD (ws.map .int)).bind fun ws => if (fs.length = ws.length ∧ fs.length ≤ 5) ∧ allS fs = true then some (bestL (lds (prs fs ws) s fs.length)) else none) = _
  have hs : u_check_slack [.int s] = some .non := by
    show (if betw 0 20000 s = true then some D.non else none) = _
    have hb : betw 0 20000 s = true := decide_eq_true ⟨h0, h1⟩
    rw [if_pos hb]
  rw [I.cp, I.cl, hs, Option.bind_some, Option.bind_some, Option.bind_some, intsD_map, intsD_map, Option.bind_some, Option.bind_some, if_pos ⟨⟨hl.symm, I.h5⟩, I.ps_s⟩]
theorem law_loading_val (I : Inp ps ws) (s : Int) : u_law_loading [iT ps, iT ws, .int s] = some (bestL (lds (prs ps ws) s ps.length)) := by
  have hl := I.len
  show (intsD (ps.map .int)).bind (fun fs => (intsD (ws.map .int)).bind fun ws => if (fs.length = ws.length ∧ 1 ≤ fs.length ∧ fs.length ≤ 5) ∧ allS fs = true then some (bestL (lds (prs fs ws) s fs.length)) else none) = _
  rw [intsD_map, intsD_map, Option.bind_some, Option.bind_some, if_pos ⟨⟨hl.symm, I.one, I.h5⟩, I.ps_s⟩]
theorem law_moment_val (I : Inp ps ws) (r : List Int) : u_law_moment [iT ps, iT r] = some (.int (dot ps r)) := by
  show (intsD (ps.map .int)).bind (fun ps => (intsD (r.map .int)).bind fun ws => if allS ps = true then some (D.int (dot ps ws)) else none) = _
  rw [intsD_map, intsD_map, Option.bind_some, Option.bind_some, if_pos I.ps_s]
theorem moment_val2 (I : Inp ps ws) : u_moment [iT ps, iT ws] = some (.int (dot ps ws)) := by
  show (intsD (ps.map .int)).bind (fun ps => (intsD (ws.map .int)).bind fun ws => if okP ps = true ∧ okW ps.length ws = true then some (D.int (dot ps ws)) else none) = _
  rw [intsD_map, intsD_map, Option.bind_some, Option.bind_some, if_pos ⟨I.ok, I.wk⟩]
/-- mirrored -/
theorem least_back (I : Inp ps ws) {L : Int} (h : isL ps ws L) : isL (back ps) ws L := by
  have hl := I.len
  have conv : ∀ {m}, (∃ r ∈ Rs ws, m = absI (W.dot (back ps) r)) ↔ ∃ r ∈ Rs ws, m = absI (W.dot ps r) := fun {m} => by
    constructor
    · rintro ⟨r, hr, rfl⟩
      refine ⟨r.reverse, mem_Rs.mpr ((List.reverse_perm r).trans (mem_Rs.mp hr)), ?_⟩
      rw [dot_back (by rw [Rs_len hr, hl]), absI_neg]
    · rintro ⟨r, hr, rfl⟩
      refine ⟨r.reverse, mem_Rs.mpr ((List.reverse_perm r).trans (mem_Rs.mp hr)), ?_⟩
      rw [dot_back (by rw [List.length_reverse, Rs_len hr, hl]), absI_neg, List.reverse_reverse]
  exact ⟨conv.mpr h.1, fun x hx => h.2 x (conv.mp hx)⟩
/-- an order within a slack: the whole load is within it -/
theorem lds_at {qs : List Int} {s : Int} (hs : 0 ≤ s) : ∀ m {x : Ld}, x ∈ lds qs s m → ∃ M, At qs s x M
  | 0, x, h => by
    rw [List.mem_singleton.mp h]
    exact ⟨0, fun i => by simp, fun i hi => (by cases hi), List.nodup_nil, (maskSum_zero qs).symm, by
      refine decide_eq_true ?_
      rw [maskSum_zero]
      exact hs⟩
  | m + 1, x, h => by
    obtain ⟨y, h1, h2⟩ := List.mem_flatMap.mp (show x ∈ (lds qs s m).flatMap (ldS qs s) from h)
    obtain ⟨M, a⟩ := lds_at hs m h1
    obtain ⟨k, ⟨k1, k2, k3⟩, rfl⟩ := mem_ldS.mp h2
    exact ⟨_, a.next k1 k2 k3⟩
theorem load_whole (I : Inp ps ws) {s : Int} (hs : 0 ≤ s) (h : bestL (lds (prs ps ws) s ps.length) ≠ .non) : absI (W.dot ps ws) ≤ s := by
  have hl := I.len
  have hp : (prs ps ws).length = ps.length := by
    unfold prs
    rw [List.length_map, List.length_zip]
    omega
  cases hq : lds (prs ps ws) s ps.length with
  | nil =>
    rw [hq] at h
    exact absurd rfl h
  | cons x r =>
    have hx : x ∈ lds (prs ps ws) s ps.length := by
      rw [hq]
      exact List.mem_cons_self
    obtain ⟨M, a⟩ := lds_at hs _ hx
    have e := a.full.mpr ((lds_row _ hx).trans hp.symm)
    have ho := of_decide_eq_true a.ok
    have hm : maskSum (prs ps ws) (2 ^ (prs ps ws).length - 1) = W.dot ps ws := by
      unfold maskSum
      rw [List.filter_eq_self.mpr fun k hk => by rw [Nat.testBit_two_pow_sub_one, decide_eq_true_iff]; exact List.mem_range.mp hk, range_ati]
      rfl
    rw [e, hm] at ho
    exact ho
end
end W
set_option maxHeartbeats 4000000
/-! The law's mathematics: axles. -/
namespace W
open PySem PySem.Spec PyProof.Rows L2 PL
def lo1 (n d : Int) : Int := n / ((Nat.gcd n.natAbs d.natAbs : Nat) : Int)
def lo2 (n d : Int) : Int := d / ((Nat.gcd n.natAbs d.natAbs : Nat) : Int)
theorem lowT_eq (n d : Int) : lowT n d = .tup [.int (lo1 n d), .int (lo2 n d)] := rfl
structure Low (n d : Int) (g : Int) : Prop where
  pos : 0 < g
  n1 : n = g * lo1 n d
  d1 : d = g * lo2 n d
  b : 0 < lo2 n d
  bl : lo2 n d ≤ d
  al : (lo1 n d).natAbs ≤ n.natAbs
theorem low_ex {n d : Int} (hd : 0 < d) : ∃ g, Low n d g := by
  have hg : 0 < Nat.gcd n.natAbs d.natAbs := Nat.gcd_pos_of_pos_right _ (by omega)
  have h1 : ((Nat.gcd n.natAbs d.natAbs : Nat) : Int) ∣ n := Int.ofNat_dvd_left.mpr (Nat.gcd_dvd_left _ _)
  have h2 : ((Nat.gcd n.natAbs d.natAbs : Nat) : Int) ∣ d := Int.ofNat_dvd_left.mpr (Nat.gcd_dvd_right _ _)
  obtain ⟨a, ea⟩ := h1
  obtain ⟨b, eb⟩ := h2
  have e1 : lo1 n d = a := by
    unfold lo1
    generalize Nat.gcd n.natAbs d.natAbs = g at *
    rw [ea]
    exact Int.mul_ediv_cancel_left a (by omega)
  have e2 : lo2 n d = b := by
    unfold lo2
    generalize Nat.gcd n.natAbs d.natAbs = g at *
    rw [eb]
    exact Int.mul_ediv_cancel_left b (by omega)
  generalize Nat.gcd n.natAbs d.natAbs = g at *
  have hb : 0 < b := by
    rcases Int.lt_or_le 0 b with z | z
    · exact z
    · exfalso
      have : (g : Int) * b ≤ 0 := Int.mul_nonpos_of_nonneg_of_nonpos (by omega) z
      omega
  refine ⟨g, by omega, by rw [e1]; exact ea, by rw [e2]; exact eb, by rw [e2]; exact hb, ?_, ?_⟩
  · rw [e2]
    have : 1 * b ≤ (g : Int) * b := Int.mul_le_mul_of_nonneg_right (by omega) (by omega)
    omega
  · rw [e1, ea, Int.natAbs_mul]
    exact Nat.le_mul_of_pos_left _ (by omega)
theorem low_scale {c n d : Int} (hc : 0 < c) (hd : 0 < d) : lowT (c * n) (c * d) = lowT n d := by
  have e : ((Nat.gcd (c * n).natAbs (c * d).natAbs : Nat) : Int) = c * ((Nat.gcd n.natAbs d.natAbs : Nat) : Int) := by
    rw [Int.natAbs_mul, Int.natAbs_mul, Nat.gcd_mul_left, Int.natCast_mul]
    congr 1
    omega
  unfold lowT
  rw [e, Int.mul_ediv_mul_of_pos _ _ hc, Int.mul_ediv_mul_of_pos _ _ hc]
theorem low_whole {s y : Int} (hy : 0 < y) : lowT (s * y) y = .tup [.int s, .int 1] := by
  have := low_scale (c := y) (n := s) (d := 1) hy (by omega)
  rw [Int.mul_one, Int.mul_comm y s] at this
  rw [this]
  unfold lowT
  have e : ((Nat.gcd s.natAbs (1 : Int).natAbs : Nat) : Int) = 1 := by
    rw [show (1 : Int).natAbs = 1 from rfl, Nat.gcd_one_right]
    rfl
  rw [e, Int.ediv_one, Int.ediv_one]
theorem add_frac {g h a b c d N M W S : Int} (hg : 0 < g) (hh : 0 < h) (e1 : N = g * a) (e2 : W = g * b) (e3 : M = h * c) (e4 : W = h * d) (e5 : N + M = S * W) : a * d + c * b = S * (b * d) := by
  have hp : g * h ≠ 0 := Int.ne_of_gt (Int.mul_pos hg hh)
  refine Int.eq_of_mul_eq_mul_left hp ?_
  have p1 : g * h * (a * d + c * b) = N * W + M * W := by
    have q1 : N * W = (g * a) * (h * d) := by rw [e1, ← e4]
    have q2 : M * W = (h * c) * (g * b) := by rw [e3, ← e2]
    rw [q1, q2]
    grind
  have p2 : g * h * (S * (b * d)) = (N + M) * W := by
    have q3 : S * W * W = S * ((g * b) * (h * d)) := by rw [← e2, ← e4, Int.mul_assoc]
    rw [e5, q3]
    grind
  rw [p1, p2, Int.add_mul]
/-- a quotient rounded up, 0 at least -/
def ceil0 (n d : Int) : Int := if -(-(lo1 n d) / lo2 n d) > 0 then -(-(lo1 n d) / lo2 n d) else 0
theorem ceil_le {n d l : Int} (hd : 0 < d) (hl : 0 ≤ l) : ceil0 n d ≤ l ↔ n ≤ l * d := by
  obtain ⟨g, L⟩ := low_ex (n := n) hd
  have h1 : -(-(lo1 n d) / lo2 n d) ≤ l ↔ lo1 n d ≤ l * lo2 n d := by
    have := Int.le_ediv_iff_mul_le (a := -l) (b := -(lo1 n d)) L.b
    rw [Int.neg_mul] at this
    omega
  have h2 : lo1 n d ≤ l * lo2 n d ↔ n ≤ l * d := by
    have e1 := L.n1
    have e2 := L.d1
    have hg := L.pos
    generalize lo1 n d = a at *
    generalize lo2 n d = b at *
    rw [e1, e2, show l * (g * b) = g * (l * b) by grind]
    exact ⟨fun h => Int.mul_le_mul_of_nonneg_left h (by omega), fun h => Int.le_of_mul_le_mul_left h hg⟩
  rw [← h2, ← h1]
  unfold ceil0
  split <;> omega
theorem lo1_nonneg {n d : Int} (hd : 0 < d) : 0 ≤ lo1 n d ↔ 0 ≤ n := by
  obtain ⟨g, L⟩ := low_ex (n := n) hd
  have e1 := L.n1
  have hg := L.pos
  generalize lo1 n d = a at *
  rw [e1]
  constructor
  · exact fun h => Int.mul_nonneg (by omega) h
  · intro h
    rcases Int.lt_or_le a 0 with z | z
    · have := Int.mul_neg_of_pos_of_neg hg z
      omega
    · exact z
theorem ceil0_nonneg (n d : Int) : 0 ≤ ceil0 n d := by
  unfold ceil0
  split <;> omega
/-! ### both axles -/
section
variable {ps ws : List Int} {l r : Int}
structure Ax (l r : Int) : Prop where
  l1 : -20 ≤ l
  l2 : l < r
  r2 : r ≤ 20
theorem lev_bd (I : Inp ps ws) (a : Ax l r) : -20000 ≤ lev r ps ws ∧ lev r ps ws ≤ 20000 := by
  have h1 := a.l1
  have h2 := a.l2
  have h3 := a.r2
  have h := dot_bd (a := ps.map fun p => r - p) (b := ws) (fun x hx => by
    obtain ⟨p, hp, rfl⟩ := List.mem_map.mp hx
    have := I.pb p hp
    omega) I.wb
  rw [dot_lev] at h
  have h5 := I.h5
  have hl := I.len
  omega
theorem B64_big {x : Int} (h : x ≤ 1000000000000) : x < B64 := by
  rw [B64_eq]
  omega
/-- what both axles bear -/
def axT (N S W : Int) : D := .tup [lowT N W, lowT (S * W - N) W]
theorem low_second {N S W : Int} (hW : 0 < W) : lowT (S * lo2 N W - lo1 N W) (lo2 N W) = lowT (S * W - N) W := by
  obtain ⟨g, L⟩ := low_ex (n := N) hW
  have e1 := L.n1
  have e2 := L.d1
  have hg := L.pos
  have hb := L.b
  generalize lo1 N W = a at *
  generalize lo2 N W = b at *
  rw [e1, e2, show S * (g * b) - g * a = g * (S * b - a) by grind]
  exact (low_scale hg hb).symm
theorem law_low_val {n d : Int} (h1 : 0 < d) (h2 : d ≤ 1000000000000) : u_law_low [.int n, .int d] = some (lowT n d) := by
  show (if 0 < d ∧ d < B64 then some (lowT n d) else none) = _
  rw [if_pos ⟨h1, B64_big h2⟩]
theorem law_axles_val (I : Inp ps ws) (a : Ax l r) : u_law_axles [.int l, .int r, iT ps, iT ws] = some (axT (lev r ps ws) ws.sum (r - l)) := by
  have h1 := a.l1
  have h2 := a.l2
  have h3 := a.r2
  have hS := I.sum
  obtain ⟨g, L⟩ := low_ex (n := lev r ps ws) (d := r - l) (by omega)
  have hbl := L.bl
  show (intsD (ps.map .int)).bind (fun ps => (intsD (ws.map .int)).bind fun ws => if allS ws = true ∧ sml ws.sum = true then
      (u_law_low [.int (lev r ps ws), .int (r - l)]).bind fun o => match o with
      | .tup [.int n, .int d] => (u_law_low [.int (ws.sum * d - n), .int d]).map fun q => D.tup [.tup [.int n, .int d], q]
      | _ => none
    else none) = _
  rw [intsD_map, intsD_map, Option.bind_some, Option.bind_some, if_pos ⟨I.ws_s, sml_small (by omega) (by omega)⟩, law_low_val (by omega) (by omega), Option.bind_some, lowT_eq]
  show (u_law_low [.int (ws.sum * lo2 (lev r ps ws) (r - l) - lo1 (lev r ps ws) (r - l)), .int (lo2 (lev r ps ws) (r - l))]).map (fun q => D.tup [.tup [.int (lo1 (lev r ps ws) (r - l)), .int (lo2 (lev r ps ws) (r - l))], q]) = _
  rw [law_low_val L.b (by omega), Option.map_some, low_second (by omega)]
  rfl
theorem check_axles_val (a : Ax l r) : u_check_axles [.int l, .int r] = some .non := by
  have h1 := a.l1
  have h2 := a.l2
  have h3 := a.r2
  have b1 : betw (-20) 20 l = true := decide_eq_true (by omega)
  have b2 : betw (l + 1) 20 r = true := decide_eq_true (by omega)
  show (if betw (-20) 20 l = true ∧ betw (l + 1) 20 r = true then some D.non else none) = _
  rw [if_pos ⟨b1, b2⟩]
theorem axle_s (I : Inp ps ws) (a : Ax l r) : allS (ps.map fun p => r - p) = true := allS_of fun x hx => by
  obtain ⟨p, hp, rfl⟩ := List.mem_map.mp hx
  have := I.pb p hp
  have h1 := a.l1
  have h2 := a.l2
  have h3 := a.r2
  exact sml_small (by omega) (by omega)
theorem axle_val (I : Inp ps ws) (a : Ax l r) : u_axle_loads [.int l, .int r, iT ps, iT ws] = some (axT (lev r ps ws) ws.sum (r - l)) := by
  have h1 := a.l1
  have h2 := a.l2
  have h3 := a.r2
  have hS := I.sum
  have hN := lev_bd I a
  obtain ⟨g, L⟩ := low_ex (n := lev r ps ws) (d := r - l) (by omega)
  have hbl := L.bl
  have hb := L.b
  have hal := L.al
  have hps : u_product_sum [.lst ((ps.map fun p => r - p).map .int), iT ws] = some (.int (lev r ps ws)) := by
    show (intsD ((ps.map fun p => r - p).map .int)).bind (fun fs => (intsD (ws.map .int)).bind fun ws => if allS fs = true then some (D.int (dot fs ws)) else none) = _
    rw [intsD_map, intsD_map, Option.bind_some, Option.bind_some, if_pos (axle_s I a), dot_lev]
  show (u_check_axles [.int l, .int r]).bind (fun _ => (u_check_positions [iT ps]).bind fun _ => (u_check_loads [iT ps, iT ws]).bind fun _ =>
    (intsD (ps.map .int)).bind fun ps => (intsD (ws.map .int)).bind fun ws' => (u_product_sum [.lst ((ps.map fun p => r - p).map .int), iT ws]).bind fun n => (u_lowest [n, .int (r - l)]).bind fun f => (u_subtract [.tup [.int ws'.sum, .int 1], f]).map fun q => D.tup [f, q]) = _
  rw [check_axles_val a, I.cp, I.cl, Option.bind_some, Option.bind_some, Option.bind_some, intsD_map, intsD_map, Option.bind_some, Option.bind_some, hps, Option.bind_some]
  have hlow : u_lowest [.int (lev r ps ws), .int (r - l)] = some (lowT (lev r ps ws) (r - l)) := law_low_val (by omega) (by omega)
  rw [hlow, Option.bind_some, lowT_eq]
  have hsub : u_subtract [.tup [.int ws.sum, .int 1], .tup [.int (lo1 (lev r ps ws) (r - l)), .int (lo2 (lev r ps ws) (r - l))]] = some (lowT (ws.sum * (r - l) - lev r ps ws) (r - l)) := by
    rw [← low_second (N := lev r ps ws) (S := ws.sum) (W := r - l) (by omega)]
    show (if (sml ws.sum = true ∧ sml 1 = true) ∧ sml (lo1 (lev r ps ws) (r - l)) = true ∧ 0 < 1 * lo2 (lev r ps ws) (r - l) ∧ 1 * lo2 (lev r ps ws) (r - l) < B64 then some (lowT (ws.sum * lo2 (lev r ps ws) (r - l) - lo1 (lev r ps ws) (r - l) * 1) (1 * lo2 (lev r ps ws) (r - l))) else none) = _
    rw [Int.one_mul, Int.mul_one, if_pos ⟨⟨sml_small (by omega) (by omega), sml_small (by omega) (by omega)⟩, sml_small (by omega) (by omega), hb, B64_big (by omega)⟩]
  rw [hsub]
  rfl
theorem ax_neg (a : Ax l r) : Ax (-r) (-l) := ⟨by have := a.r2; omega, by have := a.l2; omega, by have := a.l1; omega⟩
theorem sum_rev (ws : List Int) : ws.reverse.sum = ws.sum := sum_perm' (List.reverse_perm _)
/-- mirrored: the axles change places -/
theorem axle_mirror (I : Inp ps ws) (a : Ax l r) : u_axle_loads [.int (-r), .int (-l), iT (back ps), iT ws.reverse] = some (.tup [lowT (ws.sum * (r - l) - lev r ps ws) (r - l), lowT (lev r ps ws) (r - l)]) := by
  have hl := I.len
  rw [axle_val (I.rev.back) (ax_neg a)]
  have e1 : lev (-l) (back ps) ws.reverse = ws.sum * (r - l) - lev r ps ws := by
    rw [lev_eq (-l) (by rw [back_len, List.length_reverse, hl]), lev_eq r hl.symm, sum_rev, dot_back (by rw [List.length_reverse, hl]), List.reverse_reverse]
    grind
  unfold axT
  rw [e1, sum_rev, show -l - -r = r - l by omega, show ws.sum * (r - l) - (ws.sum * (r - l) - lev r ps ws) = lev r ps ws by omega]
theorem law_add_val {a b c d : Int} (ha : a.natAbs ≤ 10000000) (hb : 0 < b) (hb2 : b ≤ 1000000) (hc : c.natAbs ≤ 10000000) (hd : 0 < d) (hd2 : d ≤ 1000000) : u_law_add [.tup [.int a, .int b], .tup [.int c, .int d]] = some (lowT (a * d + c * b) (b * d)) := by
  have h1 : 0 < b * d := Int.mul_pos hb hd
  have h2 : b * d ≤ 1000000 * 1000000 := Int.mul_le_mul hb2 hd2 (by omega) (by omega)
  show (if (sml a = true ∧ sml b = true) ∧ sml c = true then u_law_low [.int (a * d + c * b), .int (b * d)] else none) = _
  rw [if_pos ⟨⟨sml_of (by omega) (by omega), sml_of (by omega) (by omega)⟩, sml_of (by omega) (by omega)⟩, law_low_val h1 (by omega)]
theorem law_mul_val {a b c d : Int} (ha : a.natAbs ≤ 10000000) (hb : 0 < b) (hb2 : b ≤ 1000000) (hd : 0 < d) (hd2 : d ≤ 1000000) : u_law_mul [.tup [.int a, .int b], .tup [.int c, .int d]] = some (lowT (a * c) (b * d)) := by
  have h1 : 0 < b * d := Int.mul_pos hb hd
  have h2 : b * d ≤ 1000000 * 1000000 := Int.mul_le_mul hb2 hd2 (by omega) (by omega)
  show (if sml a = true ∧ sml b = true then u_law_low [.int (a * c), .int (b * d)] else none) = _
  rw [if_pos ⟨sml_of (by omega) (by omega), sml_of (by omega) (by omega)⟩, law_low_val h1 (by omega)]
/-- the facts of both fractions -/
structure Two (l r N S : Int) : Prop where
  ax : Ax l r
  n : N.natAbs ≤ 20000
  s : 0 ≤ S ∧ S ≤ 500
theorem Two.of (I : Inp ps ws) (a : Ax l r) : Two l r (lev r ps ws) ws.sum := ⟨a, by have := lev_bd I a; omega, I.sum⟩
theorem Two.m {N S : Int} (t : Two l r N S) : (S * (r - l) - N).natAbs ≤ 40000 := by
  have h1 := t.ax.l1
  have h2 := t.ax.l2
  have h3 := t.ax.r2
  have h4 := t.n
  have h5 := t.s
  have h6 : S * (r - l) ≤ 500 * 40 := Int.mul_le_mul h5.2 (by omega) (by omega) (by omega)
  have h7 : 0 ≤ S * (r - l) := Int.mul_nonneg h5.1 (by omega)
  omega
/-- both bear all together -/
theorem add_all {N S : Int} (t : Two l r N S) : u_law_add [lowT N (r - l), lowT (S * (r - l) - N) (r - l)] = some (.tup [.int S, .int 1]) := by
  have h1 := t.ax.l1
  have h2 := t.ax.l2
  have h3 := t.ax.r2
  have h4 := t.n
  have h5 := t.m
  obtain ⟨g, L⟩ := low_ex (n := N) (d := r - l) (by omega)
  obtain ⟨h, M⟩ := low_ex (n := S * (r - l) - N) (d := r - l) (by omega)
  have q := add_frac L.pos M.pos L.n1 L.d1 M.n1 M.d1 (S := S) (by omega)
  have b1 := L.al
  have b2 := M.al
  have b3 := L.bl
  have b4 := M.bl
  rw [lowT_eq, lowT_eq, law_add_val (by omega) L.b (by omega) (by omega) M.b (by omega), q, low_whole (Int.mul_pos L.b M.b)]
/-- .. and the same moment -/
theorem add_moment {N S now : Int} (t : Two l r N S) (hnow : N = r * S - now) : ∃ x y, u_law_mul [.tup [.int l, .int 1], lowT N (r - l)] = some x ∧ u_law_mul [.tup [.int r, .int 1], lowT (S * (r - l) - N) (r - l)] = some y ∧ u_law_add [x, y] = some (.tup [.int now, .int 1]) := by
  have h1 := t.ax.l1
  have h2 := t.ax.l2
  have h3 := t.ax.r2
  have h4 := t.n
  have h5 := t.m
  obtain ⟨g, L⟩ := low_ex (n := N) (d := r - l) (by omega)
  obtain ⟨h, M⟩ := low_ex (n := S * (r - l) - N) (d := r - l) (by omega)
  have b1 := L.al
  have b2 := M.al
  have b3 := L.bl
  have b4 := M.bl
  have n1 := L.n1
  have n2 := L.d1
  have n3 := M.n1
  have n4 := M.d1
  have p1 := L.pos
  have p2 := M.pos
  have p3 := L.b
  have p4 := M.b
  rw [lowT_eq, lowT_eq]
  generalize lo1 N (r - l) = a at *
  generalize lo2 N (r - l) = b at *
  generalize lo1 (S * (r - l) - N) (r - l) = c at *
  generalize lo2 (S * (r - l) - N) (r - l) = d at *
  refine ⟨_, _, law_mul_val (by omega) (by omega) (by omega) p3 (by omega), law_mul_val (by omega) (by omega) (by omega) p4 (by omega), ?_⟩
  rw [Int.one_mul, Int.one_mul]
  obtain ⟨g2, L2⟩ := low_ex (n := l * a) (d := b) p3
  obtain ⟨h2', M2⟩ := low_ex (n := r * c) (d := d) p4
  have k1 := L2.al
  have k2 := M2.al
  have k3 := L2.bl
  have k4 := M2.bl
  have la : (l * a).natAbs ≤ 20 * 20000 := by
    rw [Int.natAbs_mul]
    exact Nat.mul_le_mul (by omega) (by omega)
  have rc : (r * c).natAbs ≤ 20 * 40000 := by
    rw [Int.natAbs_mul]
    exact Nat.mul_le_mul (by omega) (by omega)
  have m1 := L2.n1
  have m2 := L2.d1
  have m3 := M2.n1
  have m4 := M2.d1
  have q := add_frac (g := g * g2) (h := h * h2') (a := lo1 (l * a) b) (b := lo2 (l * a) b) (c := lo1 (r * c) d) (d := lo2 (r * c) d) (N := l * N) (M := r * (S * (r - l) - N)) (W := r - l) (S := now) (Int.mul_pos p1 L2.pos) (Int.mul_pos p2 M2.pos)
    (by rw [Int.mul_assoc, ← m1, n1]; grind) (by rw [Int.mul_assoc, ← m2]; exact n2) (by rw [Int.mul_assoc, ← m3, n3]; grind) (by rw [Int.mul_assoc, ← m4]; exact n4) (by rw [hnow]; grind)
  rw [lowT_eq (l * a) b, lowT_eq (r * c) d, law_add_val (by omega) L2.b (by omega) (by omega) M2.b (by omega), q, low_whole (Int.mul_pos L2.b M2.b)]
/-- a row stands within both limits -/
theorem within_iff {N S l0 l1 : Int} (t : Two l r N S) (h0 : 0 ≤ l0) (h1 : 0 ≤ l1) : ((decide (0 ≤ lo1 N (r - l)) && decide (0 ≤ lo1 (S * (r - l) - N) (r - l))) && (decide (ceil0 N (r - l) ≤ l0) && decide (ceil0 (S * (r - l) - N) (r - l) ≤ l1))) = inR (lowA l r l1 S) (highA l r l0 S) N := by
  have hW : 0 < r - l := by
    have := t.ax.l2
    omega
  unfold inR lowA highA
  rw [Bool.eq_iff_iff, Bool.and_eq_true, Bool.and_eq_true, Bool.and_eq_true, Bool.and_eq_true, decide_eq_true_iff, decide_eq_true_iff, decide_eq_true_iff, decide_eq_true_iff, decide_eq_true_iff, decide_eq_true_iff, lo1_nonneg hW, lo1_nonneg hW, ceil_le hW h0, ceil_le hW h1]
  generalize r - l = W at *
  have e1 : (S - l1) * W = S * W - l1 * W := Int.sub_mul _ _ _
  have hS := t.s
  have f1 : 0 ≤ l0 * W := Int.mul_nonneg h0 (by omega)
  have f2 : 0 ≤ l1 * W := Int.mul_nonneg h1 (by omega)
  constructor
  · rintro ⟨⟨a1, a2⟩, a3, a4⟩
    constructor
    · split
      · rw [e1]
        omega
      · rw [Int.zero_mul]
        exact a1
    · split
      · exact a3
      · omega
  · rintro ⟨a1, a2⟩
    have c1 : 0 ≤ N ∧ (S - l1) * W ≤ N := by
      split at a1
      · rename_i z
        have : 0 ≤ (S - l1) * W := Int.mul_nonneg (by omega) (by omega)
        omega
      · rename_i z
        have : (S - l1) * W ≤ 0 := Int.mul_nonpos_of_nonpos_of_nonneg (by omega) (by omega)
        omega
    have c2 : N ≤ l0 * W ∧ N ≤ S * W := by
      split at a2
      · rename_i z
        have : l0 * W ≤ S * W := Int.mul_le_mul_of_nonneg_right (by omega) (by omega)
        omega
      · rename_i z
        have : S * W ≤ l0 * W := Int.mul_le_mul_of_nonneg_right (by omega) (by omega)
        omega
    rw [e1] at c1
    omega
theorem within_val (I : Inp ps ws) (a : Ax l r) {l0 l1 : Int} (h0 : 0 ≤ l0) (h0' : l0 ≤ 1000) (h1 : 0 ≤ l1) (h1' : l1 ≤ 1000) :
    u_within_axles [.int l, .int r, iT ps, iT ws, .tup [.int l0, .int l1]] = some (fnd ws fun q => inR (lowA l r l1 ws.sum) (highA l r l0 ws.sum) (lev r ps q)) := by
  have h5 := I.h5
  have hl := I.len
  have hax1 := a.l1
  have hax2 := a.l2
  have hax3 := a.r2
  have b1 : betw 0 1000 l0 = true := decide_eq_true (by omega)
  have b2 : betw 0 1000 l1 = true := decide_eq_true (by omega)
  show (u_check_axles [.int l, .int r]).bind (fun _ => (u_check_positions [iT ps]).bind fun _ => (u_check_loads [iT ps, iT ws]).bind fun _ =>
    (intsD (ps.map .int)).bind fun ps => (intsD (ws.map .int)).bind fun ws' => if (betw 0 1000 l0 = true ∧ betw 0 1000 l1 = true) ∧ sml (r - l) = true then u_first_row [.lst ((ps.map fun p => r - p).map .int), iT ws, .int (lowA l r l1 ws'.sum), .int (highA l r l0 ws'.sum)] else none) = _
  rw [check_axles_val a, I.cp, I.cl, Option.bind_some, Option.bind_some, Option.bind_some, intsD_map, intsD_map, Option.bind_some, Option.bind_some, if_pos ⟨⟨b1, b2⟩, sml_small (by omega) (by omega)⟩,
    first_val (seqD_l _) (seqD_t ws) (axle_s I a) (by omega) (by rw [List.length_map, hl]), fnd_congr fun q => by rw [dot_lev]]
end
end W
set_option maxHeartbeats 4000000
/-! _law_right: what is drawn. -/
namespace W
open PySem PySem.Spec PyProof.Rows L2 PL
theorem cut_to (ds : List D) (m : Nat) : PL.cutD ds none (some (m : Int)) = ds.take m := by
  unfold PL.cutD
  rw [HT.sIx_none, HT.sIx_nat, List.drop_zero, Nat.sub_zero]
  rcases Nat.le_total m ds.length with h | h
  · rw [Nat.min_eq_left h]
  · rw [Nat.min_eq_right h, List.take_of_length_le (Nat.le_refl _), List.take_of_length_le h]
section
variable {Φ : Nat → FS} {fuel : Nat}
theorem take_io (h0 : Φ 0 = tkF) : (Φ 0).io = true ∧ (Φ 0).ar = 2 ∧ (Φ 0).fresh = false := by
  rw [h0]
  exact ⟨rfl, rfl, rfl⟩
abbrev eR (box : D) (g : Bool) (v2 v3 v4 : PL.Sl) : PL.Env := [.ow box, .im (.bl g), v2, v3, v4, .un, .un, .un, .un, .un, .un, .un, .un, .un]
abbrev sR1 : MS := .set 2 (.ife (.and (.var 1) (.cmp .eq (.callIO 0 0 (.cons (.lit (.int 4)) (.nil))) (.lit (.int 0)))) (.lit (.int 5)) (.bin .add (.lit (.int 1)) (.callIO 0 0 (.cons (.lit (.int 4)) (.nil)))))
theorem r_many (h0 : Φ 0 = tkF) {n : Nat} {box : D} (B : BxOk n box) (hn : n ≤ 10000) (g : Bool) : ∃ (m : Nat) (box' : D), evS Φ fuel sR1 (eR box g .un .un .un) = some (.nx (eR box' g (.im (.int (m : Int))) .un .un)) ∧ BxOk (n + 2) box' ∧ 1 ≤ m ∧ m ≤ 5 := by
  obtain ⟨i1, i2, i3⟩ := take_io h0
  obtain ⟨d, box1, e, B1, d1, d2⟩ := take_ok B (by omega) (m := 4) (by omega) (by omega)
  obtain ⟨d', box2, e2, B2, d3, d4⟩ := take_ok B1 (by omega) (m := 4) (by omega) (by omega)
  rw [← h0] at e e2
  cases g with
  | true =>
    by_cases hd : d = 0
    · subst hd
      refine ⟨5, box1, ?_, B1.mono (by omega), by omega, by omega⟩
      simp [eR, getS, ev_var_eq, e, i1, i2, i3, owD, slotSet]
    · refine ⟨(1 + d').toNat, box2, ?_, B2, by omega, by omega⟩
      rw [show (((1 + d').toNat : Nat) : Int) = 1 + d' by omega]
      simp [eR, getS, ev_var_eq, e, e2, i1, i2, i3, owD, slotSet, hd]
  | false =>
    refine ⟨(1 + d).toNat, box1, ?_, B1.mono (by omega), by omega, by omega⟩
    rw [show (((1 + d).toNat : Nat) : Int) = 1 + d by omega]
    simp [eR, getS, ev_var_eq, e, i1, i2, i3, owD, slotSet]
abbrev sR2 : MS := .set 3 (.ife (.cmp .eq (.callIO 0 0 (.cons (.lit (.int 2)) (.nil))) (.lit (.int 0))) (.bi .tuple (.cons (.bi .sorted (.cons (.comp [12] (.nm 12) (.seq false (.slice (.callIO 1 0 (.cons (.lit (.int 41)) (.nil))) (.lit .non) (.asInt (.var 2)))) (.lit (.bl true)) (.bi .int (.cons (.bin .sub (.var 12) (.lit (.int 20))) (.nil)))) (.nil))) (.nil))) (.bi .tuple (.cons (.comp [12] (.nm 12) (.rng1 (.var 2)) (.lit (.bl true)) (.bi .int (.cons (.bin .sub (.var 12) (.bin .fdiv (.var 2) (.lit (.int 2)))) (.nil)))) (.nil))))
theorem r_positions (h0 : Φ 0 = tkF) (h1 : Φ 1 = mxF) {n : Nat} {box : D} (B : BxOk n box) (hn : n ≤ 10000) (g : Bool) {m : Nat} (m1 : 1 ≤ m) (m5 : m ≤ 5) :
    ∃ (ps : List Int) (box' : D), evS Φ fuel sR2 (eR box g (.im (.int (m : Int))) .un .un) = some (.nx (eR box' g (.im (.int (m : Int))) (.im (iT ps)) .un)) ∧ BxOk (n + 42) box' ∧ ps.length = m ∧ okP ps = true := by
  obtain ⟨i1, i2, i3⟩ := take_io h0
  obtain ⟨d, box1, e, B1, d1, d2⟩ := take_ok B (by omega) (m := 2) (by omega) (by omega)
  obtain ⟨ns, box2, e2, B2, l2, n2, b2⟩ := mixed_ok B1 (by omega) (m := 41) (by omega)
  have j1 : (Φ 1).io = true ∧ (Φ 1).ar = 2 ∧ (Φ 1).fresh = false := by
    rw [h1]
    exact ⟨rfl, rfl, rfl⟩
  obtain ⟨j1, j2, j3⟩ := j1
  rw [← h0] at e
  rw [← h1] at e2
  have e2 : (Φ 1).run [box1, .int 41] = some (.lst (ns.map .int), box2) := e2
  by_cases hd : d = 0
  · subst hd
    have hs : sliceF (.lst (ns.map .int)) none (some (m : Int)) = some (.lst ((ns.take m).map .int), true) := by
      show some (D.lst (PL.cutD (ns.map .int) none (some (m : Int))), true) = _
      rw [cut_to, List.map_take]
    have hc : ∀ (E : PL.Env), E = eR box2 g (.im (.int (m : Int))) .un .un → compE Φ [12] (.nm 12) (.lit (.bl true)) (.bi .int (.cons (.bin .sub (.var 12) (.lit (.int 20))) (.nil))) ((ns.take m).map .int) E = some (((ns.take m).map fun k => k - 20).map .int, E) := by
      intro E hE
      rw [List.map_map]
      refine compE_m _ _ _ rfl fun z _ => ?_
      subst hE
      refine ⟨_, [.ow box2, .im (.bl g), .im (.int (m : Int)), .un, .un, .un, .un, .un, .un, .un, .un, .un, .im (.int z), .un], rfl, ?_, rfl⟩
      simp [getS, ev_var_eq]
    obtain ⟨qs, hqs⟩ : ∃ qs, (ns.take m).map (fun k => k - 20) = qs := ⟨_, rfl⟩
    have hso : biF .sorted [.lst (qs.map .int)] = some (.lst ((srtI qs).map .int), true) := bi_sorted (intsD_map qs) (by rw [← hqs]; simp; omega)
    have hql : qs.length = m := by
      rw [← hqs, List.length_map, List.length_take, l2]
      omega
    have hqn : qs.Nodup := by
      rw [← hqs]
      show List.Pairwise _ _
      rw [List.pairwise_map]
      exact (List.Pairwise.sublist (List.take_sublist _ _) n2).imp fun {a b} h z => h (by omega)
    have hqb : ∀ p ∈ qs, -20 ≤ p ∧ p ≤ 20 := fun p hp => by
      rw [← hqs] at hp
      obtain ⟨k, hk, rfl⟩ := List.mem_map.mp hp
      have := b2 k (List.mem_of_mem_take hk)
      omega
    refine ⟨srtI qs, box2, ?_, B2.mono (by omega), (srtI_perm qs).length_eq.trans hql, okP_of (by rw [(srtI_perm qs).length_eq]; omega) (by rw [(srtI_perm qs).length_eq]; omega) (fun p hp => hqb p ((srtI_perm qs).mem_iff.mp hp)) ?_⟩
    · have hc' := hc _ rfl
      rw [hqs] at hc'
      simp only [eR] at hc' ⊢
      generalize (ns.take m).map D.int = Z at hs hc'
      generalize ns.map D.int = Y at hs e2
      generalize qs.map D.int = Q at hc' hso
      simp [getS, ev_var_eq, e, i1, i2, i3, owD, slotSet, j1, j2, j3, e2, intOf, partD, hs, seqK, noOwn_cons, hc', hso]
    · have nd : (srtI qs).Nodup := (srtI_perm qs).nodup_iff.mpr hqn
      exact (List.Pairwise.and (srtI_sorted qs) nd).imp fun {a b} h => by
        have := h.2
        have := h.1
        omega
  · have hrg := rngG_nat (n := m) (env := eR box1 g (.im (.int (m : Int))) .un .un) (by omega)
    have hdv : binF .fdiv (.int (m : Int)) (.int 2) = some (.int ((m / 2 : Nat) : Int), false) := bin_fdiv (by decide) (by rw [B64_eq]; decide)
    have hc : ∀ (E : PL.Env), E = eR box1 g (.im (.int (m : Int))) .un .un → compE Φ [12] (.nm 12) (.lit (.bl true)) (.bi .int (.cons (.bin .sub (.var 12) (.bin .fdiv (.var 2) (.lit (.int 2)))) (.nil))) ((List.range m).map fun k : Nat => .int (k : Int)) E = some (((List.range m).map fun k : Nat => (k : Int) - ((m / 2 : Nat) : Int)).map .int, E) := by
      intro E hE
      rw [List.map_map]
      refine compE_m (fun k : Nat => D.int (k : Int)) _ _ rfl fun z _ => ?_
      subst hE
      refine ⟨_, [.ow box1, .im (.bl g), .im (.int (m : Int)), .un, .un, .un, .un, .un, .un, .un, .un, .un, .im (.int (z : Int)), .un], rfl, ?_, rfl⟩
      generalize ((m / 2 : Nat) : Int) = h2 at hdv ⊢
      simp [getS, ev_var_eq, hdv]
    refine ⟨(List.range m).map fun k : Nat => (k : Int) - ((m / 2 : Nat) : Int), box1, ?_, B1.mono (by omega), by simp, okP_of (by simp; omega) (by simp; omega) (fun p hp => ?_) ?_⟩
    · have hc' := hc _ rfl
      simp only [eR, iT] at hc' hrg ⊢
      generalize ((List.range m).map fun k : Nat => (k : Int) - ((m / 2 : Nat) : Int)).map D.int = Q at hc' ⊢
      generalize (List.range m).map (fun k : Nat => D.int (k : Int)) = Z at hc' hrg
      simp [getS, ev_var_eq, e, i1, i2, i3, owD, slotSet, hd, hrg, noOwn_cons, hc']
    · obtain ⟨k, hk, rfl⟩ := List.mem_map.mp hp
      have := List.mem_range.mp hk
      omega
    · rw [List.pairwise_map]
      exact List.pairwise_lt_range.imp fun {a b} h => by omega
abbrev elR : ME := .sub (.lstD (.cons (.callIO 0 0 (.cons (.lit (.int 9)) (.nil))) (.cons (.callIO 0 0 (.cons (.lit (.int 101)) (.nil))) (.cons (.lit (.int 5)) (.nil))))) (.callIO 0 0 (.cons (.lit (.int 3)) (.nil)))
theorem w_comp (h0 : Φ 0 = tkF) (g : Bool) (v2 v3 : PL.Sl) : ∀ (ks : List Nat) {n : Nat} {box : D}, BxOk n box → n + 3 * ks.length ≤ 20000 →
    ∃ (ws : List Int) (box' : D), compE Φ [12] (.nm 12) (.lit (.bl true)) elR (ks.map fun k : Nat => .int (k : Int)) (eR box g v2 v3 .un) = some (ws.map .int, eR box' g v2 v3 .un) ∧ BxOk (n + 3 * ks.length) box' ∧ ws.length = ks.length ∧ ∀ w ∈ ws, 0 ≤ w ∧ w ≤ 100
  | [], n, box, B, _ => ⟨[], box, rfl, B, rfl, fun w hw => nomatch hw⟩
  | k :: ks, n, box, B, hn => by
    rw [List.length_cons] at hn
    obtain ⟨i1, i2, i3⟩ := take_io h0
    obtain ⟨a, box1, e1, B1, a1, a2⟩ := take_ok B (by omega) (m := 9) (by omega) (by omega)
    obtain ⟨b, box2, e2, B2, b1, b2⟩ := take_ok B1 (by omega) (m := 101) (by omega) (by omega)
    obtain ⟨c, box3, e3, B3, c1, c2⟩ := take_ok B2 (by omega) (m := 3) (by omega) (by omega)
    obtain ⟨ws, box', ec, B', l', w'⟩ := w_comp h0 g v2 v3 ks B3 (by omega)
    rw [← h0] at e1 e2 e3
    obtain ⟨x, hx, hb⟩ : ∃ x, ixF (.lst [.int a, .int b, .int 5]) (.int c) = some (.int x) ∧ 0 ≤ x ∧ x ≤ 100 := by
      have hc : c = ((0 : Nat) : Int) ∨ c = ((1 : Nat) : Int) ∨ c = ((2 : Nat) : Int) := by omega
      rcases hc with rfl | rfl | rfl
      · exact ⟨a, atI_nat (j := 0) rfl, by omega⟩
      · exact ⟨b, atI_nat (j := 1) rfl, by omega⟩
      · exact ⟨5, atI_nat (j := 2) rfl, by omega⟩
    have l3 : 3 ≤ sizeLine := by decide
    refine ⟨x :: ws, box', ?_, B'.mono (by rw [List.length_cons]; omega), by rw [List.length_cons, List.length_cons, l'], fun w hw => ?_⟩
    · have he : fw (ev Φ elR [.ow box, .im (.bl g), v2, v3, .un, .un, .un, .un, .un, .un, .un, .un, .im (.int (k : Int)), .un]) = some (.int x, [.ow box3, .im (.bl g), v2, v3, .un, .un, .un, .un, .un, .un, .un, .un, .im (.int (k : Int)), .un]) := by
        simp [getS, ev_var_eq, e1, e2, e3, i1, i2, i3, owD, slotSet, l3, hx]
      unfold compE at ec ⊢
      rw [List.map_cons, compGo]
      show (some _).bind _ = _
      rw [Option.bind_some]
      show (some (true, _)).bind _ = _
      rw [Option.bind_some]
      show (fw (ev Φ elR [.ow box, .im (.bl g), v2, v3, .un, .un, .un, .un, .un, .un, .un, .un, .im (.int (k : Int)), .un])).bind _ = _
      rw [he, Option.bind_some]
      show (compGo _ _ _ [12] _ (eR box3 g v2 v3 .un)).map _ = _
      rw [ec]
      rfl
    · rcases List.mem_cons.mp hw with rfl | hw
      · exact hb
      · exact w' w hw
abbrev sR3 : MS := .set 4 (.bi .tuple (.cons (.comp [12] (.nm 12) (.rng1 (.var 2)) (.lit (.bl true)) elR) (.nil)))
theorem r_weights (h0 : Φ 0 = tkF) {n : Nat} {box : D} (B : BxOk n box) (hn : n ≤ 10000) (g : Bool) {m : Nat} (m5 : m ≤ 5) (v3 : PL.Sl) :
    ∃ (ws : List Int) (box' : D), evS Φ fuel sR3 (eR box g (.im (.int (m : Int))) v3 .un) = some (.nx (eR box' g (.im (.int (m : Int))) v3 (.im (iT ws)))) ∧ BxOk (n + 15) box' ∧ ws.length = m ∧ ∀ w ∈ ws, 0 ≤ w ∧ w ≤ 100 := by
  obtain ⟨ws, box', e, B', l', w'⟩ := w_comp h0 g (.im (.int (m : Int))) v3 (List.range m) B (by rw [List.length_range]; omega)
  rw [List.length_range] at B' l'
  have hrg := rngG_nat (n := m) (env := eR box g (.im (.int (m : Int))) v3 .un) (by omega)
  refine ⟨ws, box', ?_, B'.mono (by omega), l', w'⟩
  simp only [eR, iT] at e hrg ⊢
  generalize (List.range m).map (fun k : Nat => D.int (k : Int)) = Z at e hrg
  generalize ws.map D.int = Q at e ⊢
  simp [getS, ev_var_eq, hrg, noOwn_cons, e]
end
end W
set_option maxHeartbeats 4000000
/-! _law_right: the rows, the least one, the first. -/
namespace W
open PySem PySem.Spec PyProof.Rows L2 PL
structure TR (Φ : Nat → FS) (mirF : FS) : Prop where
  t0 : Φ 0 = tkF
  t1 : Φ 1 = mxF
  t2 : Φ 2 = fsR 1 u_law_orders
  t3 : Φ 3 = fsR 2 u_law_moment
  t4 : Φ 4 = fsR 2 (u_same 4)
  t5 : Φ 5 = fsR 2 (u_least_moment u_least_sum)
  t6 : Φ 6 = fsR 2 (u_least_moment u_least_sum)
  t7 : Φ 7 = fsR 3 u_balanced
  t8 : Φ 8 = fsR 3 u_balanced
  t9 : Φ 9 = fsR 3 u_law_loading
  t10 : Φ 10 = fsR 3 u_loading_order
  t11 : Φ 11 = fsR 3 u_loading_order
  t12 : Φ 12 = mirF
section
variable {Φ : Nat → FS} {fuel : Nat}
structure Cl3 (f : FS) (n : Nat) : Prop where
  io : f.io = false
  ar : f.ar = n
  fr : f.fresh = false
theorem cl3 {f : FS} {n : Nat} {u : List D → Option D} (h : f = fsR n u) : Cl3 f n := by
  subst h
  exact ⟨rfl, rfl, rfl⟩
theorem run_of {f : FS} {n : Nat} {u : List D → Option D} (h : f = fsR n u) {ds : List D} {d : D} (e : u ds = some d) : f.run ds = some (d, .non) := by
  subst h
  show (u ds).map _ = _
  rw [e]
  rfl
theorem tupsI_map : ∀ kss : List (List Int), tupsI (kss.map PL.rowD) = some kss
  | [] => rfl
  | k :: kss => by
    show (intsD (k.map .int)).bind (fun k => (tupsI (kss.map PL.rowD)).map fun ks => k :: ks) = _
    rw [intsD_map, Option.bind_some, tupsI_map kss]
    rfl
abbrev eS (box : D) (g : Bool) (m : Nat) (ps ws : List Int) (v5 v6 v7 : PL.Sl) : PL.Env := [.ow box, .im (.bl g), .im (.int (m : Int)), .im (iT ps), .im (iT ws), v5, v6, v7, .un, .un, .un, .un, .un, .un]
def rL (ws : List Int) : D := .lst ((Rs ws).map PL.rowD)
theorem seq_rL (ws : List Int) : seqK false (rL ws) = some ((Rs ws).map PL.rowD) := rfl
abbrev elO : ME := .bi .tuple (.cons (.comp [12] (.nm 12) (.seq true (.var 11)) (.lit (.bl true)) (.sub (.var 4) (.var 12))) (.nil))
abbrev sR4 : MS := .set 5 (.bi .sortedSet (.cons (.comp [11] (.nm 11) (.seq false (.call 2 (.cons (.var 2) (.nil)))) (.lit (.bl true)) elO) .nil))
theorem r_rows (t2 : Φ 2 = fsR 1 u_law_orders) (box : D) (g : Bool) {ps ws : List Int} (I : Inp ps ws) :
    evS Φ fuel sR4 (eS box g ws.length ps ws .un .un .un) = some (.nx (eS box g ws.length ps ws (.ow (rL ws)) .un .un)) := by
  have hlen := I.len
  have h5 := I.h5
  have h1 := I.one
  have c := cl3 t2
  have hu : u_law_orders [.int (ws.length : Int)] = some (.lst ((orders ws.length ws.length).map oD)) := by
    show (if 0 ≤ (ws.length : Int) ∧ (ws.length : Int) ≤ 5 then some (D.lst ((orders (ws.length : Int).toNat (ws.length : Int).toNat).map oD)) else none) = _
    rw [if_pos (by omega), Int.toNat_natCast]
  have hr := run_of t2 hu
  have hrow : ∀ o ∈ orders ws.length ws.length, ∀ k ∈ o, k < ws.length := fun o ho => ((mem_orders _).mp ho).2.2
  have inner : ∀ o ∈ orders ws.length ws.length, ∀ E : PL.Env, E = [.ow box, .im (.bl g), .im (.int (ws.length : Int)), .im (iT ps), .im (iT ws), .un, .un, .un, .un, .un, .un, .im (oD o), .un, .un] →
      compE Φ [12] (.nm 12) (.lit (.bl true)) (.sub (.var 4) (.var 12)) (o.map fun k : Nat => .int (k : Int)) E = some ((o.map (ati ws)).map .int, E) := fun o ho E hE => by
    rw [List.map_map]
    refine compE_m (fun k : Nat => D.int (k : Int)) _ _ rfl fun k hk => ?_
    have hx : ixF (iT ws) (.int (k : Int)) = some (.int (ati ws k)) := atI_I (hrow o ho k hk)
    subst hE
    refine ⟨_, [.ow box, .im (.bl g), .im (.int (ws.length : Int)), .im (iT ps), .im (iT ws), .un, .un, .un, .un, .un, .un, .im (oD o), .im (.int (k : Int)), .un], rfl, ?_, rfl⟩
    generalize iT ws = WS at hx ⊢
    simp [getS, ev_var_eq, hx]
  have hc : ∀ E : PL.Env, E = eS box g ws.length ps ws .un .un .un → compE Φ [11] (.nm 11) (.lit (.bl true)) elO ((orders ws.length ws.length).map oD) E = some (((orders ws.length ws.length).map fun o => o.map (ati ws)).map PL.rowD, E) := by
    intro E hE
    rw [List.map_map]
    refine compE_m _ _ _ rfl fun o ho => ?_
    have hin := inner o ho _ rfl
    subst hE
    refine ⟨[.ow box, .im (.bl g), .im (.int (ws.length : Int)), .im (iT ps), .im (iT ws), .un, .un, .un, .un, .un, .un, .im (oD o), .un, .un], [.ow box, .im (.bl g), .im (.int (ws.length : Int)), .im (iT ps), .im (iT ws), .un, .un, .un, .un, .un, .un, .im (oD o), .un, .un], rfl, ?_, rfl⟩
    have hs : seqK true (oD o) = some (o.map fun k : Nat => .int (k : Int)) := rfl
    show _ = some (D.tup ((o.map (ati ws)).map .int), _)
    generalize (o.map (ati ws)).map D.int = Q at hin ⊢
    generalize o.map (fun k : Nat => D.int (k : Int)) = Z at hin hs
    generalize oD o = OO at hin hs ⊢
    generalize iT ws = WS at hin ⊢
    simp [getS, ev_var_eq, hs, noOwn_cons, hin]
  have hss : biF .sortedSet [.lst (((orders ws.length ws.length).map fun o => o.map (ati ws)).map PL.rowD)] = some (rL ws, true) := by
    show (tupsI (((orders ws.length ws.length).map fun o => o.map (ati ws)).map PL.rowD)).bind (fun ks => if ks.length ≤ 120 ∧ (ks.all fun k => !k.isEmpty) = true then some (D.lst ((rowsD ks).map PL.rowD), true) else none) = _
    have hall : (((orders ws.length ws.length).map fun o => o.map (ati ws)).all fun k => !k.isEmpty) = true := List.all_eq_true.mpr fun k hk => by
      obtain ⟨o, ho, rfl⟩ := List.mem_map.mp hk
      have := ((mem_orders _).mp ho).1
      cases o with
      | nil =>
        simp at this
        omega
      | cons a o => rfl
    have h120 : ((orders ws.length ws.length).map fun o => o.map (ati ws)).length ≤ 120 := by
      rw [List.length_map]
      exact orders_120 (by omega)
    rw [tupsI_map, Option.bind_some, if_pos ⟨h120, hall⟩, rows_Rs]
    rfl
  have hc' := hc _ rfl
  simp only [eS] at hc' ⊢
  generalize ((orders ws.length ws.length).map fun o => o.map (ati ws)).map PL.rowD = Y at hc' hss
  generalize (orders ws.length ws.length).map oD = Z at hr hc'
  generalize (ws.length : Int) = n at hr hc' ⊢
  generalize rL ws = RL at hss ⊢
  simp [getS, ev_var_eq, c.io, c.ar, c.fr, hr, seqK, noOwn_cons, hc', hss]
theorem row_iT (r : List Int) : PL.rowD r = iT r := rfl
abbrev elM : ME := .bi .abs (.cons (.call 3 (.cons (.var 3) (.cons (.var 13) (.nil)))) (.nil))
/-- the absolute moment of one row -/
theorem r_abs (t3 : Φ 3 = fsR 2 u_law_moment) {ps ws : List Int} (I : Inp ps ws) (r : List Int) (box : D) (g : Bool) (m : Nat) (v5 v6 v7 v8 v9 v10 v11 : PL.Sl) (E : PL.Env) (hE : E = [.ow box, .im (.bl g), .im (.int (m : Int)), .im (iT ps), .im (iT ws), v5, v6, v7, v8, v9, v10, v11, .un, .im (PL.rowD r)]) :
    ev Φ elM E = some (.int (absI (dot ps r)), .fz, E) := by
  have c := cl3 t3
  have hr := run_of t3 (law_moment_val I r)
  have hab : biF .abs [.int (dot ps r)] = some (.int (absI (dot ps r)), false) := bi_abs _
  subst hE
  rw [row_iT]
  generalize absI (dot ps r) = av at hab ⊢
  generalize dot ps r = dv at hr hab
  generalize iT ps = PS at hr ⊢
  generalize iT r = RR at hr ⊢
  simp [getS, ev_var_eq, c.io, c.ar, c.fr, hr, hab, -bi_abs]
abbrev sR5 : MS := .set 6 (.bi .min (.cons (.comp [13] (.nm 13) (.seq false (.var 5)) (.lit (.bl true)) elM) (.nil)))
theorem r_least (t3 : Φ 3 = fsR 2 u_law_moment) (box : D) (g : Bool) {ps ws : List Int} (I : Inp ps ws) {L : Int} (hL : isL ps ws L) (m : Nat) :
    evS Φ fuel sR5 (eS box g m ps ws (.ow (rL ws)) .un .un) = some (.nx (eS box g m ps ws (.im (rL ws)) (.im (.int L)) .un)) := by
  have hc : ∀ E : PL.Env, E = eS box g m ps ws (.im (rL ws)) .un .un → compE Φ [13] (.nm 13) (.lit (.bl true)) elM ((Rs ws).map PL.rowD) E = some (((Rs ws).map fun r => absI (dot ps r)).map .int, E) := by
    intro E hE
    rw [List.map_map]
    refine compE_m _ _ _ rfl fun r _ => ?_
    have := r_abs (Φ := Φ) t3 I r box g m (.im (rL ws)) .un .un .un .un .un .un _ rfl
    subst hE
    exact ⟨[.ow box, .im (.bl g), .im (.int (m : Int)), .im (iT ps), .im (iT ws), .im (rL ws), .un, .un, .un, .un, .un, .un, .un, .im (PL.rowD r)], [.ow box, .im (.bl g), .im (.int (m : Int)), .im (iT ps), .im (iT ws), .im (rL ws), .un, .un, .un, .un, .un, .un, .un, .im (PL.rowD r)], rfl, (congrArg fw this).trans rfl, rfl⟩
  have hne := Rs_ne ws
  have hmin : biF .min [.lst (((Rs ws).map fun r => absI (dot ps r)).map .int)] = some (.int L, false) := by
    cases hq : Rs ws with
    | nil => exact absurd hq hne
    | cons r0 rs =>
      rw [List.map_cons, bi_min_ints]
      congr 3
      have h1 := min_isLeast (absI (dot ps r0)) (rs.map fun r => absI (dot ps r))
      refine isLeast_unique (p := fun m => ∃ r ∈ Rs ws, m = absI (dot ps r)) ⟨?_, fun x hx => h1.2 x ?_⟩ hL
      · obtain ⟨r, hr, e⟩ := List.mem_map.mp (show _ ∈ (r0 :: rs).map (fun r => absI (dot ps r)) from h1.1)
        exact ⟨r, hq ▸ hr, e.symm⟩
      · obtain ⟨r, hr, rfl⟩ := hx
        rw [hq] at hr
        exact (List.mem_map.mpr ⟨r, hr, rfl⟩ : absI (dot ps r) ∈ (r0 :: rs).map fun r => absI (dot ps r))
  have hc' := hc _ rfl
  have hsq := seq_rL ws
  simp only [eS] at hc' ⊢
  generalize ((Rs ws).map fun r => absI (dot ps r)).map D.int = Y at hc' hmin
  generalize (Rs ws).map PL.rowD = Z at hc' hsq
  generalize rL ws = RL at hc' hsq ⊢
  simp [getS, ev_var_eq, hsq, noOwn_cons, hc', hmin]
end
end W
set_option maxHeartbeats 4000000
/-! _law_right: first, the checks, a slack's turn. -/
namespace W
open PySem PySem.Spec PyProof.Rows L2 PL
section
variable {Φ : Nat → FS} {fuel : Nat} {E : PL.Env}
theorem ev_c2 {i a b : Nat} {u : List D → Option D} {da db d : D} (h : Φ i = fsR 2 u) (e : u [da, db] = some d) (ha : getS E a = .im da) (hb : getS E b = .im db) : ev Φ (.call i (.cons (.var a) (.cons (.var b) .nil))) E = some (d, .fz, E) := by
  have c := cl3 h
  have hr := run_of h e
  simp [ev_im ha, ev_im hb, c.io, c.ar, c.fr, hr]
theorem ev_p2 {i a b : Nat} {u : List D → Option D} {da db d : D} (h : Φ i = fsR 2 u) (e : u [da, db] = some d) (ha : getS E a = .im da) (hb : getS E b = .im db) : ev Φ (.callP i [1, 0] (.cons (.var b) (.cons (.var a) .nil))) E = some (d, .fz, E) := by
  have c := cl3 h
  have hr := run_of h e
  simp [ev_im ha, ev_im hb, c.io, c.ar, c.fr, hr, permD]
theorem ev_c3 {i a b k : Nat} {u : List D → Option D} {da db dk d : D} (h : Φ i = fsR 3 u) (e : u [da, db, dk] = some d) (ha : getS E a = .im da) (hb : getS E b = .im db) (hk : getS E k = .im dk) : ev Φ (.call i (.cons (.var a) (.cons (.var b) (.cons (.var k) .nil)))) E = some (d, .fz, E) := by
  have c := cl3 h
  have hr := run_of h e
  simp [ev_im ha, ev_im hb, ev_im hk, c.io, c.ar, c.fr, hr]
theorem ev_p3 {i a b k : Nat} {u : List D → Option D} {da db dk d : D} (h : Φ i = fsR 3 u) (e : u [da, db, dk] = some d) (ha : getS E a = .im da) (hb : getS E b = .im db) (hk : getS E k = .im dk) : ev Φ (.callP i [2, 1, 0] (.cons (.var k) (.cons (.var b) (.cons (.var a) .nil)))) E = some (d, .fz, E) := by
  have c := cl3 h
  have hr := run_of h e
  simp [ev_im ha, ev_im hb, ev_im hk, c.io, c.ar, c.fr, hr, permD]
/-- two told things and the due one -/
theorem same_pair {i : Nat} {A B C C' : ME} {d : D} (t : Φ i = fsR 2 (u_same 4)) (hA : ev Φ A E = some (d, .fz, E)) (hB : ev Φ B E = some (d, .fz, E)) (hC : ev Φ C E = some (d, .fz, E)) (hC' : ev Φ C' E = some (d, .fz, E)) (hok : okL 3 d) :
    blOf (ev Φ (.not (.call i (.cons (.lstD (.cons A (.cons B .nil))) (.cons (.lstD (.cons C (.cons C' .nil))) .nil)))) E) = some (false, E) := by
  have c := cl3 t
  have l2 : 2 ≤ sizeLine := by decide
  have hr := run_of t (u_same_of (n := 4) (d := .lst [d, d]) ⟨by simp, fun x hx => by
    rcases List.mem_cons.mp hx with rfl | hx
    · exact hok
    · rw [List.mem_singleton.mp hx]
      exact hok⟩)
  simp [hA, hB, hC, hC', c.io, c.ar, c.fr, hr, l2]
theorem okL_ints : ∀ {n : Nat} {r : List Int}, r.length ≤ 1000 → okL (n + 1) (iT r) := fun {n r} h => ⟨by rw [List.length_map]; exact h, fun x hx => by
  obtain ⟨k, _, rfl⟩ := List.mem_map.mp hx
  cases n <;> trivial⟩
theorem okL_row {n : Nat} {o : Option (List Int)} (h : ∀ r, o = some r → r.length ≤ 1000) : okL (n + 1) (W.rowD o) := by
  cases o with
  | none => trivial
  | some r => exact okL_ints (h r rfl)
theorem okL_fnd {n : Nat} {ws : List Int} {p : List Int → Bool} (h : ws.length ≤ 1000) : okL (n + 1) (fnd ws p) := okL_row fun r hr => by
  rw [Rs_len (List.mem_of_find?_eq_some hr)]
  exact h
theorem okL_best {n : Nat} {qs : List Int} {s : Int} {m : Nat} (h : m ≤ 1000) : okL (n + 1) (bestL (lds qs s m)) := by
  cases hq : lds qs s m with
  | nil => trivial
  | cons x r =>
    show okL (n + 1) (oD x.1)
    rw [oD_row]
    refine okL_ints ?_
    rw [List.length_map, lds_row m (by rw [hq]; exact List.mem_cons_self)]
    exact h
/-! ### first -/
abbrev eW (box : D) (g : Bool) (m : Nat) (ps ws : List Int) (L : Int) (v7 v8 v9 v10 v11 : PL.Sl) : PL.Env := [.ow box, .im (.bl g), .im (.int (m : Int)), .im (iT ps), .im (iT ws), .im (rL ws), .im (.int L), v7, v8, v9, v10, v11, .un, .un]
theorem filter_fm (l : List (List Int)) (p : List Int → Bool) : (l.filter p).map PL.rowD = l.filterMap fun r => if p r = true then some (PL.rowD r) else none := by
  rw [← List.filterMap_eq_filter, ← List.filterMap_eq_map, List.filterMap_filterMap]
  refine congrFun (congrArg List.filterMap (funext fun k => ?_)) _
  cases h : p k with
  | true => rw [if_pos rfl]; simp only [Option.guard, h]; rfl
  | false => rw [if_neg (by decide)]; simp only [Option.guard, h]; rfl
/-- the rows whose moment passes a test -/
theorem r_filter (t3 : Φ 3 = fsR 2 u_law_moment) {ps ws : List Int} (I : Inp ps ws) (box : D) (g : Bool) (m : Nat) (L : Int) (v7 v8 v9 v10 v11 : PL.Sl) {co : CO} {i : Nat} {x : Int} {p : List Int → Bool} (hi : i = 6 ∨ i = 8) (hx : getS (eW box g m ps ws L v7 v8 v9 v10 v11) i = .im (.int x))
    (hp : ∀ r, cmpF co (.int (absI (dot ps r))) (.int x) = some (p r)) : compE Φ [13] (.nm 13) (.cmp co elM (.var i)) (.var 13) ((Rs ws).map PL.rowD) (eW box g m ps ws L v7 v8 v9 v10 v11) = some (((Rs ws).filter p).map PL.rowD, eW box g m ps ws L v7 v8 v9 v10 v11) := by
  rw [filter_fm]
  refine compE_fm _ _ _ fun r _ => ?_
  have h1 := r_abs (Φ := Φ) t3 I r box g m (.im (rL ws)) (.im (.int L)) v7 v8 v9 v10 v11 _ rfl
  refine ⟨[.ow box, .im (.bl g), .im (.int (m : Int)), .im (iT ps), .im (iT ws), .im (rL ws), .im (.int L), v7, v8, v9, v10, v11, .un, .im (PL.rowD r)], rfl, ?_⟩
  have h2 : ev Φ (.var i) [.ow box, .im (.bl g), .im (.int (m : Int)), .im (iT ps), .im (iT ws), .im (rL ws), .im (.int L), v7, v8, v9, v10, v11, .un, .im (PL.rowD r)] = some (.int x, .fz, [.ow box, .im (.bl g), .im (.int (m : Int)), .im (iT ps), .im (iT ws), .im (rL ws), .im (.int L), v7, v8, v9, v10, v11, .un, .im (PL.rowD r)]) := by
    refine ev_im ?_
    rcases hi with rfl | rfl <;> exact hx
  have hc : blOf (ev Φ (.cmp co elM (.var i)) [.ow box, .im (.bl g), .im (.int (m : Int)), .im (iT ps), .im (iT ws), .im (rL ws), .im (.int L), v7, v8, v9, v10, v11, .un, .im (PL.rowD r)]) = some (p r, [.ow box, .im (.bl g), .im (.int (m : Int)), .im (iT ps), .im (iT ws), .im (rL ws), .im (.int L), v7, v8, v9, v10, v11, .un, .im (PL.rowD r)]) := by
    rw [ev_cmp, h1, bw_fz, Option.bind_some, h2]
    simp [hp]
  cases hb : p r with
  | true =>
    rw [hb] at hc
    exact .inl ⟨_, PL.rowD r, [.ow box, .im (.bl g), .im (.int (m : Int)), .im (iT ps), .im (iT ws), .im (rL ws), .im (.int L), v7, v8, v9, v10, v11, .un, .im (PL.rowD r)], hc, rfl, rfl, by rw [if_pos rfl]⟩
  | false =>
    rw [hb] at hc
    exact .inr ⟨_, hc, rfl, by rw [if_neg (by decide)]⟩
theorem least_iff {ps ws : List Int} {L : Int} (hL : isL ps ws L) {r : List Int} (hr : r ∈ Rs ws) : absI (dot ps r) ≤ L ↔ absI (dot ps r) = L := by
  have := hL.2 _ ⟨r, hr, rfl⟩
  omega
theorem head_find {α : Type} (p : α → Bool) (l : List α) : (l.filter p).head? = l.find? p := List.head?_filter ..
theorem none_iff {ps ws : List Int} {L s : Int} (hL : isL ps ws L) : isNonD (fnd ws (pL ps s)) = decide (s < L) := by
  cases h : (Rs ws).find? (pL ps s) with
  | none =>
    have h2 : s < L := by
      obtain ⟨⟨r, hr, e⟩, _⟩ := hL
      have := List.find?_eq_none.mp h r hr
      have : ¬ absI (dot ps r) ≤ s := by simpa using this
      omega
    rw [decide_eq_true h2]
    show isNonD (W.rowD ((Rs ws).find? (pL ps s))) = true
    rw [h]
    rfl
  | some r =>
    have h0 : pL ps s r = true := List.find?_some h
    have h1 : absI (dot ps r) ≤ s := of_decide_eq_true h0
    have h2 := hL.2 _ ⟨r, List.mem_of_find?_eq_some h, rfl⟩
    rw [decide_eq_false (by omega)]
    show isNonD (W.rowD ((Rs ws).find? (pL ps s))) = false
    rw [h]
    rfl
abbrev sR6 : MS := .set 7 (.bi .min (.cons (.comp [13] (.nm 13) (.seq false (.var 5)) (.cmp .eq elM (.var 6)) (.var 13)) (.nil)))
theorem r_first (t3 : Φ 3 = fsR 2 u_law_moment) (box : D) (g : Bool) {ps ws : List Int} (I : Inp ps ws) {L : Int} (hL : isL ps ws L) (m : Nat) :
    evS Φ fuel sR6 (eW box g m ps ws L .un .un .un .un .un) = some (.nx (eW box g m ps ws L (.im (fnd ws (pL ps L))) .un .un .un .un)) := by
  have hc := r_filter (Φ := Φ) t3 I box g m L .un .un .un .un .un (co := .eq) (i := 6) (x := L) (p := fun r => decide (absI (dot ps r) = L)) (.inl rfl) rfl fun r => cmpF_eq_int _ _
  have hfe : (Rs ws).filter (fun r => decide (absI (dot ps r) = L)) = (Rs ws).filter (pL ps L) := List.filter_congr fun r hr => decide_eq_decide.mpr (least_iff hL hr).symm
  rw [hfe] at hc
  have hmin : biF .min [.lst (((Rs ws).filter (pL ps L)).map PL.rowD)] = some (fnd ws (pL ps L), false) := by
    cases hq : (Rs ws).filter (pL ps L) with
    | nil =>
      exfalso
      obtain ⟨⟨r, hr, e⟩, _⟩ := hL
      have : r ∈ (Rs ws).filter (pL ps L) := List.mem_filter.mpr ⟨hr, decide_eq_true (by omega)⟩
      rw [hq] at this
      cases this
    | cons r0 rs =>
      have hf : (Rs ws).find? (pL ps L) = some r0 := by
        rw [← head_find, hq]
        rfl
      have hsub : ∀ r ∈ r0 :: rs, r ∈ Rs ws := fun r hr => by
        rw [← hq] at hr
        exact (List.mem_filter.mp hr).1
      have hpw : (r0 :: rs).Pairwise (· < ·) := by
        rw [← hq]
        exact (Rs_rising ws).filter _
      rw [bi_min_rows (fun s hs z => ?_) fun s hs z => List.lt_asymm z ((List.pairwise_cons.mp hpw).1 s hs)]
      · show some (PL.rowD r0, false) = some (W.rowD ((Rs ws).find? (pL ps L)), false)
        rw [hf]
        rfl
      · have h1 := Rs_len (hsub s hs)
        have h2 := I.one
        have h3 := I.len
        rw [z] at h1
        simp at h1
        omega
  have hsq := seq_rL ws
  simp only [eW] at hc ⊢
  generalize ((Rs ws).filter (pL ps L)).map PL.rowD = Y at hc hmin
  generalize (Rs ws).map PL.rowD = Z at hc hsq
  generalize fnd ws (pL ps L) = f at hmin ⊢
  generalize rL ws = RL at hc hsq ⊢
  simp [getS, ev_var_eq, hsq, noOwn_cons, hc, hmin]
/-! ### the check of least_moment -/
abbrev sR7 : MS := .ite (.not (.call 4 (.cons (.lstD (.cons (.call 6 (.cons (.var 3) (.cons (.var 4) (.nil)))) (.cons (.callP 5 [1, 0] (.cons (.var 4) (.cons (.var 3) (.nil)))) (.nil)))) (.cons (.lstD (.cons (.tupD (.cons (.var 6) (.cons (.var 7) (.nil)))) (.cons (.tupD (.cons (.var 6) (.cons (.var 7) (.nil)))) (.nil)))) (.nil))))) (.ret (.lit (.bl false))) (.skip)
theorem r_check {mirF : FS} (T : TR Φ mirF) (box : D) (g : Bool) {ps ws : List Int} (I : Inp ps ws) {L : Int} (hu : u_least_sum [iT ps, iT ws] = some (.int L)) (m : Nat) :
    evS Φ fuel sR7 (eW box g m ps ws L (.im (fnd ws (pL ps L))) .un .un .un .un) = some (.nx (eW box g m ps ws L (.im (fnd ws (pL ps L))) .un .un .un .un)) := by
  have h5 := I.h5
  have hl := I.len
  have l2 : 2 ≤ sizeLine := by decide
  have hv := moment_val I hu
  have hC : ev Φ (.tupD (.cons (.var 6) (.cons (.var 7) (.nil)))) (eW box g m ps ws L (.im (fnd ws (pL ps L))) .un .un .un .un) = some (.tup [.int L, fnd ws (pL ps L)], .fz, eW box g m ps ws L (.im (fnd ws (pL ps L))) .un .un .un .un) := by
    simp only [eW]
    generalize fnd ws (pL ps L) = f
    generalize rL ws = RL
    simp [getS, ev_var_eq, l2]
  have hs := same_pair (E := eW box g m ps ws L (.im (fnd ws (pL ps L))) .un .un .un .un) T.t4 (ev_c2 T.t6 hv (a := 3) (b := 4) rfl rfl) (ev_p2 T.t5 hv (a := 3) (b := 4) rfl rfl) hC hC ⟨by simp, fun x hx => by
    rcases List.mem_cons.mp hx with rfl | hx
    · trivial
    · rw [List.mem_singleton.mp hx]
      exact okL_fnd (by omega)⟩
  rw [evS_ite', hs, Option.bind_some]
  rfl
/-! ### a slack's turn -/
abbrev bS1 : MS := .set 9 (.comp [13] (.nm 13) (.seq false (.var 5)) (.cmp .le elM (.var 8)) (.var 13))
abbrev bS2 : MS := .set 10 (.ife (.cmp .ne (.var 9) (.lstD (.nil))) (.sub (.var 9) (.lit (.int 0))) (.lit .non))
abbrev bS3 : MS := .ite (.or (.not (.call 4 (.cons (.lstD (.cons (.call 8 (.cons (.var 3) (.cons (.var 4) (.cons (.var 8) (.nil))))) (.cons (.callP 7 [2, 1, 0] (.cons (.var 8) (.cons (.var 4) (.cons (.var 3) (.nil))))) (.nil)))) (.cons (.lstD (.cons (.var 10) (.cons (.var 10) (.nil)))) (.nil))))) (.cmp .ne (.cmp .is_ (.var 10) (.lit .non)) (.cmp .lt (.var 8) (.var 6)))) (.ret (.lit (.bl false))) (.skip)
abbrev bS4 : MS := .set 11 (.call 9 (.cons (.var 3) (.cons (.var 4) (.cons (.var 8) (.nil)))))
abbrev bS5 : MS := .ite (.not (.call 4 (.cons (.lstD (.cons (.call 11 (.cons (.var 3) (.cons (.var 4) (.cons (.var 8) (.nil))))) (.cons (.callP 10 [2, 1, 0] (.cons (.var 8) (.cons (.var 4) (.cons (.var 3) (.nil))))) (.nil)))) (.cons (.lstD (.cons (.var 11) (.cons (.var 11) (.nil)))) (.nil))))) (.ret (.lit (.bl false))) (.skip)
abbrev bS6 : MS := .ite (.and (.cmp .isnot (.var 11) (.lit .non)) (.cmp .gt (.bi .abs (.cons (.call 3 (.cons (.var 3) (.cons (.var 4) (.nil)))) (.nil))) (.var 8))) (.ret (.lit (.bl false))) (.skip)
abbrev bS : MS := .seq bS1 (.seq bS2 (.seq bS3 (.seq bS4 (.seq bS5 (.seq bS6 (.seq (.kill [8, 9, 10, 11]) .skip))))))
theorem ok_rows (l : List (List Int)) : (l.map PL.rowD).all (okN 59) = true := List.all_eq_true.mpr fun x hx => by
  obtain ⟨r, _, rfl⟩ := List.mem_map.mp hx
  exact List.all_eq_true.mpr fun y hy => by
    obtain ⟨n, _, rfl⟩ := List.mem_map.mp hy
    rfl
theorem s1_set (t3 : Φ 3 = fsR 2 u_law_moment) (box : D) (g : Bool) {ps ws : List Int} (I : Inp ps ws) (m : Nat) (L s : Int) (v7 : PL.Sl) :
    evS Φ fuel bS1 (eW box g m ps ws L v7 (.im (.int s)) .un .un .un) = some (.nx (eW box g m ps ws L v7 (.im (.int s)) (.ow (.lst (((Rs ws).filter (pL ps s)).map PL.rowD))) .un .un)) := by
  have hc := r_filter (Φ := Φ) t3 I box g m L v7 (.im (.int s)) .un .un .un (co := .le) (i := 8) (x := s) (p := pL ps s) (.inr rfl) rfl fun r => cmpF_le_int _ _
  have hsq := seq_rL ws
  simp only [eW] at hc ⊢
  generalize ((Rs ws).filter (pL ps s)).map PL.rowD = Y at hc ⊢
  generalize (Rs ws).map PL.rowD = Z at hc hsq
  generalize rL ws = RL at hc hsq ⊢
  simp [getS, ev_var_eq, hsq, noOwn_cons, hc]
theorem s2_set (box : D) (g : Bool) (ps ws : List Int) (m : Nat) (L s : Int) (v7 : PL.Sl) :
    evS Φ fuel bS2 (eW box g m ps ws L v7 (.im (.int s)) (.ow (.lst (((Rs ws).filter (pL ps s)).map PL.rowD))) .un .un) = some (.nx (eW box g m ps ws L v7 (.im (.int s)) (.ow (.lst (((Rs ws).filter (pL ps s)).map PL.rowD))) (.im (fnd ws (pL ps s))) .un)) := by
  have hne := ne_nil_l (ok_rows ((Rs ws).filter (pL ps s)))
  have hf := head_find (pL ps s) (Rs ws)
  have l0 : 0 ≤ sizeLine := Nat.zero_le _
  have ef : fnd ws (pL ps s) = W.rowD ((Rs ws).filter (pL ps s)).head? := by rw [hf]
  rw [ef]
  simp only [eW]
  generalize (Rs ws).filter (pL ps s) = F at hne ⊢
  generalize rL ws = RL
  cases F with
  | nil =>
    have hne' : cmpF .ne (.lst []) (.lst []) = some false := hne
    simp [getS, ev_var_eq, l0, hne', W.rowD]
  | cons r0 rs =>
    have hem : (!((r0 :: rs).map PL.rowD).isEmpty) = true := rfl
    rw [hem] at hne
    have hix : ixF (.lst ((r0 :: rs).map PL.rowD)) (.int 0) = some (PL.rowD r0) := (atI_nat (j := 0) rfl : atI _ ((0 : Nat) : Int) = _)
    have er : W.rowD (r0 :: rs).head? = PL.rowD r0 := rfl
    rw [er]
    generalize (r0 :: rs).map PL.rowD = Y at hne hix ⊢
    generalize PL.rowD r0 = R at hix ⊢
    simp [getS, ev_var_eq, l0, hne, hix]
theorem s3_ite {mirF : FS} (T : TR Φ mirF) (box : D) (g : Bool) {ps ws : List Int} (I : Inp ps ws) (m : Nat) {L s : Int} (hL : isL ps ws L) (h0 : 0 ≤ s) (h1 : s ≤ 20000) (v7 v9 : PL.Sl) :
    evS Φ fuel bS3 (eW box g m ps ws L v7 (.im (.int s)) v9 (.im (fnd ws (pL ps s))) .un) = some (.nx (eW box g m ps ws L v7 (.im (.int s)) v9 (.im (fnd ws (pL ps s))) .un)) := by
  have h5 := I.h5
  have hl := I.len
  have hv := balanced_val I h0 h1
  have hs := same_pair (E := eW box g m ps ws L v7 (.im (.int s)) v9 (.im (fnd ws (pL ps s))) .un) T.t4 (ev_c3 T.t8 hv (a := 3) (b := 4) (k := 8) rfl rfl rfl) (ev_p3 T.t7 hv (a := 3) (b := 4) (k := 8) rfl rfl rfl) (ev_im (i := 10) rfl) (ev_im (i := 10) rfl) (okL_fnd (by omega))
  have hn := none_iff (s := s) hL
  have hi : cmpF .is_ (fnd ws (pL ps s)) .non = some (isNonD (fnd ws (pL ps s))) := by cases fnd ws (pL ps s) <;> rfl
  have hb : blOf (ev Φ (.or (.not (.call 4 (.cons (.lstD (.cons (.call 8 (.cons (.var 3) (.cons (.var 4) (.cons (.var 8) (.nil))))) (.cons (.callP 7 [2, 1, 0] (.cons (.var 8) (.cons (.var 4) (.cons (.var 3) (.nil))))) (.nil)))) (.cons (.lstD (.cons (.var 10) (.cons (.var 10) (.nil)))) (.nil))))) (.cmp .ne (.cmp .is_ (.var 10) (.lit .non)) (.cmp .lt (.var 8) (.var 6)))) (eW box g m ps ws L v7 (.im (.int s)) v9 (.im (fnd ws (pL ps s))) .un)) = some (false, eW box g m ps ws L v7 (.im (.int s)) v9 (.im (fnd ws (pL ps s))) .un) := by
    rw [ev_or, hs, Option.bind_some]
    simp only [eW]
    generalize fnd ws (pL ps s) = f at hn hi ⊢
    generalize rL ws = RL
    rw [hn] at hi
    simp [getS, ev_var_eq, hi, cmp_ne_bl]
  rw [evS_ite', hb, Option.bind_some]
  rfl
theorem s4_set (t9 : Φ 9 = fsR 3 u_law_loading) (box : D) (g : Bool) {ps ws : List Int} (I : Inp ps ws) (m : Nat) (L s : Int) (v7 v9 v10 : PL.Sl) :
    evS Φ fuel bS4 (eW box g m ps ws L v7 (.im (.int s)) v9 v10 .un) = some (.nx (eW box g m ps ws L v7 (.im (.int s)) v9 v10 (.im (bestL (lds (prs ps ws) s ps.length))))) := by
  have hv := ev_c3 (E := eW box g m ps ws L v7 (.im (.int s)) v9 v10 .un) t9 (law_loading_val I s) (a := 3) (b := 4) (k := 8) rfl rfl rfl
  rw [evS_set', hv, Option.bind_some]
  rfl
theorem s5_ite {mirF : FS} (T : TR Φ mirF) (box : D) (g : Bool) {ps ws : List Int} (I : Inp ps ws) (m : Nat) (L : Int) {s : Int} (h0 : 0 ≤ s) (h1 : s ≤ 20000) (v7 v9 v10 : PL.Sl) :
    evS Φ fuel bS5 (eW box g m ps ws L v7 (.im (.int s)) v9 v10 (.im (bestL (lds (prs ps ws) s ps.length)))) = some (.nx (eW box g m ps ws L v7 (.im (.int s)) v9 v10 (.im (bestL (lds (prs ps ws) s ps.length))))) := by
  have h5 := I.h5
  have hv := loading_val I h0 h1
  have hs := same_pair (E := eW box g m ps ws L v7 (.im (.int s)) v9 v10 (.im (bestL (lds (prs ps ws) s ps.length)))) T.t4 (ev_c3 T.t11 hv (a := 3) (b := 4) (k := 8) rfl rfl rfl) (ev_p3 T.t10 hv (a := 3) (b := 4) (k := 8) rfl rfl rfl) (ev_im (i := 11) rfl) (ev_im (i := 11) rfl) (okL_best (by omega))
  rw [evS_ite', hs, Option.bind_some]
  rfl
theorem s6_ite (t3 : Φ 3 = fsR 2 u_law_moment) (box : D) (g : Bool) {ps ws : List Int} (I : Inp ps ws) (m : Nat) (L : Int) {s : Int} (h0 : 0 ≤ s) (v7 v9 v10 : PL.Sl) :
    evS Φ fuel bS6 (eW box g m ps ws L v7 (.im (.int s)) v9 v10 (.im (bestL (lds (prs ps ws) s ps.length)))) = some (.nx (eW box g m ps ws L v7 (.im (.int s)) v9 v10 (.im (bestL (lds (prs ps ws) s ps.length))))) := by
  have hv := ev_c2 (E := eW box g m ps ws L v7 (.im (.int s)) v9 v10 (.im (bestL (lds (prs ps ws) s ps.length)))) t3 (law_moment_val I ws) (a := 3) (b := 4) rfl rfl
  have hw := load_whole I h0
  have hab : biF .abs [.int (dot ps ws)] = some (.int (absI (dot ps ws)), false) := bi_abs _
  have hi : cmpF .isnot (bestL (lds (prs ps ws) s ps.length)) .non = some (!isNonD (bestL (lds (prs ps ws) s ps.length))) := by cases bestL (lds (prs ps ws) s ps.length) <;> rfl
  have hb : blOf (ev Φ (.and (.cmp .isnot (.var 11) (.lit .non)) (.cmp .gt (.bi .abs (.cons (.call 3 (.cons (.var 3) (.cons (.var 4) (.nil)))) (.nil))) (.var 8))) (eW box g m ps ws L v7 (.im (.int s)) v9 v10 (.im (bestL (lds (prs ps ws) s ps.length))))) = some (false, eW box g m ps ws L v7 (.im (.int s)) v9 v10 (.im (bestL (lds (prs ps ws) s ps.length)))) := by
    simp only [eW] at hv ⊢
    generalize bestL (lds (prs ps ws) s ps.length) = b at hw hi hv ⊢
    generalize hC : ME.call 3 (.cons (.var 3) (.cons (.var 4) (.nil))) = C at hv ⊢
    generalize rL ws = RL at hv ⊢
    cases hbn : isNonD b with
    | true =>
      rw [hbn] at hi
      simp [getS, ev_var_eq, hi]
    | false =>
      rw [hbn] at hi
      have h2 := hw fun e => by
        rw [e] at hbn
        cases hbn
      have h3 : decide (s < absI (dot ps ws)) = false := decide_eq_false (by omega)
      generalize absI (dot ps ws) = av at hab h3
      generalize dot ps ws = dv at hab hv
      simp [getS, ev_var_eq, hi, hv, hab, -bi_abs]
      exact of_decide_eq_false h3 |> Int.not_lt.mp
  rw [evS_ite', hb, Option.bind_some]
  rfl
theorem s_turn {mirF : FS} (T : TR Φ mirF) (box : D) (g : Bool) {ps ws : List Int} (I : Inp ps ws) (m : Nat) {L s : Int} (hL : isL ps ws L) (h0 : 0 ≤ s) (h1 : s ≤ 20000) (v7 : PL.Sl) :
    evS Φ fuel bS (eW box g m ps ws L v7 (.im (.int s)) .un .un .un) = some (.nx (eW box g m ps ws L v7 .un .un .un .un)) := by
  rw [evS_seq', s1_set T.t3 box g I m L s v7, andThen_nx, evS_seq', s2_set, andThen_nx, evS_seq', s3_ite T box g I m hL h0 h1, andThen_nx, evS_seq', s4_set T.t9 box g I m L s, andThen_nx, evS_seq', s5_ite T box g I m L h0 h1, andThen_nx, evS_seq', s6_ite T.t3 box g I m L h0, andThen_nx]
  rfl
theorem s_loop {mirF : FS} (T : TR Φ mirF) (box : D) (g : Bool) {ps ws : List Int} (I : Inp ps ws) (m : Nat) {L : Int} (hL : isL ps ws L) (v7 : PL.Sl) : ∀ ss : List Int, (∀ s ∈ ss, 0 ≤ s ∧ s ≤ 20000) →
    forE Φ fuel (.nm 8) bS (ss.map .int) (eW box g m ps ws L v7 .un .un .un .un) = some (.nx (eW box g m ps ws L v7 .un .un .un .un))
  | [], _ => rfl
  | s :: ss, h => by
    obtain ⟨h0, h1⟩ := h s List.mem_cons_self
    have ea : asgT (.nm 8) (.int s) (eW box g m ps ws L v7 .un .un .un .un) = some (eW box g m ps ws L v7 (.im (.int s)) .un .un .un) := rfl
    rw [List.map_cons, forE_cons, ea, Option.bind_some, s_turn T box g I m hL h0 h1 v7]
    exact s_loop T box g I m hL v7 ss fun z hz => h z (List.mem_cons_of_mem _ hz)
end
end W
set_option maxHeartbeats 4000000
/-! _law_right as a whole. -/
namespace W
open PySem PySem.Spec PyProof.Rows L2 PL
structure MirOk (f : FS) : Prop where
  io : f.io = true
  ar : f.ar = 5
  fr : f.fresh = false
  run : ∀ {n : Nat} {box : D} {ps ws : List Int} {L : Int}, BxOk n box → n ≤ 10000 → Inp ps ws → isL ps ws L → ∃ box', f.run [box, iT ps, iT ws, rL ws, .int L] = some (.bl true, box') ∧ BxOk (n + 10) box'
abbrev sR8 : MS := .seq (.kill [8, 9, 10, 11]) (.forr (.nm 8) (.seq false (.lstD (.cons (.var 6) (.cons (.bi .max (.cons (.lit (.int 0)) (.cons (.bin .sub (.var 6) (.lit (.int 1))) (.nil)))) (.cons (.callIO 0 0 (.cons (.lit (.int 60)) (.nil))) (.cons (.lit (.int 20000)) (.nil))))))) bS)
abbrev sR9 : MS := .ret (.callIO 12 0 (.cons (.var 3) (.cons (.var 4) (.cons (.var 5) (.cons (.var 6) (.nil))))))
section
variable {Φ : Nat → FS} {fuel : Nat}
theorem r_slacks {mirF : FS} (T : TR Φ mirF) {n : Nat} {box : D} (B : BxOk n box) (hn : n ≤ 10000) (g : Bool) {ps ws : List Int} (I : Inp ps ws) (m : Nat) {L : Int} (hL : isL ps ws L) (v7 : PL.Sl) :
    ∃ box', evS Φ fuel sR8 (eW box g m ps ws L v7 .un .un .un .un) = some (.nx (eW box' g m ps ws L v7 .un .un .un .un)) ∧ BxOk (n + 1) box' := by
  obtain ⟨i1, i2, i3⟩ := take_io T.t0
  obtain ⟨d, box', e, B', d1, d2⟩ := take_ok B (by omega) (m := 60) (by omega) (by omega)
  rw [← T.t0] at e
  have hLb := least_bd I hL
  have l4 : 4 ≤ sizeLine := by decide
  obtain ⟨x, hx⟩ : ∃ x, (if L - 1 > 0 then L - 1 else 0) = x := ⟨_, rfl⟩
  have hmx : biF .max [.int 0, .int (L - 1)] = some (.int x, false) := by rw [← hx]; exact bi_max2 _ _
  have lp := s_loop (fuel := fuel) T box' g I m hL v7 [L, x, d, 20000] fun s hs => by
    have hxb : 0 ≤ x ∧ x ≤ 20000 := by
      rw [← hx]
      split <;> omega
    rcases List.mem_cons.mp hs with rfl | hs
    · exact hLb
    rcases List.mem_cons.mp hs with rfl | hs
    · exact hxb
    rcases List.mem_cons.mp hs with rfl | hs
    · omega
    · rw [List.mem_singleton.mp hs]
      omega
  refine ⟨box', ?_, B'⟩
  have lp' : forE Φ fuel (.nm 8) bS [.int L, .int x, .int d, .int 20000] (eW box' g m ps ws L v7 .un .un .un .un) = some (.nx (eW box' g m ps ws L v7 .un .un .un .un)) := lp
  have hi : evI Φ (.seq false (.lstD (.cons (.var 6) (.cons (.bi .max (.cons (.lit (.int 0)) (.cons (.bin .sub (.var 6) (.lit (.int 1))) (.nil)))) (.cons (.callIO 0 0 (.cons (.lit (.int 60)) (.nil))) (.cons (.lit (.int 20000)) (.nil))))))) (eW box g m ps ws L v7 .un .un .un .un) = some ([.int L, .int x, .int d, .int 20000], eW box' g m ps ws L v7 .un .un .un .un) := by
    simp only [eW]
    generalize rL ws = RL
    simp [getS, ev_var_eq, hmx, e, i1, i2, i3, owD, slotSet, l4, seqK, -bi_max2]
  rw [evS_seq']
  show andThen (some (.nx (eW box g m ps ws L v7 .un .un .un .un))) _ = _
  rw [andThen_nx, evS_forr', hi, Option.bind_some]
  exact lp'
abbrev mR : MS := .seq sR1 (.seq sR2 (.seq sR3 (.seq sR4 (.seq sR5 (.seq sR6 (.seq sR7 (.seq sR8 sR9)))))))
theorem mR_eq : m__law_right = mR := rfl
theorem right_run {mirF : FS} (T : TR Φ mirF) (hm : MirOk mirF) {n : Nat} {box : D} (B : BxOk n box) (hn : n ≤ 5000) (g : Bool) :
    ∃ box', (evS Φ fuel m__law_right (eR box g .un .un .un)).bind endIO = some (.bl true, box') ∧ BxOk (n + 100) box' := by
  obtain ⟨m, box1, e1, B1, m1, m5⟩ := r_many (fuel := fuel) T.t0 B (by omega) g
  obtain ⟨ps, box2, e2, B2, pl, pok⟩ := r_positions (fuel := fuel) T.t0 T.t1 B1 (by omega) g m1 m5
  obtain ⟨ws, box3, e3, B3, wl, wb⟩ := r_weights (fuel := fuel) T.t0 B2 (by omega) g m5 (.im (iT ps))
  have I : Inp ps ws := ⟨pok, okW_of (wl.trans pl.symm) wb, by omega⟩
  obtain ⟨L, hu, hL⟩ := least_val I
  have e4 := r_rows (fuel := fuel) T.t2 box3 g I
  rw [wl] at e4
  have e5 := r_least (fuel := fuel) T.t3 box3 g I hL m
  have e6 := r_first (fuel := fuel) T.t3 box3 g I hL m
  have e7 := r_check (fuel := fuel) T box3 g I hu m
  obtain ⟨box4, e8, B4⟩ := r_slacks (fuel := fuel) T B3 (by omega) g I m hL (.im (fnd ws (pL ps L)))
  obtain ⟨box5, e9, B5⟩ := hm.run B4 (by omega) I hL
  rw [← T.t12] at e9
  have j1 : (Φ 12).io = true := by rw [T.t12]; exact hm.io
  have j2 : (Φ 12).ar = 5 := by rw [T.t12]; exact hm.ar
  have j3 : (Φ 12).fresh = false := by rw [T.t12]; exact hm.fr
  refine ⟨box5, ?_, B5.mono (by omega)⟩
  rw [mR_eq]
  unfold mR
  rw [evS_seq', e1, andThen_nx, evS_seq', e2, andThen_nx, evS_seq', e3, andThen_nx, evS_seq']
  show (andThen (evS Φ fuel sR4 (eS box3 g m ps ws .un .un .un)) _).bind endIO = _
  rw [e4, andThen_nx, evS_seq', e5, andThen_nx, evS_seq']
  show (andThen (evS Φ fuel sR6 (eW box3 g m ps ws L .un .un .un .un .un)) _).bind endIO = _
  rw [e6, andThen_nx, evS_seq', e7, andThen_nx, evS_seq', e8, andThen_nx]
  simp only [eW]
  generalize rL ws = RL at e9 ⊢
  generalize iT ps = PS at e9 ⊢
  generalize iT ws = WS at e9 ⊢
  generalize fnd ws (pL ps L) = f
  simp [getS, ev_var_eq, e9, j1, j2, j3, owD, slotSet, endIO, frzE]
end
noncomputable abbrev LR (mirF : FS) : Nat → FS := tbl [tkF, mxF, fsR 1 u_law_orders, fsR 2 u_law_moment, fsR 2 (u_same 4), fsR 2 (u_least_moment u_least_sum), fsR 2 (u_least_moment u_least_sum), fsR 3 u_balanced, fsR 3 u_balanced, fsR 3 u_law_loading, fsR 3 u_loading_order, fsR 3 u_loading_order, mirF]
theorem tr_of (mirF : FS) : TR (LR mirF) mirF := ⟨rfl, rfl, rfl, rfl, rfl, rfl, rfl, rfl, rfl, rfl, rfl, rfl, rfl⟩
noncomputable abbrev riF (mirF : FS) : FS := fsOf (LR mirF) (fun _ => 0) m__law_right 14 2 true false
theorem right_ok {mirF : FS} (hm : MirOk mirF) {n : Nat} {box : D} (B : BxOk n box) (hn : n ≤ 5000) (g : Bool) : ∃ box', (riF mirF).run [box, .bl g] = some (.bl true, box') ∧ BxOk (n + 100) box' := by
  obtain ⟨box', e, B'⟩ := right_run (fuel := 0) (tr_of mirF) hm B hn g
  refine ⟨box', ?_, B'⟩
  rw [fs_run, runF_io]
  exact e
end W
set_option maxHeartbeats 4000000
/-! _law_mirrored_right: the moments, the axles. -/
namespace W
open PySem PySem.Spec PyProof.Rows L2 PL
structure TM (Φ : Nat → FS) : Prop where
  t0 : Φ 0 = fsR 2 (u_least_moment u_least_sum)
  t1 : Φ 1 = fsR 2 u_law_moment
  t2 : Φ 2 = fsR 2 (u_same 4)
  t3 : Φ 3 = fsR 2 u_moment
  t4 : Φ 4 = fsR 2 u_moment
  t5 : Φ 5 = tkF
  t6 : Φ 6 = fsR 4 u_law_axles
  t7 : Φ 7 = fsR 4 u_axle_loads
  t8 : Φ 8 = fsR 4 u_axle_loads
  t9 : Φ 9 = fsR 2 u_law_add
  t10 : Φ 10 = fsR 2 u_law_mul
  t11 : Φ 11 = fsR 5 u_within_axles
  t12 : Φ 12 = fsR 5 u_within_axles
section
variable {Φ : Nat → FS} {fuel : Nat} {E : PL.Env}
theorem ev_c4 {i a b k j : Nat} {u : List D → Option D} {da db dk dj d : D} (h : Φ i = fsR 4 u) (e : u [da, db, dk, dj] = some d) (ha : getS E a = .im da) (hb : getS E b = .im db) (hk : getS E k = .im dk) (hj : getS E j = .im dj) : ev Φ (.call i (.cons (.var a) (.cons (.var b) (.cons (.var k) (.cons (.var j) .nil))))) E = some (d, .fz, E) := by
  have c := cl3 h
  have hr := run_of h e
  simp [ev_im ha, ev_im hb, ev_im hk, ev_im hj, c.io, c.ar, c.fr, hr]
theorem ev_p4 {i a b k j : Nat} {u : List D → Option D} {da db dk dj d : D} (h : Φ i = fsR 4 u) (e : u [da, db, dk, dj] = some d) (ha : getS E a = .im da) (hb : getS E b = .im db) (hk : getS E k = .im dk) (hj : getS E j = .im dj) : ev Φ (.callP i [3, 2, 1, 0] (.cons (.var j) (.cons (.var k) (.cons (.var b) (.cons (.var a) .nil))))) E = some (d, .fz, E) := by
  have c := cl3 h
  have hr := run_of h e
  simp [ev_im ha, ev_im hb, ev_im hk, ev_im hj, c.io, c.ar, c.fr, hr, permD]
theorem ev_c5 {i a b k j m : Nat} {u : List D → Option D} {da db dk dj dm d : D} (h : Φ i = fsR 5 u) (e : u [da, db, dk, dj, dm] = some d) (ha : getS E a = .im da) (hb : getS E b = .im db) (hk : getS E k = .im dk) (hj : getS E j = .im dj) (hm : getS E m = .im dm) : ev Φ (.call i (.cons (.var a) (.cons (.var b) (.cons (.var k) (.cons (.var j) (.cons (.var m) .nil)))))) E = some (d, .fz, E) := by
  have c := cl3 h
  have hr := run_of h e
  simp [ev_im ha, ev_im hb, ev_im hk, ev_im hj, ev_im hm, c.io, c.ar, c.fr, hr]
theorem ev_p5 {i a b k j m : Nat} {u : List D → Option D} {da db dk dj dm d : D} (h : Φ i = fsR 5 u) (e : u [da, db, dk, dj, dm] = some d) (ha : getS E a = .im da) (hb : getS E b = .im db) (hk : getS E k = .im dk) (hj : getS E j = .im dj) (hm : getS E m = .im dm) : ev Φ (.callP i [4, 3, 2, 1, 0] (.cons (.var m) (.cons (.var j) (.cons (.var k) (.cons (.var b) (.cons (.var a) .nil)))))) E = some (d, .fz, E) := by
  have c := cl3 h
  have hr := run_of h e
  simp [ev_im ha, ev_im hb, ev_im hk, ev_im hj, ev_im hm, c.io, c.ar, c.fr, hr, permD]
theorem same_two {i : Nat} {A B C C' : ME} {d d' : D} (t : Φ i = fsR 2 (u_same 4)) (hA : ev Φ A E = some (d, .fz, E)) (hB : ev Φ B E = some (d', .fz, E)) (hC : ev Φ C E = some (d, .fz, E)) (hC' : ev Φ C' E = some (d', .fz, E)) (hok : okL 3 d) (hok' : okL 3 d') :
    blOf (ev Φ (.not (.call i (.cons (.lstD (.cons A (.cons B .nil))) (.cons (.lstD (.cons C (.cons C' .nil))) .nil)))) E) = some (false, E) := by
  have c := cl3 t
  have l2 : 2 ≤ sizeLine := by decide
  have hr := run_of t (u_same_of (n := 4) (d := .lst [d, d']) ⟨by simp, fun x hx => by
    rcases List.mem_cons.mp hx with rfl | hx
    · exact hok
    · rw [List.mem_singleton.mp hx]
      exact hok'⟩)
  simp [hA, hB, hC, hC', c.io, c.ar, c.fr, hr, l2]
theorem same_one {i : Nat} {A C : ME} {d : D} (t : Φ i = fsR 2 (u_same 4)) (hA : ev Φ A E = some (d, .fz, E)) (hC : ev Φ C E = some (d, .fz, E)) (hok : okL 4 d) : blOf (ev Φ (.not (.call i (.cons A (.cons C .nil)))) E) = some (false, E) := by
  have c := cl3 t
  have hr := run_of t (u_same_of (n := 4) hok)
  simp [hA, hC, c.io, c.ar, c.fr, hr]
variable {ps ws : List Int} {L l r : Int}
abbrev q1 : MS := .set 5 (.bi .len (.cons (.var 1) (.nil)))
abbrev q2 : MS := .par2 6 7 (.bi .tuple (.cons (.comp [21] (.nm 21) (.seq true (.rev true (.var 1))) (.lit (.bl true)) (.neg (.var 21))) (.nil))) (.rev true (.var 2))
abbrev q3 : MS := .par2 8 9 (.call 0 (.cons (.var 6) (.cons (.var 2) (.nil)))) (.call 1 (.cons (.var 1) (.cons (.var 2) (.nil))))
abbrev q4 : MS := .ite (.or (.not (.isi [.tuple] (.var 8))) (.or (.cmp .ne (.bi .len (.cons (.var 8) (.nil))) (.lit (.int 2))) (.not (.call 2 (.cons (.sub (.var 8) (.lit (.int 0))) (.cons (.var 4) (.nil))))))) (.ret (.lit (.bl false))) (.skip)
abbrev q5 : MS := .ite (.not (.call 2 (.cons (.lstD (.cons (.call 4 (.cons (.var 1) (.cons (.var 2) (.nil)))) (.cons (.callP 3 [1, 0] (.cons (.var 7) (.cons (.var 6) (.nil)))) (.nil)))) (.cons (.lstD (.cons (.var 9) (.cons (.neg (.var 9)) (.nil)))) (.nil))))) (.ret (.lit (.bl false))) (.skip)
abbrev q6 : MS := .set 10 (.bin .sub (.callIO 5 0 (.cons (.lit (.int 40)) (.nil))) (.lit (.int 20)))
abbrev q7 : MS := .set 11 (.bin .add (.bin .add (.var 10) (.lit (.int 1))) (.callIO 5 0 (.cons (.bin .sub (.lit (.int 20)) (.var 10)) (.nil))))
abbrev q8 : MS := .set 12 (.call 6 (.cons (.var 10) (.cons (.var 11) (.cons (.var 1) (.cons (.var 2) (.nil))))))
abbrev q9 : MS := .ite (.not (.call 2 (.cons (.lstD (.cons (.call 8 (.cons (.var 10) (.cons (.var 11) (.cons (.var 1) (.cons (.var 2) (.nil)))))) (.cons (.callP 7 [3, 2, 1, 0] (.cons (.var 2) (.cons (.var 1) (.cons (.var 11) (.cons (.var 10) (.nil)))))) (.nil)))) (.cons (.lstD (.cons (.var 12) (.cons (.var 12) (.nil)))) (.nil))))) (.ret (.lit (.bl false))) (.skip)
abbrev q10 : MS := .ite (.not (.call 2 (.cons (.call 8 (.cons (.neg (.var 11)) (.cons (.neg (.var 10)) (.cons (.var 6) (.cons (.var 7) (.nil)))))) (.cons (.tupD (.cons (.sub (.var 12) (.lit (.int 1))) (.cons (.sub (.var 12) (.lit (.int 0))) (.nil)))) (.nil))))) (.ret (.lit (.bl false))) (.skip)
abbrev q11 : MS := .ite (.or (.cmp .ne (.call 9 (.cons (.sub (.var 12) (.lit (.int 0))) (.cons (.sub (.var 12) (.lit (.int 1))) (.nil)))) (.tupD (.cons (.bi .sum (.cons (.var 2) (.nil))) (.cons (.lit (.int 1)) (.nil))))) (.cmp .ne (.call 9 (.cons (.call 10 (.cons (.tupD (.cons (.var 10) (.cons (.lit (.int 1)) (.nil)))) (.cons (.sub (.var 12) (.lit (.int 0))) (.nil)))) (.cons (.call 10 (.cons (.tupD (.cons (.var 11) (.cons (.lit (.int 1)) (.nil)))) (.cons (.sub (.var 12) (.lit (.int 1))) (.nil)))) (.nil)))) (.tupD (.cons (.var 9) (.cons (.lit (.int 1)) (.nil)))))) (.ret (.lit (.bl false))) (.skip)
theorem m_1 (box : D) (ps ws : List Int) (L : Int) : evS Φ fuel q1 [.ow box, .im (iT ps), .im (iT ws), .im (rL ws), .im (.int L), .un, .un, .un, .un, .un, .un, .un, .un, .un, .un, .un, .un, .un, .un, .un, .un, .un] = some (.nx [.ow box, .im (iT ps), .im (iT ws), .im (rL ws), .im (.int L), .im (.int (ps.length : Int)), .un, .un, .un, .un, .un, .un, .un, .un, .un, .un, .un, .un, .un, .un, .un, .un]) := by
  have hln : biF .len [iT ps] = some (.int (ps.length : Int), false) := by rw [bi_len_t, List.length_map]
  generalize rL ws = RL
  generalize iT ps = PS at hln ⊢
  generalize iT ws = WS
  simp [getS, ev_var_eq, hln, -bi_len_t]
theorem m_2 (box : D) (ps ws : List Int) (L : Int) : evS Φ fuel q2 [.ow box, .im (iT ps), .im (iT ws), .im (rL ws), .im (.int L), .im (.int (ps.length : Int)), .un, .un, .un, .un, .un, .un, .un, .un, .un, .un, .un, .un, .un, .un, .un, .un] = some (.nx [.ow box, .im (iT ps), .im (iT ws), .im (rL ws), .im (.int L), .im (.int (ps.length : Int)), .im (iT (back ps)), .im (iT ws.reverse), .un, .un, .un, .un, .un, .un, .un, .un, .un, .un, .un, .un, .un, .un]) := by
  have h1 : revF true (iT ps) = some (.tup (ps.reverse.map .int), false) := by
    show some (D.tup (ps.map D.int).reverse, false) = _
    rw [List.map_reverse]
  have h2 : revF true (iT ws) = some (iT ws.reverse, false) := by
    show some (D.tup (ws.map D.int).reverse, false) = some (D.tup (ws.reverse.map D.int), false)
    rw [List.map_reverse]
  have hc : ∀ E : PL.Env, E = [.ow box, .im (iT ps), .im (iT ws), .im (rL ws), .im (.int L), .im (.int (ps.length : Int)), .un, .un, .un, .un, .un, .un, .un, .un, .un, .un, .un, .un, .un, .un, .un, .un] → compE Φ [21] (.nm 21) (.lit (.bl true)) (.neg (.var 21)) (ps.reverse.map .int) E = some ((back ps).map .int, E) := by
    intro E hE
    unfold back
    rw [List.map_map]
    refine compE_m _ _ _ rfl fun z _ => ?_
    subst hE
    refine ⟨[.ow box, .im (iT ps), .im (iT ws), .im (rL ws), .im (.int L), .im (.int (ps.length : Int)), .un, .un, .un, .un, .un, .un, .un, .un, .un, .un, .un, .un, .un, .un, .un, .im (.int z)], [.ow box, .im (iT ps), .im (iT ws), .im (rL ws), .im (.int L), .im (.int (ps.length : Int)), .un, .un, .un, .un, .un, .un, .un, .un, .un, .un, .un, .un, .un, .un, .un, .im (.int z)], rfl, ?_, rfl⟩
    simp [getS, ev_var_eq]
  have hc' := hc _ rfl
  have hs : seqK true (.tup (ps.reverse.map .int)) = some (ps.reverse.map .int) := rfl
  have hb : D.tup ((back ps).map .int) = iT (back ps) := rfl
  have htp : biF .tuple [.lst ((back ps).map .int)] = some (iT (back ps), false) := rfl
  generalize iT (back ps) = BP at htp ⊢
  generalize (back ps).map D.int = Y at hc' htp
  generalize ps.reverse.map D.int = Z at hc' hs h1
  generalize D.tup Z = TZ at hs h1
  generalize rL ws = RL at hc' ⊢
  generalize iT ws.reverse = WR at h2 ⊢
  generalize iT ps = PS at h1 hc' ⊢
  generalize iT ws = WS at h2 hc' ⊢
  simp [getS, ev_var_eq, h1, h2, hs, noOwn_cons, hc', htp]
abbrev tdD (ps ws : List Int) (L : Int) : D := .tup [.int L, fnd ws (pL (back ps) L)]
theorem m_3 (T : TM Φ) (box : D) (I : Inp ps ws) (hL : isL ps ws L) : evS Φ fuel q3 [.ow box, .im (iT ps), .im (iT ws), .im (rL ws), .im (.int L), .im (.int (ps.length : Int)), .im (iT (back ps)), .im (iT ws.reverse), .un, .un, .un, .un, .un, .un, .un, .un, .un, .un, .un, .un, .un, .un] = some (.nx [.ow box, .im (iT ps), .im (iT ws), .im (rL ws), .im (.int L), .im (.int (ps.length : Int)), .im (iT (back ps)), .im (iT ws.reverse), .im (tdD ps ws L), .im (.int (dot ps ws)), .un, .un, .un, .un, .un, .un, .un, .un, .un, .un, .un, .un]) := by
  have hu : u_least_sum [iT (back ps), iT ws] = some (.int L) := by
    obtain ⟨L', e1, e2⟩ := least_val I.back
    rw [e1, isLeast_unique e2 (least_back I hL)]
  have hA := ev_c2 (E := [.ow box, .im (iT ps), .im (iT ws), .im (rL ws), .im (.int L), .im (.int (ps.length : Int)), .im (iT (back ps)), .im (iT ws.reverse), .un, .un, .un, .un, .un, .un, .un, .un, .un, .un, .un, .un, .un, .un]) T.t0 (moment_val I.back hu) (a := 6) (b := 2) rfl rfl
  have hB := ev_c2 (E := [.ow box, .im (iT ps), .im (iT ws), .im (rL ws), .im (.int L), .im (.int (ps.length : Int)), .im (iT (back ps)), .im (iT ws.reverse), .un, .un, .un, .un, .un, .un, .un, .un, .un, .un, .un, .un, .un, .un]) T.t1 (law_moment_val I ws) (a := 1) (b := 2) rfl rfl
  rw [evS_par2', hA, keepR_fz, Option.bind_some, hB, keepR_fz, Option.bind_some]
  rfl
theorem m_4 (T : TM Φ) (box : D) (ps ws : List Int) (L : Int) : evS Φ fuel q4 [.ow box, .im (iT ps), .im (iT ws), .im (rL ws), .im (.int L), .im (.int (ps.length : Int)), .im (iT (back ps)), .im (iT ws.reverse), .im (tdD ps ws L), .im (.int (dot ps ws)), .un, .un, .un, .un, .un, .un, .un, .un, .un, .un, .un, .un] = some (.nx [.ow box, .im (iT ps), .im (iT ws), .im (rL ws), .im (.int L), .im (.int (ps.length : Int)), .im (iT (back ps)), .im (iT ws.reverse), .im (tdD ps ws L), .im (.int (dot ps ws)), .un, .un, .un, .un, .un, .un, .un, .un, .un, .un, .un, .un]) := by
  have hA : ev Φ (.sub (.var 8) (.lit (.int 0))) [.ow box, .im (iT ps), .im (iT ws), .im (rL ws), .im (.int L), .im (.int (ps.length : Int)), .im (iT (back ps)), .im (iT ws.reverse), .im (tdD ps ws L), .im (.int (dot ps ws)), .un, .un, .un, .un, .un, .un, .un, .un, .un, .un, .un, .un] = some (.int L, .fz, [.ow box, .im (iT ps), .im (iT ws), .im (rL ws), .im (.int L), .im (.int (ps.length : Int)), .im (iT (back ps)), .im (iT ws.reverse), .im (tdD ps ws L), .im (.int (dot ps ws)), .un, .un, .un, .un, .un, .un, .un, .un, .un, .un, .un, .un]) := by
    have hx : ixF (tdD ps ws L) (.int 0) = some (.int L) := (atI_nat (j := 0) rfl : atI _ ((0 : Nat) : Int) = _)
    generalize tdD ps ws L = TD at hx ⊢
    simp [getS, ev_var_eq, hx]
  have hs := same_one T.t2 hA (ev_im (i := 4) rfl) (show okL 4 (.int L) from trivial)
  have hln : biF .len [tdD ps ws L] = some (.int 2, false) := rfl
  have hi : tyB .tuple (tdD ps ws L) = true := rfl
  have hb : blOf (ev Φ (.or (.not (.isi [.tuple] (.var 8))) (.or (.cmp .ne (.bi .len (.cons (.var 8) (.nil))) (.lit (.int 2))) (.not (.call 2 (.cons (.sub (.var 8) (.lit (.int 0))) (.cons (.var 4) (.nil))))))) [.ow box, .im (iT ps), .im (iT ws), .im (rL ws), .im (.int L), .im (.int (ps.length : Int)), .im (iT (back ps)), .im (iT ws.reverse), .im (tdD ps ws L), .im (.int (dot ps ws)), .un, .un, .un, .un, .un, .un, .un, .un, .un, .un, .un, .un]) = some (false, [.ow box, .im (iT ps), .im (iT ws), .im (rL ws), .im (.int L), .im (.int (ps.length : Int)), .im (iT (back ps)), .im (iT ws.reverse), .im (tdD ps ws L), .im (.int (dot ps ws)), .un, .un, .un, .un, .un, .un, .un, .un, .un, .un, .un, .un]) := by
    generalize hX : ME.not (.call 2 (.cons (.sub (.var 8) (.lit (.int 0))) (.cons (.var 4) (.nil)))) = X at hs ⊢
    generalize tdD ps ws L = TD at hs hln hi ⊢
    cases hq : ev Φ X [.ow box, .im (iT ps), .im (iT ws), .im (rL ws), .im (.int L), .im (.int (ps.length : Int)), .im (iT (back ps)), .im (iT ws.reverse), .im TD, .im (.int (dot ps ws)), .un, .un, .un, .un, .un, .un, .un, .un, .un, .un, .un, .un] with
    | none =>
      rw [hq] at hs
      cases hs
    | some z =>
      rw [hq] at hs
      simp [getS, ev_var_eq, hi, hln, hq, hs]
  rw [evS_ite', hb, Option.bind_some]
  rfl
theorem m_5 (T : TM Φ) (box : D) (I : Inp ps ws) (told : D) : evS Φ fuel q5 [.ow box, .im (iT ps), .im (iT ws), .im (rL ws), .im (.int L), .im (.int (ps.length : Int)), .im (iT (back ps)), .im (iT ws.reverse), .im told, .im (.int (dot ps ws)), .un, .un, .un, .un, .un, .un, .un, .un, .un, .un, .un, .un] = some (.nx [.ow box, .im (iT ps), .im (iT ws), .im (rL ws), .im (.int L), .im (.int (ps.length : Int)), .im (iT (back ps)), .im (iT ws.reverse), .im told, .im (.int (dot ps ws)), .un, .un, .un, .un, .un, .un, .un, .un, .un, .un, .un, .un]) := by
  have h2 : u_moment [iT (back ps), iT ws.reverse] = some (.int (-dot ps ws)) := by
    rw [moment_val2 I.rev.back, dot_back (by rw [List.length_reverse, I.len]), List.reverse_reverse]
  have hN : ev Φ (.neg (.var 9)) [.ow box, .im (iT ps), .im (iT ws), .im (rL ws), .im (.int L), .im (.int (ps.length : Int)), .im (iT (back ps)), .im (iT ws.reverse), .im told, .im (.int (dot ps ws)), .un, .un, .un, .un, .un, .un, .un, .un, .un, .un, .un, .un] = some (.int (-dot ps ws), .fz, [.ow box, .im (iT ps), .im (iT ws), .im (rL ws), .im (.int L), .im (.int (ps.length : Int)), .im (iT (back ps)), .im (iT ws.reverse), .im told, .im (.int (dot ps ws)), .un, .un, .un, .un, .un, .un, .un, .un, .un, .un, .un, .un]) := by
    generalize dot ps ws = dv
    simp [getS, ev_var_eq]
  have hs := same_two (E := [.ow box, .im (iT ps), .im (iT ws), .im (rL ws), .im (.int L), .im (.int (ps.length : Int)), .im (iT (back ps)), .im (iT ws.reverse), .im told, .im (.int (dot ps ws)), .un, .un, .un, .un, .un, .un, .un, .un, .un, .un, .un, .un]) T.t2 (ev_c2 T.t4 (moment_val2 I) (a := 1) (b := 2) rfl rfl) (ev_p2 T.t3 h2 (a := 6) (b := 7) rfl rfl) (ev_im (i := 9) rfl) hN trivial trivial
  rw [evS_ite', hs, Option.bind_some]
  rfl
theorem m_6 (T : TM Φ) {n : Nat} {box : D} (B : BxOk n box) (hn : n ≤ 20000) (ps ws : List Int) (L : Int) (told : D) : ∃ l box', evS Φ fuel q6 [.ow box, .im (iT ps), .im (iT ws), .im (rL ws), .im (.int L), .im (.int (ps.length : Int)), .im (iT (back ps)), .im (iT ws.reverse), .im told, .im (.int (dot ps ws)), .un, .un, .un, .un, .un, .un, .un, .un, .un, .un, .un, .un] = some (.nx [.ow box', .im (iT ps), .im (iT ws), .im (rL ws), .im (.int L), .im (.int (ps.length : Int)), .im (iT (back ps)), .im (iT ws.reverse), .im told, .im (.int (dot ps ws)), .im (.int l), .un, .un, .un, .un, .un, .un, .un, .un, .un, .un, .un]) ∧ BxOk (n + 1) box' ∧ -20 ≤ l ∧ l ≤ 19 := by
  obtain ⟨d, box', e1, B', d1, d2⟩ := take_ok B (by omega) (m := 40) (by omega) (by omega)
  rw [← T.t5] at e1
  have i1 : (Φ 5).io = true := by rw [T.t5]; rfl
  have i2 : (Φ 5).ar = 2 := by rw [T.t5]; rfl
  have i3 : (Φ 5).fresh = false := by rw [T.t5]; rfl
  refine ⟨d - 20, box', ?_, B', by omega, by omega⟩
  generalize rL ws = RL
  simp [getS, ev_var_eq, e1, i1, i2, i3, owD, slotSet]
theorem m_7 (T : TM Φ) {n : Nat} {box : D} (B : BxOk n box) (hn : n ≤ 20000) (ps ws : List Int) (L : Int) (told : D) (h1 : -20 ≤ l) (h2 : l ≤ 19) : ∃ r box', evS Φ fuel q7 [.ow box, .im (iT ps), .im (iT ws), .im (rL ws), .im (.int L), .im (.int (ps.length : Int)), .im (iT (back ps)), .im (iT ws.reverse), .im told, .im (.int (dot ps ws)), .im (.int l), .un, .un, .un, .un, .un, .un, .un, .un, .un, .un, .un] = some (.nx [.ow box', .im (iT ps), .im (iT ws), .im (rL ws), .im (.int L), .im (.int (ps.length : Int)), .im (iT (back ps)), .im (iT ws.reverse), .im told, .im (.int (dot ps ws)), .im (.int l), .im (.int r), .un, .un, .un, .un, .un, .un, .un, .un, .un, .un]) ∧ BxOk (n + 1) box' ∧ Ax l r := by
  obtain ⟨d, box', e1, B', d1, d2⟩ := take_ok B (by omega) (m := 20 - l) (by omega) (by omega)
  rw [← T.t5] at e1
  have i1 : (Φ 5).io = true := by rw [T.t5]; rfl
  have i2 : (Φ 5).ar = 2 := by rw [T.t5]; rfl
  have i3 : (Φ 5).fresh = false := by rw [T.t5]; rfl
  refine ⟨l + 1 + d, box', ?_, B', by omega, by omega, by omega⟩
  generalize rL ws = RL
  simp [getS, ev_var_eq, e1, i1, i2, i3, owD, slotSet]
theorem m_8 (T : TM Φ) (box : D) (I : Inp ps ws) (a : Ax l r) (told : D) : evS Φ fuel q8 [.ow box, .im (iT ps), .im (iT ws), .im (rL ws), .im (.int L), .im (.int (ps.length : Int)), .im (iT (back ps)), .im (iT ws.reverse), .im told, .im (.int (dot ps ws)), .im (.int l), .im (.int r), .un, .un, .un, .un, .un, .un, .un, .un, .un, .un] = some (.nx [.ow box, .im (iT ps), .im (iT ws), .im (rL ws), .im (.int L), .im (.int (ps.length : Int)), .im (iT (back ps)), .im (iT ws.reverse), .im told, .im (.int (dot ps ws)), .im (.int l), .im (.int r), .im (axT (lev r ps ws) ws.sum (r - l)), .un, .un, .un, .un, .un, .un, .un, .un, .un]) := by
  have hv := ev_c4 (E := [.ow box, .im (iT ps), .im (iT ws), .im (rL ws), .im (.int L), .im (.int (ps.length : Int)), .im (iT (back ps)), .im (iT ws.reverse), .im told, .im (.int (dot ps ws)), .im (.int l), .im (.int r), .un, .un, .un, .un, .un, .un, .un, .un, .un, .un]) T.t6 (law_axles_val I a) (a := 10) (b := 11) (k := 1) (j := 2) rfl rfl rfl rfl
  rw [evS_set', hv, Option.bind_some]
  rfl
theorem okL_low {n : Nat} (x y : Int) : okL (n + 1) (lowT x y) := by
  refine ⟨by simp, fun z hz => ?_⟩
  rcases List.mem_cons.mp hz with rfl | hz
  · cases n <;> trivial
  · rw [List.mem_singleton.mp hz]
    cases n <;> trivial
theorem okL_two {n : Nat} (x y z u : Int) : okL (n + 2) (.tup [lowT x y, lowT z u]) := by
  refine ⟨by simp, fun z hz => ?_⟩
  rcases List.mem_cons.mp hz with rfl | hz
  · exact okL_low _ _
  · rw [List.mem_singleton.mp hz]
    exact okL_low _ _
theorem m_9 (T : TM Φ) (box : D) (I : Inp ps ws) (a : Ax l r) (told : D) : evS Φ fuel q9 [.ow box, .im (iT ps), .im (iT ws), .im (rL ws), .im (.int L), .im (.int (ps.length : Int)), .im (iT (back ps)), .im (iT ws.reverse), .im told, .im (.int (dot ps ws)), .im (.int l), .im (.int r), .im (axT (lev r ps ws) ws.sum (r - l)), .un, .un, .un, .un, .un, .un, .un, .un, .un] = some (.nx [.ow box, .im (iT ps), .im (iT ws), .im (rL ws), .im (.int L), .im (.int (ps.length : Int)), .im (iT (back ps)), .im (iT ws.reverse), .im told, .im (.int (dot ps ws)), .im (.int l), .im (.int r), .im (axT (lev r ps ws) ws.sum (r - l)), .un, .un, .un, .un, .un, .un, .un, .un, .un]) := by
  have hv := axle_val I a
  have hs := same_pair (E := [.ow box, .im (iT ps), .im (iT ws), .im (rL ws), .im (.int L), .im (.int (ps.length : Int)), .im (iT (back ps)), .im (iT ws.reverse), .im told, .im (.int (dot ps ws)), .im (.int l), .im (.int r), .im (axT (lev r ps ws) ws.sum (r - l)), .un, .un, .un, .un, .un, .un, .un, .un, .un]) T.t2 (ev_c4 T.t8 hv (a := 10) (b := 11) (k := 1) (j := 2) rfl rfl rfl rfl) (ev_p4 T.t7 hv (a := 10) (b := 11) (k := 1) (j := 2) rfl rfl rfl rfl) (ev_im (i := 12) rfl) (ev_im (i := 12) rfl) (okL_two _ _ _ _)
  rw [evS_ite', hs, Option.bind_some]
  rfl
theorem ax_0 (N S W : Int) : ixF (axT N S W) (.int 0) = some (lowT N W) := (atI_nat (j := 0) rfl : atI _ ((0 : Nat) : Int) = _)
theorem ax_1 (N S W : Int) : ixF (axT N S W) (.int 1) = some (lowT (S * W - N) W) := (atI_nat (j := 1) rfl : atI _ ((1 : Nat) : Int) = _)
theorem m_10 (T : TM Φ) (box : D) (I : Inp ps ws) (a : Ax l r) (told : D) : evS Φ fuel q10 [.ow box, .im (iT ps), .im (iT ws), .im (rL ws), .im (.int L), .im (.int (ps.length : Int)), .im (iT (back ps)), .im (iT ws.reverse), .im told, .im (.int (dot ps ws)), .im (.int l), .im (.int r), .im (axT (lev r ps ws) ws.sum (r - l)), .un, .un, .un, .un, .un, .un, .un, .un, .un] = some (.nx [.ow box, .im (iT ps), .im (iT ws), .im (rL ws), .im (.int L), .im (.int (ps.length : Int)), .im (iT (back ps)), .im (iT ws.reverse), .im told, .im (.int (dot ps ws)), .im (.int l), .im (.int r), .im (axT (lev r ps ws) ws.sum (r - l)), .un, .un, .un, .un, .un, .un, .un, .un, .un]) := by
  have hv := run_of T.t8 (axle_mirror I a)
  have c := cl3 T.t8
  have hA : ev Φ (.call 8 (.cons (.neg (.var 11)) (.cons (.neg (.var 10)) (.cons (.var 6) (.cons (.var 7) (.nil)))))) [.ow box, .im (iT ps), .im (iT ws), .im (rL ws), .im (.int L), .im (.int (ps.length : Int)), .im (iT (back ps)), .im (iT ws.reverse), .im told, .im (.int (dot ps ws)), .im (.int l), .im (.int r), .im (axT (lev r ps ws) ws.sum (r - l)), .un, .un, .un, .un, .un, .un, .un, .un, .un] = some (.tup [lowT (ws.sum * (r - l) - lev r ps ws) (r - l), lowT (lev r ps ws) (r - l)], .fz, [.ow box, .im (iT ps), .im (iT ws), .im (rL ws), .im (.int L), .im (.int (ps.length : Int)), .im (iT (back ps)), .im (iT ws.reverse), .im told, .im (.int (dot ps ws)), .im (.int l), .im (.int r), .im (axT (lev r ps ws) ws.sum (r - l)), .un, .un, .un, .un, .un, .un, .un, .un, .un]) := by
    generalize axT (lev r ps ws) ws.sum (r - l) = AX
    generalize lowT (ws.sum * (r - l) - lev r ps ws) (r - l) = f1 at hv ⊢
    generalize lowT (lev r ps ws) (r - l) = f2 at hv ⊢
    generalize iT (back ps) = BP at hv ⊢
    generalize iT ws.reverse = WR at hv ⊢
    generalize iT ps = PS
    generalize iT ws = WS
    generalize rL ws = RL
    simp [getS, ev_var_eq, c.io, c.ar, c.fr, hv]
  have hC : ev Φ (.tupD (.cons (.sub (.var 12) (.lit (.int 1))) (.cons (.sub (.var 12) (.lit (.int 0))) (.nil)))) [.ow box, .im (iT ps), .im (iT ws), .im (rL ws), .im (.int L), .im (.int (ps.length : Int)), .im (iT (back ps)), .im (iT ws.reverse), .im told, .im (.int (dot ps ws)), .im (.int l), .im (.int r), .im (axT (lev r ps ws) ws.sum (r - l)), .un, .un, .un, .un, .un, .un, .un, .un, .un] = some (.tup [lowT (ws.sum * (r - l) - lev r ps ws) (r - l), lowT (lev r ps ws) (r - l)], .fz, [.ow box, .im (iT ps), .im (iT ws), .im (rL ws), .im (.int L), .im (.int (ps.length : Int)), .im (iT (back ps)), .im (iT ws.reverse), .im told, .im (.int (dot ps ws)), .im (.int l), .im (.int r), .im (axT (lev r ps ws) ws.sum (r - l)), .un, .un, .un, .un, .un, .un, .un, .un, .un]) := by
    have x0 := ax_0 (lev r ps ws) ws.sum (r - l)
    have x1 := ax_1 (lev r ps ws) ws.sum (r - l)
    have l2 : 2 ≤ sizeLine := by decide
    generalize axT (lev r ps ws) ws.sum (r - l) = AX at x0 x1 ⊢
    generalize lowT (ws.sum * (r - l) - lev r ps ws) (r - l) = f1 at x1 ⊢
    generalize lowT (lev r ps ws) (r - l) = f2 at x0 ⊢
    generalize rL ws = RL
    simp [getS, ev_var_eq, x0, x1, l2]
  have hs := same_one T.t2 hA hC (okL_two _ _ _ _)
  rw [evS_ite', hs, Option.bind_some]
  rfl
theorem ne_pair (a b : Int) : cmpF .ne (.tup [.int a, .int b]) (.tup [.int a, .int b]) = some false := by
  show (eqF (.tup [.int a, .int b]) (.tup [.int a, .int b])).map (!·) = _
  unfold eqF
  rw [if_pos ⟨rfl, rfl⟩]
  simp [toP, toPL, PyData.eqv, PyData.eqvAll]
theorem m_11 (T : TM Φ) (box : D) (I : Inp ps ws) (a : Ax l r) (told : D) : evS Φ fuel q11 [.ow box, .im (iT ps), .im (iT ws), .im (rL ws), .im (.int L), .im (.int (ps.length : Int)), .im (iT (back ps)), .im (iT ws.reverse), .im told, .im (.int (dot ps ws)), .im (.int l), .im (.int r), .im (axT (lev r ps ws) ws.sum (r - l)), .un, .un, .un, .un, .un, .un, .un, .un, .un] = some (.nx [.ow box, .im (iT ps), .im (iT ws), .im (rL ws), .im (.int L), .im (.int (ps.length : Int)), .im (iT (back ps)), .im (iT ws.reverse), .im told, .im (.int (dot ps ws)), .im (.int l), .im (.int r), .im (axT (lev r ps ws) ws.sum (r - l)), .un, .un, .un, .un, .un, .un, .un, .un, .un]) := by
  have t := Two.of I a
  have l2 : 2 ≤ sizeLine := by decide
  have x0 := ax_0 (lev r ps ws) ws.sum (r - l)
  have x1 := ax_1 (lev r ps ws) ws.sum (r - l)
  have r1 := run_of T.t9 (add_all t)
  obtain ⟨x, y, u1, u2, u3⟩ := add_moment t (lev_eq r I.len.symm)
  have r2 := run_of T.t10 u1
  have r3 := run_of T.t10 u2
  have r4 := run_of T.t9 u3
  have c9 := cl3 T.t9
  have c10 := cl3 T.t10
  have n1 := ne_pair ws.sum 1
  have n2 := ne_pair (dot ps ws) 1
  have hsum : biF .sum [iT ws] = some (.int ws.sum, false) := bi_sum (intsD_map ws)
  have hb : blOf (ev Φ (.or (.cmp .ne (.call 9 (.cons (.sub (.var 12) (.lit (.int 0))) (.cons (.sub (.var 12) (.lit (.int 1))) (.nil)))) (.tupD (.cons (.bi .sum (.cons (.var 2) (.nil))) (.cons (.lit (.int 1)) (.nil))))) (.cmp .ne (.call 9 (.cons (.call 10 (.cons (.tupD (.cons (.var 10) (.cons (.lit (.int 1)) (.nil)))) (.cons (.sub (.var 12) (.lit (.int 0))) (.nil)))) (.cons (.call 10 (.cons (.tupD (.cons (.var 11) (.cons (.lit (.int 1)) (.nil)))) (.cons (.sub (.var 12) (.lit (.int 1))) (.nil)))) (.nil)))) (.tupD (.cons (.var 9) (.cons (.lit (.int 1)) (.nil)))))) [.ow box, .im (iT ps), .im (iT ws), .im (rL ws), .im (.int L), .im (.int (ps.length : Int)), .im (iT (back ps)), .im (iT ws.reverse), .im told, .im (.int (dot ps ws)), .im (.int l), .im (.int r), .im (axT (lev r ps ws) ws.sum (r - l)), .un, .un, .un, .un, .un, .un, .un, .un, .un]) = some (false, [.ow box, .im (iT ps), .im (iT ws), .im (rL ws), .im (.int L), .im (.int (ps.length : Int)), .im (iT (back ps)), .im (iT ws.reverse), .im told, .im (.int (dot ps ws)), .im (.int l), .im (.int r), .im (axT (lev r ps ws) ws.sum (r - l)), .un, .un, .un, .un, .un, .un, .un, .un, .un]) := by
    clear u1 u2 u3
    generalize axT (lev r ps ws) ws.sum (r - l) = AX at x0 x1 ⊢
    generalize lowT (ws.sum * (r - l) - lev r ps ws) (r - l) = f1 at x1 r1 r3
    generalize lowT (lev r ps ws) (r - l) = f2 at x0 r1 r2
    generalize ws.sum = S at r1 n1 hsum
    generalize dot ps ws = dv at r4 n2 ⊢
    generalize rL ws = RL
    generalize iT ws = WS at hsum ⊢
    simp [getS, ev_var_eq, x0, x1, r1, r2, r3, r4, c9.io, c9.ar, c9.fr, c10.io, c10.ar, c10.fr, n1, n2, hsum, l2]
  rw [evS_ite', hb, Option.bind_some]
  rfl
end
end W
set_option maxHeartbeats 4000000
/-! _law_mirrored_right: the rows that both axles bear. -/
namespace W
open PySem PySem.Spec PyProof.Rows L2 PL
section
variable {Φ : Nat → FS} {fuel : Nat} {ps ws : List Int} {L l r : Int}
/-- a row with what its axles bear, rounded up -/
def stB (N M W : Int) : Bool := decide (0 ≤ lo1 N W) && decide (0 ≤ lo1 M W)
def bD (ps ws : List Int) (l r : Int) (q : List Int) : D := .tup [PL.rowD q, .int (ceil0 (lev r ps q) (r - l)), .int (ceil0 (ws.sum * (r - l) - lev r ps q) (r - l)), .bl (stB (lev r ps q) (ws.sum * (r - l) - lev r ps q) (r - l))]
abbrev tB : MT := .tp (.cons (.nm 17) (.cons (.nm 18) (.nil)))
abbrev upE (i : Nat) : ME := .bi .max (.cons (.lit (.int 0)) (.cons (.neg (.bin .fdiv (.neg (.sub (.var i) (.lit (.int 0)))) (.sub (.var i) (.lit (.int 1))))) (.nil)))
abbrev stE : ME := .and (.cmp .ge (.sub (.var 17) (.lit (.int 0))) (.lit (.int 0))) (.cmp .ge (.sub (.var 18) (.lit (.int 0))) (.lit (.int 0)))
abbrev bM1 : MS := .unp tB (.call 6 (.cons (.var 10) (.cons (.var 11) (.cons (.var 1) (.cons (.var 14) (.nil))))))
abbrev bM2 : MS := .app 13 (.tupD (.cons (.var 14) (.cons (upE 17) (.cons (upE 18) (.cons stE (.nil))))))
abbrev bM : MS := .seq bM1 (.seq bM2 (.seq (.kill [14, 17, 18]) .skip))
theorem ev_tup4 {E : PL.Env} {A B C C' : ME} {a b c d : D} (hA : ev Φ A E = some (a, .fz, E)) (hB : ev Φ B E = some (b, .fz, E)) (hC : ev Φ C E = some (c, .fz, E)) (hD : ev Φ C' E = some (d, .fz, E)) : ev Φ (.tupD (.cons A (.cons B (.cons C (.cons C' .nil))))) E = some (.tup [a, b, c, d], .fz, E) := by
  have l4 : 4 ≤ sizeLine := by decide
  simp [hA, hB, hC, hD, l4]
theorem ev_app {E : PL.Env} {i : Nat} {m : ME} {d : D} {xs : List D} (h : ev Φ m E = some (d, .fz, E)) (ho : getS E i = .ow (.lst xs)) (hl : xs.length < sizeLine) : evS Φ fuel (.app i m) E = some (.nx (E.set i (.ow (.lst (xs ++ [d]))))) := by
  simp [owL_of ho, h, hl, slotSet]
theorem ev_up {E : PL.Env} {i : Nat} {n d g : Int} (Lw : Low n d g) (hd : d ≤ 1000000) (h : getS E i = .im (lowT n d)) : ev Φ (upE i) E = some (.int (ceil0 n d), .fz, E) := by
  have hb := Lw.b
  have hbl := Lw.bl
  have x0 := pair0 (lo1 n d) (lo2 n d)
  have x1 := pair1 (lo1 n d) (lo2 n d)
  have hdv : binF .fdiv (.int (-(lo1 n d))) (.int (lo2 n d)) = some (.int (-(lo1 n d) / lo2 n d), false) := bin_fdiv hb (B64_big (by omega))
  have hm : biF .max [.int 0, .int (-(-(lo1 n d) / lo2 n d))] = some (.int (ceil0 n d), false) := bi_max2 _ _
  have hv := ev_im (Φ := Φ) h
  rw [lowT_eq] at hv
  generalize ceil0 n d = cc at hm ⊢
  generalize -(lo1 n d) / lo2 n d = q at hdv hm
  generalize D.tup [.int (lo1 n d), .int (lo2 n d)] = FR at x0 x1 hv
  have hm' : biF .max [.int 0, .int (-q)] = some (.int cc, false) := hm
  simp [hv, x0, x1, hdv, hm', -bi_max2]
theorem ev_st {E : PL.Env} {n d n' d' : Int} (h : getS E 17 = .im (lowT n d)) (h' : getS E 18 = .im (lowT n' d')) : ev Φ stE E = some (.bl (decide (0 ≤ lo1 n d) && decide (0 ≤ lo1 n' d')), .fz, E) := by
  have x0 := pair0 (lo1 n d) (lo2 n d)
  have x1 := pair0 (lo1 n' d') (lo2 n' d')
  have hv := ev_im (Φ := Φ) h
  have hv' := ev_im (Φ := Φ) h'
  have c1 : cmpF .ge (.int (lo1 n d)) (.int 0) = some (decide (0 ≤ lo1 n d)) := cmpF_ge_int _ _
  have c2 : cmpF .ge (.int (lo1 n' d')) (.int 0) = some (decide (0 ≤ lo1 n' d')) := cmpF_ge_int _ _
  rw [lowT_eq] at hv hv'
  generalize decide (0 ≤ lo1 n d) = b1 at c1 ⊢
  generalize decide (0 ≤ lo1 n' d') = b2 at c2 ⊢
  generalize D.tup [.int (lo1 n d), .int (lo2 n d)] = FR at x0 hv
  generalize D.tup [.int (lo1 n' d'), .int (lo2 n' d')] = FR' at x1 hv'
  generalize lo1 n d = a at x0 c1
  generalize lo1 n' d' = a' at x1 c2
  cases b1 <;> simp [hv, hv', x0, x1, c1, c2, -cmpF_ge_int]
theorem b_turn (t6 : Φ 6 = fsR 4 u_law_axles) (box : D) (I : Inp ps ws) (a : Ax l r) (w5 w6 w7 w8 w9 w12 : PL.Sl) (acc : List (List Int)) (hacc : acc.length ≤ 10000) {q : List Int} (hq : q ∈ Rs ws) :
    evS Φ fuel bM [.ow box, .im (iT ps), .im (iT ws), .im (rL ws), .im (.int L), w5, w6, w7, w8, w9, .im (.int l), .im (.int r), w12, .ow (.lst (acc.map (bD ps ws l r))), .im (PL.rowD q), .un, .un, .un, .un, .un, .un, .un] = some (.nx [.ow box, .im (iT ps), .im (iT ws), .im (rL ws), .im (.int L), w5, w6, w7, w8, w9, .im (.int l), .im (.int r), w12, .ow (.lst ((acc ++ [q]).map (bD ps ws l r))), .un, .un, .un, .un, .un, .un, .un, .un]) := by
  have Iq := I.perm (mem_Rs.mp hq)
  have hS : q.sum = ws.sum := sum_perm' (mem_Rs.mp hq)
  have h1 := a.l1
  have h2 := a.l2
  have h3 := a.r2
  obtain ⟨g1, L1⟩ := low_ex (n := lev r ps q) (d := r - l) (by omega)
  obtain ⟨g2, L2⟩ := low_ex (n := ws.sum * (r - l) - lev r ps q) (d := r - l) (by omega)
  have hv := ev_c4 (E := [.ow box, .im (iT ps), .im (iT ws), .im (rL ws), .im (.int L), w5, w6, w7, w8, w9, .im (.int l), .im (.int r), w12, .ow (.lst (acc.map (bD ps ws l r))), .im (PL.rowD q), .un, .un, .un, .un, .un, .un, .un]) t6 (law_axles_val Iq a) (a := 10) (b := 11) (k := 1) (j := 14) rfl rfl rfl rfl
  rw [hS] at hv
  have p1 : evS Φ fuel bM1 [.ow box, .im (iT ps), .im (iT ws), .im (rL ws), .im (.int L), w5, w6, w7, w8, w9, .im (.int l), .im (.int r), w12, .ow (.lst (acc.map (bD ps ws l r))), .im (PL.rowD q), .un, .un, .un, .un, .un, .un, .un] = some (.nx [.ow box, .im (iT ps), .im (iT ws), .im (rL ws), .im (.int L), w5, w6, w7, w8, w9, .im (.int l), .im (.int r), w12, .ow (.lst (acc.map (bD ps ws l r))), .im (PL.rowD q), .un, .un, .im (lowT (lev r ps q) (r - l)), .im (lowT (ws.sum * (r - l) - lev r ps q) (r - l)), .un, .un, .un]) := by
    rw [evS_unp', hv, fw_fz, Option.bind_some]
    rfl
  have v14 : ev Φ (.var 14) [.ow box, .im (iT ps), .im (iT ws), .im (rL ws), .im (.int L), w5, w6, w7, w8, w9, .im (.int l), .im (.int r), w12, .ow (.lst (acc.map (bD ps ws l r))), .im (PL.rowD q), .un, .un, .im (lowT (lev r ps q) (r - l)), .im (lowT (ws.sum * (r - l) - lev r ps q) (r - l)), .un, .un, .un] = some (PL.rowD q, .fz, [.ow box, .im (iT ps), .im (iT ws), .im (rL ws), .im (.int L), w5, w6, w7, w8, w9, .im (.int l), .im (.int r), w12, .ow (.lst (acc.map (bD ps ws l r))), .im (PL.rowD q), .un, .un, .im (lowT (lev r ps q) (r - l)), .im (lowT (ws.sum * (r - l) - lev r ps q) (r - l)), .un, .un, .un]) := ev_im rfl
  have v17 := ev_up (Φ := Φ) (E := [.ow box, .im (iT ps), .im (iT ws), .im (rL ws), .im (.int L), w5, w6, w7, w8, w9, .im (.int l), .im (.int r), w12, .ow (.lst (acc.map (bD ps ws l r))), .im (PL.rowD q), .un, .un, .im (lowT (lev r ps q) (r - l)), .im (lowT (ws.sum * (r - l) - lev r ps q) (r - l)), .un, .un, .un]) (i := 17) L1 (by omega) rfl
  have v18 := ev_up (Φ := Φ) (E := [.ow box, .im (iT ps), .im (iT ws), .im (rL ws), .im (.int L), w5, w6, w7, w8, w9, .im (.int l), .im (.int r), w12, .ow (.lst (acc.map (bD ps ws l r))), .im (PL.rowD q), .un, .un, .im (lowT (lev r ps q) (r - l)), .im (lowT (ws.sum * (r - l) - lev r ps q) (r - l)), .un, .un, .un]) (i := 18) L2 (by omega) rfl
  have vst := ev_st (Φ := Φ) (E := [.ow box, .im (iT ps), .im (iT ws), .im (rL ws), .im (.int L), w5, w6, w7, w8, w9, .im (.int l), .im (.int r), w12, .ow (.lst (acc.map (bD ps ws l r))), .im (PL.rowD q), .un, .un, .im (lowT (lev r ps q) (r - l)), .im (lowT (ws.sum * (r - l) - lev r ps q) (r - l)), .un, .un, .un]) (n := lev r ps q) (d := r - l) (n' := ws.sum * (r - l) - lev r ps q) (d' := r - l) rfl rfl
  have hbd : bD ps ws l r q = .tup [PL.rowD q, .int (ceil0 (lev r ps q) (r - l)), .int (ceil0 (ws.sum * (r - l) - lev r ps q) (r - l)), .bl (decide (0 ≤ lo1 (lev r ps q) (r - l)) && decide (0 ≤ lo1 (ws.sum * (r - l) - lev r ps q) (r - l)))] := rfl
  have l4 : 4 ≤ sizeLine := by decide
  have hal : (acc.map (bD ps ws l r)).length < sizeLine := by
    rw [List.length_map]
    exact Nat.lt_of_lt_of_le (show acc.length < 16777216 by omega) line24
  have p2 : evS Φ fuel bM2 [.ow box, .im (iT ps), .im (iT ws), .im (rL ws), .im (.int L), w5, w6, w7, w8, w9, .im (.int l), .im (.int r), w12, .ow (.lst (acc.map (bD ps ws l r))), .im (PL.rowD q), .un, .un, .im (lowT (lev r ps q) (r - l)), .im (lowT (ws.sum * (r - l) - lev r ps q) (r - l)), .un, .un, .un] = some (.nx [.ow box, .im (iT ps), .im (iT ws), .im (rL ws), .im (.int L), w5, w6, w7, w8, w9, .im (.int l), .im (.int r), w12, .ow (.lst ((acc ++ [q]).map (bD ps ws l r))), .im (PL.rowD q), .un, .un, .im (lowT (lev r ps q) (r - l)), .im (lowT (ws.sum * (r - l) - lev r ps q) (r - l)), .un, .un, .un]) := by
    have := ev_app (fuel := fuel) (i := 13) (ev_tup4 v14 v17 v18 vst) rfl hal
    rw [← hbd] at this
    rw [List.map_append, List.map_cons, List.map_nil]
    exact this
  rw [evS_seq', p1, andThen_nx, evS_seq', p2, andThen_nx]
  rfl
theorem b_loop (t6 : Φ 6 = fsR 4 u_law_axles) (box : D) (I : Inp ps ws) (a : Ax l r) (w5 w6 w7 w8 w9 w12 : PL.Sl) : ∀ (rows acc : List (List Int)), (∀ q ∈ rows, q ∈ Rs ws) → acc.length + rows.length ≤ 10000 →
    forE Φ fuel (.nm 14) bM (rows.map PL.rowD) [.ow box, .im (iT ps), .im (iT ws), .im (rL ws), .im (.int L), w5, w6, w7, w8, w9, .im (.int l), .im (.int r), w12, .ow (.lst (acc.map (bD ps ws l r))), .un, .un, .un, .un, .un, .un, .un, .un] = some (.nx [.ow box, .im (iT ps), .im (iT ws), .im (rL ws), .im (.int L), w5, w6, w7, w8, w9, .im (.int l), .im (.int r), w12, .ow (.lst ((acc ++ rows).map (bD ps ws l r))), .un, .un, .un, .un, .un, .un, .un, .un])
  | [], acc, _, _ => by
    rw [List.append_nil]
    rfl
  | q :: rows, acc, hr, hn => by
    rw [List.length_cons] at hn
    have ea : asgT (.nm 14) (PL.rowD q) [.ow box, .im (iT ps), .im (iT ws), .im (rL ws), .im (.int L), w5, w6, w7, w8, w9, .im (.int l), .im (.int r), w12, .ow (.lst (acc.map (bD ps ws l r))), .un, .un, .un, .un, .un, .un, .un, .un] = some [.ow box, .im (iT ps), .im (iT ws), .im (rL ws), .im (.int L), w5, w6, w7, w8, w9, .im (.int l), .im (.int r), w12, .ow (.lst (acc.map (bD ps ws l r))), .im (PL.rowD q), .un, .un, .un, .un, .un, .un, .un] := rfl
    have ih := b_loop t6 box I a w5 w6 w7 w8 w9 w12 rows (acc ++ [q]) (fun z hz => hr z (List.mem_cons_of_mem _ hz)) (by rw [List.length_append, List.length_singleton]; omega)
    rw [List.append_assoc] at ih
    rw [List.map_cons, forE_cons, ea, Option.bind_some, b_turn t6 box I a w5 w6 w7 w8 w9 w12 acc (by omega) (hr q List.mem_cons_self)]
    exact ih
abbrev q12 : MS := .set 13 (.lstD (.nil))
abbrev q13 : MS := .seq (.kill [14, 17, 18]) (.forr (.nm 14) (.seq false (.var 3)) bM)
def bLst (ps ws : List Int) (l r : Int) : D := .lst ((Rs ws).map (bD ps ws l r))
theorem Rs_120 (I : Inp ps ws) : (Rs ws).length ≤ 120 := by
  have h5 := I.h5
  have hl := I.len
  have h := orders_120 (n := ws.length) (by omega)
  have hn : (Rs ws).Nodup := List.Pairwise.imp (fun {a b} (q : a < b) (e : a = b) => List.lt_irrefl b (by rw [e] at q; exact q)) (Rs_rising ws)
  have hs : (Rs ws).length ≤ ((orders ws.length ws.length).map fun o => o.map (ati ws)).length := by
    have sub : ∀ {l m : List (List Int)}, l.Nodup → (∀ x ∈ l, x ∈ m) → l.length ≤ m.length := by
      intro l
      induction l with
      | nil => exact fun _ _ => Nat.zero_le _
      | cons x l ih =>
        intro m hnd hm
        obtain ⟨n1, n2⟩ := List.nodup_cons.mp hnd
        have hx := hm x List.mem_cons_self
        have := ih (m := m.erase x) n2 fun y hy => (List.mem_erase_of_ne fun e => n1 (by rw [e] at hy; exact hy)).mpr (hm y (List.mem_cons_of_mem _ hy))
        rw [List.length_erase_of_mem hx] at this
        have := List.length_pos_of_mem hx
        rw [List.length_cons]
        omega
    exact sub hn fun x hx => orders_rows.mpr hx
  rw [List.length_map] at hs
  omega
theorem m_12 (box : D) (w5 w6 w7 w8 w9 w12 : PL.Sl) : evS Φ fuel q12 [.ow box, .im (iT ps), .im (iT ws), .im (rL ws), .im (.int L), w5, w6, w7, w8, w9, .im (.int l), .im (.int r), w12, .un, .un, .un, .un, .un, .un, .un, .un, .un] = some (.nx [.ow box, .im (iT ps), .im (iT ws), .im (rL ws), .im (.int L), w5, w6, w7, w8, w9, .im (.int l), .im (.int r), w12, .ow (.lst []), .un, .un, .un, .un, .un, .un, .un, .un]) := by
  have l0 : 0 ≤ sizeLine := Nat.zero_le _
  generalize rL ws = RL
  simp [l0]
theorem m_13 (t6 : Φ 6 = fsR 4 u_law_axles) (box : D) (I : Inp ps ws) (a : Ax l r) (w5 w6 w7 w8 w9 w12 : PL.Sl) : evS Φ fuel q13 [.ow box, .im (iT ps), .im (iT ws), .im (rL ws), .im (.int L), w5, w6, w7, w8, w9, .im (.int l), .im (.int r), w12, .ow (.lst []), .un, .un, .un, .un, .un, .un, .un, .un] = some (.nx [.ow box, .im (iT ps), .im (iT ws), .im (rL ws), .im (.int L), w5, w6, w7, w8, w9, .im (.int l), .im (.int r), w12, .ow (bLst ps ws l r), .un, .un, .un, .un, .un, .un, .un, .un]) := by
  have h120 := Rs_120 I
  have lp := b_loop (fuel := fuel) (L := L) t6 box I a w5 w6 w7 w8 w9 w12 (Rs ws) [] (fun q hq => hq) (by rw [List.length_nil]; omega)
  rw [List.nil_append, List.map_nil] at lp
  have hsq := seq_rL ws
  have lp' : forE Φ fuel (.nm 14) bM ((Rs ws).map PL.rowD) [.ow box, .im (iT ps), .im (iT ws), .im (rL ws), .im (.int L), w5, w6, w7, w8, w9, .im (.int l), .im (.int r), w12, .ow (.lst []), .un, .un, .un, .un, .un, .un, .un, .un] = some (.nx [.ow box, .im (iT ps), .im (iT ws), .im (rL ws), .im (.int L), w5, w6, w7, w8, w9, .im (.int l), .im (.int r), w12, .ow (bLst ps ws l r), .un, .un, .un, .un, .un, .un, .un, .un]) := lp
  generalize (Rs ws).map PL.rowD = Z at lp' hsq
  generalize bLst ps ws l r = BL at lp' ⊢
  generalize rL ws = RL at lp' hsq ⊢
  simp [getS, ev_var_eq, hsq, lp']
abbrev q14 : MS := .set 15 (.sub (.var 13) (.callIO 5 0 (.cons (.bi .len (.cons (.var 13) (.nil))) (.nil))))
theorem m_14 (t5 : Φ 5 = tkF) {n : Nat} {box : D} (B : BxOk n box) (hn : n ≤ 20000) (I : Inp ps ws) (w5 w6 w7 w8 w9 w12 : PL.Sl) : ∃ q box', q ∈ Rs ws ∧ evS Φ fuel q14 [.ow box, .im (iT ps), .im (iT ws), .im (rL ws), .im (.int L), w5, w6, w7, w8, w9, .im (.int l), .im (.int r), w12, .ow (bLst ps ws l r), .un, .un, .un, .un, .un, .un, .un, .un] = some (.nx [.ow box', .im (iT ps), .im (iT ws), .im (rL ws), .im (.int L), w5, w6, w7, w8, w9, .im (.int l), .im (.int r), w12, .ow (bLst ps ws l r), .un, .im (bD ps ws l r q), .un, .un, .un, .un, .un, .un]) ∧ BxOk (n + 1) box' := by
  have h120 := Rs_120 I
  have hpos : 0 < (Rs ws).length := List.length_pos_iff.mpr (Rs_ne ws)
  obtain ⟨d, box', e1, B', d1, d2⟩ := take_ok B (by omega) (m := ((Rs ws).length : Int)) (by omega) (by omega)
  rw [← t5] at e1
  have i1 : (Φ 5).io = true := by rw [t5]; rfl
  have i2 : (Φ 5).ar = 2 := by rw [t5]; rfl
  have i3 : (Φ 5).fresh = false := by rw [t5]; rfl
  obtain ⟨j, rfl⟩ := Int.eq_ofNat_of_zero_le d1
  have hj : j < (Rs ws).length := by omega
  have hx : ixF (bLst ps ws l r) (.int (j : Int)) = some (bD ps ws l r (Rs ws)[j]) := by
    show atI ((Rs ws).map (bD ps ws l r)) (j : Int) = _
    exact atI_nat (by rw [List.getElem?_map, List.getElem?_eq_getElem hj]; rfl)
  have hln : biF .len [bLst ps ws l r] = some (.int ((Rs ws).length : Int), false) := by
    show biF .len [.lst ((Rs ws).map (bD ps ws l r))] = _
    rw [bi_len_l, List.length_map]
  refine ⟨(Rs ws)[j], box', List.getElem_mem hj, ?_, B'⟩
  generalize bD ps ws l r (Rs ws)[j] = bb at hx ⊢
  generalize ((Rs ws).length : Int) = nn at e1 hln
  generalize (j : Int) = jj at e1 hx
  generalize bLst ps ws l r = BL at hx hln ⊢
  generalize rL ws = RL
  simp [getS, ev_var_eq, hln, e1, i1, i2, i3, owD, slotSet, hx]
abbrev tC : MT := .tp (.cons (.nm 14) (.cons (.nm 17) (.cons (.nm 18) (.cons (.nm 20) (.nil)))))
abbrev cC : ME := .and (.var 20) (.and (.cmp .le (.var 17) (.sub (.var 16) (.lit (.int 0)))) (.cmp .le (.var 18) (.sub (.var 16) (.lit (.int 1)))))
abbrev bN1 : MS := .set 19 (.comp [14, 17, 18, 20] tC (.seq false (.var 13)) cC (.var 14))
abbrev bN2 : MS := .set 12 (.ife (.cmp .ne (.var 19) (.lstD (.nil))) (.sub (.var 19) (.lit (.int 0))) (.lit .non))
abbrev bN3 : MS := .ite (.not (.call 2 (.cons (.lstD (.cons (.call 12 (.cons (.var 10) (.cons (.var 11) (.cons (.var 1) (.cons (.var 2) (.cons (.var 16) (.nil))))))) (.cons (.callP 11 [4, 3, 2, 1, 0] (.cons (.var 16) (.cons (.var 2) (.cons (.var 1) (.cons (.var 11) (.cons (.var 10) (.nil))))))) (.nil)))) (.cons (.lstD (.cons (.var 12) (.cons (.var 12) (.nil)))) (.nil))))) (.ret (.lit (.bl false))) (.skip)
abbrev bN : MS := .seq bN1 (.seq bN2 (.seq bN3 (.seq (.kill [16, 19, 12]) .skip)))
abbrev pW (ps ws : List Int) (l r l0 l1 : Int) (q : List Int) : Bool := inR (lowA l r l1 ws.sum) (highA l r l0 ws.sum) (lev r ps q)
theorem n_comp (box : D) (I : Inp ps ws) (a : Ax l r) {l0 l1 : Int} (h0 : 0 ≤ l0) (h1 : 0 ≤ l1) (w5 w6 w7 w8 w9 w15 : PL.Sl) :
    compE Φ [14, 17, 18, 20] tC cC (.var 14) ((Rs ws).map (bD ps ws l r)) [.ow box, .im (iT ps), .im (iT ws), .im (rL ws), .im (.int L), w5, w6, w7, w8, w9, .im (.int l), .im (.int r), .un, .im (bLst ps ws l r), .un, w15, .im (.tup [.int l0, .int l1]), .un, .un, .un, .un, .un] = some (((Rs ws).filter (pW ps ws l r l0 l1)).map PL.rowD, [.ow box, .im (iT ps), .im (iT ws), .im (rL ws), .im (.int L), w5, w6, w7, w8, w9, .im (.int l), .im (.int r), .un, .im (bLst ps ws l r), .un, w15, .im (.tup [.int l0, .int l1]), .un, .un, .un, .un, .un]) := by
  rw [filter_fm]
  refine compE_fm _ _ _ fun q hq => ?_
  have hS : q.sum = ws.sum := sum_perm' (mem_Rs.mp hq)
  have t := Two.of (I.perm (mem_Rs.mp hq)) a
  rw [hS] at t
  have hw := within_iff t h0 h1
  have x0 := pair0 l0 l1
  have x1 := pair1 l0 l1
  refine ⟨[.ow box, .im (iT ps), .im (iT ws), .im (rL ws), .im (.int L), w5, w6, w7, w8, w9, .im (.int l), .im (.int r), .un, .im (bLst ps ws l r), .im (PL.rowD q), w15, .im (.tup [.int l0, .int l1]), .im (.int (ceil0 (lev r ps q) (r - l))), .im (.int (ceil0 (ws.sum * (r - l) - lev r ps q) (r - l))), .un, .im (.bl (stB (lev r ps q) (ws.sum * (r - l) - lev r ps q) (r - l))), .un], rfl, ?_⟩
  have hc : blOf (ev Φ cC [.ow box, .im (iT ps), .im (iT ws), .im (rL ws), .im (.int L), w5, w6, w7, w8, w9, .im (.int l), .im (.int r), .un, .im (bLst ps ws l r), .im (PL.rowD q), w15, .im (.tup [.int l0, .int l1]), .im (.int (ceil0 (lev r ps q) (r - l))), .im (.int (ceil0 (ws.sum * (r - l) - lev r ps q) (r - l))), .un, .im (.bl (stB (lev r ps q) (ws.sum * (r - l) - lev r ps q) (r - l))), .un]) = some (pW ps ws l r l0 l1 q, [.ow box, .im (iT ps), .im (iT ws), .im (rL ws), .im (.int L), w5, w6, w7, w8, w9, .im (.int l), .im (.int r), .un, .im (bLst ps ws l r), .im (PL.rowD q), w15, .im (.tup [.int l0, .int l1]), .im (.int (ceil0 (lev r ps q) (r - l))), .im (.int (ceil0 (ws.sum * (r - l) - lev r ps q) (r - l))), .un, .im (.bl (stB (lev r ps q) (ws.sum * (r - l) - lev r ps q) (r - l))), .un]) := by
    have c1 : cmpF .le (.int (ceil0 (lev r ps q) (r - l))) (.int l0) = some (decide (ceil0 (lev r ps q) (r - l) ≤ l0)) := cmpF_le_int _ _
    have c2 : cmpF .le (.int (ceil0 (ws.sum * (r - l) - lev r ps q) (r - l))) (.int l1) = some (decide (ceil0 (ws.sum * (r - l) - lev r ps q) (r - l) ≤ l1)) := cmpF_le_int _ _
    have hw' : (stB (lev r ps q) (ws.sum * (r - l) - lev r ps q) (r - l) && (decide (ceil0 (lev r ps q) (r - l) ≤ l0) && decide (ceil0 (ws.sum * (r - l) - lev r ps q) (r - l) ≤ l1))) = pW ps ws l r l0 l1 q := hw
    rw [← hw']
    clear hw hw' t
    generalize stB (lev r ps q) (ws.sum * (r - l) - lev r ps q) (r - l) = sb
    generalize decide (ceil0 (lev r ps q) (r - l) ≤ l0) = b1 at c1 ⊢
    generalize decide (ceil0 (ws.sum * (r - l) - lev r ps q) (r - l) ≤ l1) = b2 at c2 ⊢
    generalize ceil0 (lev r ps q) (r - l) = k1 at c1 ⊢
    generalize ceil0 (ws.sum * (r - l) - lev r ps q) (r - l) = k2 at c2 ⊢
    generalize D.tup [.int l0, .int l1] = LI at x0 x1 ⊢
    generalize bLst ps ws l r = BL
    generalize rL ws = RL
    cases sb <;> cases b1 <;> simp [getS, ev_var_eq, x0, x1, c1, c2, -cmpF_le_int]
  cases hb : pW ps ws l r l0 l1 q with
  | true =>
    rw [hb] at hc
    exact .inl ⟨_, PL.rowD q, [.ow box, .im (iT ps), .im (iT ws), .im (rL ws), .im (.int L), w5, w6, w7, w8, w9, .im (.int l), .im (.int r), .un, .im (bLst ps ws l r), .im (PL.rowD q), w15, .im (.tup [.int l0, .int l1]), .im (.int (ceil0 (lev r ps q) (r - l))), .im (.int (ceil0 (ws.sum * (r - l) - lev r ps q) (r - l))), .un, .im (.bl (stB (lev r ps q) (ws.sum * (r - l) - lev r ps q) (r - l))), .un], hc, rfl, rfl, by rw [if_pos rfl]⟩
  | false =>
    rw [hb] at hc
    exact .inr ⟨_, hc, rfl, by rw [if_neg (by decide)]⟩
theorem n_1 (box : D) (I : Inp ps ws) (a : Ax l r) {l0 l1 : Int} (h0 : 0 ≤ l0) (h1 : 0 ≤ l1) (w5 w6 w7 w8 w9 w15 : PL.Sl) {s13 : PL.Sl} (hs : s13 = .ow (bLst ps ws l r) ∨ s13 = .im (bLst ps ws l r)) :
    evS Φ fuel bN1 [.ow box, .im (iT ps), .im (iT ws), .im (rL ws), .im (.int L), w5, w6, w7, w8, w9, .im (.int l), .im (.int r), .un, s13, .un, w15, .im (.tup [.int l0, .int l1]), .un, .un, .un, .un, .un] = some (.nx [.ow box, .im (iT ps), .im (iT ws), .im (rL ws), .im (.int L), w5, w6, w7, w8, w9, .im (.int l), .im (.int r), .un, .im (bLst ps ws l r), .un, w15, .im (.tup [.int l0, .int l1]), .un, .un, .ow (.lst (((Rs ws).filter (pW ps ws l r l0 l1)).map PL.rowD)), .un, .un]) := by
  have hc := n_comp (Φ := Φ) (L := L) box I a h0 h1 w5 w6 w7 w8 w9 w15
  have hsq : seqK false (bLst ps ws l r) = some ((Rs ws).map (bD ps ws l r)) := rfl
  generalize ((Rs ws).filter (pW ps ws l r l0 l1)).map PL.rowD = Y at hc ⊢
  generalize (Rs ws).map (bD ps ws l r) = Z at hc hsq
  generalize bLst ps ws l r = BL at hc hsq hs ⊢
  generalize rL ws = RL at hc ⊢
  rcases hs with rfl | rfl <;> simp [getS, ev_var_eq, hsq, noOwn_cons, hc]
theorem n_2 (box : D) (p : List Int → Bool) {l0 l1 : Int} (w5 w6 w7 w8 w9 w15 : PL.Sl) (w13 w16 : PL.Sl) :
    evS Φ fuel bN2 [.ow box, .im (iT ps), .im (iT ws), .im (rL ws), .im (.int L), w5, w6, w7, w8, w9, .im (.int l), .im (.int r), .un, w13, .un, w15, w16, .un, .un, .ow (.lst (((Rs ws).filter p).map PL.rowD)), .un, .un] = some (.nx [.ow box, .im (iT ps), .im (iT ws), .im (rL ws), .im (.int L), w5, w6, w7, w8, w9, .im (.int l), .im (.int r), .im (fnd ws p), w13, .un, w15, w16, .un, .un, .ow (.lst (((Rs ws).filter p).map PL.rowD)), .un, .un]) := by
  have hne := ne_nil_l (ok_rows ((Rs ws).filter p))
  have hf := head_find p (Rs ws)
  have l0 : 0 ≤ sizeLine := Nat.zero_le _
  have ef : fnd ws p = W.rowD ((Rs ws).filter p).head? := by rw [hf]
  rw [ef]
  generalize (Rs ws).filter p = F at hne ⊢
  generalize rL ws = RL
  cases F with
  | nil =>
    have hne' : cmpF .ne (.lst []) (.lst []) = some false := hne
    simp [getS, ev_var_eq, l0, hne', W.rowD]
  | cons r0 rs =>
    have hem : (!((r0 :: rs).map PL.rowD).isEmpty) = true := rfl
    rw [hem] at hne
    have hix : ixF (.lst ((r0 :: rs).map PL.rowD)) (.int 0) = some (PL.rowD r0) := (atI_nat (j := 0) rfl : atI _ ((0 : Nat) : Int) = _)
    have er : W.rowD (r0 :: rs).head? = PL.rowD r0 := rfl
    rw [er]
    generalize (r0 :: rs).map PL.rowD = Y at hne hix ⊢
    generalize PL.rowD r0 = R at hix ⊢
    simp [getS, ev_var_eq, l0, hne, hix]
theorem n_3 (T : TM Φ) (box : D) (I : Inp ps ws) (a : Ax l r) {l0 l1 : Int} (h0 : 0 ≤ l0) (h0' : l0 ≤ 1000) (h1 : 0 ≤ l1) (h1' : l1 ≤ 1000) (w5 w6 w7 w8 w9 w15 : PL.Sl) (w13 w19 : PL.Sl) :
    evS Φ fuel bN3 [.ow box, .im (iT ps), .im (iT ws), .im (rL ws), .im (.int L), w5, w6, w7, w8, w9, .im (.int l), .im (.int r), .im (fnd ws (pW ps ws l r l0 l1)), w13, .un, w15, .im (.tup [.int l0, .int l1]), .un, .un, w19, .un, .un] = some (.nx [.ow box, .im (iT ps), .im (iT ws), .im (rL ws), .im (.int L), w5, w6, w7, w8, w9, .im (.int l), .im (.int r), .im (fnd ws (pW ps ws l r l0 l1)), w13, .un, w15, .im (.tup [.int l0, .int l1]), .un, .un, w19, .un, .un]) := by
  have h5 := I.h5
  have hl := I.len
  have hv := within_val I a h0 h0' h1 h1'
  have hs := same_pair (E := [.ow box, .im (iT ps), .im (iT ws), .im (rL ws), .im (.int L), w5, w6, w7, w8, w9, .im (.int l), .im (.int r), .im (fnd ws (pW ps ws l r l0 l1)), w13, .un, w15, .im (.tup [.int l0, .int l1]), .un, .un, w19, .un, .un]) T.t2 (ev_c5 T.t12 hv (a := 10) (b := 11) (k := 1) (j := 2) (m := 16) rfl rfl rfl rfl rfl) (ev_p5 T.t11 hv (a := 10) (b := 11) (k := 1) (j := 2) (m := 16) rfl rfl rfl rfl rfl) (ev_im (i := 12) rfl) (ev_im (i := 12) rfl) (okL_fnd (by omega))
  rw [evS_ite', hs, Option.bind_some]
  rfl
theorem n_turn (T : TM Φ) (box : D) (I : Inp ps ws) (a : Ax l r) {l0 l1 : Int} (h0 : 0 ≤ l0) (h0' : l0 ≤ 1000) (h1 : 0 ≤ l1) (h1' : l1 ≤ 1000) (w5 w6 w7 w8 w9 w15 : PL.Sl) {s13 : PL.Sl} (hs : s13 = .ow (bLst ps ws l r) ∨ s13 = .im (bLst ps ws l r)) :
    evS Φ fuel bN [.ow box, .im (iT ps), .im (iT ws), .im (rL ws), .im (.int L), w5, w6, w7, w8, w9, .im (.int l), .im (.int r), .un, s13, .un, w15, .im (.tup [.int l0, .int l1]), .un, .un, .un, .un, .un] = some (.nx [.ow box, .im (iT ps), .im (iT ws), .im (rL ws), .im (.int L), w5, w6, w7, w8, w9, .im (.int l), .im (.int r), .un, .im (bLst ps ws l r), .un, w15, .un, .un, .un, .un, .un, .un]) := by
  rw [evS_seq', n_1 box I a h0 h1 w5 w6 w7 w8 w9 w15 hs, andThen_nx, evS_seq', n_2 (l0 := l0) (l1 := l1) box (pW ps ws l r l0 l1) w5 w6 w7 w8 w9 w15, andThen_nx, evS_seq', n_3 T box I a h0 h0' h1 h1' w5 w6 w7 w8 w9 w15, andThen_nx]
  rfl
def liD (p : Int × Int) : D := .tup [.int p.1, .int p.2]
theorem n_loop (T : TM Φ) (box : D) (I : Inp ps ws) (a : Ax l r) (w5 w6 w7 w8 w9 w15 : PL.Sl) : ∀ (ls : List (Int × Int)) (s13 : PL.Sl), (∀ p ∈ ls, (0 ≤ p.1 ∧ p.1 ≤ 1000) ∧ 0 ≤ p.2 ∧ p.2 ≤ 1000) → s13 = .ow (bLst ps ws l r) ∨ s13 = .im (bLst ps ws l r) →
    ∃ s13', forE Φ fuel (.nm 16) bN (ls.map liD) [.ow box, .im (iT ps), .im (iT ws), .im (rL ws), .im (.int L), w5, w6, w7, w8, w9, .im (.int l), .im (.int r), .un, s13, .un, w15, .un, .un, .un, .un, .un, .un] = some (.nx [.ow box, .im (iT ps), .im (iT ws), .im (rL ws), .im (.int L), w5, w6, w7, w8, w9, .im (.int l), .im (.int r), .un, s13', .un, w15, .un, .un, .un, .un, .un, .un])
  | [], s13, _, _ => ⟨s13, rfl⟩
  | p :: ls, s13, hp, hs => by
    obtain ⟨⟨a1, a2⟩, a3, a4⟩ := hp p List.mem_cons_self
    obtain ⟨s', e⟩ := n_loop T box I a w5 w6 w7 w8 w9 w15 ls (.im (bLst ps ws l r)) (fun z hz => hp z (List.mem_cons_of_mem _ hz)) (.inr rfl)
    have ea : asgT (.nm 16) (liD p) [.ow box, .im (iT ps), .im (iT ws), .im (rL ws), .im (.int L), w5, w6, w7, w8, w9, .im (.int l), .im (.int r), .un, s13, .un, w15, .un, .un, .un, .un, .un, .un] = some [.ow box, .im (iT ps), .im (iT ws), .im (rL ws), .im (.int L), w5, w6, w7, w8, w9, .im (.int l), .im (.int r), .un, s13, .un, w15, .im (.tup [.int p.1, .int p.2]), .un, .un, .un, .un, .un] := rfl
    exact ⟨s', by
      rw [List.map_cons, forE_cons, ea, Option.bind_some, n_turn T box I a a1 a2 a3 a4 w5 w6 w7 w8 w9 w15 hs]
      exact e⟩
end
end W
set_option maxHeartbeats 4000000
/-! _law_mirrored_right as a whole; law. -/
namespace W
open PySem PySem.Spec PyProof.Rows L2 PL
section
variable {Φ : Nat → FS} {fuel : Nat} {ps ws : List Int} {L l r : Int}
abbrev liE : ME := .lstD (.cons (.tupD (.cons (.bi .min (.cons (.lit (.int 1000)) (.cons (.sub (.var 15) (.lit (.int 1))) (.nil)))) (.cons (.bi .min (.cons (.lit (.int 1000)) (.cons (.sub (.var 15) (.lit (.int 2))) (.nil)))) (.nil)))) (.cons (.tupD (.cons (.lit (.int 1000)) (.cons (.lit (.int 1000)) (.nil)))) (.cons (.tupD (.cons (.callIO 5 0 (.cons (.lit (.int 120)) (.nil))) (.cons (.callIO 5 0 (.cons (.lit (.int 120)) (.nil))) (.nil)))) (.nil))))
abbrev q15 : MS := .seq (.kill [16, 19, 12]) (.forr (.nm 16) (.seq false liE) bN)
abbrev q16 : MS := .ret (.lit (.bl true))
theorem m_15 (T : TM Φ) {n : Nat} {box : D} (B : BxOk n box) (hn : n ≤ 20000) (I : Inp ps ws) (a : Ax l r) (w5 w6 w7 w8 w9 w12 : PL.Sl) (q : List Int) : ∃ box' s13, evS Φ fuel q15 [.ow box, .im (iT ps), .im (iT ws), .im (rL ws), .im (.int L), w5, w6, w7, w8, w9, .im (.int l), .im (.int r), w12, .ow (bLst ps ws l r), .un, .im (bD ps ws l r q), .un, .un, .un, .un, .un, .un] = some (.nx [.ow box', .im (iT ps), .im (iT ws), .im (rL ws), .im (.int L), w5, w6, w7, w8, w9, .im (.int l), .im (.int r), .un, s13, .un, .im (bD ps ws l r q), .un, .un, .un, .un, .un, .un]) ∧ BxOk (n + 2) box' := by
  obtain ⟨c, box1, e1, B1, c1, c2⟩ := take_ok B (by omega) (m := 120) (by omega) (by omega)
  obtain ⟨d, box2, e2, B2, d1, d2⟩ := take_ok B1 (by omega) (m := 120) (by omega) (by omega)
  rw [← T.t5] at e1 e2
  have i1 : (Φ 5).io = true := by rw [T.t5]; rfl
  have i2 : (Φ 5).ar = 2 := by rw [T.t5]; rfl
  have i3 : (Φ 5).fresh = false := by rw [T.t5]; rfl
  have l2 : 2 ≤ sizeLine := by decide
  have l3 : 3 ≤ sizeLine := by decide
  have x1 : ixF (bD ps ws l r q) (.int 1) = some (.int (ceil0 (lev r ps q) (r - l))) := (atI_nat (j := 1) rfl : atI _ ((1 : Nat) : Int) = _)
  have x2 : ixF (bD ps ws l r q) (.int 2) = some (.int (ceil0 (ws.sum * (r - l) - lev r ps q) (r - l))) := (atI_nat (j := 2) rfl : atI _ ((2 : Nat) : Int) = _)
  obtain ⟨k1, hk1⟩ : ∃ k, (if ceil0 (lev r ps q) (r - l) < 1000 then ceil0 (lev r ps q) (r - l) else 1000) = k := ⟨_, rfl⟩
  obtain ⟨k2, hk2⟩ : ∃ k, (if ceil0 (ws.sum * (r - l) - lev r ps q) (r - l) < 1000 then ceil0 (ws.sum * (r - l) - lev r ps q) (r - l) else 1000) = k := ⟨_, rfl⟩
  have n1 := ceil0_nonneg (lev r ps q) (r - l)
  have n2 := ceil0_nonneg (ws.sum * (r - l) - lev r ps q) (r - l)
  have b1 : 0 ≤ k1 ∧ k1 ≤ 1000 := by rw [← hk1]; split <;> omega
  have b2 : 0 ≤ k2 ∧ k2 ≤ 1000 := by rw [← hk2]; split <;> omega
  have m1 : biF .min [.int 1000, .int (ceil0 (lev r ps q) (r - l))] = some (.int k1, false) := by rw [← hk1]; exact bi_min2 _ _
  have m2 : biF .min [.int 1000, .int (ceil0 (ws.sum * (r - l) - lev r ps q) (r - l))] = some (.int k2, false) := by rw [← hk2]; exact bi_min2 _ _
  obtain ⟨s13, lp⟩ := n_loop (fuel := fuel) (L := L) T box2 I a w5 w6 w7 w8 w9 (.im (bD ps ws l r q)) [(k1, k2), (1000, 1000), (c, d)] (.ow (bLst ps ws l r)) (fun p hp => by
    rcases List.mem_cons.mp hp with rfl | hp
    · exact ⟨b1, b2⟩
    rcases List.mem_cons.mp hp with rfl | hp
    · exact ⟨⟨by show (0 : Int) ≤ 1000; omega, by show (1000 : Int) ≤ 1000; omega⟩, by show (0 : Int) ≤ 1000; omega, by show (1000 : Int) ≤ 1000; omega⟩
    · rw [List.mem_singleton.mp hp]
      exact ⟨⟨c1, by show c ≤ 1000; omega⟩, d1, by show d ≤ 1000; omega⟩) (.inl rfl)
  refine ⟨box2, s13, ?_, B2⟩
  have hi : evI Φ (.seq false liE) [.ow box, .im (iT ps), .im (iT ws), .im (rL ws), .im (.int L), w5, w6, w7, w8, w9, .im (.int l), .im (.int r), .un, .ow (bLst ps ws l r), .un, .im (bD ps ws l r q), .un, .un, .un, .un, .un, .un] = some ([.tup [.int k1, .int k2], .tup [.int 1000, .int 1000], .tup [.int c, .int d]], [.ow box2, .im (iT ps), .im (iT ws), .im (rL ws), .im (.int L), w5, w6, w7, w8, w9, .im (.int l), .im (.int r), .un, .ow (bLst ps ws l r), .un, .im (bD ps ws l r q), .un, .un, .un, .un, .un, .un]) := by
    generalize ceil0 (lev r ps q) (r - l) = z1 at x1 m1
    generalize ceil0 (ws.sum * (r - l) - lev r ps q) (r - l) = z2 at x2 m2
    generalize bD ps ws l r q = BQ at x1 x2 ⊢
    generalize bLst ps ws l r = BL
    generalize rL ws = RL
    simp [getS, ev_var_eq, x1, x2, m1, m2, e1, e2, i1, i2, i3, owD, slotSet, l2, l3, seqK, -bi_min2]
  rw [evS_seq']
  show andThen (some (.nx [.ow box, .im (iT ps), .im (iT ws), .im (rL ws), .im (.int L), w5, w6, w7, w8, w9, .im (.int l), .im (.int r), .un, .ow (bLst ps ws l r), .un, .im (bD ps ws l r q), .un, .un, .un, .un, .un, .un])) _ = _
  rw [andThen_nx, evS_forr', hi, Option.bind_some]
  exact lp
abbrev mM : MS := .seq q1 (.seq q2 (.seq q3 (.seq q4 (.seq q5 (.seq q6 (.seq q7 (.seq q8 (.seq q9 (.seq q10 (.seq q11 (.seq q12 (.seq q13 (.seq q14 (.seq q15 q16))))))))))))))
theorem mM_eq : m__law_mirrored_right = mM := rfl
theorem mir_run (T : TM Φ) {n : Nat} {box : D} (B : BxOk n box) (hn : n ≤ 10000) (I : Inp ps ws) (hL : isL ps ws L) : ∃ box', (evS Φ fuel m__law_mirrored_right [.ow box, .im (iT ps), .im (iT ws), .im (rL ws), .im (.int L), .un, .un, .un, .un, .un, .un, .un, .un, .un, .un, .un, .un, .un, .un, .un, .un, .un]).bind endIO = some (.bl true, box') ∧ BxOk (n + 10) box' := by
  obtain ⟨l, box1, e6, B1, l1, l2⟩ := m_6 (fuel := fuel) T B (by omega) ps ws L (tdD ps ws L)
  obtain ⟨r, box2, e7, B2, a⟩ := m_7 (fuel := fuel) T B1 (by omega) ps ws L (tdD ps ws L) l1 l2
  obtain ⟨q, box3, hq, e14, B3⟩ := m_14 (fuel := fuel) (L := L) (l := l) (r := r) T.t5 B2 (by omega) I (.im (.int (ps.length : Int))) (.im (iT (back ps))) (.im (iT ws.reverse)) (.im (tdD ps ws L)) (.im (.int (dot ps ws))) (.im (axT (lev r ps ws) ws.sum (r - l)))
  obtain ⟨box4, s13, e15, B4⟩ := m_15 (fuel := fuel) (L := L) T B3 (by omega) I a (.im (.int (ps.length : Int))) (.im (iT (back ps))) (.im (iT ws.reverse)) (.im (tdD ps ws L)) (.im (.int (dot ps ws))) (.im (axT (lev r ps ws) ws.sum (r - l))) q
  refine ⟨box4, ?_, B4.mono (by omega)⟩
  rw [mM_eq]
  unfold mM
  rw [evS_seq', m_1 box ps ws L, andThen_nx, evS_seq', m_2 box ps ws L, andThen_nx, evS_seq', m_3 T box I hL, andThen_nx, evS_seq', m_4 T box ps ws L, andThen_nx, evS_seq', m_5 T box I (tdD ps ws L), andThen_nx, evS_seq', e6, andThen_nx, evS_seq', e7, andThen_nx,
    evS_seq', m_8 T box2 I a (tdD ps ws L), andThen_nx, evS_seq', m_9 T box2 I a (tdD ps ws L), andThen_nx, evS_seq', m_10 T box2 I a (tdD ps ws L), andThen_nx, evS_seq', m_11 T box2 I a (tdD ps ws L), andThen_nx, evS_seq', m_12 box2, andThen_nx, evS_seq', m_13 T.t6 box2 I a, andThen_nx,
    evS_seq', e14, andThen_nx, evS_seq', e15, andThen_nx]
  rfl
end
noncomputable abbrev LM : Nat → FS := tbl [fsR 2 (u_least_moment u_least_sum), fsR 2 u_law_moment, fsR 2 (u_same 4), fsR 2 u_moment, fsR 2 u_moment, tkF, fsR 4 u_law_axles, fsR 4 u_axle_loads, fsR 4 u_axle_loads, fsR 2 u_law_add, fsR 2 u_law_mul, fsR 5 u_within_axles, fsR 5 u_within_axles]
theorem tm_of : TM LM := ⟨rfl, rfl, rfl, rfl, rfl, rfl, rfl, rfl, rfl, rfl, rfl, rfl, rfl⟩
noncomputable abbrev miF : FS := fsOf LM (fun _ => 0) m__law_mirrored_right 22 5 true false
theorem mir_ok : MirOk miF := ⟨rfl, rfl, rfl, fun {n box ps ws L} B hn I hL => by
  obtain ⟨box', e, B'⟩ := mir_run (fuel := 0) tm_of B hn I hL
  refine ⟨box', ?_, B'⟩
  rw [fs_run, runF_io]
  exact e⟩
/-! ### law -/
noncomputable abbrev LL : Nat → FS := tbl [bxF, fsR 2 u_law_cell, riF miF]
abbrev bLaw : MS := .seq (.set 2 (.call 0 (.cons (.call 1 (.cons (.var 0) (.cons (.var 1) (.nil)))) (.nil)))) (.seq (.ite (.or (.not (.callIO 2 2 (.cons (.cmp .eq (.var 1) (.lit (.int 0))) (.nil)))) (.not (.callIO 2 2 (.cons (.lit (.bl false)) (.nil))))) (.ret (.lit (.bl false))) (.skip)) (.seq (.kill [1, 2]) .skip))
theorem law_turn (ns : List Int) {k : Nat} (hk : k ≤ 2) : evS LL 0 bLaw [.im (.scr ns), .im (.int (k : Int)), .un] = some (.nx [.im (.scr ns), .un, .un]) := by
  obtain ⟨c, hc⟩ : ∃ c, u_law_cell [.scr ns, .int (k : Int)] = some (.int c) := by
    refine ⟨if h : (k : Int).toNat < ns.length then ns[(k : Int).toNat] else 6007 * (k : Int) + (ns.take 1).sum % 1000033, ?_⟩
    exact if_pos (show 0 ≤ (k : Int) ∧ (k : Int) ≤ 1000 by omega)
  obtain ⟨box, d1, hb, B⟩ := box_ok c
  obtain ⟨box1, e1, B1⟩ := right_ok mir_ok B (by omega) (decide ((k : Int) = 0))
  obtain ⟨box2, e2, B2⟩ := right_ok mir_ok B1 (by omega) false
  have hr1 : (LL 1).run [.scr ns, .int (k : Int)] = some (.int c, .non) := run_of (f := LL 1) rfl hc
  have c1 : Cl3 (LL 1) 2 := cl3 (f := LL 1) rfl
  have hr0 : (LL 0).run [.int c] = some (box, d1) := hb
  have a0 : (LL 0).io = false ∧ (LL 0).ar = 1 ∧ (LL 0).fresh = true := ⟨rfl, rfl, rfl⟩
  have hr2 : (LL 2).run [box, .bl (decide ((k : Int) = 0))] = some (.bl true, box1) := e1
  have hr3 : (LL 2).run [box1, .bl false] = some (.bl true, box2) := e2
  have a2 : (LL 2).io = true ∧ (LL 2).ar = 2 ∧ (LL 2).fresh = false := ⟨rfl, rfl, rfl⟩
  have hq : cmpF .eq (.int (k : Int)) (.int 0) = some (decide ((k : Int) = 0)) := cmpF_eq_int _ _
  generalize decide ((k : Int) = 0) = kb at hr2 hq
  generalize (k : Int) = kk at hr1 hq ⊢
  obtain ⟨p1, p2, p3⟩ := a0
  obtain ⟨s1, s2, s3⟩ := a2
  have z1 := c1.io
  have z2 := c1.ar
  have z3 := c1.fr
  clear e1 e2 hb
  generalize LL = Φ at *
  simp [getS, ev_var_eq, hr1, z1, z2, z3, hr0, p1, p2, p3, hq, hr2, hr3, s1, s2, s3, owD, slotSet, -cmpF_eq_int]
theorem law_run (ns : List Int) : runF LL (fun _ => 0) m_law 3 false false [.scr ns] = some (.bl true, .non) := by
  have hrg : rngG 3 [.im (.scr ns), .un, .un] = some ([.int 0, .int 1, .int 2], [.im (.scr ns), .un, .un]) := rngG_nat (n := 3) (by omega)
  have t0 := law_turn ns (k := 0) (by omega)
  have t1 := law_turn ns (k := 1) (by omega)
  have t2 := law_turn ns (k := 2) (by omega)
  have lp : forE LL 0 (.nm 1) bLaw [.int 0, .int 1, .int 2] [.im (.scr ns), .un, .un] = some (.nx [.im (.scr ns), .un, .un]) := by
    have a : ∀ k : Int, asgT (.nm 1) (.int k) [.im (.scr ns), .un, .un] = some [.im (.scr ns), .im (.int k), .un] := fun _ => rfl
    rw [forE_cons, a, Option.bind_some]
    show (evS LL 0 bLaw [.im (.scr ns), .im (.int ((0 : Nat) : Int)), .un]).bind _ = _
    rw [t0, Option.bind_some]
    show forE LL 0 (.nm 1) bLaw [.int 1, .int 2] [.im (.scr ns), .un, .un] = _
    rw [forE_cons, a, Option.bind_some]
    show (evS LL 0 bLaw [.im (.scr ns), .im (.int ((1 : Nat) : Int)), .un]).bind _ = _
    rw [t1, Option.bind_some]
    show forE LL 0 (.nm 1) bLaw [.int 2] [.im (.scr ns), .un, .un] = _
    rw [forE_cons, a, Option.bind_some]
    show (evS LL 0 bLaw [.im (.scr ns), .im (.int ((2 : Nat) : Int)), .un]).bind _ = _
    rw [t2, Option.bind_some]
    rfl
  have hE : env0 3 [D.scr ns] = [.im (.scr ns), .un, .un] := rfl
  rw [runF_pure, hE]
  show (andThen (andThen (evS LL 0 (.kill [1, 2]) [.im (.scr ns), .un, .un]) (evS LL 0 (.forr (.nm 1) (.rng1 (.lit (.int 3))) bLaw))) (evS LL 0 (.ret (.lit (.bl true))))).bind (endF false) = _
  have hk : evS LL 0 (.kill [1, 2]) [.im (.scr ns), .un, .un] = some (.nx [.im (.scr ns), .un, .un]) := rfl
  have hi : evI LL (.rng1 (.lit (.int 3))) [.im (.scr ns), .un, .un] = some ([.int 0, .int 1, .int 2], [.im (.scr ns), .un, .un]) := by
    rw [evI_rng1, ev_lit, fw_fz, Option.bind_some]
    exact hrg
  rw [hk, andThen_nx, evS_forr', hi, Option.bind_some]
  show (andThen (forE LL 0 (.nm 1) bLaw [.int 0, .int 1, .int 2] [.im (.scr ns), .un, .un]) _).bind (endF false) = _
  rw [lp, andThen_nx]
  rfl
end W
set_option maxHeartbeats 4000000
/-! All defs, and the statement. -/
namespace W
open PySem PySem.Spec PyProof.Rows L2 PL
section
variable {P : Program} {w : World} {K : PySem.W.Frag} {mg : Str → Option Value} {base h : Heap}
structure Zz (K : PySem.W.Frag) (h : Heap) (mg : Str → Option Value) : Prop where
  X : K.In h
  G : h.Ns mainGlobals mg
  c : He.SaysD Hd.fa Hd.fn K
  g : Hd.gF K = true
theorem mg_all (z : Zz K h mg) : Mg mg where
  b_abs := He.free_ok z.X z.G (z.c.fact 68 (f := .free "abs") rfl)
  b_all := He.free_ok z.X z.G (z.c.fact 63 (f := .free "all") rfl)
  b_any := He.free_ok z.X z.G (z.c.fact 62 (f := .free "any") rfl)
  b_bool := He.free_ok z.X z.G (z.c.fact 53 (f := .free "bool") rfl)
  b_dict := He.free_ok z.X z.G (z.c.fact 57 (f := .free "dict") rfl)
  b_enumerate := He.free_ok z.X z.G (z.c.fact 66 (f := .free "enumerate") rfl)
  b_int := He.free_ok z.X z.G (z.c.fact 52 (f := .free "int") rfl)
  b_isinstance := He.free_ok z.X z.G (z.c.fact 51 (f := .free "isinstance") rfl)
  b_len := He.free_ok z.X z.G (z.c.fact 50 (f := .free "len") rfl)
  b_list := He.free_ok z.X z.G (z.c.fact 56 (f := .free "list") rfl)
  b_max := He.free_ok z.X z.G (z.c.fact 61 (f := .free "max") rfl)
  b_min := He.free_ok z.X z.G (z.c.fact 60 (f := .free "min") rfl)
  b_range := He.free_ok z.X z.G (z.c.fact 65 (f := .free "range") rfl)
  b_set := He.free_ok z.X z.G (z.c.fact 58 (f := .free "set") rfl)
  b_sorted := He.free_ok z.X z.G (z.c.fact 64 (f := .free "sorted") rfl)
  b_str := He.free_ok z.X z.G (z.c.fact 54 (f := .free "str") rfl)
  b_sum := He.free_ok z.X z.G (z.c.fact 59 (f := .free "sum") rfl)
  b_tuple := He.free_ok z.X z.G (z.c.fact 55 (f := .free "tuple") rfl)
  b_zip := He.free_ok z.X z.G (z.c.fact 67 (f := .free "zip") rfl)
  c_MOST_PLACES := He.int_ok z.X z.G (z.c.fact 45 (f := .int "MOST_PLACES" 8) rfl)
  c_MOST_POSITION := He.int_ok z.X z.G (z.c.fact 46 (f := .int "MOST_POSITION" 20) rfl)
  c_MOST_LOAD := He.int_ok z.X z.G (z.c.fact 47 (f := .int "MOST_LOAD" 100) rfl)
  c_MOST_LIMIT := He.int_ok z.X z.G (z.c.fact 48 (f := .int "MOST_LIMIT" 1000) rfl)
  c_MOST_SLACK := He.int_ok z.X z.G (z.c.fact 49 (f := .int "MOST_SLACK" 20000) rfl)
  g_gcd := PySem.W.mg_of z.X z.G (He.eqO_ok z.g)
theorem o_is_integer (z : Zz K h mg) : FnG P w K mg base "is_integer" ["value"] (fsR 1 u_is_integer) 1 := by
  obtain ⟨fd, F⟩ := z.c.def_ 0 (d := Hd.d_is_integer) rfl
  exact (g_is_integer F (He.glo_ok z.X z.G (z.c.fact 0 (f := .glo "is_integer") rfl)) (ok_is_integer (mg_all z) F )).imp rfl rfl rfl (imp_of r_is_integer)
theorem o_is_tuple_of (z : Zz K h mg) : FnG P w K mg base "is_tuple_of" ["value", "many"] (fsR 2 u_is_tuple_of) 1 := by
  obtain ⟨fd, F⟩ := z.c.def_ 2 (d := Hd.d_is_tuple_of) rfl
  exact (g_is_tuple_of F (He.glo_ok z.X z.G (z.c.fact 2 (f := .glo "is_tuple_of") rfl)) (ok_is_tuple_of (mg_all z) F )).imp rfl rfl rfl (imp_of r_is_tuple_of)
theorem o_is_rising (z : Zz K h mg) : FnG P w K mg base "is_rising" ["items"] (fsR 1 u_is_rising) 1 := by
  obtain ⟨fd, F⟩ := z.c.def_ 5 (d := Hd.d_is_rising) rfl
  exact (g_is_rising F (He.glo_ok z.X z.G (z.c.fact 5 (f := .glo "is_rising") rfl)) (ok_is_rising (mg_all z) F )).imp rfl rfl rfl (imp_of r_is_rising)
theorem o_lowest (z : Zz K h mg) : FnG P w K mg base "lowest" ["numerator", "denominator"] (fsR 2 u_lowest) 1 := by
  obtain ⟨fd, F⟩ := z.c.def_ 6 (d := Hd.d_lowest) rfl
  exact (g_lowest F (He.glo_ok z.X z.G (z.c.fact 6 (f := .glo "lowest") rfl)) (ok_lowest (mg_all z) F )).imp rfl rfl rfl (imp_of r_lowest)
theorem o_whole (z : Zz K h mg) : FnG P w K mg base "whole" ["number"] (fsR 1 u_whole) 1 := by
  obtain ⟨fd, F⟩ := z.c.def_ 7 (d := Hd.d_whole) rfl
  exact (g_whole F (He.glo_ok z.X z.G (z.c.fact 7 (f := .glo "whole") rfl)) (ok_whole (mg_all z) F )).imp rfl rfl rfl (imp_of r_whole)
theorem o_product_sum (z : Zz K h mg) : FnG P w K mg base "product_sum" ["factors", "loads"] (fsR 2 u_product_sum) 1 := by
  obtain ⟨fd, F⟩ := z.c.def_ 14 (d := Hd.d_product_sum) rfl
  exact (g_product_sum F (He.glo_ok z.X z.G (z.c.fact 14 (f := .glo "product_sum") rfl)) (ok_product_sum (mg_all z) F )).imp rfl rfl rfl (imp_of r_product_sum)
theorem o_tail_sums (z : Zz K h mg) : FnG P w K mg base "tail_sums" ["factors", "weights", "start"] (fsR 3 u_tail_sums) 1 := by
  obtain ⟨fd, F⟩ := z.c.def_ 16 (d := Hd.d_tail_sums) rfl
  exact (g_tail_sums F (He.glo_ok z.X z.G (z.c.fact 16 (f := .glo "tail_sums") rfl)) (ok_tail_sums (mg_all z) F )).imp rfl rfl rfl (imp_of r_tail_sums)
theorem o_is_next (z : Zz K h mg) : FnG P w K mg base "is_next" ["weights", "mask", "item"] (fsR 3 u_is_next) 1 := by
  obtain ⟨fd, F⟩ := z.c.def_ 17 (d := Hd.d_is_next) rfl
  exact (g_is_next F (He.glo_ok z.X z.G (z.c.fact 17 (f := .glo "is_next") rfl)) (ok_is_next (mg_all z) F )).imp rfl rfl rfl (imp_of r_is_next)
theorem o_mask_sum (z : Zz K h mg) : FnG P w K mg base "mask_sum" ["parts", "mask"] (fsR 2 u_mask_sum) 1 := by
  obtain ⟨fd, F⟩ := z.c.def_ 26 (d := Hd.d_mask_sum) rfl
  exact (g_mask_sum F (He.glo_ok z.X z.G (z.c.fact 26 (f := .glo "mask_sum") rfl)) (ok_mask_sum (mg_all z) F )).imp rfl rfl rfl (imp_of r_mask_sum)
theorem o__law_cell (z : Zz K h mg) : FnG P w K mg base "_law_cell" ["script", "k"] (fsR 2 u_law_cell) 1 := by
  obtain ⟨fd, F⟩ := z.c.def_ 28 (d := Hd.d__law_cell) rfl
  exact (g__law_cell F (He.glo_ok z.X z.G (z.c.fact 28 (f := .glo "_law_cell") rfl)) (ok__law_cell (mg_all z) F )).imp rfl rfl rfl (imp_of r_law_cell)
theorem o__law_box (z : Zz K h mg) : FnG P w K mg base "_law_box" ["great"] bxF 1 := by
  obtain ⟨fd, F⟩ := z.c.def_ 29 (d := Hd.d__law_box) rfl
  exact g__law_box F (He.glo_ok z.X z.G (z.c.fact 29 (f := .glo "_law_box") rfl)) (ok__law_box (fuel := fun _ => 0) (mg_all z) F )
theorem o__law_take (z : Zz K h mg) : FnG P w K mg base "_law_take" ["box", "many"] tkF 1 := by
  obtain ⟨fd, F⟩ := z.c.def_ 30 (d := Hd.d__law_take) rfl
  exact g__law_take F (He.glo_ok z.X z.G (z.c.fact 30 (f := .glo "_law_take") rfl)) (ok__law_take (fuel := fun _ => 0) (mg_all z) F )
theorem o__law_gcd (z : Zz K h mg) : FnG P w K mg base "_law_gcd" ["a", "b"] (fsR 2 u_law_gcd) 1 := by
  obtain ⟨fd, F⟩ := z.c.def_ 33 (d := Hd.d__law_gcd) rfl
  exact (g__law_gcd F (He.glo_ok z.X z.G (z.c.fact 33 (f := .glo "_law_gcd") rfl)) (ok__law_gcd (mg_all z) F )).imp rfl rfl rfl (imp_of r_law_gcd)
theorem o__law_orders (z : Zz K h mg) : FnG P w K mg base "_law_orders" ["many"] (fsR 1 u_law_orders) 1 := by
  obtain ⟨fd, F⟩ := z.c.def_ 38 (d := Hd.d__law_orders) rfl
  exact (g__law_orders F (He.glo_ok z.X z.G (z.c.fact 38 (f := .glo "_law_orders") rfl)) (ok__law_orders (mg_all z) F )).imp rfl rfl rfl (imp_of r_law_orders)
theorem o__law_moment (z : Zz K h mg) : FnG P w K mg base "_law_moment" ["positions", "loads"] (fsR 2 u_law_moment) 1 := by
  obtain ⟨fd, F⟩ := z.c.def_ 39 (d := Hd.d__law_moment) rfl
  exact (g__law_moment F (He.glo_ok z.X z.G (z.c.fact 39 (f := .glo "_law_moment") rfl)) (ok__law_moment (mg_all z) F )).imp rfl rfl rfl (imp_of r_law_moment)
theorem o__law_loading (z : Zz K h mg) : FnG P w K mg base "_law_loading" ["positions", "loads", "slack"] (fsR 3 u_law_loading) 1 := by
  obtain ⟨fd, F⟩ := z.c.def_ 41 (d := Hd.d__law_loading) rfl
  exact (g__law_loading F (He.glo_ok z.X z.G (z.c.fact 41 (f := .glo "_law_loading") rfl)) (ok__law_loading (mg_all z) F )).imp rfl rfl rfl (imp_of r_law_loading)
theorem o_is_between (z : Zz K h mg) : FnG P w K mg base "is_between" ["value", "least", "most"] (fsR 3 u_is_between) 2 := by
  obtain ⟨fd, F⟩ := z.c.def_ 1 (d := Hd.d_is_between) rfl
  exact (g_is_between F (He.glo_ok z.X z.G (z.c.fact 1 (f := .glo "is_between") rfl)) (ok_is_between (mg_all z) F (o_is_integer z))).imp rfl rfl rfl (imp_of r_is_between)
theorem o_subtract (z : Zz K h mg) : FnG P w K mg base "subtract" ["one", "other"] (fsR 2 u_subtract) 2 := by
  obtain ⟨fd, F⟩ := z.c.def_ 8 (d := Hd.d_subtract) rfl
  exact (g_subtract F (He.glo_ok z.X z.G (z.c.fact 8 (f := .glo "subtract") rfl)) (ok_subtract (mg_all z) F (o_lowest z))).imp rfl rfl rfl (imp_of r_subtract)
theorem o_head_rows (z : Zz K h mg) : FnG P w K mg base "head_rows" ["factors", "weights", "many"] (fsR 3 u_head_rows) 2 := by
  obtain ⟨fd, F⟩ := z.c.def_ 18 (d := Hd.d_head_rows) rfl
  exact (g_head_rows F (He.glo_ok z.X z.G (z.c.fact 18 (f := .glo "head_rows") rfl)) (ok_head_rows (mg_all z) F (o_is_next z))).imp rfl rfl rfl (imp_of r_head_rows)
theorem o__law_mixed (z : Zz K h mg) : FnG P w K mg base "_law_mixed" ["box", "many"] mxF 2 := by
  obtain ⟨fd, F⟩ := z.c.def_ 32 (d := Hd.d__law_mixed) rfl
  exact g__law_mixed F (He.glo_ok z.X z.G (z.c.fact 32 (f := .glo "_law_mixed") rfl)) (ok__law_mixed (fuel := fun _ => mxN) (mg_all z) F (o__law_take z))
theorem o__law_low (z : Zz K h mg) : FnG P w K mg base "_law_low" ["top", "bottom"] (fsR 2 u_law_low) 2 := by
  obtain ⟨fd, F⟩ := z.c.def_ 34 (d := Hd.d__law_low) rfl
  exact (g__law_low F (He.glo_ok z.X z.G (z.c.fact 34 (f := .glo "_law_low") rfl)) (ok__law_low (mg_all z) F (o__law_gcd z))).imp rfl rfl rfl (imp_of r_law_low)
theorem o_is_row (z : Zz K h mg) : FnG P w K mg base "is_row" ["value", "many", "least", "most"] (fsR 4 u_is_row) 3 := by
  obtain ⟨fd, F⟩ := z.c.def_ 3 (d := Hd.d_is_row) rfl
  exact (g_is_row F (He.glo_ok z.X z.G (z.c.fact 3 (f := .glo "is_row") rfl)) (ok_is_row (mg_all z) F (o_is_tuple_of z) (o_is_between z))).imp rfl rfl rfl (imp_of r_is_row)
theorem o_check_number (z : Zz K h mg) : FnG P w K mg base "check_number" ["number", "least", "most"] (fsR 3 u_check_number) 3 := by
  obtain ⟨fd, F⟩ := z.c.def_ 9 (d := Hd.d_check_number) rfl
  exact (g_check_number F (He.glo_ok z.X z.G (z.c.fact 9 (f := .glo "check_number") rfl)) (ok_check_number (mg_all z) F (o_is_between z))).imp rfl rfl rfl (imp_of r_check_number)
theorem o_first_row (z : Zz K h mg) : FnG P w K mg base "first_row" ["factors", "weights", "low", "high"] (fsR 4 u_first_row) 3 := by
  obtain ⟨fd, F⟩ := z.c.def_ 19 (d := Hd.d_first_row) rfl
  exact (g_first_row F (He.glo_ok z.X z.G (z.c.fact 19 (f := .glo "first_row") rfl)) (ok_first_row (mg_all z) F (o_tail_sums z) (o_head_rows z))).imp rfl rfl rfl (imp_of r_first_row)
theorem o_least_sum (z : Zz K h mg) : FnG P w K mg base "least_sum" ["factors", "weights"] (fsR 2 u_least_sum) 3 := by
  obtain ⟨fd, F⟩ := z.c.def_ 20 (d := Hd.d_least_sum) rfl
  exact (g_least_sum F (He.glo_ok z.X z.G (z.c.fact 20 (f := .glo "least_sum") rfl)) (ok_least_sum (mg_all z) F (o_tail_sums z) (o_head_rows z))).imp rfl rfl rfl (imp_of r_least_sum)
theorem o__law_add (z : Zz K h mg) : FnG P w K mg base "_law_add" ["one", "other"] (fsR 2 u_law_add) 3 := by
  obtain ⟨fd, F⟩ := z.c.def_ 35 (d := Hd.d__law_add) rfl
  exact (g__law_add F (He.glo_ok z.X z.G (z.c.fact 35 (f := .glo "_law_add") rfl)) (ok__law_add (mg_all z) F (o__law_low z))).imp rfl rfl rfl (imp_of r_law_add)
theorem o__law_mul (z : Zz K h mg) : FnG P w K mg base "_law_mul" ["one", "other"] (fsR 2 u_law_mul) 3 := by
  obtain ⟨fd, F⟩ := z.c.def_ 36 (d := Hd.d__law_mul) rfl
  exact (g__law_mul F (He.glo_ok z.X z.G (z.c.fact 36 (f := .glo "_law_mul") rfl)) (ok__law_mul (mg_all z) F (o__law_low z))).imp rfl rfl rfl (imp_of r_law_mul)
theorem o__law_axles (z : Zz K h mg) : FnG P w K mg base "_law_axles" ["left", "right", "positions", "loads"] (fsR 4 u_law_axles) 3 := by
  obtain ⟨fd, F⟩ := z.c.def_ 40 (d := Hd.d__law_axles) rfl
  exact (g__law_axles F (He.glo_ok z.X z.G (z.c.fact 40 (f := .glo "_law_axles") rfl)) (ok__law_axles (mg_all z) F (o__law_low z))).imp rfl rfl rfl (imp_of r_law_axles)
theorem o_are_numbers (z : Zz K h mg) : FnG P w K mg base "are_numbers" ["value", "fewest", "most_many", "least", "most"] (fsR 5 u_are_numbers) 4 := by
  obtain ⟨fd, F⟩ := z.c.def_ 4 (d := Hd.d_are_numbers) rfl
  exact (g_are_numbers F (He.glo_ok z.X z.G (z.c.fact 4 (f := .glo "are_numbers") rfl)) (ok_are_numbers (mg_all z) F (o_is_row z))).imp rfl rfl rfl (imp_of r_are_numbers)
theorem o_check_loads (z : Zz K h mg) : FnG P w K mg base "check_loads" ["positions", "loads"] (fsR 2 u_check_loads) 4 := by
  obtain ⟨fd, F⟩ := z.c.def_ 11 (d := Hd.d_check_loads) rfl
  exact (g_check_loads F (He.glo_ok z.X z.G (z.c.fact 11 (f := .glo "check_loads") rfl)) (ok_check_loads (mg_all z) F (o_is_row z))).imp rfl rfl rfl (imp_of r_check_loads)
theorem o_check_weights (z : Zz K h mg) : FnG P w K mg base "check_weights" ["positions", "weights"] (fsR 2 u_check_loads) 4 := by
  obtain ⟨fd, F⟩ := z.c.def_ 12 (d := Hd.d_check_weights) rfl
  exact (g_check_weights F (He.glo_ok z.X z.G (z.c.fact 12 (f := .glo "check_weights") rfl)) (ok_check_weights (mg_all z) F (o_is_row z))).imp rfl rfl rfl (imp_of r_check_weights)
theorem o_check_slack (z : Zz K h mg) : FnG P w K mg base "check_slack" ["slack"] (fsR 1 u_check_slack) 4 := by
  obtain ⟨fd, F⟩ := z.c.def_ 13 (d := Hd.d_check_slack) rfl
  exact (g_check_slack F (He.glo_ok z.X z.G (z.c.fact 13 (f := .glo "check_slack") rfl)) (ok_check_slack (mg_all z) F (o_check_number z))).imp rfl rfl rfl (imp_of r_check_slack)
theorem o_check_axles (z : Zz K h mg) : FnG P w K mg base "check_axles" ["left", "right"] (fsR 2 u_check_axles) 4 := by
  obtain ⟨fd, F⟩ := z.c.def_ 23 (d := Hd.d_check_axles) rfl
  exact (g_check_axles F (He.glo_ok z.X z.G (z.c.fact 23 (f := .glo "check_axles") rfl)) (ok_check_axles (mg_all z) F (o_check_number z) (o_is_between z))).imp rfl rfl rfl (imp_of r_check_axles)
theorem o_check_positions (z : Zz K h mg) : FnG P w K mg base "check_positions" ["positions"] (fsR 1 u_check_positions) 5 := by
  obtain ⟨fd, F⟩ := z.c.def_ 10 (d := Hd.d_check_positions) rfl
  exact (g_check_positions F (He.glo_ok z.X z.G (z.c.fact 10 (f := .glo "check_positions") rfl)) (ok_check_positions (mg_all z) F (o_are_numbers z) (o_is_rising z))).imp rfl rfl rfl (imp_of r_check_positions)
theorem o__law_same (z : Zz K h mg) : FnG P w K mg base "_law_same" ["told", "due"] (fsR 2 (u_same 4)) 5 := by
  obtain ⟨fd, F⟩ := z.c.def_ 31 (d := Hd.d__law_same) rfl
  exact same_all (mg_all z) F (He.glo_ok z.X z.G (z.c.fact 31 (f := .glo "_law_same") rfl)) 5
theorem o_moment (z : Zz K h mg) : FnG P w K mg base "moment" ["positions", "loads"] (fsR 2 u_moment) 6 := by
  obtain ⟨fd, F⟩ := z.c.def_ 15 (d := Hd.d_moment) rfl
  exact (g_moment F (He.glo_ok z.X z.G (z.c.fact 15 (f := .glo "moment") rfl)) (ok_moment (mg_all z) F (o_check_positions z) (o_check_loads z) (o_product_sum z))).imp rfl rfl rfl (imp_of r_moment)
theorem k_moment (z : Zz K h mg) : FnGK P w K mg base "moment" ["positions", "loads"] (fsR 2 u_moment) 6 ["loads", "positions"] [1, 0] := by
  obtain ⟨fd, F⟩ := z.c.def_ 15 (d := Hd.d_moment) rfl
  exact gk_moment F (He.glo_ok z.X z.G (z.c.fact 15 (f := .glo "moment") rfl)) ((ok_moment (mg_all z) F (o_check_positions z) (o_check_loads z) (o_product_sum z)).imp (spFS_imp rfl rfl rfl (imp_of r_moment)))
theorem o_balanced (z : Zz K h mg) : FnG P w K mg base "balanced" ["positions", "weights", "slack"] (fsR 3 u_balanced) 6 := by
  obtain ⟨fd, F⟩ := z.c.def_ 21 (d := Hd.d_balanced) rfl
  exact (g_balanced F (He.glo_ok z.X z.G (z.c.fact 21 (f := .glo "balanced") rfl)) (ok_balanced (mg_all z) F (o_check_positions z) (o_check_weights z) (o_check_slack z) (o_first_row z))).imp rfl rfl rfl (imp_of r_balanced)
theorem k_balanced (z : Zz K h mg) : FnGK P w K mg base "balanced" ["positions", "weights", "slack"] (fsR 3 u_balanced) 6 ["slack", "weights", "positions"] [2, 1, 0] := by
  obtain ⟨fd, F⟩ := z.c.def_ 21 (d := Hd.d_balanced) rfl
  exact gk_balanced F (He.glo_ok z.X z.G (z.c.fact 21 (f := .glo "balanced") rfl)) ((ok_balanced (mg_all z) F (o_check_positions z) (o_check_weights z) (o_check_slack z) (o_first_row z)).imp (spFS_imp rfl rfl rfl (imp_of r_balanced)))
theorem o_least_moment (z : Zz K h mg) : FnG P w K mg base "least_moment" ["positions", "weights"] (fsR 2 (u_least_moment u_least_sum)) 6 := by
  obtain ⟨fd, F⟩ := z.c.def_ 22 (d := Hd.d_least_moment) rfl
  exact (g_least_moment F (He.glo_ok z.X z.G (z.c.fact 22 (f := .glo "least_moment") rfl)) (ok_least_moment (mg_all z) F (o_check_positions z) (o_check_weights z) (o_least_sum z) (o_first_row z))).imp rfl rfl rfl (imp_of (r_least_moment u_least_sum))
theorem k_least_moment (z : Zz K h mg) : FnGK P w K mg base "least_moment" ["positions", "weights"] (fsR 2 (u_least_moment u_least_sum)) 6 ["weights", "positions"] [1, 0] := by
  obtain ⟨fd, F⟩ := z.c.def_ 22 (d := Hd.d_least_moment) rfl
  exact gk_least_moment F (He.glo_ok z.X z.G (z.c.fact 22 (f := .glo "least_moment") rfl)) ((ok_least_moment (mg_all z) F (o_check_positions z) (o_check_weights z) (o_least_sum z) (o_first_row z)).imp (spFS_imp rfl rfl rfl (imp_of (r_least_moment u_least_sum))))
theorem o_axle_loads (z : Zz K h mg) : FnG P w K mg base "axle_loads" ["left", "right", "positions", "loads"] (fsR 4 u_axle_loads) 6 := by
  obtain ⟨fd, F⟩ := z.c.def_ 24 (d := Hd.d_axle_loads) rfl
  exact (g_axle_loads F (He.glo_ok z.X z.G (z.c.fact 24 (f := .glo "axle_loads") rfl)) (ok_axle_loads (mg_all z) F (o_check_axles z) (o_check_positions z) (o_check_loads z) (o_lowest z) (o_product_sum z) (o_subtract z) (o_whole z))).imp rfl rfl rfl (imp_of r_axle_loads)
theorem k_axle_loads (z : Zz K h mg) : FnGK P w K mg base "axle_loads" ["left", "right", "positions", "loads"] (fsR 4 u_axle_loads) 6 ["loads", "positions", "right", "left"] [3, 2, 1, 0] := by
  obtain ⟨fd, F⟩ := z.c.def_ 24 (d := Hd.d_axle_loads) rfl
  exact gk_axle_loads F (He.glo_ok z.X z.G (z.c.fact 24 (f := .glo "axle_loads") rfl)) ((ok_axle_loads (mg_all z) F (o_check_axles z) (o_check_positions z) (o_check_loads z) (o_lowest z) (o_product_sum z) (o_subtract z) (o_whole z)).imp (spFS_imp rfl rfl rfl (imp_of r_axle_loads)))
theorem o_within_axles (z : Zz K h mg) : FnG P w K mg base "within_axles" ["left", "right", "positions", "weights", "limits"] (fsR 5 u_within_axles) 6 := by
  obtain ⟨fd, F⟩ := z.c.def_ 25 (d := Hd.d_within_axles) rfl
  exact (g_within_axles F (He.glo_ok z.X z.G (z.c.fact 25 (f := .glo "within_axles") rfl)) (ok_within_axles (mg_all z) F (o_check_axles z) (o_check_positions z) (o_check_weights z) (o_is_row z) (o_first_row z))).imp rfl rfl rfl (imp_of r_within_axles)
theorem k_within_axles (z : Zz K h mg) : FnGK P w K mg base "within_axles" ["left", "right", "positions", "weights", "limits"] (fsR 5 u_within_axles) 6 ["limits", "weights", "positions", "right", "left"] [4, 3, 2, 1, 0] := by
  obtain ⟨fd, F⟩ := z.c.def_ 25 (d := Hd.d_within_axles) rfl
  exact gk_within_axles F (He.glo_ok z.X z.G (z.c.fact 25 (f := .glo "within_axles") rfl)) ((ok_within_axles (mg_all z) F (o_check_axles z) (o_check_positions z) (o_check_weights z) (o_is_row z) (o_first_row z)).imp (spFS_imp rfl rfl rfl (imp_of r_within_axles)))
theorem o_loading_order (z : Zz K h mg) : FnG P w K mg base "loading_order" ["positions", "loads", "slack"] (fsR 3 u_loading_order) 6 := by
  obtain ⟨fd, F⟩ := z.c.def_ 27 (d := Hd.d_loading_order) rfl
  exact (g_loading_order F (He.glo_ok z.X z.G (z.c.fact 27 (f := .glo "loading_order") rfl)) (ok_loading_order (mg_all z) F (o_check_positions z) (o_check_loads z) (o_check_slack z) (o_mask_sum z))).imp rfl rfl rfl (imp_of r_loading_order)
theorem k_loading_order (z : Zz K h mg) : FnGK P w K mg base "loading_order" ["positions", "loads", "slack"] (fsR 3 u_loading_order) 6 ["slack", "loads", "positions"] [2, 1, 0] := by
  obtain ⟨fd, F⟩ := z.c.def_ 27 (d := Hd.d_loading_order) rfl
  exact gk_loading_order F (He.glo_ok z.X z.G (z.c.fact 27 (f := .glo "loading_order") rfl)) ((ok_loading_order (mg_all z) F (o_check_positions z) (o_check_loads z) (o_check_slack z) (o_mask_sum z)).imp (spFS_imp rfl rfl rfl (imp_of r_loading_order)))
theorem o__law_mirrored_right (z : Zz K h mg) : FnG P w K mg base "_law_mirrored_right" ["box", "positions", "weights", "rows", "least"] miF 7 := by
  obtain ⟨fd, F⟩ := z.c.def_ 43 (d := Hd.d__law_mirrored_right) rfl
  exact g__law_mirrored_right F (He.glo_ok z.X z.G (z.c.fact 43 (f := .glo "_law_mirrored_right") rfl)) (ok__law_mirrored_right (fuel := fun _ => 0) (mg_all z) F (o_least_moment z) (o__law_moment z) (o__law_same z) (k_moment z) (o_moment z) (o__law_take z) (o__law_axles z) (k_axle_loads z) (o_axle_loads z) (o__law_add z) (o__law_mul z) (k_within_axles z) (o_within_axles z))
theorem o__law_right (z : Zz K h mg) : FnG P w K mg base "_law_right" ["box", "great"] (riF miF) 8 := by
  obtain ⟨fd, F⟩ := z.c.def_ 42 (d := Hd.d__law_right) rfl
  exact g__law_right F (He.glo_ok z.X z.G (z.c.fact 42 (f := .glo "_law_right") rfl)) (ok__law_right (fuel := fun _ => 0) (mg_all z) F (o__law_take z) (o__law_mixed z) (o__law_orders z) (o__law_moment z) (o__law_same z) (k_least_moment z) (o_least_moment z) (k_balanced z) (o_balanced z) (o__law_loading z) (k_loading_order z) (o_loading_order z) (o__law_mirrored_right z))
noncomputable abbrev lawF : FS := fsOf LL (fun _ => 0) m_law 3 1 false false
theorem ok_law_all (z : Zz K h mg) {f : Addr} (hf : mg "law" = some (.ref f)) : ∃ fd : FuncData, (∀ (s : Shared) (v : Value), BindsTo s fd ⟨[v], []⟩ [("script", v)]) ∧ ∀ base : Heap, FnOk P w K mg base CX0 9 f fd ["script"] (spFS K lawF) := by
  obtain ⟨fd, F⟩ := z.c.def_ 44 (d := Hd.d_law) rfl
  have e := hf.symm.trans (He.glo_ok z.X z.G (z.c.fact 44 (f := .glo "law") rfl))
  cases e
  have b := FunD.bindsA (ps := ["script"]) F fun _ _ _ _ _ _ us hl => match us, hl with | [_], _ => rfl
  exact ⟨fd, fun s v => b s [v] rfl, fun base => ok_law (fuel := fun _ => 0) (mg_all z) F (o__law_box z) (o__law_cell z) (o__law_right z)⟩
theorem sp_law (H : Hp) (a : Addr) (ns : List Int) (hS : SqL K H a (ns.map V.int)) : spFS K lawF [.ref a] H (fun v _ => v = .bl true) fun _ _ _ => False := by
  refine ⟨rfl, .inl ⟨rfl, H, [.scr ns], .bl true, .non, Same.refl H, .cons (.scr hS) .nil, law_run ns, fun v G' H' _ _ _ r => ?_⟩⟩
  have r : Rep K G' v (.bl true) := r
  cases r
  rfl
end
end W
open PySem PySem.W PySem.Calls PyProof.Rows
set_option maxHeartbeats 0 in
theorem PySem.Challenge.cw_packbench_k92_whole_balanced_orders_holds : PySem.Challenge.rw_packbench_k92_whole_balanced_orders.Holds := by
  w_on; o_law
  refine HandSHeadRun.head_imp (r := OpenLaw.row PySem.Challenge.rw_packbench_k92_whole_balanced_orders) (q := view (OpenLaw.row PySem.Challenge.rw_packbench_k92_whole_balanced_orders).prog [0, 63]) (H := Hd.hk) (ob := Hd.ob) (M := 20000) (loose := Hd.loose) (d := HandSHeadRun.topDef (OpenLaw.row PySem.Challenge.rw_packbench_k92_whole_balanced_orders).prog 63) (kwd := []) Hd.ob_eq Hd.run
    (by kernel_rfl) (by kernel_rfl) (by kernel_rfl) (by rfl) (by first | assumption | decide +kernel) (by decide +kernel) ⟨rfl, rfl, rfl, rfl, rfl, by decide +kernel⟩ ?hw ?hc
  case hw => w_witness2
  case hc =>
    refine L2.walk_ofE (l := PySem.Challenge.rw_packbench_k92_whole_balanced_orders) (n := 63) (k := 9) (x := "script") (CX := L2.CX0) rfl (by decide) (by kernel_rfl) ⟨rfl, by decide, by decide⟩ ?F (fun _ _ _ _ z => z)
    intro w mg fa h Y G hmg0
    obtain ⟨K, KX, c, cg⟩ := Y
    have hmg : mg ("law" : PySem.Str) = some (.ref fa) := by
      have e : (HandSHeadRun.topDef (OpenLaw.row PySem.Challenge.rw_packbench_k92_whole_balanced_orders).prog 63).name = ("law" : PySem.Str) := by kernel_rfl
      rw [← e]
      exact hmg0
    obtain ⟨fd, hb, hF⟩ := W.ok_law_all (P := (PySem.Challenge.rw_packbench_k92_whole_balanced_orders).prog) (w := w) ⟨KX, G, c, cg⟩ hmg
    exact ⟨K, fd, PL.spFS K W.lawF, KX, hb, fun H a ns hl _ hS => W.sp_law H a ns hS, fun base _ _ => hF base⟩
